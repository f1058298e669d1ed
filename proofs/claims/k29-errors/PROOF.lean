import PyProof.Rows.All
import Wide.All
import OpenK.AllK
import Wide.FinOn
import HandS.TupAny
import HandS.Conv
import HandS.TupMul
import HandS.ForMost
import HandS.Exc
import HandS.ExcOwn
import HandS.ExcCtx
import KE.DataCmp
import HandS.Deep
import PyProof.StrOps2
import HandS.Style
import HandS.Flow
import HandS.Zip
import HandS.IsInst
import HandS.More
import HandS.TupLen
import HandS.WordsDict
import PyProof.FactsAll.bool_1
import HandS.Defaults
import HandS.HeadEnd
import HandS.HeadHook2
import HandS.ExcInit
import KE.KExcSuper
import HandS.Head0
import HandS.Head1
import HandS.Head2
import HandS.TryOnly
import HandS.ExcIs
import PyProof.ReprReads
import HandS.TupLe
import PyProof.EnumMake
import PyProof.Draws
import KE.GoesMore
import HandS.SortInts
import HandS.SetFor
import KE.KDictPairs
import KE.KDictKeyed
import KE.KSortKey
import KE.KSortTup
import HandS.SortOrd
import HandS.SortKw
import HandS.ExcValue
import HandS.ExcField
import HandS.Finally
import HandS.Iter
import HandS.HotCalls
import PyProof.ReprText
import PyProof.Rows.ReprOcc
import PyProof.ReprRoads
import PySem.Challenge.RW_trothbase_k29_errors
set_option Elab.async false
set_option linter.all false
set_option maxRecDepth 100000
set_option maxHeartbeats 0
/-! ### strong tuples: laid frozen, their object known to have no dict, but for those that kl calls key-like -/
namespace ZTS
open PySem PySem.Spec PyProof.Rows L2
def LaidT (kl : List V → Bool) (H : Hp) (p : Addr) (xs : List V) (H' : Hp) : Prop := if kl xs = true then H' = upd H p (.tup xs) else ∃ o : Obj, o.dict = none ∧ H' = upd H p (.frz o (.tup xs))
section
variable {X : Cx} {pins : List (Addr × Obj)} {σ : L2.St} {H : Hp} {s : Shared} {kl : List V → Bool}
theorem laid_inv (kl : List V → Bool) (I : Inv X pins σ H s) {g : Heap} {tk : Nat} {p : Addr} {xs : List V} {its : List Value} {n : Nat} (k : ∀ b o, s.heap.get? b = some o → g.get? b = some o) (hp : s.heap.objs.size ≤ p)
    (e : g.get? p = some { cls := .type "tuple", data := .seq its.toArray n }) (r : Vals xs its) (z : xs.length ≤ sizeLine) : ∃ H', LaidT kl H p xs H' ∧ Inv X pins σ H' { s with heap := g, toks := tk } := by
  unfold LaidT
  cases c : kl xs with
  | true => exact ⟨upd H p (.tup xs), by simp, I.laid (o := .tup xs) k hp ⟨z, its, r, ⟨_, e, rfl, _, rfl⟩⟩⟩
  | false =>
    refine ⟨upd H p (.frz { cls := .type "tuple", data := .seq its.toArray n } (.tup xs)), ?_, I.laid (o := .frz { cls := .type "tuple", data := .seq its.toArray n } (.tup xs)) k hp ⟨e, z, its, r, ⟨_, e, rfl, _, rfl⟩⟩⟩
    simp
    exact ⟨_, rfl, rfl⟩
/-- a display -/
def tTupS (kl : List V → Bool) (t : TA) : TE := fun σ H Q => t σ H fun xs H1 => xs.length ≤ sizeLine ∧ ∀ p H', H1 p = none → LaidT kl H1 p xs H' → Q (.ref p) H'
theorem pe_tupS {es : List Expr} {t : TA} {x1 : Nat} {pos : Pos} (h : PA X es t) : PE X (.Tuple es x1 pos) (tTupS kl t) := by
  refine ⟨fun pins s σ H Q I hq => wpAny_Tuple_spliced (thn (h.run pos pins s σ H _ I hq) fun us s1 ⟨xs, H1, I1, r, z, q⟩ => ⟨by rw [← r.length]; exact z, ?_⟩)⟩
  obtain ⟨H', l, J⟩ := laid_inv (tk := s1.toks) (p := s1.heap.objs.size) kl I1 (fun b u e => Heap.get?_push_of_some _ e) (Nat.le_refl _) (Heap.get?_push_size _ rfl) r z
  exact ⟨.ref s1.heap.objs.size, H', J, rfl, q _ H' (I1.hok.fresh (Nat.le_refl _)) l⟩
/-- t + u -/
def rCatS (kl : List V → Bool) (K : PySem.W.Frag) : R2 := fun x y H Q => ∃ a b xs ys, x = .ref a ∧ y = .ref b ∧ SqT K H a xs ∧ SqT K H b ys ∧ xs.length + ys.length ≤ sizeLine ∧
  (xs = [] → Q (.ref b) H) ∧ (xs ≠ [] → ys = [] → Q (.ref a) H) ∧ (xs ≠ [] → ys ≠ [] → ∀ p H', H p = none → LaidT kl H p (xs ++ ys) H' → Q (.ref p) H')
theorem op_catS : OpR X (binaryOp .Add) (rCatS kl X.K) := by
  intro pins s σ H x y v u Q I rx ry h
  obtain ⟨a, b, xs, ys, rfl, rfl, ha, hb, hz, q0, q1, q2⟩ := h
  cases rx; cases ry
  obtain ⟨its, r1, p1, _⟩ := I.tuple ha
  obtain ⟨jts, r2, p2, _⟩ := I.tuple hb
  by_cases hx : xs = []
  · subst hx
    cases r1
    exact cat_tup0 p1 p2 ⟨.ref b, H, I, rfl, q0 rfl⟩
  · refine HT.cat_tup p1 p2 (fun z => hx (r1.nil_iff.mp z)) (fun z => ⟨.ref a, H, I, rfl, q1 hx (r2.nil_iff.mp z)⟩) (fun z => ?_) (by rw [← r1.length, ← r2.length]; exact hz)
    obtain ⟨H', l, J⟩ := laid_inv (tk := s.toks) (p := s.heap.objs.size) kl I (fun b ob q => Heap.get?_push_of_some _ q) (Nat.le_refl _) (Heap.get?_push_size _ rfl) (r1.append r2) (by rw [List.length_append]; exact hz)
    exact ⟨.ref s.heap.objs.size, H', J, rfl, q2 hx (fun w => z (r2.nil_iff.mpr w)) _ H' (I.hok.fresh (Nat.le_refl _)) l⟩
/-- t[lo:hi] -/
def rSlS (kl : List V → Bool) (K : PySem.W.Frag) : V → Option Int → Option Int → Hp → VK → Prop := fun x lo hi H Q => ∃ a xs, x = .ref a ∧ SqT K H a xs ∧
  (HT.sIx xs.length 0 lo = 0 ∧ HT.sIx xs.length xs.length hi = xs.length → Q (.ref a) H) ∧ (¬ (HT.sIx xs.length 0 lo = 0 ∧ HT.sIx xs.length xs.length hi = xs.length) → ∀ p H', H p = none → LaidT kl H p (cutV xs lo hi) H' → Q (.ref p) H')
theorem sl_tupS : SlR X (rSlS kl X.K) := by
  intro pins s σ H x v vl vu lo hi sl Q I rx hs pl pu h
  obtain ⟨a, xs, rfl, hx, q1, q2⟩ := h
  cases rx
  obtain ⟨its, r, ht, hz⟩ := I.tuple hx
  have hn : its.toArray.size = xs.length := by rw [List.size_toArray]; exact r.length.symm
  refine ⟨"tuple", _, PyProof.Rows.slot_tuple_getitem.lookup, ht.typeIs, ?_⟩
  by_cases hw : HT.sIx xs.length 0 lo = 0 ∧ HT.sIx xs.length xs.length hi = xs.length
  · exact getItem_tuple_whole ht hs pl pu (by rw [hn]; exact hw) ⟨.ref a, H, I, rfl, q1 hw⟩
  · refine HT.getItem_tuple_cut ht hs pl pu (by rw [hn]; exact hw) ?_ (by rw [hn]; exact hz)
    rw [hn]
    obtain ⟨H', l, J⟩ := laid_inv (tk := s.toks) (p := s.heap.objs.size) kl I (fun b ob q => Heap.get?_push_of_some _ q) (Nat.le_refl _) (Heap.get?_push_size _ rfl) ((r.drop (HT.sIx xs.length 0 lo)).take (HT.sIx xs.length xs.length hi - HT.sIx xs.length 0 lo)) (Nat.le_trans (cutV_length xs lo hi) hz)
    exact ⟨.ref s.heap.objs.size, H', J, rfl, q2 hw _ H' (I.hok.fresh (Nat.le_refl _)) l⟩
/-- tuple(x) -/
theorem call_tupleS : CallR X (.type "tuple") (fun xs H Q => ∃ p ys, xs = [.ref p] ∧ ((SqL X.K H p ys ∧ ∀ l H', H l = none → LaidT kl H l ys H' → Q (.ref l) H') ∨ (SqT X.K H p ys ∧ Q (.ref p) H))) := by
  intro pins s σ H xs us Q I r h
  obtain ⟨p, ys, rfl, h⟩ := h
  obtain ⟨u, rfl, rx⟩ := vals1 r
  cases rx
  rcases h with ⟨hq, q⟩ | ⟨hq, q⟩
  · obtain ⟨its, rv, pl, hz⟩ := I.list hq
    have hn := rv.length
    refine call_tuple_list pl.isList (fun g kp => ?_) (by simp only [List.size_toArray] <;> omega)
    have I1 : Inv X pins σ H { s with heap := g } := I.kept (t' := s.toks) kp
    obtain ⟨H', l, J⟩ := laid_inv (tk := s.toks) (p := g.objs.size) kl I1 (fun b o e => Heap.get?_push_of_some _ e) (Nat.le_refl _) (Heap.get?_push_size _ rfl) rv hz
    exact ⟨.ref g.objs.size, H', J, rfl, q _ H' (I1.hok.fresh (Nat.le_refl _)) l⟩
  · obtain ⟨its, rv, pl, hz⟩ := I.tuple hq
    exact call_tuple_same pl ⟨.ref p, H, I, rfl, q⟩
end
end ZTS

namespace ZL
open PySem PySem.Spec PyProof.Rows L2
/-- which tuples may be keys of a dict (laid weak): of n parts, all texts or not. Chosen per law: this one for trees -/
def keyN (n : Nat) (_texts : Bool) : Bool := decide (1 ≤ n) && decide (n ≤ 4)
/-- a part that may stand in a key -/
def leafK : V → Bool
  | .int _ => true
  | .str _ => true
  | _ => false
def textK : V → Bool
  | .str _ => true
  | _ => false
def keyV (vs : List V) : Bool := vs.all leafK && keyN vs.length (vs.all textK)
end ZL

namespace ZL
open PySem PySem.Spec PyProof.Rows L2

/-- values: tuples by value, the script's list by value, other objects by their own number -/
inductive Z where
  | non | bl (b : Bool) | int (i : Int) | str (x : Str) | tup (zs : List Z) | scr (ns : List Int) | ref (n : Nat) | err (a : Addr)
deriving Inhabited

/-- an object -/
inductive ZO where
  | lst (zs : List Z)
  | dict (kvs : List (Z × Z))
  | dictL (kvs : List (Z × Z))
  | ins (c : Str) (fs : List (Str × Z))
  | exd (dd : Addr) (fs : List (Str × Z))
deriving Inhabited
abbrev ZH := List ZO
abbrev Env := List (Option Z)
/-- an exception: its class, its fields -/
structure XZ where
  cls : Str
  fs : List (Str × Z)

/-- a list of the module's own -/
def KSq (K : PySem.W.Frag) (a : Addr) (xs : List V) : Prop :=
  ∃ (o : Obj) (its : Array Value) (n : Nat), K.lookup a = some o ∧ o.cls = .type "list" ∧ o.dict = none ∧ o.data = .seq its n ∧ its.size ≤ sizeLine ∧ Vals xs its.toList

def sq2 (u : HO) : Prop := (∃ xs, u = .lst xs) ∨ ∃ xs, u = .tup xs
/-- a tuple, tracked: key-like ones weak, all others frozen, their object known to have no dict -/
def TupA (K : PySem.W.Frag) (H : Hp) (a : Addr) (xs : List V) : Prop := (keyV xs = true ∧ H a = some (.tup xs)) ∨ (keyV xs = false ∧ ∃ o : Obj, o.dict = none ∧ H a = some (.frz o (.tup xs)))
theorem TupA.sq {K : PySem.W.Frag} {H : Hp} {a : Addr} {xs : List V} (h : TupA K H a xs) : SqT K H a xs := by
  rcases h with ⟨_, h⟩ | ⟨_, o, _, h⟩
  · exact .inl (.inl h)
  · exact .inl (.inr ⟨o, h⟩)

theorem TupA.rd {K : PySem.W.Frag} {H : Hp} {a : Addr} {xs : List V} (h : TupA K H a xs) : Rd H a (.tup xs) := by
  rcases h with ⟨_, h⟩ | ⟨_, o, _, h⟩
  · exact .inl h
  · exact .inr ⟨o, h⟩

/-! ### what a value, an object stands for -/
mutual
def RepV (K : PySem.W.Frag) (μ : List Addr) (H : Hp) : Z → V → Prop
  | .non, v => v = .non
  | .bl b, v => v = .bl b
  | .int i, v => v = .int i
  | .str x, v => v = .str x
  | .tup zs, v => ∃ a vs, v = .ref a ∧ TupA K H a vs ∧ RepVs K μ H zs vs
  | .scr ns, v => ∃ a, v = .ref a ∧ ((∃ o, H a = some (.frz o (.lst (ns.map V.int)))) ∨ KSq K a (ns.map V.int))
  | .ref n, v => ∃ a, v = .ref a ∧ μ[n]? = some a
  | .err a, v => v = .ref a
def RepVs (K : PySem.W.Frag) (μ : List Addr) (H : Hp) : List Z → List V → Prop
  | [], vs => vs = []
  | z :: zs, vs => ∃ v r, vs = v :: r ∧ RepV K μ H z v ∧ RepVs K μ H zs r
end

/-- a dict -/
def dct (u : HO) : Prop := (∃ l, u = .dK l) ∨ ∃ l, u = .dT l
/-- later states: more objects, the tuples and the script stay -/
structure Ext0 (μ : List Addr) (H : Hp) (μ' : List Addr) (H' : Hp) : Prop where
  pre : ∃ more, μ' = μ ++ more
  tup : ∀ a xs, H a = some (.tup xs) → H' a = some (.tup xs)
  frz : ∀ a o u, sq2 u → H a = some (.frz o u) → H' a = some (.frz o u)
/-- .. and so does what is not ours -/
structure Ext (μ : List Addr) (H : Hp) (μ' : List Addr) (H' : Hp) : Prop where
  lo : Ext0 μ H μ' H'
  off : ∀ a o, H a = some o → a ∉ μ → H' a = some o ∧ a ∉ μ'
  lck : ∀ a o u, dct u → H a = some (.frz o u) → H' a = some (.frz o u)
theorem Ext.pre {μ μ' : List Addr} {H H' : Hp} (e : Ext μ H μ' H') : ∃ more, μ' = μ ++ more := e.lo.pre
theorem Ext.tup {μ μ' : List Addr} {H H' : Hp} (e : Ext μ H μ' H') : ∀ a xs, H a = some (.tup xs) → H' a = some (.tup xs) := e.lo.tup
theorem Ext.frz {μ μ' : List Addr} {H H' : Hp} (e : Ext μ H μ' H') : ∀ a o u, sq2 u → H a = some (.frz o u) → H' a = some (.frz o u) := e.lo.frz
theorem Ext.refl (μ : List Addr) (H : Hp) : Ext μ H μ H := ⟨⟨⟨[], by simp⟩, fun _ _ h => h, fun _ _ _ _ h => h⟩, fun _ _ h n => ⟨h, n⟩, fun _ _ _ _ h => h⟩
theorem Ext0.trans {μ μ' μ'' : List Addr} {H H' H'' : Hp} (a : Ext0 μ H μ' H') (b : Ext0 μ' H' μ'' H'') : Ext0 μ H μ'' H'' := by
  obtain ⟨m1, e1⟩ := a.pre
  obtain ⟨m2, e2⟩ := b.pre
  exact ⟨⟨m1 ++ m2, by rw [e2, e1, List.append_assoc]⟩, fun _ _ h => b.tup _ _ (a.tup _ _ h), fun _ _ _ c h => b.frz _ _ _ c (a.frz _ _ _ c h)⟩
theorem Ext.trans {μ μ' μ'' : List Addr} {H H' H'' : Hp} (a : Ext μ H μ' H') (b : Ext μ' H' μ'' H'') : Ext μ H μ'' H'' :=
  ⟨a.lo.trans b.lo, fun x o h n => let ⟨h1, n1⟩ := a.off x o h n; b.off x o h1 n1, fun x o u c h => b.lck x o u c (a.lck x o u c h)⟩
theorem Ext0.get {μ μ' : List Addr} {H H' : Hp} (e : Ext0 μ H μ' H') {n : Nat} {a : Addr} (h : μ[n]? = some a) : μ'[n]? = some a := by
  obtain ⟨m, rfl⟩ := e.pre
  rw [List.getElem?_append_left (List.getElem?_eq_some_iff.mp h).1]
  exact h
theorem Ext.get {μ μ' : List Addr} {H H' : Hp} (e : Ext μ H μ' H') {n : Nat} {a : Addr} (h : μ[n]? = some a) : μ'[n]? = some a := e.lo.get h
theorem Ext.tupA {K : PySem.W.Frag} {μ μ' : List Addr} {H H' : Hp} (e : Ext μ H μ' H') {a : Addr} {xs : List V} (h : TupA K H a xs) : TupA K H' a xs := by
  rcases h with ⟨c, h⟩ | ⟨c, o, d, h⟩
  · exact .inl ⟨c, e.tup _ _ h⟩
  · exact .inr ⟨c, o, d, e.frz _ _ _ (.inr ⟨_, rfl⟩) h⟩
section
variable {K : PySem.W.Frag} {μ μ' : List Addr} {H H' : Hp}
theorem TupA.mono0 {a : Addr} {xs : List V} (h : TupA K H a xs) (e : Ext0 μ H μ' H') : TupA K H' a xs := by
  rcases h with ⟨c, h⟩ | ⟨c, o, d, h⟩
  · exact .inl ⟨c, e.tup _ _ h⟩
  · exact .inr ⟨c, o, d, e.frz _ _ _ (.inr ⟨_, rfl⟩) h⟩
mutual
theorem RepV.mono0 (e : Ext0 μ H μ' H') : ∀ {z : Z} {v : V}, RepV K μ H z v → RepV K μ' H' z v
  | .non, _, h => h
  | .bl _, _, h => h
  | .int _, _, h => h
  | .str _, _, h => h
  | .tup zs, v, h => by
    unfold RepV at h ⊢
    obtain ⟨a, vs, e1, t, r⟩ := h
    exact ⟨a, vs, e1, t.mono0 e, RepVs.mono0 e r⟩
  | .scr ns, v, h => by
    unfold RepV at h ⊢
    obtain ⟨a, e1, h | h⟩ := h
    · obtain ⟨o, h⟩ := h
      exact ⟨a, e1, .inl ⟨o, e.frz _ _ _ (.inl ⟨_, rfl⟩) h⟩⟩
    · exact ⟨a, e1, .inr h⟩
  | .ref n, v, h => by
    unfold RepV at h ⊢
    obtain ⟨a, e1, h⟩ := h
    exact ⟨a, e1, e.get h⟩
  | .err _, _, h => h
theorem RepVs.mono0 (e : Ext0 μ H μ' H') : ∀ {zs : List Z} {vs : List V}, RepVs K μ H zs vs → RepVs K μ' H' zs vs
  | [], _, h => h
  | z :: zs, vs, h => by
    unfold RepVs at h ⊢
    obtain ⟨v, r, e1, hv, hr⟩ := h
    exact ⟨v, r, e1, RepV.mono0 e hv, RepVs.mono0 e hr⟩
end
theorem RepV.mono (e : Ext μ H μ' H') {z : Z} {v : V} (h : RepV K μ H z v) : RepV K μ' H' z v := RepV.mono0 e.lo h
theorem RepVs.mono (e : Ext μ H μ' H') {zs : List Z} {vs : List V} (h : RepVs K μ H zs vs) : RepVs K μ' H' zs vs := RepVs.mono0 e.lo h
theorem RepVs.nil : RepVs K μ H [] [] := by unfold RepVs; rfl
theorem RepVs.cons {z : Z} {zs : List Z} {v : V} {vs : List V} (h : RepV K μ H z v) (r : RepVs K μ H zs vs) : RepVs K μ H (z :: zs) (v :: vs) := by
  unfold RepVs
  exact ⟨_, _, rfl, h, r⟩
theorem RepVs.length : ∀ {zs : List Z} {vs : List V}, RepVs K μ H zs vs → zs.length = vs.length
  | [], vs, h => by unfold RepVs at h; rw [h] <;> rfl
  | z :: zs, vs, h => by
    unfold RepVs at h
    obtain ⟨v, r, rfl, _, hr⟩ := h
    simp [RepVs.length hr]
theorem RepVs.get : ∀ {zs : List Z} {vs : List V}, RepVs K μ H zs vs → ∀ {i : Nat} {z : Z}, zs[i]? = some z → ∃ v, vs[i]? = some v ∧ RepV K μ H z v
  | [], _, _, i, z, e => by simp at e
  | z :: zs, vs, h, 0, z', e => by
    unfold RepVs at h
    obtain ⟨v, r, rfl, hv, hr⟩ := h
    simp at e; subst e
    exact ⟨v, rfl, hv⟩
  | z :: zs, vs, h, i + 1, z', e => by
    unfold RepVs at h
    obtain ⟨v, r, rfl, hv, hr⟩ := h
    obtain ⟨v', e1, e2⟩ := RepVs.get hr (i := i) (z := z') (by simpa using e)
    exact ⟨v', by simpa using e1, e2⟩
theorem RepVs.get' : ∀ {zs : List Z} {vs : List V}, RepVs K μ H zs vs → ∀ {i : Nat} {v : V}, vs[i]? = some v → ∃ z, zs[i]? = some z ∧ RepV K μ H z v
  | zs, vs, h, i, v, e => by
    have hl := h.length
    have hi := (List.getElem?_eq_some_iff.mp e).1
    obtain ⟨v', e1, e2⟩ := h.get (i := i) (z := zs[i]'(by omega)) (by simp [hl, hi])
    rw [e] at e1; cases e1
    exact ⟨_, by simp [hl, hi], e2⟩
theorem RepVs.append : ∀ {zs ys : List Z} {vs ws : List V}, RepVs K μ H zs vs → RepVs K μ H ys ws → RepVs K μ H (zs ++ ys) (vs ++ ws)
  | [], _, _, _, h, h' => by unfold RepVs at h; subst h; exact h'
  | z :: zs, ys, vs, ws, h, h' => by
    unfold RepVs at h
    obtain ⟨v, r, rfl, hv, hr⟩ := h
    exact .cons hv (RepVs.append hr h')
theorem RepVs.take : ∀ {zs : List Z} {vs : List V} (n : Nat), RepVs K μ H zs vs → RepVs K μ H (zs.take n) (vs.take n)
  | _, _, 0, _ => by simpa using RepVs.nil
  | [], vs, n + 1, h => by unfold RepVs at h; subst h; simpa using RepVs.nil
  | z :: zs, vs, n + 1, h => by
    unfold RepVs at h
    obtain ⟨v, r, rfl, hv, hr⟩ := h
    exact .cons hv (RepVs.take n hr)
theorem RepVs.drop : ∀ {zs : List Z} {vs : List V} (n : Nat), RepVs K μ H zs vs → RepVs K μ H (zs.drop n) (vs.drop n)
  | _, _, 0, h => by simpa using h
  | [], vs, n + 1, h => by unfold RepVs at h; subst h; simpa using RepVs.nil
  | z :: zs, vs, n + 1, h => by
    unfold RepVs at h
    obtain ⟨v, r, rfl, hv, hr⟩ := h
    exact RepVs.drop n hr
theorem RepVs.set : ∀ {zs : List Z} {vs : List V} {z : Z} {v : V} (n : Nat), RepVs K μ H zs vs → RepV K μ H z v → RepVs K μ H (zs.set n z) (vs.set n v)
  | [], vs, _, _, n, h, _ => by unfold RepVs at h; subst h; simpa using RepVs.nil
  | y :: zs, vs, z, v, 0, h, hz => by
    unfold RepVs at h
    obtain ⟨v, r, rfl, hv, hr⟩ := h
    exact .cons hz hr
  | y :: zs, vs, z, v, n + 1, h, hz => by
    unfold RepVs at h
    obtain ⟨v, r, rfl, hv, hr⟩ := h
    exact .cons hv (RepVs.set n hr hz)
theorem RepVs.eraseIdx : ∀ {zs : List Z} {vs : List V} (n : Nat), RepVs K μ H zs vs → RepVs K μ H (zs.eraseIdx n) (vs.eraseIdx n)
  | [], vs, n, h => by unfold RepVs at h; subst h; simpa using RepVs.nil
  | y :: zs, vs, 0, h => by
    unfold RepVs at h
    obtain ⟨v, r, rfl, hv, hr⟩ := h
    exact hr
  | y :: zs, vs, n + 1, h => by
    unfold RepVs at h
    obtain ⟨v, r, rfl, hv, hr⟩ := h
    exact .cons hv (RepVs.eraseIdx n hr)
theorem RepVs.dropLast {zs : List Z} {vs : List V} (h : RepVs K μ H zs vs) : RepVs K μ H zs.dropLast vs.dropLast := by
  rw [List.dropLast_eq_take, List.dropLast_eq_take, h.length]
  exact h.take _
theorem RepVs.reverse : ∀ {zs : List Z} {vs : List V}, RepVs K μ H zs vs → RepVs K μ H zs.reverse vs.reverse
  | [], vs, h => by unfold RepVs at h; subst h; simpa using RepVs.nil
  | y :: zs, vs, h => by
    unfold RepVs at h
    obtain ⟨v, r, rfl, hv, hr⟩ := h
    rw [List.reverse_cons, List.reverse_cons]
    exact (RepVs.reverse hr).append (.cons hv .nil)
theorem RepVs.ints : ∀ ns : List Int, RepVs K μ H (ns.map Z.int) (ns.map V.int)
  | [] => .nil
  | n :: ns => .cons (by unfold RepV; rfl) (RepVs.ints ns)
end

/-! ### objects -/
def keyZ : Key → Z
  | .inl i => .int i
  | .inr x => .str x
section
variable (K : PySem.W.Frag) (mg : Str → Option Value) (μ : List Addr) (H : Hp)
def KR (p : Z × Z) (q : Key × V) : Prop := p.1 = keyZ q.1 ∧ RepV K μ H p.2 q.2
def TR (p : Z × Z) (q : List Key × V) : Prop := p.1 = .tup (q.1.map keyZ) ∧ RepV K μ H p.2 q.2
def FR (p : Str × Z) (q : Str × V) : Prop := p.1 = q.1 ∧ RepV K μ H p.2 q.2
def DictR (kvs : List (Z × Z)) (o : HO) : Prop :=
  (∃ l, o = .dK l ∧ Paired (KR K μ H) kvs l) ∨ ∃ l, o = .dT l ∧ Paired (TR K μ H) kvs l
def RelO : ZO → Addr → Prop
  | .lst zs, a => ∃ vs, H a = some (.lst vs) ∧ RepVs K μ H zs vs
  | .dict kvs, a => ∃ o, H a = some o ∧ DictR K μ H kvs o
  | .dictL kvs, a => ∃ ob o, H a = some (.frz ob o) ∧ DictR K μ H kvs o
  | .ins c fs, a => ∃ C dx vs, mg c = some (.ref C) ∧ H a = some (.ins C dx vs) ∧ Paired (FR K μ H) fs vs
  | .exd dd fs, a => a = dd ∧ ∃ vs, H a = some (.xd vs) ∧ Paired (FR K μ H) fs vs
structure RelH (h : ZH) : Prop where
  len : μ.length = h.length
  nd : μ.Nodup
  obj : ∀ (n : Nat) (a : Addr) (o : ZO), μ[n]? = some a → h[n]? = some o → RelO K mg μ H o a
end
section
variable {K : PySem.W.Frag} {mg : Str → Option Value} {μ μ' : List Addr} {H H' : Hp} {h h' : ZH}
theorem paired_mono {α β : Type} {F G : α → β → Prop} (hf : ∀ a b, F a b → G a b) : ∀ {l : List α} {m : List β}, Paired F l m → Paired G l m
  | _, _, .nil => .nil
  | _, _, .cons a b => .cons (hf _ _ a) (paired_mono hf b)
theorem DictR.mono0 (e : Ext0 μ H μ' H') {kvs : List (Z × Z)} {o : HO} (d : DictR K μ H kvs o) : DictR K μ' H' kvs o := by
  rcases d with ⟨l, e1, d⟩ | ⟨l, e1, d⟩
  · exact .inl ⟨l, e1, paired_mono (fun p q x => ⟨x.1, x.2.mono0 e⟩) d⟩
  · exact .inr ⟨l, e1, paired_mono (fun p q x => ⟨x.1, x.2.mono0 e⟩) d⟩
theorem RelO.keep0 (e : Ext0 μ H μ' H') {o : ZO} {a : Addr} (r : RelO K mg μ H o a) (q : H' a = H a) : RelO K mg μ' H' o a := by
  cases o with
  | lst zs => obtain ⟨vs, e1, r⟩ := r; exact ⟨vs, q.trans e1, r.mono0 e⟩
  | dict kvs => obtain ⟨o, e1, r⟩ := r; exact ⟨o, q.trans e1, r.mono0 e⟩
  | dictL kvs => obtain ⟨ob, o, e1, r⟩ := r; exact ⟨ob, o, q.trans e1, r.mono0 e⟩
  | ins c fs => obtain ⟨C, dx, vs, m, e1, r⟩ := r; exact ⟨C, dx, vs, m, q.trans e1, paired_mono (fun p q x => ⟨x.1, x.2.mono0 e⟩) r⟩
  | exd dd fs => obtain ⟨ed, vs, e1, r⟩ := r; exact ⟨ed, vs, q.trans e1, paired_mono (fun p q x => ⟨x.1, x.2.mono0 e⟩) r⟩
theorem DictR.mono (e : Ext μ H μ' H') {kvs : List (Z × Z)} {o : HO} (d : DictR K μ H kvs o) : DictR K μ' H' kvs o := DictR.mono0 e.lo d
theorem RelO.keep (e : Ext μ H μ' H') {o : ZO} {a : Addr} (r : RelO K mg μ H o a) (q : H' a = H a) : RelO K mg μ' H' o a := RelO.keep0 e.lo r q
theorem RelO.some {o : ZO} {a : Addr} (r : RelO K mg μ H o a) : ∃ u, H a = some u ∧ (∀ xs, u ≠ .tup xs) ∧ ((∀ kvs, o ≠ .dictL kvs) → ∀ ob v, u ≠ .frz ob v) := by
  cases o with
  | lst zs => obtain ⟨vs, e1, r⟩ := r; exact ⟨_, e1, by simp, by simp⟩
  | dict kvs =>
    obtain ⟨o, e1, r⟩ := r
    rcases r with ⟨l, rfl, _⟩ | ⟨l, rfl, _⟩
    · exact ⟨_, e1, by simp, by simp⟩
    · exact ⟨_, e1, by simp, by simp⟩
  | dictL kvs =>
    obtain ⟨ob, o, e1, r⟩ := r
    rcases r with ⟨l, rfl, _⟩ | ⟨l, rfl, _⟩
    · exact ⟨_, e1, by simp, fun c => absurd rfl (c _)⟩
    · exact ⟨_, e1, by simp, fun c => absurd rfl (c _)⟩
  | ins c fs => obtain ⟨C, dx, vs, m, e1, r⟩ := r; exact ⟨_, e1, by simp, by simp⟩
  | exd dd fs => obtain ⟨ed, vs, e1, r⟩ := r; exact ⟨_, e1, by simp, by simp⟩
theorem RelH.at (R : RelH K mg μ H h) {n : Nat} {o : ZO} (e : h[n]? = some o) : ∃ a, μ[n]? = some a ∧ RelO K mg μ H o a := by
  have hn : n < μ.length := by rw [R.len]; exact (List.getElem?_eq_some_iff.mp e).1
  exact ⟨μ[n], by simp [hn], R.obj n _ o (by simp [hn]) e⟩
/-- a new address -/
theorem ext_new {p : Addr} {u : HO} (hp : H p = none) : Ext μ H μ (upd H p u) :=
  ⟨⟨⟨[], by simp⟩, fun a xs e => by rw [upd_ne (ne_of_none e hp)]; exact e, fun a o xs _ e => by rw [upd_ne (ne_of_none e hp)]; exact e⟩, fun a o e n => ⟨by rw [upd_ne (ne_of_none e hp)]; exact e, n⟩, fun a o u _ e => by rw [upd_ne (ne_of_none e hp)]; exact e⟩
theorem ext_app (p : Addr) (e : Ext μ H μ H') (hp : H p = none) : Ext μ H (μ ++ [p]) H' := ⟨⟨⟨[p], rfl⟩, e.tup, e.frz⟩, fun a o h n => ⟨(e.off a o h n).1, by
  rw [List.mem_append, List.mem_singleton]
  exact fun z => z.elim n fun z => by rw [z, hp] at h; cases h⟩, e.lck⟩
/-- one of ours changes -/
theorem ext_at {a : Addr} {u : HO} (ha : a ∈ μ) (hu : ∃ w, H a = some w ∧ (∀ xs, w ≠ .tup xs) ∧ ∀ ob v, w ≠ .frz ob v) : Ext μ H μ (upd H a u) := by
  obtain ⟨w, hw, h1, h2⟩ := hu
  refine ⟨⟨⟨[], by simp⟩, fun b xs e => ?_, fun b ob xs c e => ?_⟩, fun b o e n => ⟨?_, n⟩, fun b ob xs c e => by rw [upd_ne (fun z => by subst z; rw [hw] at e; cases e; exact h2 _ _ rfl)]; exact e⟩
  · rw [upd_ne (fun z => by subst z; rw [hw] at e; cases e; exact h1 _ rfl)]; exact e
  · rw [upd_ne (fun z => by subst z; rw [hw] at e; cases e; exact h2 _ _ rfl)]; exact e
  · rw [upd_ne (fun z => n (by rw [z]; exact ha))]; exact e
/-- a tuple is laid -/
theorem RelH.tup (R : RelH K mg μ H h) {p : Addr} {u : HO} (hp : H p = none) : RelH K mg μ (upd H p u) h :=
  ⟨R.len, R.nd, fun n a o e1 e2 => by
    have r := R.obj n a o e1 e2
    obtain ⟨w, ew, _⟩ := r.some
    exact r.keep (ext_new hp) (upd_ne (ne_of_none ew hp))⟩
/-- an object is laid -/
theorem RelH.new (R : RelH K mg μ H h) {p : Addr} {u : HO} {o : ZO} (hp : H p = none) (ho : RelO K mg (μ ++ [p]) (upd H p u) o p) : RelH K mg (μ ++ [p]) (upd H p u) (h ++ [o]) := by
  have pn : p ∉ μ := fun hm => by
    obtain ⟨n, hn, e⟩ := List.mem_iff_getElem.mp hm
    have hh : n < h.length := by rw [← R.len]; exact hn
    obtain ⟨w, ew, _⟩ := (R.obj n p h[n] (by simp [hn, e]) (by simp [hh])).some
    rw [hp] at ew; cases ew
  refine ⟨by simp [R.len], List.nodup_append.mpr ⟨R.nd, by simp, fun a ha b hb => by simp at hb; subst hb; exact fun z => pn (z ▸ ha)⟩, fun n a o' e1 e2 => ?_⟩
  by_cases hn : n < μ.length
  · rw [List.getElem?_append_left hn] at e1
    rw [List.getElem?_append_left (by rw [← R.len]; exact hn)] at e2
    have r := R.obj n a o' e1 e2
    obtain ⟨w, ew, _⟩ := r.some
    exact r.keep (ext_app p (ext_new hp) hp) (upd_ne (ne_of_none ew hp))
  · have e3 : n = μ.length := by
      have := (List.getElem?_eq_some_iff.mp e1).1
      simp at this; omega
    subst e3
    rw [List.getElem?_append_right (by omega)] at e1
    rw [R.len, List.getElem?_append_right (by omega)] at e2
    simp at e1 e2
    subst e1 e2
    exact ho
/-- an object is changed -/
theorem RelH.set (R : RelH K mg μ H h) {n : Nat} {a : Addr} {u : HO} {o : ZO} (ha : μ[n]? = some a) (hu : ∃ w, H a = some w ∧ (∀ xs, w ≠ .tup xs) ∧ ∀ ob v, w ≠ .frz ob v) (ho : RelO K mg μ (upd H a u) o a) :
    RelH K mg μ (upd H a u) (h.set n o) ∧ Ext μ H μ (upd H a u) := by
  have ex : Ext μ H μ (upd H a u) := ext_at (List.mem_of_getElem? ha) hu
  refine ⟨⟨by simp [R.len], R.nd, fun m b o' e1 e2 => ?_⟩, ex⟩
  by_cases hm : m = n
  · subst hm
    rw [ha] at e1; cases e1
    have hl : m < h.length := by rw [← R.len]; exact (List.getElem?_eq_some_iff.mp ha).1
    rw [List.getElem?_set_self hl] at e2
    cases e2
    exact ho
  · rw [List.getElem?_set_ne (Ne.symm hm)] at e2
    have r := R.obj m b o' e1 e2
    refine r.keep ex (upd_ne fun z => ?_)
    subst z
    obtain ⟨i1, j1⟩ := List.getElem?_eq_some_iff.mp e1
    obtain ⟨i2, j2⟩ := List.getElem?_eq_some_iff.mp ha
    exact hm ((List.getElem_inj R.nd).mp (j1.trans j2.symm))
end
end ZL

namespace ZL
open PySem PySem.Spec PyProof.Rows L2

structure Rel (K : PySem.W.Frag) (mg : Str → Option Value) (B : List Addr × Hp) (μ : List Addr) (env : Env) (h : ZH) (σ : L2.St) (H : Hp) : Prop where
  ext : Ext B.1 B.2 μ H
  heap : RelH K mg μ H h
  len : env.length = σ.length
  env : ∀ (i : Nat) (z : Z), env[i]? = some (some z) → ∃ v, σ[i]? = some (some v) ∧ RepV K μ H z v
def RelX (K : PySem.W.Frag) (mg : Str → Option Value) (μ : List Addr) (H : Hp) (x : XZ) (c : Value) (d : Option Addr) : Prop :=
  ∃ C, mg x.cls = some (.ref C) ∧ c = .ref C ∧ ((x.fs = [] ∧ d = none) ∨ ∃ dd vs, x.fs ≠ [] ∧ d = some dd ∧ H dd = some (.xd vs) ∧ dd ∉ μ ∧ Paired (FR K μ H) x.fs vs)
/-- an exception's dict is new -/
def NewX (B : List Addr × Hp) (d : Option Addr) : Prop := ∀ dd, d = some dd → dd ∉ B.1 ∧ B.2 dd = none
theorem NewX.none {B : List Addr × Hp} : NewX B none := fun dd e => by cases e
theorem NewX.back {B B' : List Addr × Hp} {d : Option Addr} (e : Ext B.1 B.2 B'.1 B'.2) (n : NewX B' d) : NewX B d := fun dd h => by
  obtain ⟨n1, n2⟩ := n dd h
  have n3 : dd ∉ B.1 := fun m => n1 (by obtain ⟨more, q⟩ := e.pre; rw [q]; exact List.mem_append_left _ m)
  refine ⟨n3, ?_⟩
  cases q : B.2 dd with
  | none => rfl
  | some o => have := (e.off dd o q n3).1; rw [n2] at this; cases this
abbrev EZ := XZ → Env → ZH → Prop
/-- what is wished of exceptions -/
def WZ (K : PySem.W.Frag) (mg : Str → Option Value) (B : List Addr × Hp) (E : EZ) : WX := fun c d σ H => ∃ x μ env h, Rel K mg B μ env h σ H ∧ RelX K mg μ H x c d ∧ NewX B d ∧ E x env h
abbrev PZ := Z → ZH → Prop
abbrev WE := Env → ZH → PZ → EZ → Prop
abbrev WT := Env → ZH → (Bool → ZH → Prop) → EZ → Prop
abbrev WA := Env → ZH → (List Z → ZH → Prop) → EZ → Prop
section
variable (K : PySem.W.Frag) (mg : Str → Option Value) (B : List Addr × Hp)
/-- what follows of a value, in terms of V -/
def Fol (μ : List Addr) (H : Hp) (P : PZ) (Q : VK) : Prop := ∀ z h' μ' H' v, P z h' → Ext μ H μ' H' → RelH K mg μ' H' h' → RepV K μ' H' z v → Q v H'
def TZ (w : WE) (E : EZ) : TE := fun σ H Q => ∃ μ env h P, Rel K mg B μ env h σ H ∧ w env h P E ∧ Fol K mg μ H P Q
def TZt (w : WT) (E : EZ) : TT := fun σ H Q => ∃ μ env h P, Rel K mg B μ env h σ H ∧ w env h P E ∧ ∀ b h' μ' H', P b h' → Ext μ H μ' H' → RelH K mg μ' H' h' → Q b H'
def TZa (w : WA) (E : EZ) : TA := fun σ H Q => ∃ μ env h P, Rel K mg B μ env h σ H ∧ w env h P E ∧ ∀ zs h' μ' H' vs, P zs h' → Ext μ H μ' H' → RelH K mg μ' H' h' → RepVs K μ' H' zs vs → Q vs H'
end
structure ZEnds where
  nx : Env → ZH → Prop
  rt : PZ
  bk : Env → ZH → Prop := fun _ _ => False
  ct : Env → ZH → Prop := fun _ _ => False
abbrev WS := ZEnds → Env → ZH → EZ → Prop
structure EndsR (K : PySem.W.Frag) (mg : Str → Option Value) (B : List Addr × Hp) (D : ZEnds) (D' : Ends) : Prop where
  nx : ∀ μ env h σ H, Rel K mg B μ env h σ H → D.nx env h → D'.nx σ H
  bk : ∀ μ env h σ H, Rel K mg B μ env h σ H → D.bk env h → D'.bk σ H
  ct : ∀ μ env h σ H, Rel K mg B μ env h σ H → D.ct env h → D'.ct σ H
  rt : ∀ μ z h v H, Ext B.1 B.2 μ H → RelH K mg μ H h → RepV K μ H z v → D.rt z h → D'.rt v H
def TZs (K : PySem.W.Frag) (mg : Str → Option Value) (B : List Addr × Hp) (w : WS) (E : EZ) : TS := fun D' σ H => ∃ μ env h D, Rel K mg B μ env h σ H ∧ w D env h E ∧ EndsR K mg B D D'

section
variable {K : PySem.W.Frag} {mg : Str → Option Value} {B : List Addr × Hp} {μ μ' : List Addr} {env : Env} {h h' : ZH} {σ : L2.St} {H H' : Hp}
theorem Rel.step (R : Rel K mg B μ env h σ H) (e : Ext μ H μ' H') (r : RelH K mg μ' H' h') : Rel K mg B μ' env h' σ H' :=
  ⟨R.ext.trans e, r, R.len, fun i z q => let ⟨v, e1, e2⟩ := R.env i z q; ⟨v, e1, e2.mono e⟩⟩
theorem Rel.put (R : Rel K mg B μ env h σ H) {z : Z} {v : V} (r : RepV K μ H z v) (i : Nat) : Rel K mg B μ (env.set i (some z)) h (σ.set i (some v)) H :=
  ⟨R.ext, R.heap, by simp [R.len], fun j y q => by
    by_cases hj : i = j
    · subst hj
      by_cases hl : i < env.length
      · rw [List.getElem?_set_self hl] at q
        cases q
        exact ⟨v, List.getElem?_set_self (by rw [← R.len]; exact hl), r⟩
      · rw [List.getElem?_eq_none (by simpa using hl)] at q; cases q
    · rw [List.getElem?_set_ne hj] at q ⊢
      exact R.env j y q⟩
end

/-! ### the judgements -/
abbrev ZTk (X : Cx) (B : List Addr × Hp) (E : EZ) : Prop := L2N.Takes X (WZ X.K X.mg B E)
structure ZE (X : Cx) (e : Expr) (w : WE) : Prop where
  run : ∀ B E, ZTk X B E → PE X e (TZ X.K X.mg B w E)
structure ZT (X : Cx) (e : Expr) (w : WT) : Prop where
  run : ∀ B E, ZTk X B E → PT X e (TZt X.K X.mg B w E)
structure ZA (X : Cx) (es : List Expr) (w : WA) : Prop where
  run : ∀ B E, ZTk X B E → PA X es (TZa X.K X.mg B w E)
structure ZS (X : Cx) (s : Stmt) (w : WS) : Prop where
  run : ∀ B E, ZTk X B E → PS X s (TZs X.K X.mg B w E)
structure ZSs (X : Cx) (s : List Stmt) (w : WS) : Prop where
  run : ∀ B E, ZTk X B E → PSs X s (TZs X.K X.mg B w E)
/-! ### from a later base -/
section
variable {K : PySem.W.Frag} {mg : Str → Option Value} {B B' : List Addr × Hp} {μ : List Addr} {env : Env} {h : ZH} {σ : L2.St} {H : Hp}
theorem Rel.rebase (R : Rel K mg B' μ env h σ H) (e : Ext B.1 B.2 B'.1 B'.2) : Rel K mg B μ env h σ H := ⟨e.trans R.ext, R.heap, R.len, R.env⟩
theorem Rel.based (R : Rel K mg B μ env h σ H) : Rel K mg (μ, H) μ env h σ H := ⟨Ext.refl _ _, R.heap, R.len, R.env⟩
theorem WZ.rebase {E : EZ} (e : Ext B.1 B.2 B'.1 B'.2) : ∀ c d σ H, WZ K mg B' E c d σ H → WZ K mg B E c d σ H := fun c d σ H ⟨x, μ, env, h, R, rx, nx, q⟩ => ⟨x, μ, env, h, R.rebase e, rx, nx.back e, q⟩
theorem EndsR.rebase {D : ZEnds} {D' : Ends} (d : EndsR K mg B D D') (e : Ext B.1 B.2 B'.1 B'.2) : EndsR K mg B' D D' :=
  ⟨fun μ env h σ H R q => d.nx μ env h σ H (R.rebase e) q, fun μ env h σ H R q => d.bk μ env h σ H (R.rebase e) q, fun μ env h σ H R q => d.ct μ env h σ H (R.rebase e) q, fun μ z h v H x R r q => d.rt μ z h v H (e.trans x) R r q⟩
end
theorem ZTk.rebase {X : Cx} {B B' : List Addr × Hp} {E : EZ} (t : ZTk X B E) (e : Ext B.1 B.2 B'.1 B'.2) : ZTk X B' E := L2N.Takes.imp t (WZ.rebase e)
section
variable {X : Cx}
theorem pe_imp {e : Expr} {t t' : TE} (p : PE X e t) (f : ∀ σ H Q, t' σ H Q → t σ H Q) : PE X e t' := ⟨fun pins s σ H Q I q => p.run pins s σ H Q I (f _ _ _ q)⟩
theorem pt_imp {e : Expr} {t t' : TT} (p : PT X e t) (f : ∀ σ H Q, t' σ H Q → t σ H Q) : PT X e t' := ⟨fun pins s σ H Q I q => p.run pins s σ H Q I (f _ _ _ q)⟩
theorem pa_imp {e : List Expr} {t t' : TA} (p : PA X e t) (f : ∀ σ H Q, t' σ H Q → t σ H Q) : PA X e t' := ⟨fun pos pins s σ H Q I q => p.run pos pins s σ H Q I (f _ _ _ q)⟩
theorem ps_imp {e : Stmt} {t t' : TS} (p : PS X e t) (f : ∀ D σ H, t' D σ H → t D σ H) : PS X e t' := ⟨fun pins s σ H D I q => p.run pins s σ H D I (f _ _ _ q)⟩
theorem pss_imp {e : List Stmt} {t t' : TS} (p : PSs X e t) (f : ∀ D σ H, t' D σ H → t D σ H) : PSs X e t' := ⟨fun pins s σ H D I q => p.run pins s σ H D I (f _ _ _ q)⟩
end

/-! ### names, constants -/
section
variable {X : Cx} {B : List Addr × Hp}
def wVar (i : Nat) : WE := fun env h P _ => match env[i]? with | some (some z) => P z h | _ => False
def wC (z : Z) : WE := fun _ h P _ => P z h
theorem ze_var {i : Nat} {x : Str} {pos : Pos} (hN : X.N[i]? = some x) (hv : Vis X.env.scope x) (hd : (x == ("__debug__" : Str)) = false := by decide) (hcd : (x == ("__classdict__" : Str)) = false := by decide) : ZE X (.Name x pos) (wVar i) :=
  ⟨fun B E _ => pe_imp (pe_var hN hv hd hcd) fun σ H Q ⟨μ, env, h, P, R, w, f⟩ => by
    unfold wVar at w
    split at w
    · rename_i z e
      obtain ⟨v, e1, r⟩ := R.env i z e
      exact ⟨v, e1, f z h μ H v w (Ext.refl _ _) R.heap r⟩
    · exact w.elim⟩
theorem ze_c {e : Expr} {v : V} {z : Z} (p : PE X e (tC v)) (r : ∀ μ H, RepV X.K μ H z v) : ZE X e (wC z) :=
  ⟨fun B E _ => pe_imp p fun σ H Q ⟨μ, env, h, P, R, w, f⟩ => f z h μ H v w (Ext.refl _ _) R.heap (r _ _)⟩
theorem ze_int {i j pos} : ZE X (.Constant (.int i) j pos) (wC (.int i)) := ze_c pe_int fun _ _ => by unfold RepV; rfl
theorem ze_bl {b j pos} : ZE X (.Constant (.bool b) j pos) (wC (.bl b)) := ze_c pe_bl fun _ _ => by unfold RepV; rfl
theorem ze_non {j pos} : ZE X (.Constant .none j pos) (wC .non) := ze_c pe_non fun _ _ => by unfold RepV; rfl
theorem ze_str {x j pos} : ZE X (.Constant (.str x) j pos) (wC (.str x)) := ze_c pe_str fun _ _ => by unfold RepV; rfl

/-! ### arguments, displays -/
def wNil : WA := fun _ h P _ => P [] h
def wCons (w : WE) (r : WA) : WA := fun env h P E => w env h (fun z h1 => r env h1 (fun zs h2 => P (z :: zs) h2) E) E
theorem za_nil : ZA X [] wNil := ⟨fun B E _ => pa_imp pa_nil fun σ H Q ⟨μ, env, h, P, R, w, f⟩ => f [] h μ H [] w (Ext.refl _ _) R.heap .nil⟩
theorem za_cons {e : Expr} {es : List Expr} {w : WE} {r : WA} (he : ZE X e w) (hr : ZA X es r) (hs : starEach (e :: es) X.env = (false, eval e X.env) :: starEach es X.env := by rfl) : ZA X (e :: es) (wCons w r) :=
  ⟨fun B E tk => pa_imp (pa_cons (he.run B E tk) (hr.run B E tk) hs) fun σ H Q ⟨μ, env, h, P, R, q, f⟩ =>
    ⟨μ, env, h, _, R, q, fun z h1 μ1 H1 v p1 e1 R1 r1 => ⟨μ1, env, h1, _, R.step e1 R1, p1, fun zs h2 μ2 H2 vs p2 e2 R2 r2 => f (z :: zs) h2 μ2 H2 (v :: vs) p2 (e1.trans e2) R2 (.cons (r1.mono e2) r2)⟩⟩⟩
/-- a new tuple's value -/
def wTup (r : WA) : WE := fun env h P E => r env h (fun zs h1 => zs.length ≤ sizeLine ∧ P (.tup zs) h1) E
/-- a new object -/
def wLst (r : WA) : WE := fun env h P E => r env h (fun zs h1 => zs.length ≤ sizeLine ∧ P (.ref h1.length) (h1 ++ [.lst zs])) E
theorem fol_tup {K : PySem.W.Frag} {mg : Str → Option Value} {μ : List Addr} {H : Hp} {h : ZH} {P : PZ} {Q : VK} {zs : List Z} {vs : List V} (R : RelH K mg μ H h) (r : RepVs K μ H zs vs) (p : P (.tup zs) h) (f : Fol K mg μ H P Q) :
    ∀ a H', H a = none → ZTS.LaidT keyV H a vs H' → Q (.ref a) H' := fun a H' ha l => by
  unfold ZTS.LaidT at l
  cases c : keyV vs with
  | true =>
    rw [c] at l
    simp at l
    subst l
    have ex : Ext μ H μ (upd H a (.tup vs)) := ext_new ha
    refine f _ _ _ _ _ p ex (R.tup ha) ?_
    unfold RepV
    exact ⟨a, vs, rfl, .inl ⟨c, upd_same⟩, r.mono ex⟩
  | false =>
    rw [c] at l
    simp at l
    obtain ⟨o, d, rfl⟩ := l
    have ex : Ext μ H μ (upd H a (.frz o (.tup vs))) := ext_new ha
    refine f _ _ _ _ _ p ex (R.tup ha) ?_
    unfold RepV
    exact ⟨a, vs, rfl, .inr ⟨c, o, d, upd_same⟩, r.mono ex⟩
theorem fol_lst {K : PySem.W.Frag} {mg : Str → Option Value} {μ : List Addr} {H : Hp} {h : ZH} {P : PZ} {Q : VK} {zs : List Z} {vs : List V} (R : RelH K mg μ H h) (r : RepVs K μ H zs vs) (p : P (.ref h.length) (h ++ [.lst zs])) (f : Fol K mg μ H P Q) :
    ∀ a, H a = none → Q (.ref a) (upd H a (.lst vs)) := fun a ha => by
  have ex : Ext μ H (μ ++ [a]) (upd H a (.lst vs)) := ext_app a (ext_new ha) ha
  refine f _ _ _ _ _ p ex (R.new ha ⟨vs, upd_same, r.mono ex⟩) ?_
  unfold RepV
  exact ⟨a, rfl, by rw [← R.len]; simp⟩
theorem Fol.ext {K : PySem.W.Frag} {mg : Str → Option Value} {μ μ' : List Addr} {H H' : Hp} {P : PZ} {Q : VK} (f : Fol K mg μ H P Q) (e : Ext μ H μ' H') : Fol K mg μ' H' P Q := fun z h'' μ'' H'' v p ex R r => f z h'' μ'' H'' v p (e.trans ex) R r
theorem ze_tup {es : List Expr} {w : WA} {x1 pos} (h : ZA X es w) : ZE X (.Tuple es x1 pos) (wTup w) :=
  ⟨fun B E tk => pe_imp (ZTS.pe_tupS (kl := keyV) (h.run B E tk)) fun σ H Q ⟨μ, env, h, P, R, q, f⟩ =>
    ⟨μ, env, h, _, R, q, fun zs h1 μ1 H1 vs ⟨l, p1⟩ e1 R1 r1 => ⟨by rw [← r1.length]; exact l, fol_tup R1 r1 p1 (f.ext e1)⟩⟩⟩
theorem ze_lst {es : List Expr} {w : WA} {pos} (h : ZA X es w) : ZE X (.List es pos) (wLst w) :=
  ⟨fun B E tk => pe_imp (pe_lst (h.run B E tk)) fun σ H Q ⟨μ, env, h, P, R, q, f⟩ =>
    ⟨μ, env, h, _, R, q, fun zs h1 μ1 H1 vs ⟨l, p1⟩ e1 R1 r1 => ⟨by rw [← r1.length]; exact l, fol_lst R1 r1 p1 (f.ext e1)⟩⟩⟩

/-! ### operators -/
abbrev Z2 := Z → Z → ZH → PZ → Prop
/-- an operator by values -/
def OpZ (X : Cx) (f : Value → Value → Sem Value) (o : Z2) : Prop :=
  ∃ r, OpR X f r ∧ ∀ μ H h a b x y P Q, RelH X.K X.mg μ H h → RepV X.K μ H a x → RepV X.K μ H b y → o a b h P → Fol X.K X.mg μ H P Q → r x y H Q
def w2 (o : Z2) (wa wb : WE) : WE := fun env h P E => wa env h (fun a h1 => wb env h1 (fun b h2 => o a b h2 P) E) E
theorem tz2 {o : Z2} {r : R2} {wa wb : WE} {E : EZ} (ho : ∀ μ H h a b x y P Q, RelH X.K X.mg μ H h → RepV X.K μ H a x → RepV X.K μ H b y → o a b h P → Fol X.K X.mg μ H P Q → r x y H Q) :
    ∀ σ H Q, TZ X.K X.mg B (w2 o wa wb) E σ H Q → tOp r (TZ X.K X.mg B wa E) (TZ X.K X.mg B wb E) σ H Q := fun σ H Q ⟨μ, env, h, P, R, q, f⟩ =>
  ⟨μ, env, h, _, R, q, fun a h1 μ1 H1 x p1 e1 R1 r1 => ⟨μ1, env, h1, _, R.step e1 R1, p1, fun b h2 μ2 H2 y p2 e2 R2 r2 => ho μ2 H2 h2 a b x y P Q R2 (r1.mono e2) r2 p2 (f.ext (e1.trans e2))⟩⟩
theorem ze_op {op : Operator} {o : Z2} {a b : Expr} {wa wb : WE} {pos} (ho : OpZ X (binaryOp op) o) (ha : ZE X a wa) (hb : ZE X b wb) : ZE X (.BinOp a op b pos) (w2 o wa wb) :=
  let ⟨_, h1, h2⟩ := ho
  ⟨fun B E tk => pe_imp (pe_op h1 (ha.run B E tk) (hb.run B E tk)) (tz2 h2)⟩
theorem ze_cmp {op : CmpOp} {o : Z2} {a b : Expr} {wa wb : WE} {pos} (ho : OpZ X (compareOp op) o) (ha : ZE X a wa) (hb : ZE X b wb) (hm : behindInMarks op b = false) : ZE X (.Compare a [op] [b] pos) (w2 o wa wb) :=
  let ⟨_, h1, h2⟩ := ho
  ⟨fun B E tk => pe_imp (pe_cmpR h1 (ha.run B E tk) (hb.run B E tk) hm) (tz2 h2)⟩
/-- a test of a truth value -/
def wB (w : WE) : WT := fun env h P E => w env h (fun z h1 => match z with | .bl b => P b h1 | _ => False) E
theorem tzB {w : WE} {E : EZ} {t : TE} (h : ∀ σ H Q, TZ X.K X.mg B w E σ H Q → t σ H Q) : ∀ σ H Q, TZt X.K X.mg B (wB w) E σ H Q → tTest t σ H Q := fun σ H Q ⟨μ, env, hh, P, R, q, f⟩ =>
  h σ H _ ⟨μ, env, hh, _, R, q, fun z h1 μ1 H1 v p1 e1 R1 r1 => by
    cases z with
    | bl b => unfold RepV at r1; exact ⟨b, r1, f b h1 μ1 H1 p1 e1 R1⟩
    | _ => exact p1.elim⟩
theorem zt_cmp {op : CmpOp} {o : Z2} {a b : Expr} {wa wb : WE} {pos} (ho : OpZ X (compareOp op) o) (ha : ZE X a wa) (hb : ZE X b wb) (hm : behindInMarks op b = false) : ZT X (.Compare a [op] [b] pos) (wB (w2 o wa wb)) :=
  let ⟨_, h1, h2⟩ := ho
  ⟨fun B E tk => pt_imp (pt_cmpR h1 (ha.run B E tk) (hb.run B E tk) hm) (tzB (tz2 h2))⟩
theorem zt_val {e : Expr} {w : WE} (he : ZE X e w) (hw : ∀ whole, isTrue e X.env whole = (do let v ← whole; standAt e.pos; holding [v] (truthy v)) := by intro _; rfl) : ZT X e (wB w) :=
  ⟨fun B E tk => pt_imp (pt_val (he.run B E tk) hw) fun σ H Q q => tzB (fun _ _ _ z => z) σ H Q q⟩
end
end ZL

namespace ZL
open PySem PySem.W PySem.SeqAt PyProof.Rows
/-- t < u: only the first place that differs is asked -/
theorem lt_tups (p q : Addr) (xs ys : Array Value) (n m : Nat) (d1 d2 : Option Addr) (s1 s2 : Array (Option Value)) (eq lt : Nat → Bool) :
    Meets (Builtin.«tuple.__lt__» ⟨[.ref p, .ref q], []⟩)
      (fun A R s => s.heap.get? p = some { cls := .type "tuple", dict := d1, data := .seq xs n, slots := s1 } ∧
        s.heap.get? q = some { cls := .type "tuple", dict := d2, data := .seq ys m, slots := s2 } ∧
        (∀ j (a : j < xs.size) (b : j < ys.size), EqAt A.in1 s xs[j] ys[j] (eq j)) ∧
        (∀ j (a : j < xs.size) (b : j < ys.size), (∀ k, k < j → eq k = true) → eq j = false → RcLt A.in1 s xs[j] ys[j] (lt j)) ∧
        R (.ok (.ret (.bool (firstLt eq lt (decide (xs.size < ys.size)) (List.range (min xs.size ys.size)))))) s) :=
  .of_wp fun prog w A R s h => by
    obtain ⟨hp, g, d, tk, os⟩ := s
    obtain ⟨hl, hb, he, hr, h⟩ := h
    have kinds := AutoSeq1.sub_tuple_tuple
    have size : (xs.toList.zip ys.toList).length = min xs.size ys.size := by simp
    wp_walk using wpAny_loadPart' hl, wpAny_loadPart' hb, wpAny_forIn_list _ (fun left b s' => b.1 = none ∧ s' = ⟨hp, g, d, tk, os⟩ ∧
      ∃ i, (∀ k, k < i → eq k = true) ∧ left = (xs.toList.zip ys.toList).drop i ∧
      R (.ok (.ret (.bool (firstLt eq lt (decide (xs.size < ys.size)) ((List.range (min xs.size ys.size)).drop i))))) ⟨hp, g, d, tk, os⟩) _
    case turn =>
      rintro ⟨y, x⟩ left b s' ⟨hb', rfl, i, all, hz, hR⟩
      have inz : i < (xs.toList.zip ys.toList).length := by
        rcases Nat.lt_or_ge i (xs.toList.zip ys.toList).length with z | z
        · exact z
        · rw [List.drop_of_length_le z] at hz
          cases hz
      have inm : i < min xs.size ys.size := size ▸ inz
      have h1 : i < xs.size := by omega
      have h2 : i < ys.size := by omega
      rw [List.drop_eq_getElem_cons inz] at hz
      injection hz with head tail
      obtain rfl : y = xs[i] := by simpa using congrArg Prod.fst head
      obtain rfl : x = ys[i] := by simpa using congrArg Prod.snd head
      have places : (List.range (min xs.size ys.size)).drop i = i :: (List.range (min xs.size ys.size)).drop (i + 1) := by
        simp [List.drop_eq_getElem_cons, inm]
      rw [places] at hR
      refine wpAny_bind (he i h1 h2 prog w _ _ ?_)
      cases same : eq i with
      | true =>
        rw [firstLt_yes same] at hR
        wp_walk
        refine ⟨rfl, rfl, i + 1, fun k hk => ?_, tail, hR⟩
        by_cases e : k = i
        · rw [e]; exact same
        · exact all k (by omega)
      | false =>
        rw [firstLt_no same] at hR
        rw [if_pos (show (!false) = true from rfl)]
        refine wpAny_bind (wpAny_rule ?_)
        refine wpAny_bind (hr i h1 h2 all same prog w _ _ ?_)
        wp_walk
        exact ⟨_, rfl, hR⟩
    case fin =>
      rintro ⟨b1, b2⟩ s' ⟨hb', rfl, i, all, hz, hR⟩
      simp only at hb'
      subst hb'
      have past : min xs.size ys.size ≤ i := by
        rcases Nat.lt_or_ge i (xs.toList.zip ys.toList).length with z | z
        · rw [List.drop_eq_getElem_cons z] at hz
          cases hz
        · exact size ▸ z
      rw [List.drop_of_length_le (by simpa using past)] at hR
      wp_walk
      refine ⟨_, rfl, ?_⟩
      simpa [Builtin.Tuple.tupleCompareSizes, firstLt] using hR
    case h =>
      exact ⟨rfl, rfl, 0, fun k hk => absurd hk (Nat.not_lt_zero _), rfl, by simpa using h⟩
/-- t <= u: only the first place that differs is asked -/
theorem le_tups (p q : Addr) (xs ys : Array Value) (n m : Nat) (d1 d2 : Option Addr) (s1 s2 : Array (Option Value)) (eq lt : Nat → Bool) :
    Meets (Builtin.«tuple.__le__» ⟨[.ref p, .ref q], []⟩)
      (fun A R s => s.heap.get? p = some { cls := .type "tuple", dict := d1, data := .seq xs n, slots := s1 } ∧
        s.heap.get? q = some { cls := .type "tuple", dict := d2, data := .seq ys m, slots := s2 } ∧
        (∀ j (a : j < xs.size) (b : j < ys.size), EqAt A.in1 s xs[j] ys[j] (eq j)) ∧
        (∀ j (a : j < xs.size) (b : j < ys.size), (∀ k, k < j → eq k = true) → eq j = false → RcOp .LtE A.in1 s xs[j] ys[j] (lt j)) ∧
        R (.ok (.ret (.bool (firstLt eq lt (decide (xs.size ≤ ys.size)) (List.range (min xs.size ys.size)))))) s) :=
  .of_wp fun prog w A R s h => by
    obtain ⟨hp, g, d, tk, os⟩ := s
    obtain ⟨hl, hb, he, hr, h⟩ := h
    have kinds := AutoSeq1.sub_tuple_tuple
    have size : (xs.toList.zip ys.toList).length = min xs.size ys.size := by simp
    wp_walk using wpAny_loadPart' hl, wpAny_loadPart' hb, wpAny_forIn_list _ (fun left b s' => b.1 = none ∧ s' = ⟨hp, g, d, tk, os⟩ ∧
      ∃ i, (∀ k, k < i → eq k = true) ∧ left = (xs.toList.zip ys.toList).drop i ∧
      R (.ok (.ret (.bool (firstLt eq lt (decide (xs.size ≤ ys.size)) ((List.range (min xs.size ys.size)).drop i))))) ⟨hp, g, d, tk, os⟩) _
    case turn =>
      rintro ⟨y, x⟩ left b s' ⟨hb', rfl, i, all, hz, hR⟩
      have inz : i < (xs.toList.zip ys.toList).length := by
        rcases Nat.lt_or_ge i (xs.toList.zip ys.toList).length with z | z
        · exact z
        · rw [List.drop_of_length_le z] at hz
          cases hz
      have inm : i < min xs.size ys.size := size ▸ inz
      have h1 : i < xs.size := by omega
      have h2 : i < ys.size := by omega
      rw [List.drop_eq_getElem_cons inz] at hz
      injection hz with head tail
      obtain rfl : y = xs[i] := by simpa using congrArg Prod.fst head
      obtain rfl : x = ys[i] := by simpa using congrArg Prod.snd head
      have places : (List.range (min xs.size ys.size)).drop i = i :: (List.range (min xs.size ys.size)).drop (i + 1) := by
        simp [List.drop_eq_getElem_cons, inm]
      rw [places] at hR
      refine wpAny_bind (he i h1 h2 prog w _ _ ?_)
      cases same : eq i with
      | true =>
        rw [firstLt_yes same] at hR
        wp_walk
        refine ⟨rfl, rfl, i + 1, fun k hk => ?_, tail, hR⟩
        by_cases e : k = i
        · rw [e]; exact same
        · exact all k (by omega)
      | false =>
        rw [firstLt_no same] at hR
        rw [if_pos (show (!false) = true from rfl)]
        refine wpAny_bind (wpAny_rule ?_)
        refine wpAny_bind (hr i h1 h2 all same prog w _ _ ?_)
        wp_walk
        exact ⟨_, rfl, hR⟩
    case fin =>
      rintro ⟨b1, b2⟩ s' ⟨hb', rfl, i, all, hz, hR⟩
      simp only at hb'
      subst hb'
      have past : min xs.size ys.size ≤ i := by
        rcases Nat.lt_or_ge i (xs.toList.zip ys.toList).length with z | z
        · rw [List.drop_eq_getElem_cons z] at hz
          cases hz
        · exact size ▸ z
      rw [List.drop_of_length_le (by simpa using past)] at hR
      wp_walk
      refine ⟨_, rfl, ?_⟩
      simpa [Builtin.Tuple.tupleCompareSizes, firstLt] using hR
    case h =>
      exact ⟨rfl, rfl, 0, fun k hk => absurd hk (Nat.not_lt_zero _), rfl, by simpa using h⟩

section
variable {A : Around} {s : Shared} {p q : Addr} {xs ys : Array Value} {eq lt : Nat → Bool}
theorem rcLt_tups (hp : s.heap.IsTuple p xs) (hq : s.heap.IsTuple q ys) (room : A.units < cLine)
    (he : ∀ j (a : j < xs.size) (b : j < ys.size), EqAt A.in1 s xs[j] ys[j] (eq j))
    (hr : ∀ j (a : j < xs.size) (b : j < ys.size), (∀ k, k < j → eq k = true) → eq j = false → RcLt A.in1 s xs[j] ys[j] (lt j)) :
    RcLt A s (.ref p) (.ref q) (firstLt eq lt (decide (xs.size < ys.size)) (List.range (min xs.size ys.size))) := fun prog w E Q h => by
  obtain ⟨⟨c1, d1, t1, s1⟩, o1, k1, n, e1⟩ := id hp
  obtain ⟨⟨c2, d2, t2, s2⟩, o2, k2, m, e2⟩ := id hq
  simp only at k1 e1 k2 e2
  subst k1 e1 k2 e2
  refine richCompare_meets_room (op := .Lt) ⟨_, o1, rfl⟩ ⟨_, o2, rfl⟩ F.slot_tuple_lt F.entry_tuple_lt (F.args_tuple_lt_2 _ _) (lt_tups p q xs ys n m d1 d2 s1 s2 eq lt) ⟨o1, o2, he, hr, ?_⟩ room
  exact show (_ ≠ Value.notImplemented) ∧ Q _ s from ⟨(fun x => nomatch x), h⟩
theorem rcLe_tups (hp : s.heap.IsTuple p xs) (hq : s.heap.IsTuple q ys) (room : A.units < cLine)
    (he : ∀ j (a : j < xs.size) (b : j < ys.size), EqAt A.in1 s xs[j] ys[j] (eq j))
    (hr : ∀ j (a : j < xs.size) (b : j < ys.size), (∀ k, k < j → eq k = true) → eq j = false → RcOp .LtE A.in1 s xs[j] ys[j] (lt j)) :
    RcOp .LtE A s (.ref p) (.ref q) (firstLt eq lt (decide (xs.size ≤ ys.size)) (List.range (min xs.size ys.size))) := fun prog w E Q h => by
  obtain ⟨⟨c1, d1, t1, s1⟩, o1, k1, n, e1⟩ := id hp
  obtain ⟨⟨c2, d2, t2, s2⟩, o2, k2, m, e2⟩ := id hq
  simp only at k1 e1 k2 e2
  subst k1 e1 k2 e2
  refine richCompare_meets_room (op := .LtE) ⟨_, o1, rfl⟩ ⟨_, o2, rfl⟩ F.slot_tuple_le F.entry_tuple_le (F.args_tuple_le_2 _ _) (le_tups p q xs ys n m d1 d2 s1 s2 eq lt) ⟨o1, o2, he, hr, ?_⟩ room
  exact show (_ ≠ Value.notImplemented) ∧ Q _ s from ⟨(fun x => nomatch x), h⟩
end

/-! ### of data -/
mutual
def ltD : PyData → PyData → Option Bool
  | .int i, .int j => some (decide (i < j))
  | .str x, .str y => some (decide (x.cps.toList < y.cps.toList))
  | .tuple xs, .tuple ys => ltDs xs ys
  | _, _ => none
def ltDs : List PyData → List PyData → Option Bool
  | [], [] => some false
  | [], _ :: _ => some true
  | _ :: _, [] => some false
  | x :: xs, y :: ys => if PyData.eqv x y = true then ltDs xs ys else ltD x y
end
mutual
def leD : PyData → PyData → Option Bool
  | .int i, .int j => some (decide (i ≤ j))
  | .str x, .str y => some ((!decide (y.cps.toList < x.cps.toList)))
  | .tuple xs, .tuple ys => leDs xs ys
  | _, _ => none
def leDs : List PyData → List PyData → Option Bool
  | [], [] => some true
  | [], _ :: _ => some true
  | _ :: _, [] => some false
  | x :: xs, y :: ys => if PyData.eqv x y = true then leDs xs ys else leD x y
end
theorem first_map (e r : Nat → Bool) (fin : Bool) : ∀ l : List Nat, firstLt e r fin (l.map (· + 1)) = firstLt (fun j => e (j + 1)) (fun j => r (j + 1)) fin l
  | [] => rfl
  | j :: t => by
    rw [List.map_cons]
    unfold firstLt
    rw [first_map e r fin t]
def atD (f : PyData → PyData → Option Bool) (xs ys : List PyData) (j : Nat) : Bool := (f (xs.getD j .none) (ys.getD j .none)).getD false
theorem first_of {f : PyData → PyData → Option Bool} {g : List PyData → List PyData → Option Bool} {c : Nat → Nat → Bool} (c0 : g [] [] = some (c 0 0)) (c1 : ∀ y ys, g [] (y :: ys) = some (c 0 (ys.length + 1)))
    (c2 : ∀ x xs, g (x :: xs) [] = some (c (xs.length + 1) 0)) (c3 : ∀ a b, c (a + 1) (b + 1) = c a b) (gs : ∀ x xs y ys, g (x :: xs) (y :: ys) = if PyData.eqv x y = true then g xs ys else f x y) :
    ∀ (xs ys : List PyData) (k : Bool), g xs ys = some k → firstLt (pairEq xs ys) (atD f xs ys) (c xs.length ys.length) (List.range (min xs.length ys.length)) = k ∧
      ∀ j, j < xs.length → j < ys.length → (∀ i, i < j → pairEq xs ys i = true) → pairEq xs ys j = false → f (xs.getD j .none) (ys.getD j .none) = some (atD f xs ys j)
  | [], [], k, h => by
    rw [c0] at h; cases h
    exact ⟨by simp [firstLt], fun j hj => absurd hj (Nat.not_lt_zero _)⟩
  | [], y :: ys, k, h => by
    rw [c1] at h; cases h
    exact ⟨by simp [firstLt], fun j hj => absurd hj (Nat.not_lt_zero _)⟩
  | x :: xs, [], k, h => by
    rw [c2] at h; cases h
    exact ⟨by simp [firstLt], fun j _ hj => absurd hj (Nat.not_lt_zero _)⟩
  | x :: xs, y :: ys, k, h => by
    rw [gs] at h
    have em : min (x :: xs).length (y :: ys).length = min xs.length ys.length + 1 := by
      rw [List.length_cons, List.length_cons]
      omega
    have ep : (fun j => pairEq (x :: xs) (y :: ys) (j + 1)) = pairEq xs ys := by funext j; simp [pairEq]
    have ea : (fun j => atD f (x :: xs) (y :: ys) (j + 1)) = atD f xs ys := by funext j; simp [atD]
    rw [em, List.range_succ_eq_map]
    have e0 : pairEq (x :: xs) (y :: ys) 0 = PyData.eqv x y := by simp [pairEq]
    by_cases hq : PyData.eqv x y = true
    · rw [if_pos hq] at h
      obtain ⟨h1, h2⟩ := first_of c0 c1 c2 c3 gs xs ys k h
      refine ⟨?_, fun j j1 j2 hall hj => ?_⟩
      · rw [firstLt_yes (by rw [e0]; exact hq)]
        show firstLt _ _ _ ((List.range _).map (· + 1)) = k
        rw [first_map, ep, ea, List.length_cons, List.length_cons, c3]
        exact h1
      · cases j with
        | zero => rw [e0, hq] at hj; cases hj
        | succ j =>
          have z := h2 j (by simpa using j1) (by simpa using j2) (fun i hi => by have := hall (i + 1) (by omega); simpa [pairEq] using this) (by simpa [pairEq] using hj)
          simpa [atD] using z
    · have hq : PyData.eqv x y = false := by simpa using hq
      rw [if_neg (by rw [hq]; exact Bool.false_ne_true)] at h
      refine ⟨?_, fun j j1 j2 hall hj => ?_⟩
      · rw [firstLt_no (by rw [e0]; exact hq)]
        simp [atD, h]
      · cases j with
        | zero => simp [atD, h]
        | succ j =>
          have z := hall 0 (Nat.succ_pos _)
          rw [e0, hq] at z; cases z
theorem first_lt {xs ys : List PyData} {k : Bool} (h : ltDs xs ys = some k) : firstLt (pairEq xs ys) (atD ltD xs ys) (decide (xs.length < ys.length)) (List.range (min xs.length ys.length)) = k ∧
      ∀ j, j < xs.length → j < ys.length → (∀ i, i < j → pairEq xs ys i = true) → pairEq xs ys j = false → ltD (xs.getD j .none) (ys.getD j .none) = some (atD ltD xs ys j) := first_of (f := ltD) (g := ltDs) (c := fun a b => decide (a < b)) (by simp [ltDs]) (by simp [ltDs]) (by simp [ltDs]) (by simp) (by intros; simp [ltDs]) xs ys k h
theorem first_le {xs ys : List PyData} {k : Bool} (h : leDs xs ys = some k) : firstLt (pairEq xs ys) (atD leD xs ys) (decide (xs.length ≤ ys.length)) (List.range (min xs.length ys.length)) = k ∧
      ∀ j, j < xs.length → j < ys.length → (∀ i, i < j → pairEq xs ys i = true) → pairEq xs ys j = false → leD (xs.getD j .none) (ys.getD j .none) = some (atD leD xs ys j) := first_of (f := leD) (g := leDs) (c := fun a b => decide (a ≤ b)) (by simp [leDs]) (by simp [leDs]) (by simp [leDs]) (by simp) (by intros; simp [leDs]) xs ys k h
theorem depth_pos : ∀ d : PyData, (d matches .tuple _) = true → 0 < d.depth
  | .tuple _, _ => by simp [PyData.depth]
theorem reads_at {h : Heap} : ∀ {xs : List PyData} {vs : List Value} {as : List Addr}, ReadsAll h vs xs as → ∀ j (a : j < vs.length), ∃ bs, Reads h vs[j] (xs.getD j .none) bs
  | _, _, _, .nil, j, a => absurd a (Nat.not_lt_zero _)
  | _, _, _, .cons r rs, 0, a => ⟨_, by simpa using r⟩
  | _, _, _, .cons r rs, j + 1, a => by
    obtain ⟨bs, z⟩ := reads_at rs j (by simpa using a)
    exact ⟨bs, by simpa using z⟩
theorem lay_at : ∀ {xs : List PyData}, PyData.canLayAll0 xs = true → ∀ j, (xs.getD j .none).canLay0 = true
  | [], _, j => by simp [PyData.canLay0]
  | x :: xs, h, 0 => by
    have h' : x.canLay0 = true ∧ PyData.canLayAll0 xs = true := by simpa [PyData.canLayAll0] using h
    simpa using h'.1
  | x :: xs, h, j + 1 => by
    have h' : x.canLay0 = true ∧ PyData.canLayAll0 xs = true := by simpa [PyData.canLayAll0] using h
    simpa using lay_at h'.2 j
theorem dep_at : ∀ (xs : List PyData) j, (xs.getD j .none).depth ≤ PyData.depthAll xs
  | [], j => by simp [PyData.depth]
  | x :: xs, 0 => by simp [PyData.depthAll]; omega
  | x :: xs, j + 1 => by
    have := dep_at xs j
    simp [PyData.depthAll]
    simp at this
    omega
theorem rcLtD : ∀ (n : Nat) (da db : PyData) (A : Around) (s : Shared) (a b : Value) (as bs : List Addr) (k : Bool), da.depth ≤ n → Reads s.heap a da as → Reads s.heap b db bs → da.canLay0 = true → db.canLay0 = true → ltD da db = some k →
    A.units + n < cLine → RcLt A s a b k := by
  intro n
  induction n with
  | zero =>
    intro da db A s a b as bs k hn ra rb ca cb hk room
    cases da with
    | int i =>
      cases db with
      | int j =>
        cases ra; cases rb
        have : decide (i < j) = k := by simpa [ltD] using hk
        subst this
        exact fun prog w E Q h => lt_int h
      | _ => simp [ltD] at hk
    | str x =>
      cases db with
      | str y =>
        cases ra; cases rb
        have : decide (x.cps.toList < y.cps.toList) = k := by simpa [ltD] using hk
        subst this
        exact fun prog w E Q h => P.lt_str h
      | _ => simp [ltD] at hk
    | tuple xs => simp [PyData.depth] at hn
    | _ => cases db <;> simp [ltD] at hk
  | succ n ih =>
    intro da db A s a b as bs k hn ra rb ca cb hk room
    cases da with
    | int i =>
      cases db with
      | int j =>
        cases ra; cases rb
        have : decide (i < j) = k := by simpa [ltD] using hk
        subst this
        exact fun prog w E Q h => lt_int h
      | _ => simp [ltD] at hk
    | str x =>
      cases db with
      | str y =>
        cases ra; cases rb
        have : decide (x.cps.toList < y.cps.toList) = k := by simpa [ltD] using hk
        subst this
        exact fun prog w E Q h => P.lt_str h
      | _ => simp [ltD] at hk
    | tuple xs =>
      cases db with
      | tuple ys =>
        have hk' : ltDs xs ys = some k := by simpa [ltD] using hk
        have hd : PyData.depthAll xs ≤ n := by simp [PyData.depth] at hn; omega
        have ca' : PyData.canLayAll0 xs = true := by simpa [PyData.canLay0] using ca
        have cb' : PyData.canLayAll0 ys = true := by simpa [PyData.canLay0] using cb
        cases ra with
        | @tuple l o vs m _ as₁ h1 h2 h3 h4 =>
          cases rb with
          | @tuple l' o' ws m' _ bs₁ k1 k2 k3 k4 =>
            have n1 : vs.size = xs.length := by simpa using ReadsAll.length _ _ _ h4
            have n2 : ws.size = ys.length := by simpa using ReadsAll.length _ _ _ k4
            obtain ⟨f1, f2⟩ := first_lt hk'
            rw [← f1, ← n1, ← n2]
            have rm : A.in1.units + n < cLine := by show A.units + 1 + n < cLine; omega
            refine rcLt_tups ⟨_, h1, h2, _, h3⟩ ⟨_, k1, k2, _, k3⟩ (by omega) (fun j j1 j2 => ?_) fun j j1 j2 all hj => ?_
            · have z := eqAt_readsAll xs ys A.in1 s vs.toList ws.toList _ _ h4 k4 ca' cb' (by omega) j (by simpa using j1) (by simpa using j2)
              simpa using z
            · obtain ⟨b1, r1⟩ := reads_at h4 j (by simpa using j1)
              obtain ⟨b2, r2⟩ := reads_at k4 j (by simpa using j2)
              have z := ih _ _ A.in1 s _ _ _ _ _ (Nat.le_trans (dep_at xs j) hd) r1 r2 (lay_at ca' j) (lay_at cb' j) (f2 j (by omega) (by omega) all hj) rm
              simpa using z
      | _ => simp [ltD] at hk
    | _ => cases db <;> simp [ltD] at hk
theorem rcLeD : ∀ (n : Nat) (da db : PyData) (A : Around) (s : Shared) (a b : Value) (as bs : List Addr) (k : Bool), da.depth ≤ n → Reads s.heap a da as → Reads s.heap b db bs → da.canLay0 = true → db.canLay0 = true → leD da db = some k →
    A.units + n < cLine → RcOp .LtE A s a b k := by
  intro n
  induction n with
  | zero =>
    intro da db A s a b as bs k hn ra rb ca cb hk room
    cases da with
    | int i =>
      cases db with
      | int j =>
        cases ra; cases rb
        have : decide (i ≤ j) = k := by simpa [leD] using hk
        subst this
        exact fun prog w E Q h => le_int h
      | _ => simp [leD] at hk
    | str x =>
      cases db with
      | str y =>
        cases ra; cases rb
        have : (!decide (y.cps.toList < x.cps.toList)) = k := by simpa [leD] using hk
        subst this
        exact fun prog w E Q h => P.le_str h
      | _ => simp [leD] at hk
    | tuple xs => simp [PyData.depth] at hn
    | _ => cases db <;> simp [leD] at hk
  | succ n ih =>
    intro da db A s a b as bs k hn ra rb ca cb hk room
    cases da with
    | int i =>
      cases db with
      | int j =>
        cases ra; cases rb
        have : decide (i ≤ j) = k := by simpa [leD] using hk
        subst this
        exact fun prog w E Q h => le_int h
      | _ => simp [leD] at hk
    | str x =>
      cases db with
      | str y =>
        cases ra; cases rb
        have : (!decide (y.cps.toList < x.cps.toList)) = k := by simpa [leD] using hk
        subst this
        exact fun prog w E Q h => P.le_str h
      | _ => simp [leD] at hk
    | tuple xs =>
      cases db with
      | tuple ys =>
        have hk' : leDs xs ys = some k := by simpa [leD] using hk
        have hd : PyData.depthAll xs ≤ n := by simp [PyData.depth] at hn; omega
        have ca' : PyData.canLayAll0 xs = true := by simpa [PyData.canLay0] using ca
        have cb' : PyData.canLayAll0 ys = true := by simpa [PyData.canLay0] using cb
        cases ra with
        | @tuple l o vs m _ as₁ h1 h2 h3 h4 =>
          cases rb with
          | @tuple l' o' ws m' _ bs₁ k1 k2 k3 k4 =>
            have n1 : vs.size = xs.length := by simpa using ReadsAll.length _ _ _ h4
            have n2 : ws.size = ys.length := by simpa using ReadsAll.length _ _ _ k4
            obtain ⟨f1, f2⟩ := first_le hk'
            rw [← f1, ← n1, ← n2]
            have rm : A.in1.units + n < cLine := by show A.units + 1 + n < cLine; omega
            refine rcLe_tups ⟨_, h1, h2, _, h3⟩ ⟨_, k1, k2, _, k3⟩ (by omega) (fun j j1 j2 => ?_) fun j j1 j2 all hj => ?_
            · have z := eqAt_readsAll xs ys A.in1 s vs.toList ws.toList _ _ h4 k4 ca' cb' (by omega) j (by simpa using j1) (by simpa using j2)
              simpa using z
            · obtain ⟨b1, r1⟩ := reads_at h4 j (by simpa using j1)
              obtain ⟨b2, r2⟩ := reads_at k4 j (by simpa using j2)
              have z := ih _ _ A.in1 s _ _ _ _ _ (Nat.le_trans (dep_at xs j) hd) r1 r2 (lay_at ca' j) (lay_at cb' j) (f2 j (by omega) (by omega) all hj) rm
              simpa using z
      | _ => simp [leD] at hk
    | _ => cases db <;> simp [leD] at hk
end ZL

namespace ZL
open PySem PySem.Spec PyProof.Rows L2
/-! ### tuple * 0, tuple * 1 -/
theorem tuple_mul0 (l : Addr) (items : Array Value) (n : Nat) (dd : Option Addr) (sl : Array (Option Value)) (x : Int) (u : Tok) (c0 : (decide (x < -(2 ^ 63)) || decide (x ≥ 2 ^ 63)) = false) (c1 : (items.isEmpty || x == 1) = false) (c2 : (decide (x ≤ 0) || items.isEmpty) = true) :
    Meets (Builtin.«tuple.__mul__» ⟨[.ref l, .int x u], []⟩) (fun _ R s => s.heap.get? l = some { cls := .type "tuple", dict := dd, data := .seq items n, slots := sl } ∧
      R (.ok (.ret (Value.ref s.heap.objs.size))) { s with heap := s.heap.push { cls := Value.type "tuple", data := Data.seq #[] }, toks := s.toks }) :=
  .of_wp fun prog w A R s h => by
    obtain ⟨hp, g, d, tk, os⟩ := s
    obtain ⟨hl, h⟩ := h
    have f1 := AutoSeq1.idx_int
    wp_walk using wpAny_loadPart' hl
    repeat (first
      | (refine wpAny_ite_false (decide_eq_false (by rw [c0]; exact Bool.false_ne_true)) ?_; wp_walk using wpAny_loadPart' hl)
      | (refine wpAny_ite_false (decide_eq_false (by rw [c1]; exact Bool.false_ne_true)) ?_; wp_walk using wpAny_loadPart' hl)
      | (refine wpAny_ite_true (decide_eq_true c2) ?_; wp_walk using wpAny_loadPart' hl))
    exact ⟨_, rfl, h⟩
theorem tuple_mul1 (l : Addr) (items : Array Value) (n : Nat) (dd : Option Addr) (sl : Array (Option Value)) (x : Int) (u : Tok) (c0 : (decide (x < -(2 ^ 63)) || decide (x ≥ 2 ^ 63)) = false) (c1 : (items.isEmpty || x == 1) = true) :
    Meets (Builtin.«tuple.__mul__» ⟨[.ref l, .int x u], []⟩) (fun _ R s => s.heap.get? l = some { cls := .type "tuple", dict := dd, data := .seq items n, slots := sl } ∧
      R (.ok (.ret (Value.ref l))) s) :=
  .of_wp fun prog w A R s h => by
    obtain ⟨hp, g, d, tk, os⟩ := s
    obtain ⟨hl, h⟩ := h
    have f1 := AutoSeq1.idx_int
    wp_walk using wpAny_loadPart' hl
    repeat (first
      | (refine wpAny_ite_false (decide_eq_false (by rw [c0]; exact Bool.false_ne_true)) ?_; wp_walk using wpAny_loadPart' hl)
      | (refine wpAny_ite_true (decide_eq_true c1) ?_; wp_walk using wpAny_loadPart' hl))
    exact ⟨_, rfl, h⟩
def rRepT0 (K : PySem.W.Frag) : R2 := fun x y H Q => ∃ l k xs, x = .ref l ∧ y = .int k ∧ SqT K H l xs ∧ xs ≠ [] ∧ -1000 ≤ k ∧ k ≤ 0 ∧ ∀ p H', H p = none → ZTS.LaidT ZL.keyV H p [] H' → Q (.ref p) H'
def rRepT1 (K : PySem.W.Frag) : R2 := fun x y H Q => ∃ l xs, x = .ref l ∧ y = .int 1 ∧ SqT K H l xs ∧ Q (.ref l) H
section
variable {X : Cx}
theorem op_repT0 : OpR X (binaryOp .Mult) (rRepT0 X.K) := by
  intro pins s σ H x y v u Q I rx ry h
  obtain ⟨l, k, xs, rfl, rfl, hT, hne, h1, h2, q⟩ := h
  cases rx
  obtain ⟨t, rfl⟩ := ry
  obtain ⟨its, r, ⟨⟨cls, dd, data, sl⟩, ho, hc, n, hd⟩, hs⟩ := I.tuple hT
  simp only at hc hd
  subst hc hd
  have hle : its.length = xs.length := r.length.symm
  have hn : its ≠ [] := fun e => hne (by
    rw [e] at hle
    exact List.eq_nil_of_length_eq_zero hle.symm)
  have hi : its.toArray.isEmpty = false := by
    cases its with
    | nil => exact absurd rfl hn
    | cons a b => rfl
  have c0 : (decide (k < -(2 ^ 63)) || decide (k ≥ 2 ^ 63)) = false := by
    rw [decide_eq_false (by omega), decide_eq_false (by omega)] <;> rfl
  have c1 : (its.toArray.isEmpty || k == 1) = false := by
    rw [hi, Bool.false_or]
    exact beq_eq_false_iff_ne.mpr (by omega)
  have c2 : (decide (k ≤ 0) || its.toArray.isEmpty) = true := by
    rw [hi, Bool.or_false]
    exact decide_eq_true (by omega)
  refine wpAny_binaryOp_repeat_ref (T := "tuple") (U := "int") (by decide) ⟨_, ho, rfl⟩ (fun s' => typeIs_int s' k t) noFill_tuple_mul F.fills_int_mul F.slot_int_rmul repeat_tuple F.slot_int_index.lookup
    (call_meets F.slot_int_rmul (typeIs_int s k t) F.entry_int_rmul (F.args_int_rmul_2 _ _) (int_rmul_tuple k t l its.toArray n dd sl)
      ⟨ho, rfl, ⟨_, ho, rfl⟩, call_meets F.slot_tuple_mul ⟨_, ho, rfl⟩ F.entry_tuple_mul (F.args_tuple_mul_2 _ _) (tuple_mul0 l its.toArray n dd sl k t c0 c1 c2) ⟨ho, ?_⟩⟩)
  obtain ⟨H', la, J⟩ := ZTS.laid_inv (tk := s.toks) (p := s.heap.objs.size) ZL.keyV I (its := []) (xs := []) (fun b ob q => Heap.get?_push_of_some _ q) (Nat.le_refl _) (Heap.get?_push_size _ rfl) .nil (Nat.zero_le _)
  exact ⟨.ref s.heap.objs.size, H', J, rfl, q _ H' (I.hok.fresh (Nat.le_refl _)) la⟩
/-- t * k, k at least 2 -/
def rRepS (K : PySem.W.Frag) : R2 := fun x y H Q => ∃ l k xs, x = .ref l ∧ y = .int k ∧ SqT K H l xs ∧ xs ≠ [] ∧ 2 ≤ k ∧ k ≤ 1000 ∧ xs.length ≤ 1000 ∧ ∀ p H', H p = none → ZTS.LaidT ZL.keyV H p (List.replicate k.toNat xs).flatten H' → Q (.ref p) H'
theorem op_repS : OpR X (binaryOp .Mult) (rRepS X.K) := by
  intro pins s σ H x y v u Q I rx ry h
  obtain ⟨l, k, xs, rfl, rfl, hT, hne, h1, h2, hz, q⟩ := h
  cases rx
  obtain ⟨t, rfl⟩ := ry
  obtain ⟨its, r, ⟨⟨cls, dd, data, sl⟩, ho, hc, n, hd⟩, hs⟩ := I.tuple hT
  simp only at hc hd
  subst hc hd
  have le : its.length = xs.length := r.length.symm
  have em : its.toArray.isEmpty = false := by
    cases its with
    | nil => exact absurd (List.eq_nil_of_length_eq_zero le.symm) hne
    | cons a b => rfl
  have sz : its.toArray.size = xs.length := by rw [List.size_toArray, le]
  have prod : k.toNat * xs.length ≤ 1000 * 1000 := Nat.mul_le_mul (by omega) hz
  have prodI : ((its.toArray.size : Nat) : Int) * k ≤ 1000000 := by
    have : ((xs.length : Nat) : Int) * k ≤ 1000 * k := Int.mul_le_mul_of_nonneg_right (by omega) (by omega)
    rw [sz]; omega
  have lim : (List.replicate k.toNat its).flatten.length ≤ sizeLine := by
    rw [PyProof.Rows.lm_len_rep_flat, le, sizeLine_eq]; omega
  have lim2 : (List.replicate k.toNat xs).flatten.length ≤ sizeLine := by
    rw [PyProof.Rows.lm_len_rep_flat, sizeLine_eq]; omega
  have d0 : (decide (k < -(2 ^ 63)) || decide (k ≥ 2 ^ 63)) = false := by simp; omega
  have d1 : (its.toArray.isEmpty || k == 1) = false := by rw [em, Bool.false_or]; exact beq_eq_false_iff_ne.mpr (by omega)
  have d2 : (decide (k ≤ 0) || its.toArray.isEmpty) = false := by rw [em, Bool.or_false]; exact decide_eq_false (by omega)
  have d4 : Builtin.Tuple.tupleTooMany (((its.toArray.size : Nat) : Int) * k) = false := by
    unfold Builtin.Tuple.tupleTooMany; rw [sizeLine_eq]; exact decide_eq_false (by omega)
  have T1 : s.TypeIs (.ref l) "tuple" := ⟨_, ho, rfl⟩
  have M := tuple_mulW l its.toArray n dd sl k t d0 d1 d2 (by omega) d4 (by rw [size_rep, List.size_toArray]; exact lim)
  refine wpAny_binaryOp_repeat_ref (T := "tuple") (U := "int") (by decide) T1 (fun s' => typeIs_int s' k t) noFill_tuple_mul F.fills_int_mul F.slot_int_rmul repeat_tuple F.slot_int_index.lookup
    (call_meets F.slot_int_rmul (typeIs_int s k t) F.entry_int_rmul (F.args_int_rmul_2 _ _) (int_rmul_tuple k t l its.toArray n dd sl) ⟨ho, rfl, T1, call_meets F.slot_tuple_mul T1 F.entry_tuple_mul (F.args_tuple_mul_2 _ _) M ⟨ho, ?_⟩⟩)
  rw [size_rep]
  obtain ⟨H', la, J⟩ := ZTS.laid_inv (tk := s.toks) (p := s.heap.objs.size) ZL.keyV I (fun b ob q => Heap.get?_push_of_some _ q) (Nat.le_refl _) (Heap.get?_push_size _ rfl) (r.rep k.toNat) lim2
  exact ⟨.ref s.heap.objs.size, H', J, rfl, q _ H' (I.hok.fresh (Nat.le_refl _)) la⟩
theorem op_repT1 : OpR X (binaryOp .Mult) (rRepT1 X.K) := by
  intro pins s σ H x y v u Q I rx ry h
  obtain ⟨l, xs, rfl, rfl, hT, q⟩ := h
  cases rx
  obtain ⟨t, rfl⟩ := ry
  obtain ⟨its, r, ⟨⟨cls, dd, data, sl⟩, ho, hc, n, hd⟩, hs⟩ := I.tuple hT
  simp only at hc hd
  subst hc hd
  refine wpAny_binaryOp_repeat_ref (T := "tuple") (U := "int") (by decide) ⟨_, ho, rfl⟩ (fun s' => typeIs_int s' 1 t) noFill_tuple_mul F.fills_int_mul F.slot_int_rmul repeat_tuple F.slot_int_index.lookup
    (call_meets F.slot_int_rmul (typeIs_int s 1 t) F.entry_int_rmul (F.args_int_rmul_2 _ _) (int_rmul_tuple 1 t l its.toArray n dd sl)
      ⟨ho, rfl, ⟨_, ho, rfl⟩, call_meets F.slot_tuple_mul ⟨_, ho, rfl⟩ F.entry_tuple_mul (F.args_tuple_mul_2 _ _) (tuple_mul1 l its.toArray n dd sl 1 t (by decide) (by simp)) ⟨ho, ?_⟩⟩)
  exact ⟨.ref l, H, I, rfl, q⟩
end
end ZL

namespace ZL
open PySem PySem.Spec PyProof.Rows L2

/-! ### data -/
mutual
def Z.toD : Z → PyData
  | .non => .none
  | .bl b => .bool b
  | .int i => .int i
  | .str x => .str x
  | .tup zs => .tuple (Z.toDs zs)
  | .scr ns => .list (ns.map PyData.int)
  | .ref _ => .dict []
  | .err _ => .dict []
def Z.toDs : List Z → List PyData
  | [] => []
  | z :: zs => Z.toD z :: Z.toDs zs
end
theorem toDs_map : ∀ zs : List Z, Z.toDs zs = zs.map Z.toD
  | [] => rfl
  | z :: zs => by unfold Z.toDs; rw [toDs_map zs, List.map_cons]
def dL (d : Z → PyData) (h : ZH) : Z → PyData
  | .ref n => match h[n]? with
    | some (.lst zs) => .list (zs.map d)
    | _ => .dict []
  | z => z.toD
theorem dL_lst {d : Z → PyData} {h : ZH} {n : Nat} {zs : List Z} (e : h[n]? = some (.lst zs)) : dL d h (.ref n) = .list (zs.map d) := by unfold dL; simp only [e]
abbrev dOf (h : ZH) : Z → PyData := dL (dL Z.toD h) h
section
variable {K : PySem.W.Frag} {mg : Str → Option Value} {μ : List Addr} {H : Hp} {h : ZH}
theorem dpAll_ints : ∀ ns : List Int, DpAll K H (ns.map V.int) (ns.map PyData.int)
  | [] => .nil
  | n :: ns => .cons (.int n) (dpAll_ints ns)
mutual
theorem dp_of : ∀ {z : Z} {v : V}, (z.toD).canLay0 = true → RepV K μ H z v → Dp K H v z.toD
  | .non, v, _, r => by unfold RepV at r; subst r; exact .non
  | .bl b, v, _, r => by unfold RepV at r; subst r; exact .bl b
  | .int i, v, _, r => by unfold RepV at r; subst r; exact .int i
  | .str x, v, _, r => by unfold RepV at r; subst r; exact .str x
  | .tup zs, v, c, r => by
    unfold RepV at r
    obtain ⟨a, vs, rfl, t, r⟩ := r
    unfold Z.toD at c ⊢
    exact .tup t.sq (dps_of (by simpa [PyData.canLay0] using c) r)
  | .scr ns, v, c, r => by
    unfold RepV at r
    obtain ⟨a, rfl, r⟩ := r
    unfold Z.toD
    refine .lst ?_ (dpAll_ints ns)
    rcases r with ⟨o, e⟩ | e
    · exact .inl (.inr ⟨o, e⟩)
    · exact .inr e
  | .ref n, v, c, r => by unfold Z.toD at c; simp [PyData.canLay0] at c
theorem dps_of : ∀ {zs : List Z} {vs : List V}, PyData.canLayAll0 (Z.toDs zs) = true → RepVs K μ H zs vs → DpAll K H vs (Z.toDs zs)
  | [], vs, _, r => by unfold RepVs at r; subst r; exact .nil
  | z :: zs, vs, c, r => by
    unfold RepVs at r
    obtain ⟨v, w, rfl, r1, r2⟩ := r
    unfold Z.toDs at c ⊢
    have c' : (z.toD).canLay0 = true ∧ PyData.canLayAll0 (Z.toDs zs) = true := by simpa [PyData.canLayAll0] using c
    exact .cons (dp_of c'.1 r1) (dps_of c'.2 r2)
end
theorem dpl_of {d : Z → PyData} (R : RelH K mg μ H h) (hd : ∀ z v, (d z).canLay0 = true → RepV K μ H z v → Dp K H v (d z)) : ∀ {z : Z} {v : V}, (dL d h z).canLay0 = true → RepV K μ H z v → Dp K H v (dL d h z) := by
  intro z v c r
  unfold dL at c ⊢
  split at c
  · rename_i n
    split at c
    · rename_i zs e
      obtain ⟨a, ha, o⟩ := R.at e
      obtain ⟨vs, e1, rv⟩ := o
      unfold RepV at r
      obtain ⟨b, rfl, hb⟩ := r
      rw [ha] at hb; cases hb

      refine .lst (SqL.of e1) ?_
      have c2 : PyData.canLayAll0 (zs.map d) = true := by simpa [PyData.canLay0] using c
      clear e c ha e1
      induction zs generalizing vs with
      | nil => unfold RepVs at rv; subst rv; exact .nil
      | cons z zs ih =>
        unfold RepVs at rv
        obtain ⟨v, w, rfl, r1, r2⟩ := rv
        have c' : (d z).canLay0 = true ∧ PyData.canLayAll0 (zs.map d) = true := by simpa [PyData.canLayAll0] using c2
        exact .cons (hd z v c'.1 r1) (ih _ r2 c'.2)
    · simp [PyData.canLay0] at c
  · exact dp_of c r
theorem dpo_of (R : RelH K mg μ H h) {z : Z} {v : V} (c : (dOf h z).canLay0 = true) (r : RepV K μ H z v) : Dp K H v (dOf h z) :=
  dpl_of R (fun z v c r => dpl_of R (fun z v c r => dp_of c r) c r) c r
end


/-! ### operators by values -/
section
variable {X : Cx}
theorem rep_bl {K : PySem.W.Frag} {μ : List Addr} {H : Hp} {b : Bool} : RepV K μ H (.bl b) (.bl b) := by unfold RepV; rfl
theorem rep_int {K : PySem.W.Frag} {μ : List Addr} {H : Hp} {i : Int} : RepV K μ H (.int i) (.int i) := by unfold RepV; rfl
theorem rep_str {K : PySem.W.Frag} {μ : List Addr} {H : Hp} {x : Str} : RepV K μ H (.str x) (.str x) := by unfold RepV; rfl
theorem rep_non {K : PySem.W.Frag} {μ : List Addr} {H : Hp} : RepV K μ H .non .non := by unfold RepV; rfl
theorem of_int {K : PySem.W.Frag} {μ : List Addr} {H : Hp} {i : Int} {v : V} (r : RepV K μ H (.int i) v) : v = .int i := by unfold RepV at r; exact r
theorem of_str {K : PySem.W.Frag} {μ : List Addr} {H : Hp} {i : Str} {v : V} (r : RepV K μ H (.str i) v) : v = .str i := by unfold RepV at r; exact r
theorem of_bl {K : PySem.W.Frag} {μ : List Addr} {H : Hp} {i : Bool} {v : V} (r : RepV K μ H (.bl i) v) : v = .bl i := by unfold RepV at r; exact r
theorem of_non {K : PySem.W.Frag} {μ : List Addr} {H : Hp} {v : V} (r : RepV K μ H .non v) : v = .non := by unfold RepV at r; exact r
theorem of_tup {K : PySem.W.Frag} {μ : List Addr} {H : Hp} {zs : List Z} {v : V} (r : RepV K μ H (.tup zs) v) : ∃ a vs, v = .ref a ∧ TupA K H a vs ∧ RepVs K μ H zs vs := by unfold RepV at r; exact r
theorem of_ref {K : PySem.W.Frag} {μ : List Addr} {H : Hp} {n : Nat} {v : V} (r : RepV K μ H (.ref n) v) : ∃ a, v = .ref a ∧ μ[n]? = some a := by unfold RepV at r; exact r
theorem of_lst {K : PySem.W.Frag} {mg : Str → Option Value} {μ : List Addr} {H : Hp} {h : ZH} {n : Nat} {zs : List Z} {v : V} (R : RelH K mg μ H h) (e : h[n]? = some (.lst zs)) (r : RepV K μ H (.ref n) v) :
    ∃ a vs, v = .ref a ∧ μ[n]? = some a ∧ H a = some (.lst vs) ∧ RepVs K μ H zs vs := by
  obtain ⟨a, rfl, ha⟩ := of_ref r
  obtain ⟨b, hb, vs, e1, rv⟩ := R.at e
  rw [ha] at hb; cases hb
  exact ⟨a, vs, rfl, ha, e1, rv⟩

/-- a pure answer -/
theorem Fol.here {K : PySem.W.Frag} {mg : Str → Option Value} {μ : List Addr} {H : Hp} {h : ZH} {P : PZ} {Q : VK} (f : Fol K mg μ H P Q) (R : RelH K mg μ H h) {z : Z} {v : V} (p : P z h) (r : RepV K μ H z v) : Q v H := f z h μ H v p (Ext.refl _ _) R r

def oAdd : Z2 := fun a b h P => match a, b with
  | .int i, .int j => P (.int (i + j)) h
  | .str x, .str y => x.length + y.length ≤ sizeLine ∧ P (.str (x ++ y)) h
  | .tup xs, .tup ys => xs.length + ys.length ≤ sizeLine ∧ P (.tup (xs ++ ys)) h
  | .ref n, .ref m => (match h[n]?, h[m]? with
    | some (.lst xs), some (.lst ys) => xs.length + ys.length ≤ sizeLine ∧ P (.ref h.length) (h ++ [.lst (xs ++ ys)])
    | _, _ => False)
  | .int i, .bl k => P (.int (i + b2i k)) h
  | _, _ => False
theorem op_addZ : OpZ X (binaryOp .Add) oAdd := by
  refine ⟨_, op_add.or (op_add_str.or ((ZTS.op_catS (kl := keyV)).or (op_cat.or op_add_ib))), fun μ H h a b x y P Q R ra rb o f => ?_⟩
  unfold oAdd at o
  split at o
  · cases of_int ra; cases of_int rb
    exact .inl ⟨_, _, rfl, rfl, f.here R o rep_int⟩
  · cases of_str ra; cases of_str rb
    exact .inr (.inl ⟨_, _, rfl, rfl, o.1, f.here R o.2 rep_str⟩)
  · obtain ⟨p, vs, rfl, t, r⟩ := of_tup ra
    obtain ⟨q, ws, rfl, t', r'⟩ := of_tup rb
    obtain ⟨l, o⟩ := o
    refine .inr (.inr (.inl ⟨p, q, vs, ws, rfl, rfl, t.sq, t'.sq, by rw [← r.length, ← r'.length]; exact l, fun e => ?_, fun _ e => ?_, fun _ _ => fol_tup R (r.append r') o f⟩))
    · refine f.here R o ?_
      have : _ = ([] : List Z) := List.eq_nil_of_length_eq_zero (by rw [r.length, e]; rfl)
      subst this
      unfold RepV; exact ⟨q, ws, rfl, t', r'⟩
    · refine f.here R o ?_
      have : _ = ([] : List Z) := List.eq_nil_of_length_eq_zero (by rw [r'.length, e]; rfl)
      subst this
      rw [List.append_nil]
      unfold RepV; exact ⟨p, vs, rfl, t, r⟩
  · split at o
    · rename_i e1 e2
      obtain ⟨p, vs, rfl, _, hp, r⟩ := of_lst R e1 ra
      obtain ⟨q, ws, rfl, _, hq, r'⟩ := of_lst R e2 rb
      exact .inr (.inr (.inr (.inl ⟨p, q, vs, ws, rfl, rfl, hp, hq, by rw [← r.length, ← r'.length]; exact o.1, fol_lst R (r.append r') o.2 f⟩)))
    · exact o.elim
  · cases of_int ra; cases of_bl rb
    exact .inr (.inr (.inr (.inr ⟨_, _, rfl, rfl, f.here R o rep_int⟩)))
  · exact o.elim
def oSub : Z2 := fun a b h P => match a, b with
  | .int i, .int j => P (.int (i - j)) h
  | _, _ => False
theorem op_subZ : OpZ X (binaryOp .Sub) oSub := by
  refine ⟨_, op_sub, fun μ H h a b x y P Q R ra rb o f => ?_⟩
  unfold oSub at o
  split at o
  · cases of_int ra; cases of_int rb
    exact ⟨_, _, rfl, rfl, f.here R o rep_int⟩
  · exact o.elim

/-- a rule of an operator over two known values -/
theorem opz_of {f : Value → Value → Sem Value} {o : Z2} {r : R2} (ho : OpR X f r) (h : ∀ μ H h a b x y P Q, RelH X.K X.mg μ H h → RepV X.K μ H a x → RepV X.K μ H b y → o a b h P → Fol X.K X.mg μ H P Q → r x y H Q) : OpZ X f o := ⟨r, ho, h⟩

/-- s * n -/
theorem op_mul_str : OpR X (binaryOp .Mult) (fun x y H Q => ∃ (z : Str) (n : Int), x = .str z ∧ y = .int n ∧ 0 ≤ n ∧ z.length * n.toNat ≤ sizeLine ∧ n < 2 ^ 62 ∧ Q (.str ⟨(List.replicate n.toNat z.cps.toList).flatten.toArray⟩) H) := by
  intro pins s σ H x y v u Q I rx ry h
  obtain ⟨z, n, rfl, rfl, h0, hz, h62, q⟩ := h
  obtain ⟨t, rfl⟩ := rx
  obtain ⟨t', rfl⟩ := ry
  have sl : (sizeLine : Nat) = 16777216 := sizeLine_eq
  have fl : ∀ (k : Nat), (List.replicate k z.cps).foldl (· ++ ·) #[] = (List.replicate k z.cps.toList).flatten.toArray := fun k => by
    have gen : ∀ (k : Nat) (acc : Array Nat), (List.replicate k z.cps).foldl (· ++ ·) acc = (acc.toList ++ (List.replicate k z.cps.toList).flatten).toArray := by
      intro k
      induction k with
      | zero => intro acc; simp
      | succ k ih =>
        intro acc
        rw [List.replicate_succ, List.foldl_cons, ih, List.replicate_succ, List.flatten_cons]
        simp
    have := gen k #[]
    simpa using this
  refine PySem.P.mul_str (by simp; omega) (fun h1 _ => ?_) (fun h1 _ => ?_) ?_
  · have hn : 1 ≤ n := by omega
    intro hgt
    have e1 : (z.length : Int) * n ≤ (sizeLine : Int) := by
      have e2 : ((z.length * n.toNat : Nat) : Int) ≤ (sizeLine : Int) := by exact_mod_cast hz
      rw [Int.natCast_mul, Int.toNat_of_nonneg h0] at e2
      exact e2
    have e3 : (z.length : Int) ≤ (2 ^ 63 - 1) / n := by
      rw [Int.le_ediv_iff_mul_le (by omega)]
      omega
    omega
  · unfold Builtin.Str.tooLong
    simp
    omega
  · by_cases h1 : n < 1
    · rw [if_pos h1]
      have : n = 0 := by omega
      subst this
      exact ⟨by decide, .str _, H, I.tok _, ⟨_, rfl⟩, by simpa [Str.empty] using q⟩
    · rw [if_neg h1]
      by_cases h2 : (n == 1 || z.length == 0) = true
      · rw [if_pos h2]
        refine ⟨.str z, H, I, ⟨_, rfl⟩, ?_⟩
        have e : (⟨(List.replicate n.toNat z.cps.toList).flatten.toArray⟩ : Str) = z := by
          simp only [Bool.or_eq_true, beq_iff_eq] at h2
          rcases h2 with h2 | h2
          · subst h2; simp
          · have : z.cps = #[] := Array.eq_empty_of_size_eq_zero h2
            obtain ⟨c⟩ := z
            simp at this
            subst this
            simp
        rw [e] at q
        exact q
      · rw [if_neg h2]
        refine ⟨?_, .str _, H, I.tok _, ⟨_, rfl⟩, ?_⟩
        · rw [fl]
          show (List.replicate n.toNat z.cps.toList).flatten.toArray.size ≤ sizeLine
          rw [List.size_toArray, List.length_flatten, List.map_replicate, List.sum_replicate_nat]
          have : z.cps.toList.length = z.length := by simp [Str.length]
          rw [this, Nat.mul_comm]
          exact hz
        · rw [fl]
          exact q

def strRep (z : Str) (n : Nat) : Str := ⟨(List.replicate n z.cps.toList).flatten.toArray⟩
def oMul : Z2 := fun a b h P => match a, b with
  | .int i, .int j => CMul i j ∧ P (.int (i * j)) h
  | .str x, .int n => 0 ≤ n ∧ x.length * n.toNat ≤ sizeLine ∧ n < 2 ^ 62 ∧ P (.str (strRep x n.toNat)) h
  | .ref m, .int n => (match h[m]? with
    | some (.lst xs) => 0 ≤ n ∧ n < 2 ^ 62 ∧ xs.length * n.toNat ≤ sizeLine ∧ P (.ref h.length) (h ++ [.lst (List.replicate n.toNat xs).flatten])
    | _ => False)
  | .tup xs, .int n => xs ≠ [] ∧ 0 ≤ n ∧ n ≤ 1000 ∧ xs.length ≤ 1000 ∧ P (.tup (List.replicate n.toNat xs).flatten) h
  | _, _ => False
theorem RepVs.rep {K : PySem.W.Frag} {μ : List Addr} {H : Hp} {zs : List Z} {vs : List V} (r : RepVs K μ H zs vs) : ∀ n : Nat, RepVs K μ H (List.replicate n zs).flatten (List.replicate n vs).flatten
  | 0 => by simpa using RepVs.nil
  | n + 1 => by
    rw [List.replicate_succ, List.replicate_succ, List.flatten_cons, List.flatten_cons]
    exact r.append (RepVs.rep r n)
theorem op_mulZ : OpZ X (binaryOp .Mult) oMul := by
  refine ⟨_, op_mul.or (op_mul_str.or (op_rep.or (op_repS.or (op_repT0.or op_repT1)))), fun μ H h a b x y P Q R ra rb o f => ?_⟩
  unfold oMul at o
  split at o
  · cases of_int ra; cases of_int rb
    exact .inl ⟨_, _, rfl, rfl, o.1, f.here R o.2 rep_int⟩
  · cases of_str ra; cases of_int rb
    exact .inr (.inl ⟨_, _, rfl, rfl, o.1, o.2.1, o.2.2.1, f.here R o.2.2.2 rep_str⟩)
  · split at o
    · rename_i e1
      obtain ⟨p, vs, rfl, _, hp, r⟩ := of_lst R e1 ra
      cases of_int rb
      obtain ⟨o1, o2, o3, o4⟩ := o
      exact .inr (.inr (.inl ⟨p, _, vs, rfl, rfl, hp, by omega, by omega, by rw [← r.length]; exact o3, fol_lst R (r.rep _) o4 f⟩))
    · exact o.elim
  · obtain ⟨p, vs, rfl, t, r⟩ := of_tup ra
    cases of_int rb
    obtain ⟨o1, o2, o3, o4, o5⟩ := o
    have hl := r.length
    have hne : vs ≠ [] := fun e => o1 (by rw [e] at hl; exact List.eq_nil_of_length_eq_zero hl)
    rename_i xs n
    by_cases h2 : 2 ≤ n
    · exact .inr (.inr (.inr (.inl ⟨p, _, vs, rfl, rfl, t.sq, hne, h2, o3, by rw [← hl]; exact o4, fol_tup R (r.rep _) o5 f⟩)))
    · by_cases h1 : n = 1
      · subst h1
        have o5 : P (.tup xs) h := by simpa using o5
        exact .inr (.inr (.inr (.inr (.inr ⟨p, vs, rfl, rfl, t.sq, f.here R o5 ra⟩))))
      · have h0 : n = 0 := by omega
        subst h0
        have o5 : P (.tup []) h := by simpa using o5
        exact .inr (.inr (.inr (.inr (.inl ⟨p, _, vs, rfl, rfl, t.sq, hne, by omega, by omega, fol_tup R RepVs.nil o5 f⟩))))
  · exact o.elim
def oMod : Z2 := fun a b h P => match a, b with
  | .int i, .int j => 0 < j ∧ P (.int (i % j)) h
  | _, _ => False
theorem op_modZ : OpZ X (binaryOp .Mod) oMod := by
  refine ⟨_, op_mod, fun μ H h a b x y P Q R ra rb o f => ?_⟩
  unfold oMod at o
  split at o
  · cases of_int ra; cases of_int rb
    exact ⟨_, _, rfl, rfl, o.1, f.here R o.2 rep_int⟩
  · exact o.elim
def oFdiv : Z2 := fun a b h P => match a, b with
  | .int i, .int j => CDiv i j ∧ P (.int (i / j)) h
  | _, _ => False
theorem op_fdivZ : OpZ X (binaryOp .FloorDiv) oFdiv := by
  refine ⟨_, op_fdiv, fun μ H h a b x y P Q R ra rb o f => ?_⟩
  unfold oFdiv at o
  split at o
  · cases of_int ra; cases of_int rb
    exact ⟨_, _, rfl, rfl, o.1, f.here R o.2 rep_int⟩
  · exact o.elim
def oPow : Z2 := fun a b h P => match a, b with
  | .int i, .int j => CPow i j ∧ P (.int (i ^ j.toNat)) h
  | _, _ => False
theorem op_powZ : OpZ X (binaryOp .Pow) oPow := by
  refine ⟨_, op_pow, fun μ H h a b x y P Q R ra rb o f => ?_⟩
  unfold oPow at o
  split at o
  · cases of_int ra; cases of_int rb
    exact ⟨_, _, rfl, rfl, o.1, f.here R o.2 rep_int⟩
  · exact o.elim

/-! comparisons -/
abbrev okD (h : ZH) (z : Z) : Prop := SeqAt.shaped (dOf h z) = true
def zEqB (h : ZH) (a b : Z) : Bool := PyData.eqv (dOf h a) (dOf h b)
def oEq : Z2 := fun a b h P => match a, b with
  | .int i, .int j => P (.bl (decide (i = j))) h
  | .str i, .str j => P (.bl (decide (i = j))) h
  | .bl i, .bl j => P (.bl (decide (i = j))) h
  | a, b => okD h a ∧ okD h b ∧ P (.bl (zEqB h a b)) h
def oNe : Z2 := fun a b h P => match a, b with
  | .int i, .int j => P (.bl (!decide (i = j))) h
  | .str i, .str j => P (.bl (!decide (i = j))) h
  | .bl i, .bl j => P (.bl (!decide (i = j))) h
  | a, b => okD h a ∧ okD h b ∧ P (.bl (!zEqB h a b)) h
theorem dec_int' {i j : Int} : decide (V.int i = V.int j) = decide (i = j) := by rw [dec_int, Bool.beq_eq_decide_eq]
theorem dec_str' {i j : Str} : decide (V.str i = V.str j) = decide (i = j) := by rw [dec_str, Bool.beq_eq_decide_eq]
theorem dec_bl' {i j : Bool} : decide (V.bl i = V.bl j) = decide (i = j) := by rw [dec_bl, Bool.beq_eq_decide_eq]
theorem op_eqZ (hu : X.A.units + 64 < cLine) : OpZ X (compareOp .Eq) oEq := by
  refine ⟨_, op_eq.or (op_eqD hu), fun μ H h a b x y P Q R ra rb o f => ?_⟩
  unfold oEq at o
  split at o
  · cases of_int ra; cases of_int rb
    exact .inl ⟨rfl, by rw [dec_int']; exact f.here R o rep_bl⟩
  · cases of_str ra; cases of_str rb
    exact .inl ⟨rfl, by rw [dec_str']; exact f.here R o rep_bl⟩
  · cases of_bl ra; cases of_bl rb
    exact .inl ⟨rfl, by rw [dec_bl']; exact f.here R o rep_bl⟩
  · exact .inr ⟨_, _, dpo_of R (SeqAt.canLay_of_shaped o.1) ra, dpo_of R (SeqAt.canLay_of_shaped o.2.1) rb, o.1, o.2.1, f.here R o.2.2 rep_bl⟩
theorem op_neZ (hu : X.A.units + 64 < cLine) : OpZ X (compareOp .NotEq) oNe := by
  refine ⟨_, op_ne.or (op_neD hu), fun μ H h a b x y P Q R ra rb o f => ?_⟩
  unfold oNe at o
  split at o
  · cases of_int ra; cases of_int rb
    exact .inl ⟨rfl, by rw [dec_int']; exact f.here R o rep_bl⟩
  · cases of_str ra; cases of_str rb
    exact .inl ⟨rfl, by rw [dec_str']; exact f.here R o rep_bl⟩
  · cases of_bl ra; cases of_bl rb
    exact .inl ⟨rfl, by rw [dec_bl']; exact f.here R o rep_bl⟩
  · exact .inr ⟨_, _, dpo_of R (SeqAt.canLay_of_shaped o.1) ra, dpo_of R (SeqAt.canLay_of_shaped o.2.1) rb, o.1, o.2.1, f.here R o.2.2 rep_bl⟩
/-- < of data -/
theorem op_ltD (hu : X.A.units + 64 < cLine) : OpR X (compareOp .Lt) (fun x y H Q => ∃ d e k, Dp X.K H x d ∧ Dp X.K H y e ∧ SeqAt.shaped d = true ∧ SeqAt.shaped e = true ∧ ltD d e = some k ∧ Q (.bl k) H) := by
  intro pins s σ H x y v u Q I rx ry h
  obtain ⟨d, e, k, hd, he, sd, se, hk, q⟩ := h
  obtain ⟨as, r1⟩ := Dp.reads I d x v hd rx
  obtain ⟨bs, r2⟩ := Dp.reads I e y u he ry
  exact rcLtD 64 d e X.A s v u as bs k (SeqAt.depth_of_shaped sd) r1 r2 (SeqAt.canLay_of_shaped sd) (SeqAt.canLay_of_shaped se) hk hu X.prog X.w _ _ ⟨.bl _, H, I, rfl, q⟩
theorem op_leD (hu : X.A.units + 64 < cLine) : OpR X (compareOp .LtE) (fun x y H Q => ∃ d e k, Dp X.K H x d ∧ Dp X.K H y e ∧ SeqAt.shaped d = true ∧ SeqAt.shaped e = true ∧ leD d e = some k ∧ Q (.bl k) H) := by
  intro pins s σ H x y v u Q I rx ry h
  obtain ⟨d, e, k, hd, he, sd, se, hk, q⟩ := h
  obtain ⟨as, r1⟩ := Dp.reads I d x v hd rx
  obtain ⟨bs, r2⟩ := Dp.reads I e y u he ry
  exact rcLeD 64 d e X.A s v u as bs k (SeqAt.depth_of_shaped sd) r1 r2 (SeqAt.canLay_of_shaped sd) (SeqAt.canLay_of_shaped se) hk hu X.prog X.w _ _ ⟨.bl _, H, I, rfl, q⟩
theorem op_le_str : OpR X (compareOp .LtE) (fun x y H Q => ∃ i j, x = .str i ∧ y = .str j ∧ Q (.bl (!decide (j.cps.toList < i.cps.toList))) H) := by
  intro pins s σ H x y v u Q I rx ry h
  obtain ⟨i, j, rfl, rfl, q⟩ := h
  obtain ⟨t, rfl⟩ := rx
  obtain ⟨t', rfl⟩ := ry
  exact PySem.P.le_str ⟨.bl _, H, I, rfl, q⟩
def oLt : Z2 := fun a b h P => match a, b with
  | .int i, .int j => P (.bl (decide (i < j))) h
  | .str i, .str j => P (.bl (decide (i.cps.toList < j.cps.toList))) h
  | a, b => okD h a ∧ okD h b ∧ ∃ k, ltD (dOf h a) (dOf h b) = some k ∧ P (.bl k) h
def oLe : Z2 := fun a b h P => match a, b with
  | .int i, .int j => P (.bl (decide (i ≤ j))) h
  | .str i, .str j => P (.bl (!decide (j.cps.toList < i.cps.toList))) h
  | a, b => okD h a ∧ okD h b ∧ ∃ k, leD (dOf h a) (dOf h b) = some k ∧ P (.bl k) h
def oGt : Z2 := fun a b h P => match a, b with
  | .int i, .int j => P (.bl (decide (j < i))) h
  | _, _ => False
def oGe : Z2 := fun a b h P => match a, b with
  | .int i, .int j => P (.bl (decide (j ≤ i))) h
  | _, _ => False
theorem op_ltZ (hu : X.A.units + 64 < cLine) : OpZ X (compareOp .Lt) oLt := by
  refine ⟨_, op_lt.or (op_lt_str.or (op_ltD hu)), fun μ H h a b x y P Q R ra rb o f => ?_⟩
  unfold oLt at o
  split at o
  · cases of_int ra; cases of_int rb
    exact .inl ⟨_, _, rfl, rfl, f.here R o rep_bl⟩
  · cases of_str ra; cases of_str rb
    exact .inr (.inl ⟨_, _, rfl, rfl, f.here R o rep_bl⟩)
  · obtain ⟨o1, o2, k, o3, o4⟩ := o
    exact .inr (.inr ⟨_, _, k, dpo_of R (SeqAt.canLay_of_shaped o1) ra, dpo_of R (SeqAt.canLay_of_shaped o2) rb, o1, o2, o3, f.here R o4 rep_bl⟩)
theorem op_leZ (hu : X.A.units + 64 < cLine) : OpZ X (compareOp .LtE) oLe := by
  refine ⟨_, op_le.or (op_le_str.or (op_leD hu)), fun μ H h a b x y P Q R ra rb o f => ?_⟩
  unfold oLe at o
  split at o
  · cases of_int ra; cases of_int rb
    exact .inl ⟨_, _, rfl, rfl, f.here R o rep_bl⟩
  · cases of_str ra; cases of_str rb
    exact .inr (.inl ⟨_, _, rfl, rfl, f.here R o rep_bl⟩)
  · obtain ⟨o1, o2, k, o3, o4⟩ := o
    exact .inr (.inr ⟨_, _, k, dpo_of R (SeqAt.canLay_of_shaped o1) ra, dpo_of R (SeqAt.canLay_of_shaped o2) rb, o1, o2, o3, f.here R o4 rep_bl⟩)
theorem op_gtZ : OpZ X (compareOp .Gt) oGt := by
  refine ⟨_, op_gt, fun μ H h a b x y P Q R ra rb o f => ?_⟩
  unfold oGt at o
  split at o
  · cases of_int ra; cases of_int rb
    exact ⟨_, _, rfl, rfl, f.here R o rep_bl⟩
  · exact o.elim
theorem op_geZ : OpZ X (compareOp .GtE) oGe := by
  refine ⟨_, op_ge, fun μ H h a b x y P Q R ra rb o f => ?_⟩
  unfold oGe at o
  split at o
  · cases of_int ra; cases of_int rb
    exact ⟨_, _, rfl, rfl, f.here R o rep_bl⟩
  · exact o.elim
/-- is None -/
def zNone : Z → Bool
  | .non => true
  | _ => false
theorem none_iff {K : PySem.W.Frag} {μ : List Addr} {H : Hp} {z : Z} {v : V} (r : RepV K μ H z v) : decide (v = .non) = zNone z := by
  cases z <;> unfold RepV at r
  · subst r; rfl
  · subst r; rfl
  · subst r; rfl
  · subst r; rfl
  · obtain ⟨_, _, rfl, _⟩ := r; rfl
  · obtain ⟨_, rfl, _⟩ := r; rfl
  · obtain ⟨_, rfl, _⟩ := r; rfl
  · subst r; rfl
def oIsN : Z2 := fun a b h P => match b with
  | .non => P (.bl (zNone a)) h
  | _ => False
def oNotN : Z2 := fun a b h P => match b with
  | .non => P (.bl (!zNone a)) h
  | _ => False
theorem op_isZ : OpZ X (compareOp .Is) oIsN := by
  refine ⟨_, op_isN, fun μ H h a b x y P Q R ra rb o f => ?_⟩
  unfold oIsN at o
  split at o
  · cases of_non rb
    exact ⟨rfl, by rw [none_iff ra]; exact f.here R o rep_bl⟩
  · exact o.elim
theorem op_isnotZ : OpZ X (compareOp .IsNot) oNotN := by
  refine ⟨_, op_notN, fun μ H h a b x y P Q R ra rb o f => ?_⟩
  unfold oNotN at o
  split at o
  · cases of_non rb
    exact ⟨rfl, by rw [none_iff ra]; exact f.here R o rep_bl⟩
  · exact o.elim
end
end ZL

namespace ZL
open PySem PySem.Spec PyProof.Rows L2

/-! ### equality of Z, decided -/
mutual
def zeq : Z → Z → Bool
  | .non, .non => true
  | .bl a, .bl b => a == b
  | .int a, .int b => a == b
  | .str a, .str b => a == b
  | .tup a, .tup b => zeqs a b
  | .scr a, .scr b => a == b
  | .ref a, .ref b => a == b
  | .err a, .err b => a == b
  | _, _ => false
def zeqs : List Z → List Z → Bool
  | [], [] => true
  | a :: as, b :: bs => zeq a b && zeqs as bs
  | _, _ => false
end
mutual
theorem zeq_iff : ∀ a b : Z, zeq a b = true ↔ a = b
  | .non, b => by cases b <;> simp [zeq]
  | .bl x, b => by cases b <;> simp [zeq]
  | .int x, b => by cases b <;> simp [zeq]
  | .str x, b => by cases b <;> simp [zeq]
  | .tup xs, b => by
    cases b with
    | tup ys => simp only [zeq, Z.tup.injEq]; exact zeqs_iff xs ys
    | _ => simp [zeq]
  | .scr x, b => by cases b <;> simp [zeq]
  | .ref x, b => by cases b <;> simp [zeq]
  | .err x, b => by cases b <;> simp [zeq]
theorem zeqs_iff : ∀ a b : List Z, zeqs a b = true ↔ a = b
  | [], [] => by simp [zeqs]
  | [], _ :: _ => by simp [zeqs]
  | _ :: _, [] => by simp [zeqs]
  | a :: as, b :: bs => by simp [zeqs, zeq_iff a b, zeqs_iff as bs]
end
instance : DecidableEq Z := fun a b => decidable_of_iff _ (zeq_iff a b)

/-! ### dicts -/
def dget (kvs : List (Z × Z)) (k : Z) : Option Z := (kvs.find? fun p => decide (p.1 = k)).map (·.2)
def dput (kvs : List (Z × Z)) (k v : Z) : List (Z × Z) :=
  if (kvs.any fun p => decide (p.1 = k)) = true then kvs.map fun p => if p.1 = k then (p.1, v) else p else kvs ++ [(k, v)]
def ddel (kvs : List (Z × Z)) (k : Z) : List (Z × Z) := kvs.filter fun p => decide (p.1 ≠ k)
theorem keyZ_inj {a b : Key} : keyZ a = keyZ b ↔ a = b := by
  cases a <;> cases b <;> simp [keyZ]
theorem keysZ_inj {a b : List Key} : a.map keyZ = b.map keyZ ↔ a = b := by
  constructor
  · intro h
    induction a generalizing b with
    | nil => cases b <;> simp_all
    | cons x xs ih =>
      cases b with
      | nil => simp at h
      | cons y ys =>
        simp only [List.map_cons, List.cons.injEq] at h
        rw [keyZ_inj.mp h.1, ih h.2]
  · rintro rfl; rfl
/-- a key of a dict: an int, a text -/
def kOf : Z → Option Key
  | .int i => some (.inl i)
  | .str x => some (.inr x)
  | _ => none
def ksOf : List Z → Option (List Key)
  | [] => some []
  | z :: zs => match kOf z, ksOf zs with
    | some k, some ks => some (k :: ks)
    | _, _ => none
theorem kOf_iff {z : Z} {k : Key} : kOf z = some k ↔ z = keyZ k := by
  cases z <;> cases k <;> simp [kOf, keyZ]
theorem ksOf_iff : ∀ {zs : List Z} {ks : List Key}, ksOf zs = some ks ↔ zs = ks.map keyZ
  | [], ks => by cases ks <;> simp [ksOf]
  | z :: zs, ks => by
    unfold ksOf
    constructor
    · intro h
      split at h
      · rename_i k ks' h1 h2
        cases h
        rw [kOf_iff.mp h1, ksOf_iff.mp h2]; rfl
      · cases h
    · intro h
      cases ks with
      | nil => simp at h
      | cons k ks =>
        simp only [List.map_cons, List.cons.injEq] at h
        rw [kOf_iff.mpr h.1, ksOf_iff.mpr h.2]
section
variable {κ : Type} [DecidableEq κ] {F : κ → Z} (hF : ∀ a b, F a = F b ↔ a = b) {G : Z → V → Prop}
include hF
abbrev PR (F : κ → Z) (G : Z → V → Prop) : (Z × Z) → (κ × V) → Prop := fun p q => p.1 = F q.1 ∧ G p.2 q.2
theorem pr_get {kvs : List (Z × Z)} {l : List (κ × V)} (r : Paired (PR F G) kvs l) (k : κ) : (dget kvs (F k) = none ∧ valV l k = none) ∨ ∃ z v, dget kvs (F k) = some z ∧ valV l k = some v ∧ G z v := by
  induction r with
  | nil => exact .inl ⟨rfl, rfl⟩
  | @cons p q l m h r ih =>
    by_cases e : q.1 = k
    · refine .inr ⟨p.2, q.2, ?_, ?_, h.2⟩
      · unfold dget; rw [List.find?_cons, decide_eq_true (by rw [h.1, e])]; rfl
      · exact valV_pos e
    · have e1 : ¬ p.1 = F k := by rw [h.1, hF]; exact e
      have e2 : dget (p :: l) (F k) = dget l (F k) := by unfold dget; rw [List.find?_cons, decide_eq_false e1]
      rw [e2, valV_neg e]
      exact ih
theorem pr_any {kvs : List (Z × Z)} {l : List (κ × V)} (r : Paired (PR F G) kvs l) (k : κ) : (kvs.any fun p => decide (p.1 = F k)) = l.any fun q => decide (q.1 = k) := by
  induction r with
  | nil => rfl
  | @cons p q l m h r ih => rw [List.any_cons, List.any_cons, ih, h.1]; congr 1; exact decide_eq_decide.mpr (hF _ _)
theorem pr_put {kvs : List (Z × Z)} {l : List (κ × V)} (r : Paired (PR F G) kvs l) (k : κ) {z : Z} {v : V} (g : G z v) : Paired (PR F G) (dput kvs (F k) z) (putK l k v) := by
  have hm : ∀ {kvs : List (Z × Z)} {l : List (κ × V)}, Paired (PR F G) kvs l → Paired (PR F G) (kvs.map fun p => if p.1 = F k then (p.1, z) else p) (l.map fun q => if q.1 = k then (q.1, v) else q) := by
    intro kvs l r
    induction r with
    | nil => exact .nil
    | @cons p q l m h r ih =>
      rw [List.map_cons, List.map_cons]
      refine .cons ?_ ih
      by_cases e : q.1 = k
      · rw [if_pos e, if_pos (by rw [h.1, e])]; exact ⟨h.1, g⟩
      · rw [if_neg e, if_neg (by rw [h.1, hF]; exact e)]; exact h
  have ha : ∀ {kvs : List (Z × Z)} {l : List (κ × V)}, Paired (PR F G) kvs l → Paired (PR F G) (kvs ++ [(F k, z)]) (l ++ [(k, v)]) := by
    intro kvs l r
    induction r with
    | nil => exact .cons ⟨rfl, g⟩ .nil
    | cons h r ih => exact .cons h ih
  unfold dput putK
  rw [pr_any hF r]
  split
  · exact hm r
  · exact ha r
theorem pr_del {kvs : List (Z × Z)} {l : List (κ × V)} (r : Paired (PR F G) kvs l) (k : κ) : Paired (PR F G) (ddel kvs (F k)) (dropK l k) := by
  unfold ddel dropK
  induction r with
  | nil => exact .nil
  | @cons p q l m h r ih =>
    rw [List.filter_cons, List.filter_cons]
    have : decide (p.1 ≠ F k) = decide (q.1 ≠ k) := decide_eq_decide.mpr (by rw [h.1, Ne, Ne, hF])
    rw [this]
    split
    · exact .cons h ih
    · exact ih
end
theorem paired_len {α β : Type} {F : α → β → Prop} {l : List α} {m : List β} (h : Paired F l m) : l.length = m.length := by
  induction h with
  | nil => rfl
  | cons _ _ ih => simp [ih]

/-! the empty dict is of both kinds -/
section
variable {X : Cx} {pins : List (Addr × Obj)} {σ : L2.St} {H : Hp} {s : Shared} {a : Addr}
theorem ok_kt {P : Program} {w : World} {H H' : Hp} {h : Heap} {a : Addr} (o : ObjOk P w H h a (.dK [])) : ObjOk P w H' h a (.dT []) := by
  obtain ⟨_, hs, vs, r, d⟩ := o
  cases r
  obtain ⟨ob, es, ep, h1, h2, h3, h4, h5, _⟩ := d
  refine ⟨Nat.zero_le _, hs, [], .nil, ob, es, ep, h1, h2, h3, ?_, List.nodup_nil⟩
  cases e : es.toList with
  | nil => rfl
  | cons x l => rw [e] at h5; cases h5
theorem ok_tk {P : Program} {w : World} {H H' : Hp} {h : Heap} {a : Addr} (o : ObjOk P w H h a (.dT [])) : ObjOk P w H' h a (.dK []) := by
  obtain ⟨_, hs, xs, r, ob, es, ep, h1, h2, h3, h4, _⟩ := o
  cases r
  have e : es.toList = [] := h4
  refine ⟨Nat.zero_le _, hs, [], .nil, ob, es, ep, h1, h2, h3, fun x hx => ?_, ?_, List.nodup_nil⟩
  · rw [← Array.mem_toList_iff, e] at hx; cases hx
  · rw [e]; exact .nil
theorem Inv.kt (I : Inv X pins σ H s) (e : H a = some (.dK [])) : Inv X pins σ (upd H a (.dT [])) s := by
  obtain ⟨ob, hob⟩ : ∃ ob, s.heap.get? a = some ob := by
    obtain ⟨_, _, _, _, ob, _, _, h1, _⟩ := I.hok a _ e
    exact ⟨ob, h1⟩
  exact I.write (h' := s.heap) (t' := s.toks) (by rw [e]; trivial) (.inl rfl) (fun _ _ _ q => q) ⟨ob, hob⟩ (ok_kt (I.hok a _ e))
theorem Inv.tk (I : Inv X pins σ H s) (e : H a = some (.dT [])) : Inv X pins σ (upd H a (.dK [])) s := by
  obtain ⟨ob, hob⟩ : ∃ ob, s.heap.get? a = some ob := by
    obtain ⟨_, _, _, _, ob, _, _, h1, _⟩ := I.hok a _ e
    exact ⟨ob, h1⟩
  exact I.write (h' := s.heap) (t' := s.toks) (by rw [e]; trivial) (.inl rfl) (fun _ _ _ q => q) ⟨ob, hob⟩ (ok_tk (I.hok a _ e))
theorem upd_back {H : Hp} {a : Addr} {o u : HO} (e : H a = some u) : upd (upd H a o) a u = H := by
  rw [upd_upd]
  funext b
  unfold upd
  split
  · rename_i q; rw [q]; exact e.symm
  · rfl
end
/-- y is a key: a leaf, a tuple of leaves -/
def LeafV (y : V) : Prop := ∃ k : Key, y = kV k
def TupV (H : Hp) (y : V) : Prop := ∃ (b : Addr) (k : List Key), y = .ref b ∧ H b = some (.tup (k.map kV))
/-- what stands in a dict at a key; the empty dict has no key of either kind -/
def DG (H : Hp) (a : Addr) (y : V) (o : Option V) : Prop :=
  DGet H a y o ∨ (o = none ∧ ((H a = some (.dK []) ∧ TupV H y) ∨ (H a = some (.dT []) ∧ LeafV y)))
def DP (H : Hp) (a : Addr) (y v : V) (H' : Hp) : Prop :=
  DPut H a y v H' ∨ (H a = some (.dK []) ∧ ∃ b k, y = .ref b ∧ H b = some (.tup (k.map kV)) ∧ H' = upd H a (.dT [(k, v)])) ∨ (H a = some (.dT []) ∧ ∃ k, y = kV k ∧ H' = upd H a (.dK [(k, v)]))
section
variable {X : Cx} {pins : List (Addr × Obj)} {σ : L2.St} {H H' : Hp} {s : Shared} {a : Addr} {A : Around} {E : Value → Shared → Prop} {y v : V} {u r : Value} {o : Option V}
/-- at the other kind: the same, and back -/
theorem dg_flip (I : Inv X pins σ H s) (g : DG H a y o) : ∃ H1, Inv X pins σ H1 s ∧ DGet H1 a y o ∧ ∀ s', Inv X pins σ H1 s' → Inv X pins σ H s' := by
  rcases g with g | ⟨rfl, ⟨e, b, k, rfl, eb⟩ | ⟨e, k, rfl⟩⟩
  · exact ⟨H, I, g, fun _ z => z⟩
  · have ne : b ≠ a := fun z => by subst z; rw [e] at eb; cases eb
    refine ⟨_, Inv.kt I e, .inr ⟨[], k, b, .inl upd_same, rfl, by rw [upd_ne ne]; exact eb, rfl⟩, fun s' I' => ?_⟩
    have := Inv.tk I' upd_same
    rw [upd_back e] at this
    exact this
  · refine ⟨_, Inv.tk I e, .inl ⟨[], k, .inl upd_same, rfl, rfl⟩, fun s' I' => ?_⟩
    have := Inv.kt I' upd_same
    rw [upd_back e] at this
    exact this
theorem z_in {Q : Value → Shared → Prop} (hu : A.units + 1 < cLine) (I : Inv X pins σ H s) (g : DG H a y o) (ry : RelV y u) (h : ∀ s', Inv X pins σ H s' → Q (.bool o.isSome) s') : wpAny (model X.prog X.w) A (compareOp .In u (.ref a)) Q E s := by
  obtain ⟨H1, I1, g1, back⟩ := dg_flip I g
  exact d_in hu I1 g1 ry fun s' I' => h s' (back s' I')
theorem z_notIn {Q : Value → Shared → Prop} (hu : A.units + 1 < cLine) (I : Inv X pins σ H s) (g : DG H a y o) (ry : RelV y u) (h : ∀ s', Inv X pins σ H s' → Q (.bool (!o.isSome)) s') : wpAny (model X.prog X.w) A (compareOp .NotIn u (.ref a)) Q E s := by
  obtain ⟨H1, I1, g1, back⟩ := dg_flip I g
  exact d_notIn hu I1 g1 ry fun s' I' => h s' (back s' I')
theorem z_set {Q : Unit → Shared → Prop} (hu : A.units + 1 < cLine) (I : Inv X pins σ H s) (g : DP H a y v H') (ry : RelV y u) (rv : RelV v r) (h : ∀ s', Inv X pins σ H' s' → Q () s') : wpAny (model X.prog X.w) A (setItem (.ref a) u r) Q E s := by
  rcases g with g | ⟨e, b, k, rfl, eb, rfl⟩ | ⟨e, k, rfl, rfl⟩
  · exact d_setItem hu I g ry rv h
  · have ne : b ≠ a := fun z => by subst z; rw [e] at eb; cases eb
    refine d_setItem hu (Inv.kt I e) (.inr ⟨[], k, b, upd_same, rfl, by rw [upd_ne ne]; exact eb, by rw [sizeLine_eq]; decide, rfl⟩) ry rv fun s' I' => h s' ?_
    rw [upd_upd] at I'
    exact I'
  · refine d_setItem hu (Inv.tk I e) (.inl ⟨[], k, upd_same, rfl, by rw [sizeLine_eq]; decide, rfl⟩) ry rv fun s' I' => h s' ?_
    rw [upd_upd] at I'
    exact I'
theorem z_get1 {Q : Value → Shared → Prop} (hu : A.units + 1 < cLine) (I : Inv X pins σ H s) (g : DG H a y o) (ry : RelV y u) (h : ∀ w' s', Inv X pins σ H s' → RelV (o.getD .non) w' → Q w' s') : wpAny (model X.prog X.w) A (call (.builtin "dict.get") [.ref a, u]) Q E s := by
  obtain ⟨H1, I1, g1, back⟩ := dg_flip I g
  exact d_get1 hu I1 g1 ry fun w' s' I' => h w' s' (back s' I')
theorem z_get2 {Q : Value → Shared → Prop} {d : V} (hu : A.units + 1 < cLine) (I : Inv X pins σ H s) (g : DG H a y o) (ry : RelV y u) (rd : RelV d r) (h : ∀ w' s', Inv X pins σ H s' → RelV (o.getD d) w' → Q w' s') : wpAny (model X.prog X.w) A (call (.builtin "dict.get") [.ref a, u, r]) Q E s := by
  obtain ⟨H1, I1, g1, back⟩ := dg_flip I g
  exact d_get2 hu I1 g1 ry rd fun w' s' I' => h w' s' (back s' I')
end

/-! ### from Z's dicts -/
def isT : Z → Bool
  | .tup _ => true
  | _ => false
def textZ : Z → Bool
  | .str _ => true
  | _ => false
def keyOk : Z → Bool
  | .tup zs => (ksOf zs).isSome && keyN zs.length (zs.all textZ)
  | z => (kOf z).isSome
/-- a key that may be asked of, or put into, such a dict -/
def dkey (kvs : List (Z × Z)) (k : Z) : Prop := keyOk k = true ∧ ∀ p ∈ kvs, isT p.1 = isT k
theorem isT_key (k : Key) : isT (keyZ k) = false := by cases k <;> rfl
section
variable {K : PySem.W.Frag} {mg : Str → Option Value} {μ : List Addr} {H : Hp} {h : ZH} {kvs : List (Z × Z)} {k : Z} {y : V}
theorem rep_key {q : Key} (r : RepV K μ H (keyZ q) y) : y = kV q := by
  cases q <;> (unfold keyZ RepV at r; exact r)
theorem rep_keys : ∀ {q : List Key} {vs : List V}, RepVs K μ H (q.map keyZ) vs → vs = q.map kV
  | [], vs, r => by unfold RepVs at r; simpa using r
  | x :: xs, vs, r => by
    rw [List.map_cons] at r
    unfold RepVs at r
    obtain ⟨v, w, rfl, h1, h2⟩ := r
    rw [rep_key h1, rep_keys h2]; rfl
theorem text_keys {q : List Key} : (q.map kV).all textK = (q.map keyZ).all textZ := by
  rw [List.all_map, List.all_map]
  congr 1
  funext k
  cases k <;> rfl
theorem keyV_keys {q : List Key} : keyV (q.map kV) = keyN q.length ((q.map keyZ).all textZ) := by
  have h : (q.map kV).all leafK = true := by
    rw [List.all_eq_true]
    intro v m
    obtain ⟨k, _, rfl⟩ := List.mem_map.mp m
    cases k <;> rfl
  unfold keyV
  rw [h, text_keys, List.length_map, Bool.true_and]
/-- the two kinds of keys -/
theorem key_cases (ok : keyOk k = true) (r : RepV K μ H k y) : (isT k = false ∧ ∃ q : Key, k = keyZ q ∧ y = kV q) ∨ (isT k = true ∧ ∃ (q : List Key) (b : Addr), k = .tup (q.map keyZ) ∧ y = .ref b ∧ H b = some (.tup (q.map kV))) := by
  cases k with
  | tup zs =>
    obtain ⟨ok1, ok2⟩ := Bool.and_eq_true_iff.mp (show ((ksOf zs).isSome && keyN zs.length (zs.all textZ)) = true from ok)
    obtain ⟨q, e⟩ := Option.isSome_iff_exists.mp ok1
    obtain ⟨b, vs, rfl, t, rv⟩ := of_tup r
    rw [ksOf_iff.mp e] at rv ⊢
    refine .inr ⟨rfl, q, b, rfl, rfl, ?_⟩
    have hv := rep_keys rv
    rw [← hv]
    rcases t with ⟨_, t⟩ | ⟨c, _⟩
    · exact t
    · exfalso
      rw [hv, keyV_keys] at c
      rw [ksOf_iff.mp e] at ok2
      rw [List.length_map] at ok2
      rw [ok2] at c
      cases c
  | int i => exact .inl ⟨rfl, .inl i, rfl, of_int r⟩
  | str x => exact .inl ⟨rfl, .inr x, rfl, of_str r⟩
  | _ => exact absurd ok (by simp [keyOk, kOf])
theorem kt_kind {l : List (List Key × V)} (r : Paired (TR K μ H) kvs l) : ∀ p ∈ kvs, isT p.1 = true := by
  induction r with
  | nil => simp
  | cons a _ ih => intro p hp; rcases List.mem_cons.mp hp with rfl | hp; rw [a.1]; rfl; exact ih p hp
theorem kk_kind {l : List (Key × V)} (r : Paired (KR K μ H) kvs l) : ∀ p ∈ kvs, isT p.1 = false := by
  induction r with
  | nil => simp
  | cons a _ ih => intro p hp; rcases List.mem_cons.mp hp with rfl | hp; rw [a.1]; exact isT_key _; exact ih p hp
theorem tupKey_inj (a b : List Key) : Z.tup (a.map keyZ) = .tup (b.map keyZ) ↔ a = b := by
  rw [Z.tup.injEq, keysZ_inj]
def OptR (K : PySem.W.Frag) (μ : List Addr) (H : Hp) (z : Option Z) (v : Option V) : Prop := (z = none ∧ v = none) ∨ ∃ a b, z = some a ∧ v = some b ∧ RepV K μ H a b
theorem dict_at {a : Addr} {o : HO} (e : H a = some o) (d : DictR K μ H kvs o) (ok : dkey kvs k) (r : RepV K μ H k y) : ∃ q, DG H a y q ∧ OptR K μ H (dget kvs k) q := by
  rcases d with ⟨l, rfl, d⟩ | ⟨l, rfl, d⟩
  · rcases key_cases ok.1 r with ⟨t, q, rfl, rfl⟩ | ⟨t, q, b, rfl, rfl, eb⟩
    · refine ⟨_, .inl (DGet.k e), ?_⟩
      exact pr_get (F := keyZ) (G := RepV K μ H) (fun a b => keyZ_inj) d q
    · cases kvs with
      | nil => cases d; exact ⟨none, .inr ⟨rfl, .inl ⟨e, b, q, rfl, eb⟩⟩, .inl ⟨rfl, rfl⟩⟩
      | cons p r => have z := ok.2 p List.mem_cons_self; rw [kk_kind d p List.mem_cons_self, t] at z; cases z
  · rcases key_cases ok.1 r with ⟨t, q, rfl, rfl⟩ | ⟨t, q, b, rfl, rfl, eb⟩
    · cases kvs with
      | nil => cases d; exact ⟨none, .inr ⟨rfl, .inr ⟨e, q, rfl⟩⟩, .inl ⟨rfl, rfl⟩⟩
      | cons p r => have z := ok.2 p List.mem_cons_self; rw [kt_kind d p List.mem_cons_self, t] at z; cases z
    · refine ⟨_, .inl (DGet.t e eb), ?_⟩
      exact pr_get (F := fun q : List Key => Z.tup (q.map keyZ)) (G := RepV K μ H) tupKey_inj d q
theorem dictL_at {a : Addr} {ob : Obj} {o : HO} (e : H a = some (.frz ob o)) (d : DictR K μ H kvs o) (ok : dkey kvs k) (ne : kvs ≠ []) (r : RepV K μ H k y) : ∃ q, DG H a y q ∧ OptR K μ H (dget kvs k) q := by
  rcases d with ⟨l, rfl, d⟩ | ⟨l, rfl, d⟩
  · rcases key_cases ok.1 r with ⟨t, q, rfl, rfl⟩ | ⟨t, q, b, rfl, rfl, eb⟩
    · refine ⟨_, .inl (.inl ⟨l, q, .inr ⟨ob, e⟩, rfl, rfl⟩), ?_⟩
      exact pr_get (F := keyZ) (G := RepV K μ H) (fun a b => keyZ_inj) d q
    · cases kvs with
      | nil => exact absurd rfl ne
      | cons p r => have z := ok.2 p List.mem_cons_self; rw [kk_kind d p List.mem_cons_self, t] at z; cases z
  · rcases key_cases ok.1 r with ⟨t, q, rfl, rfl⟩ | ⟨t, q, b, rfl, rfl, eb⟩
    · cases kvs with
      | nil => exact absurd rfl ne
      | cons p r => have z := ok.2 p List.mem_cons_self; rw [kt_kind d p List.mem_cons_self, t] at z; cases z
    · refine ⟨_, .inl (.inr ⟨l, q, b, .inr ⟨ob, e⟩, rfl, eb, rfl⟩), ?_⟩
      exact pr_get (F := fun q : List Key => Z.tup (q.map keyZ)) (G := RepV K μ H) tupKey_inj d q
/-- at a dict that is there -/
theorem dict_of (R : RelH K mg μ H h) {n : Nat} {v : V} (e : h[n]? = some (.dict kvs)) (r : RepV K μ H (.ref n) v) : ∃ a o, v = .ref a ∧ μ[n]? = some a ∧ H a = some o ∧ DictR K μ H kvs o := by
  obtain ⟨a, rfl, ha⟩ := of_ref r
  obtain ⟨b, hb, o, e1, d⟩ := R.at e
  rw [ha] at hb; cases hb
  exact ⟨a, o, rfl, ha, e1, d⟩
theorem dictL_of (R : RelH K mg μ H h) {n : Nat} {v : V} (e : h[n]? = some (.dictL kvs)) (r : RepV K μ H (.ref n) v) : ∃ a ob o, v = .ref a ∧ μ[n]? = some a ∧ H a = some (.frz ob o) ∧ DictR K μ H kvs o := by
  obtain ⟨a, rfl, ha⟩ := of_ref r
  obtain ⟨b, hb, ob, o, e1, d⟩ := R.at e
  rw [ha] at hb; cases hb
  exact ⟨a, ob, o, rfl, ha, e1, d⟩
/-- a dict is written -/
theorem dict_put (R : RelH K mg μ H h) {n : Nat} {a : Addr} {o : HO} {z : Z} {v : V} (en : h[n]? = some (.dict kvs)) (ha : μ[n]? = some a) (e : H a = some o) (d : DictR K μ H kvs o) (ok : dkey kvs k) (hl : kvs.length < sizeLine) (r : RepV K μ H k y) (rz : RepV K μ H z v) :
    ∃ u, DP H a y v (upd H a u) ∧ RelH K mg μ (upd H a u) (h.set n (.dict (dput kvs k z))) ∧ Ext μ H μ (upd H a u) := by
  have fin : ∀ u, (∀ xs, u ≠ .tup xs) → (∀ ob v, u ≠ .frz ob v) → (Ext μ H μ (upd H a u) → DictR K μ (upd H a u) (dput kvs k z) u) → RelH K mg μ (upd H a u) (h.set n (.dict (dput kvs k z))) ∧ Ext μ H μ (upd H a u) := by
    intro u h1 h2 h3
    have ho := (R.obj n a _ ha en).some
    obtain ⟨w, ew, w1, w2⟩ := ho
    have w2 := w2 fun _ => by simp
    have ex : Ext μ H μ (upd H a u) := ext_at (List.mem_of_getElem? ha) ⟨w, ew, w1, w2⟩
    exact R.set ha ⟨w, ew, w1, w2⟩ ⟨u, upd_same, h3 ex⟩
  rcases d with ⟨l, rfl, d⟩ | ⟨l, rfl, d⟩
  · have ll := paired_len d
    rcases key_cases ok.1 r with ⟨t, q, rfl, rfl⟩ | ⟨t, q, b, rfl, rfl, eb⟩
    · refine ⟨_, .inl (DPut.k e (by omega)), fin _ (by simp) (by simp) fun ex => .inl ⟨_, rfl, ?_⟩⟩
      exact pr_put (F := keyZ) (G := RepV K μ _) (fun a b => keyZ_inj) (paired_mono (fun p q x => ⟨x.1, x.2.mono ex⟩) d) q (rz.mono ex)
    · cases kvs with
      | nil =>
        cases d
        refine ⟨_, .inr (.inl ⟨e, b, q, rfl, eb, rfl⟩), fin _ (by simp) (by simp) fun ex => .inr ⟨_, rfl, ?_⟩⟩
        exact .cons ⟨rfl, rz.mono ex⟩ .nil
      | cons p r => have z := ok.2 p List.mem_cons_self; rw [kk_kind d p List.mem_cons_self, t] at z; cases z
  · have ll := paired_len d
    rcases key_cases ok.1 r with ⟨t, q, rfl, rfl⟩ | ⟨t, q, b, rfl, rfl, eb⟩
    · cases kvs with
      | nil =>
        cases d
        refine ⟨_, .inr (.inr ⟨e, q, rfl, rfl⟩), fin _ (by simp) (by simp) fun ex => .inl ⟨_, rfl, ?_⟩⟩
        exact .cons ⟨rfl, rz.mono ex⟩ .nil
      | cons p r => have z := ok.2 p List.mem_cons_self; rw [kt_kind d p List.mem_cons_self, t] at z; cases z
    · refine ⟨_, .inl (DPut.t e eb (by omega)), fin _ (by simp) (by simp) fun ex => .inr ⟨_, rfl, ?_⟩⟩
      exact pr_put (F := fun q : List Key => Z.tup (q.map keyZ)) (G := RepV K μ _) tupKey_inj (paired_mono (fun p q x => ⟨x.1, x.2.mono ex⟩) d) q (rz.mono ex)
end
end ZL

namespace ZL
open PySem PySem.Spec PyProof.Rows L2
section
variable {X : Cx} {B : List Addr × Hp}

/-! ### subscripts -/
def IxZ (X : Cx) (o : Z2) : Prop :=
  ∃ r, IxR X r ∧ ∀ μ H h a b x y P Q, RelH X.K X.mg μ H h → RepV X.K μ H a x → RepV X.K μ H b y → o a b h P → Fol X.K X.mg μ H P Q → r x y H Q
theorem ze_ix {o : Z2} {a b : Expr} {wa wb : WE} {pos} (ho : IxZ X o) (ha : ZE X a wa) (hb : ZE X b wb) (hs : PlainIx b := by exact fun _ _ => rfl) : ZE X (.Subscript a b pos) (w2 o wa wb) :=
  let ⟨_, h1, h2⟩ := ho
  ⟨fun B E tk => pe_imp (pe_ix h1 (ha.run B E tk) (hb.run B E tk) hs) (tz2 h2)⟩
theorem RepVs.atI {K : PySem.W.Frag} {μ : List Addr} {H : Hp} {zs : List Z} {vs : List V} (r : RepVs K μ H zs vs) {i : Int} {z : Z} (e : L2.atI zs i = some z) : ∃ v, L2.atI vs i = some v ∧ RepV K μ H z v := by
  unfold L2.atI at e ⊢
  rw [← r.length]
  cases q : ixN zs.length i with
  | none => rw [q] at e; cases e
  | some j =>
    rw [q] at e
    obtain ⟨v, e1, e2⟩ := r.get (i := j) (z := z) e
    exact ⟨v, e1, e2⟩
theorem atI_ints {ns : List Int} {i n : Int} (e : L2.atI ns i = some n) : L2.atI (ns.map V.int) i = some (.int n) := by
  unfold L2.atI at e ⊢
  rw [List.length_map]
  cases q : ixN ns.length i with
  | none => rw [q] at e; cases e
  | some j =>
    rw [q] at e
    have e' : ns[j]? = some n := e
    show (ns.map V.int)[j]? = _
    rw [List.getElem?_map, e']; rfl
theorem scr_sq {K : PySem.W.Frag} {μ : List Addr} {H : Hp} {ns : List Int} {v : V} (r : RepV K μ H (.scr ns) v) : ∃ a, v = .ref a ∧ SqL K H a (ns.map V.int) := by
  unfold RepV at r
  obtain ⟨a, rfl, r⟩ := r
  refine ⟨a, rfl, ?_⟩
  rcases r with ⟨o, e⟩ | e
  · exact .inl (.inr ⟨o, e⟩)
  · exact .inr e
theorem ix_dict (hu : X.A.units + 1 < cLine) : IxR X (fun x y H Q => ∃ a v, x = .ref a ∧ DGet H a y (some v) ∧ Q v H) := by
  intro value slice pins s σ H x y v u Q I rx ry h hs
  obtain ⟨a, z, rfl, g, q⟩ := h
  cases rx
  exact tail_any (dict_typeIs I g) PySem.F.slot_dict_getitem.lookup (d_getItem hu I g ry fun w' s' I' rw' => ⟨z, H, I', rw', q⟩) hs
def oIx : Z2 := fun a b h P => match a, b with
  | .tup zs, .int i => ∃ z, L2.atI zs i = some z ∧ P z h
  | .scr ns, .int i => ∃ n, L2.atI ns i = some n ∧ P (.int n) h
  | .str x, .int i => x.length ≤ sizeLine ∧ ∃ c, L2.atI x.cps.toList i = some c ∧ P (.str ⟨#[c]⟩) h
  | .ref n, k => (match h[n]? with
    | some (.lst zs) => (match k with
      | .int i => ∃ z, L2.atI zs i = some z ∧ P z h
      | _ => False)
    | some (.dict kvs) => dkey kvs k ∧ ∃ z, dget kvs k = some z ∧ P z h
    | some (.dictL kvs) => dkey kvs k ∧ ∃ z, dget kvs k = some z ∧ P z h
    | _ => False)
  | _, _ => False
theorem dg_some {H : Hp} {a : Addr} {y : V} {v : V} (g : DG H a y (some v)) : DGet H a y (some v) := by
  rcases g with g | ⟨e, _⟩
  · exact g
  · cases e
theorem optR_some {K : PySem.W.Frag} {μ : List Addr} {H : Hp} {z : Z} {o : Option V} (r : OptR K μ H (some z) o) : ∃ v, o = some v ∧ RepV K μ H z v := by
  rcases r with ⟨e, _⟩ | ⟨a, b, e, e2, r⟩
  · cases e
  · cases e; exact ⟨b, e2, r⟩
theorem dget_ne {kvs : List (Z × Z)} {k z : Z} (e : dget kvs k = some z) : kvs ≠ [] := fun h => by rw [h] at e; cases e
theorem ix_z (hu : X.A.units + 1 < cLine) : IxZ X oIx := by
  refine ⟨_, ix_list.or (ix_tup.or (ix_str.or (ix_dict hu))), fun μ H h a b x y P Q R ra rb o f => ?_⟩
  unfold oIx at o
  split at o
  · obtain ⟨p, vs, rfl, t, r⟩ := of_tup ra
    cases of_int rb
    obtain ⟨z, e, p1⟩ := o
    obtain ⟨v, e1, e2⟩ := r.atI e
    exact .inr (.inl ⟨p, vs, _, v, rfl, rfl, t.sq, e1, f.here R p1 e2⟩)
  · obtain ⟨p, rfl, sq⟩ := scr_sq ra
    cases of_int rb
    obtain ⟨n, e, p1⟩ := o
    exact .inl ⟨p, _, _, _, rfl, rfl, sq, atI_ints e, f.here R p1 rep_int⟩
  · cases of_str ra; cases of_int rb
    obtain ⟨l, c, e, p1⟩ := o
    exact .inr (.inr (.inl ⟨_, _, c, rfl, rfl, l, e, f.here R p1 rep_str⟩))
  · split at o
    · rename_i zs e1
      split at o
      · obtain ⟨p, vs, rfl, _, hp, r⟩ := of_lst R e1 ra
        cases of_int rb
        obtain ⟨z, e, p1⟩ := o
        obtain ⟨v, e2, e3⟩ := r.atI e
        exact .inl ⟨p, vs, _, v, rfl, rfl, SqL.of hp, e2, f.here R p1 e3⟩
      · exact o.elim
    · rename_i kvs e1
      obtain ⟨ok, z, e, p1⟩ := o
      obtain ⟨p, ho, rfl, _, hp, d⟩ := dict_of R e1 ra
      obtain ⟨q, g, r⟩ := dict_at hp d ok rb
      rw [e] at r
      obtain ⟨v, rfl, rv⟩ := optR_some r
      exact .inr (.inr (.inr ⟨p, v, rfl, dg_some g, f.here R p1 rv⟩))
    · rename_i kvs e1
      obtain ⟨ok, z, e, p1⟩ := o
      obtain ⟨p, ob, ho, rfl, _, hp, d⟩ := dictL_of R e1 ra
      obtain ⟨q, g, r⟩ := dictL_at hp d ok (dget_ne e) rb
      rw [e] at r
      obtain ⟨v, rfl, rv⟩ := optR_some r
      exact .inr (.inr (.inr ⟨p, v, rfl, dg_some g, f.here R p1 rv⟩))
    · exact o.elim
  · exact o.elim

/-! ### slices -/
abbrev WO := Env → ZH → (Option Int → ZH → Prop) → EZ → Prop
def TZo (K : PySem.W.Frag) (mg : Str → Option Value) (B : List Addr × Hp) (w : WO) (E : EZ) : TO := fun σ H Q => ∃ μ env h P, Rel K mg B μ env h σ H ∧ w env h P E ∧ ∀ i h' μ' H', P i h' → Ext μ H μ' H' → RelH K mg μ' H' h' → Q i H'
structure ZOp (X : Cx) (e : Option Expr) (w : WO) : Prop where
  run : ∀ B E, ZTk X B E → PO X e (TZo X.K X.mg B w E)
def wNoPart : WO := fun _ h P _ => P none h
def wPart (w : WE) : WO := fun env h P E => w env h (fun z h1 => match z with | .int i => P (some i) h1 | _ => False) E
theorem po_imp {e : Option Expr} {t t' : TO} (p : PO X e t) (f : ∀ σ H Q, t' σ H Q → t σ H Q) : PO X e t' := ⟨fun pins s σ H Q I q => p.run pins s σ H Q I (f _ _ _ q)⟩
theorem zo_none : ZOp X none wNoPart := ⟨fun B E _ => po_imp po_none fun σ H Q ⟨μ, env, h, P, R, w, f⟩ => f none h μ H w (Ext.refl _ _) R.heap⟩
theorem zo_some {e : Expr} {w : WE} (he : ZE X e w) : ZOp X (some e) (wPart w) := ⟨fun B E tk => po_imp (po_some (he.run B E tk)) fun σ H Q ⟨μ, env, h, P, R, q, f⟩ =>
  ⟨μ, env, h, _, R, q, fun z h1 μ1 H1 v p1 e1 R1 r1 => by
    cases z with
    | int i => exact ⟨i, of_int r1, f _ _ _ _ p1 e1 R1⟩
    | _ => exact p1.elim⟩⟩
def cutZ {α : Type} (xs : List α) (lo hi : Option Int) : List α := (xs.drop (HT.sIx xs.length 0 lo)).take (HT.sIx xs.length xs.length hi - HT.sIx xs.length 0 lo)
def oSl (a : Z) (lo hi : Option Int) (h : ZH) (P : PZ) : Prop := match a with
  | .tup zs => P (.tup (cutZ zs lo hi)) h
  | .str x => x.length ≤ sizeLine ∧ P (.str ⟨(cutZ x.cps.toList lo hi).toArray⟩) h
  | .ref n => (match h[n]? with
    | some (.lst zs) => P (.ref h.length) (h ++ [.lst (cutZ zs lo hi)])
    | _ => False)
  | .scr ns => P (.ref h.length) (h ++ [.lst ((cutZ ns lo hi).map Z.int)])
  | _ => False
def wSl (w : WE) (wl wh : WO) : WE := fun env h P E => w env h (fun a h1 => wl env h1 (fun lo h2 => wh env h2 (fun hi h3 => oSl a lo hi h3 P) E) E) E
theorem cutV_rep {K : PySem.W.Frag} {μ : List Addr} {H : Hp} {zs : List Z} {vs : List V} (r : RepVs K μ H zs vs) (lo hi : Option Int) : RepVs K μ H (cutZ zs lo hi) (cutV vs lo hi) := by
  unfold cutZ cutV
  rw [r.length]
  exact (r.drop _).take _
theorem cut_whole {α : Type} {xs : List α} {lo hi : Option Int} (h : HT.sIx xs.length 0 lo = 0 ∧ HT.sIx xs.length xs.length hi = xs.length) : cutZ xs lo hi = xs := by
  unfold cutZ
  rw [h.1, h.2]; simp
theorem ze_sl {e : Expr} {lo hi : Option Expr} {w : WE} {wl wh : WO} {pos p2} (hs : ∃ r, SlR X r ∧ ∀ μ H h a x l u P Q, RelH X.K X.mg μ H h → RepV X.K μ H a x → oSl a l u h P → Fol X.K X.mg μ H P Q → r x l u H Q)
    (he : ZE X e w) (hl : ZOp X lo wl) (hh : ZOp X hi wh) : ZE X (.Subscript e (.Slice lo hi none p2) pos) (wSl w wl wh) :=
  let ⟨_, h1, h2⟩ := hs
  ⟨fun B E tk => pe_imp (pe_slice h1 (he.run B E tk) (hl.run B E tk) (hh.run B E tk)) fun σ H Q ⟨μ, env, h, P, R, q, f⟩ =>
    ⟨μ, env, h, _, R, q, fun a h1 μ1 H1 x p1 e1 R1 r1 => ⟨μ1, env, h1, _, R.step e1 R1, p1, fun l h2' μ2 H2 p2 e2 R2 => ⟨μ2, env, h2', _, (R.step e1 R1).step e2 R2, p2, fun u h3 μ3 H3 p3 e3 R3 =>
      h2 μ3 H3 h3 a x l u P Q R3 ((r1.mono e2).mono e3) p3 (f.ext ((e1.trans e2).trans e3))⟩⟩⟩⟩

theorem sl_z {e : Expr} {lo hi : Option Expr} {w : WE} {wl wh : WO} {pos p2} (he : ZE X e w) (hl : ZOp X lo wl) (hh : ZOp X hi wh) : ZE X (.Subscript e (.Slice lo hi none p2) pos) (wSl w wl wh) := by
  refine ze_sl ⟨_, (ZTS.sl_tupS (kl := keyV)).or (sl_str.or sl_list), fun μ H h a x l u P Q R ra o f => ?_⟩ he hl hh
  unfold oSl at o
  split at o
  · obtain ⟨p, vs, rfl, t, r⟩ := of_tup ra
    refine .inl ⟨p, vs, rfl, t.sq, fun c => ?_, fun _ => fol_tup R (cutV_rep r l u) o f⟩
    rw [← r.length] at c
    rw [cut_whole c] at o
    exact f.here R o (by unfold RepV; exact ⟨p, vs, rfl, t, r⟩)
  · rename_i z
    cases of_str ra
    refine .inr (.inl ⟨_, rfl, o.1, ?_⟩)
    have e : cutS z l u = (⟨(cutZ z.cps.toList l u).toArray⟩ : Str) := by unfold cutS cutZ; simp [Str.length]
    rw [e]
    exact f.here R o.2 rep_str
  · split at o
    · rename_i e1
      obtain ⟨p, vs, rfl, _, hp, r⟩ := of_lst R e1 ra
      exact .inr (.inr ⟨p, vs, rfl, SqL.of hp, fol_lst R (cutV_rep r l u) o f⟩)
    · exact o.elim
  · rename_i ns
    obtain ⟨p, rfl, sq⟩ := scr_sq ra
    refine .inr (.inr ⟨p, _, rfl, sq, ?_⟩)
    have e : cutV (List.map V.int ns) l u = (cutZ ns l u).map V.int := by unfold cutV cutZ; rw [List.length_map, List.map_take, List.map_drop]
    rw [e]
    exact fol_lst R (RepVs.ints _) o f
  · exact o.elim
/-- xs[::-1] -/
def wRev (w : WE) : WE := fun env h P E => w env h (fun a h1 => match a with
  | .ref n => (match h1[n]? with
    | some (.lst zs) => P (.ref h1.length) (h1 ++ [.lst zs.reverse])
    | _ => False)
  | _ => False) E
theorem ze_rev {e : Expr} {w : WE} {k : Nat} {p1 p2 p3 pos : Pos} (he : ZE X e w) : ZE X (.Subscript e (.Slice none none (some (.UnaryOp .USub (.Constant (.int 1) k p1) p2)) p3) pos) (wRev w) :=
  ⟨fun B E tk => pe_imp (pe_revL (he.run B E tk)) fun σ H Q ⟨μ, env, h, P, R, q, f⟩ => ⟨μ, env, h, _, R, q, fun a h1 μ1 H1 x p1 e1 R1 r1 => by
    split at p1
    · split at p1
      · rename_i e2
        obtain ⟨p, vs, rfl, _, hp, r⟩ := of_lst R1 e2 r1
        exact ⟨p, vs, rfl, SqL.of hp, fol_lst R1 r.reverse p1 (f.ext e1)⟩
      · exact p1.elim
    · exact p1.elim⟩⟩

/-! ### membership -/
theorem op_inT (hu : X.A.units + 65 < cLine) : OpR X (compareOp .In) (fun x y H Q => ∃ d ds, Dp X.K H x d ∧ Dp X.K H y (.tuple ds) ∧ SeqAt.shaped d = true ∧ SeqAt.shaped (.tuple ds) = true ∧ Q (.bl (ds.any fun z => PyData.eqv z d)) H) := by
  intro pins s σ H x y v u Q I rx ry h
  obtain ⟨d, ds, hd, he, sd, se, q⟩ := h
  obtain ⟨as, r1⟩ := Dp.reads I d x v hd rx
  obtain ⟨bs, r2⟩ := Dp.reads I (.tuple ds) y u he ry
  exact SeqAt.in_tuple_reads r2 r1 (SeqAt.canLay_of_shaped se) (SeqAt.canLay_of_shaped sd) (room_in_shaped sd hu) ⟨.bl _, H, I, rfl, q⟩
theorem op_notInT (hu : X.A.units + 65 < cLine) : OpR X (compareOp .NotIn) (fun x y H Q => ∃ d ds, Dp X.K H x d ∧ Dp X.K H y (.tuple ds) ∧ SeqAt.shaped d = true ∧ SeqAt.shaped (.tuple ds) = true ∧ Q (.bl (!ds.any fun z => PyData.eqv z d)) H) := by
  intro pins s σ H x y v u Q I rx ry h
  obtain ⟨d, ds, hd, he, sd, se, q⟩ := h
  obtain ⟨as, r1⟩ := Dp.reads I d x v hd rx
  obtain ⟨bs, r2⟩ := Dp.reads I (.tuple ds) y u he ry
  exact SeqAt.notIn_tuple_reads r2 r1 (SeqAt.canLay_of_shaped se) (SeqAt.canLay_of_shaped sd) (room_in_shaped sd hu) ⟨.bl _, H, I, rfl, q⟩
theorem op_inDict (hu : X.A.units + 1 < cLine) : OpR X (compareOp .In) (fun x y H Q => ∃ a o, y = .ref a ∧ DG H a x o ∧ Q (.bl o.isSome) H) := by
  intro pins s σ H x y v u Q I rx ry h
  obtain ⟨a, o, rfl, g, q⟩ := h
  cases ry
  exact z_in hu I g rx fun s' I' => ⟨.bl _, H, I', rfl, q⟩
theorem op_notInDict (hu : X.A.units + 1 < cLine) : OpR X (compareOp .NotIn) (fun x y H Q => ∃ a o, y = .ref a ∧ DG H a x o ∧ Q (.bl (!o.isSome)) H) := by
  intro pins s σ H x y v u Q I rx ry h
  obtain ⟨a, o, rfl, g, q⟩ := h
  cases ry
  exact z_notIn hu I g rx fun s' I' => ⟨.bl _, H, I', rfl, q⟩
/-- whether x is in y, and what it takes to ask -/
def inZ (h : ZH) (a b : Z) (Q : Bool → Prop) : Prop := match b with
  | .tup zs => okD h a ∧ okD h (.tup zs) ∧ Q (zs.any fun z => PyData.eqv z.toD (dOf h a))
  | .str y => (match a with
    | .str x => ∃ c, x = ⟨#[c]⟩ ∧ Q (decide (c ∈ y.cps.toList))
    | _ => False)
  | .ref n => (match h[n]? with
    | some (.lst zs) => okD h a ∧ okD h (.ref n) ∧ Q (zs.any fun z => PyData.eqv (dL Z.toD h z) (dOf h a))
    | some (.dict kvs) => dkey kvs a ∧ Q (dget kvs a).isSome
    | some (.dictL kvs) => dkey kvs a ∧ kvs ≠ [] ∧ Q (dget kvs a).isSome
    | _ => False)
  | _ => False
def oIn : Z2 := fun a b h P => inZ h a b fun k => P (.bl k) h
def oNotIn : Z2 := fun a b h P => inZ h a b fun k => P (.bl (!k)) h
theorem optR_is {K : PySem.W.Frag} {μ : List Addr} {H : Hp} {z : Option Z} {o : Option V} (r : OptR K μ H z o) : o.isSome = z.isSome := by
  rcases r with ⟨rfl, rfl⟩ | ⟨a, b, rfl, rfl, _⟩ <;> rfl
theorem in_core {g : Bool → Bool} {rT rL rS rD : R2} (hT : ∀ x y H Q, (∃ d ds, Dp X.K H x d ∧ Dp X.K H y (.tuple ds) ∧ SeqAt.shaped d = true ∧ SeqAt.shaped (.tuple ds) = true ∧ Q (.bl (g (ds.any fun z => PyData.eqv z d))) H) → rT x y H Q)
    (hL : ∀ x y H Q, (∃ d ds, Dp X.K H x d ∧ Dp X.K H y (.list ds) ∧ SeqAt.shaped d = true ∧ SeqAt.shaped (.list ds) = true ∧ Q (.bl (g (ds.any fun z => PyData.eqv z d))) H) → rL x y H Q)
    (hS : ∀ x y H Q, (∃ (c : Nat) (z : Str), x = .str ⟨#[c]⟩ ∧ y = .str z ∧ Q (.bl (g (decide (c ∈ z.cps.toList)))) H) → rS x y H Q)
    (hD : ∀ x y H Q, (∃ a o, y = .ref a ∧ DG H a x o ∧ Q (.bl (g o.isSome)) H) → rD x y H Q) :
    ∀ μ H h a b x y P Q, RelH X.K X.mg μ H h → RepV X.K μ H a x → RepV X.K μ H b y → (inZ h a b fun k => P (.bl (g k)) h) → Fol X.K X.mg μ H P Q → rT x y H Q ∨ rL x y H Q ∨ rS x y H Q ∨ rD x y H Q := by
  intro μ H h a b x y P Q R ra rb o f
  unfold inZ at o
  split at o
  · rename_i zs
    have e : dOf h (.tup zs) = .tuple (zs.map Z.toD) := by show Z.toD (.tup zs) = _; unfold Z.toD; rw [toDs_map]
    refine .inl (hT _ _ _ _ ⟨_, zs.map Z.toD, dpo_of R (SeqAt.canLay_of_shaped o.1) ra, by rw [← e]; exact dpo_of R (SeqAt.canLay_of_shaped o.2.1) rb, o.1, by rw [← e]; exact o.2.1, ?_⟩)
    rw [List.any_map]
    exact f.here R o.2.2 rep_bl
  · split at o
    · obtain ⟨c, rfl, p⟩ := o
      cases of_str ra; cases of_str rb
      exact .inr (.inr (.inl (hS _ _ _ _ ⟨c, _, rfl, rfl, f.here R p rep_bl⟩)))
    · exact o.elim
  · rename_i n
    split at o
    · rename_i zs e1
      have e : dOf h (.ref n) = .list (zs.map (dL Z.toD h)) := dL_lst e1
      refine .inr (.inl (hL _ _ _ _ ⟨_, zs.map (dL Z.toD h), dpo_of R (SeqAt.canLay_of_shaped o.1) ra, by rw [← e]; exact dpo_of R (SeqAt.canLay_of_shaped o.2.1) rb, o.1, by rw [← e]; exact o.2.1, ?_⟩))
      rw [List.any_map]
      exact f.here R o.2.2 rep_bl
    · rename_i kvs e1
      obtain ⟨p, ho, rfl, _, hp, d⟩ := dict_of R e1 rb
      obtain ⟨q, gg, r⟩ := dict_at hp d o.1 ra
      refine .inr (.inr (.inr (hD _ _ _ _ ⟨p, q, rfl, gg, ?_⟩)))
      rw [optR_is r]
      exact f.here R o.2 rep_bl
    · rename_i kvs e1
      obtain ⟨p, ob, ho, rfl, _, hp, d⟩ := dictL_of R e1 rb
      obtain ⟨q, gg, r⟩ := dictL_at hp d o.1 o.2.1 ra
      refine .inr (.inr (.inr (hD _ _ _ _ ⟨p, q, rfl, gg, ?_⟩)))
      rw [optR_is r]
      exact f.here R o.2.2 rep_bl
    · exact o.elim
  · exact o.elim
theorem op_inZ (hu : X.A.units + 65 < cLine) : OpZ X (compareOp .In) oIn :=
  ⟨_, (op_inT hu).or ((op_inD hu).or (op_in_sign.or (op_inDict (by omega)))), in_core (g := fun k => k) (fun _ _ _ _ h => h) (fun _ _ _ _ h => h) (fun _ _ _ _ h => h) (fun _ _ _ _ h => h)⟩
theorem op_notInZ (hu : X.A.units + 65 < cLine) : OpZ X (compareOp .NotIn) oNotIn :=
  ⟨_, (op_notInT hu).or ((op_notInD hu).or (op_notIn_sign.or (op_notInDict (by omega)))), in_core (g := fun k => !k) (fun _ _ _ _ h => h) (fun _ _ _ _ h => h) (fun _ _ _ _ h => h) (fun _ _ _ _ h => h)⟩
end
end ZL

namespace ZL
open PySem PySem.Spec PyProof.Rows L2
section
variable {X : Cx} {B : List Addr × Hp}

/-! ### truth -/
def truK (h : ZH) : Z → Option Bool
  | .non => some false
  | .bl b => some b
  | .int i => some (i != 0)
  | .str x => if x.length ≤ sizeLine then some (x.length != 0) else none
  | .tup zs => some (!zs.isEmpty)
  | .scr ns => some (!ns.isEmpty)
  | .ref n => match h[n]? with
    | some (.lst zs) => some (!zs.isEmpty)
    | some (.dict kvs) => if (kvs.all fun p => !isT p.1) = true then some (!kvs.isEmpty) else none
    | _ => none
  | .err _ => none
def TruZ (K : PySem.W.Frag) (x : V) (H : Hp) (k : Bool) : Prop := TruV K x H k ∨ ∃ p, x = .ref p ∧ H p = some (.dT []) ∧ k = false
theorem truZ_ok {pins : List (Addr × Obj)} {σ : L2.St} {H : Hp} {s : Shared} {x : V} {v : Value} {k : Bool} {Q : Bool → Hp → Prop} (I : Inv X pins σ H s) (r : RelV x v) (t : TruZ X.K x H k) (q : Q k H) :
    wpAny (model X.prog X.w) X.A (truthy v) (TP X pins σ Q) X.xe s := by
  rcases t with t | ⟨p, rfl, e, rfl⟩
  · exact tru_ok pins s σ H x v Q I r ⟨k, t, q⟩
  · cases r
    refine d_truth (Inv.tk I e) (.inl upd_same) fun s' I' => ?_
    have := Inv.kt I' upd_same
    rw [upd_back e] at this
    exact ⟨H, this, q⟩
theorem isEmpty_rep {K : PySem.W.Frag} {μ : List Addr} {H : Hp} {zs : List Z} {vs : List V} (r : RepVs K μ H zs vs) : vs.isEmpty = zs.isEmpty := by
  cases zs with
  | nil => unfold RepVs at r; rw [r] <;> rfl
  | cons z zs => unfold RepVs at r; obtain ⟨v, w, rfl, _⟩ := r; rfl
theorem tru_z {μ : List Addr} {H : Hp} {h : ZH} (R : RelH X.K X.mg μ H h) {z : Z} {x : V} {k : Bool} (r : RepV X.K μ H z x) (t : truK h z = some k) : TruZ X.K x H k := by
  cases z with
  | non => cases of_non r; cases t; exact .inl rfl
  | bl b => cases of_bl r; cases t; exact .inl rfl
  | int i => cases of_int r; cases t; exact .inl rfl
  | str y =>
    cases of_str r
    have t : (if y.length ≤ sizeLine then some (y.length != 0) else none) = some k := t
    split at t
    · rename_i hl
      cases t
      refine .inl ⟨hl, ?_⟩
      rw [Bool.eq_iff_iff, bne_iff_ne, bne_iff_ne]
      omega
    · cases t
  | tup zs =>
    obtain ⟨p, vs, rfl, t', rv⟩ := of_tup r
    cases t
    exact .inl (.inr (.inl ⟨vs, t'.sq, by rw [isEmpty_rep rv]⟩))
  | scr ns =>
    obtain ⟨p, rfl, sq⟩ := scr_sq r
    cases t
    exact .inl (.inl ⟨_, sq, by cases ns <;> rfl⟩)
  | ref n =>
    have t : (match h[n]? with
      | some (.lst zs) => some (!zs.isEmpty)
      | some (.dict kvs) => if (kvs.all fun p => !isT p.1) = true then some (!kvs.isEmpty) else none
      | _ => none) = some k := t
    split at t
    · rename_i zs e
      obtain ⟨p, vs, rfl, _, hp, rv⟩ := of_lst R e r
      cases t
      exact .inl (.inl ⟨vs, SqL.of hp, by rw [isEmpty_rep rv]⟩)
    · rename_i kvs e
      split at t
      · rename_i hl
        cases t
        obtain ⟨p, o, rfl, _, hp, d⟩ := dict_of R e r
        rcases d with ⟨l, rfl, d⟩ | ⟨l, rfl, d⟩
        · refine .inl (.inr (.inr ⟨l, hp, ?_⟩))
          cases d <;> rfl
        · cases kvs with
          | nil => cases d; exact .inr ⟨p, rfl, hp, rfl⟩
          | cons q kvs =>
            have z := kt_kind d q List.mem_cons_self
            rw [List.all_cons, z] at hl
            cases hl
      · cases t
    · cases t
  | err a => cases t
def wTru (w : WE) : WT := fun env h P E => w env h (fun z h1 => match truK h1 z with
  | some k => P k h1
  | none => False) E
theorem zt_tru {e : Expr} {w : WE} (he : ZE X e w) (hw : ∀ whole, isTrue e X.env whole = (do let v ← whole; standAt e.pos; holding [v] (truthy v)) := by intro _; rfl) : ZT X e (wTru w) :=
  ⟨fun B E tk => ⟨fun pins s σ H Q I ⟨μ, env, h, P, R, q, f⟩ => by
    refine isTrue_plain (thn ((he.run B E tk).run pins s σ H _ I ⟨μ, env, h, _, R, q, fun z h1 μ1 H1 v p1 e1 R1 r1 => (?_ : ∃ k, TruZ X.K v H1 k ∧ Q k H1)⟩) fun v s1 ⟨x, H1, I1, r1, k, t, q1⟩ => truZ_ok I1 r1 t q1) (hw _)
    split at p1
    · rename_i k e2
      exact ⟨k, tru_z R1 r1 e2, f k h1 μ1 H1 p1 e1 R1⟩
    · exact p1.elim⟩⟩

/-! ### and, or, not as tests -/
structure ZW (X : Cx) (e : Expr) (w : WT) : Prop where
  run : ∀ B E, ZTk X B E → PW X e (TZt X.K X.mg B w E)
theorem pw_imp {e : Expr} {t t' : TT} (p : PW X e t) (f : ∀ σ H Q, t' σ H Q → t σ H Q) : PW X e t' := ⟨fun wh pins s σ H Q I q => p.run wh pins s σ H Q I (f _ _ _ q)⟩
theorem zt_of {e : Expr} {w : WT} (h : ZW X e w) : ZT X e w := ⟨fun B E tk => (h.run B E tk).pt⟩
def wAnd (a b : WT) : WT := fun env h P E => a env h (fun k h1 => if k = true then b env h1 P E else P false h1) E
def wOr (a b : WT) : WT := fun env h P E => a env h (fun k h1 => if k = true then P true h1 else b env h1 P E) E
def wNot (a : WT) : WT := fun env h P E => a env h (fun k h1 => P (!k) h1) E
theorem zw_and1 {a : Expr} {wa : WT} {pos} (ha : ZT X a wa) : ZW X (.BoolOp .And [a] pos) wa := ⟨fun B E tk => pw_and1 (ha.run B E tk)⟩
theorem zw_or1 {a : Expr} {wa : WT} {pos} (ha : ZT X a wa) : ZW X (.BoolOp .Or [a] pos) wa := ⟨fun B E tk => pw_or1 (ha.run B E tk)⟩
theorem zw_and {a b : Expr} {r : List Expr} {wa wb : WT} {pos} (ha : ZT X a wa) (hb : ZW X (.BoolOp .And (b :: r) pos) wb) : ZW X (.BoolOp .And (a :: b :: r) pos) (wAnd wa wb) :=
  ⟨fun B E tk => pw_imp (pw_and (ha.run B E tk) (hb.run B E tk)) fun σ H Q ⟨μ, env, h, P, R, q, f⟩ => ⟨μ, env, h, _, R, q, fun k h1 μ1 H1 p1 e1 R1 => by
    cases k with
    | true => exact ⟨μ1, env, h1, P, R.step e1 R1, p1, fun k h2 μ2 H2 p2 e2 R2 => f k h2 μ2 H2 p2 (e1.trans e2) R2⟩
    | false => exact f false h1 μ1 H1 p1 e1 R1⟩⟩
theorem zw_or {a b : Expr} {r : List Expr} {wa wb : WT} {pos} (ha : ZT X a wa) (hb : ZW X (.BoolOp .Or (b :: r) pos) wb) : ZW X (.BoolOp .Or (a :: b :: r) pos) (wOr wa wb) :=
  ⟨fun B E tk => pw_imp (pw_or (ha.run B E tk) (hb.run B E tk)) fun σ H Q ⟨μ, env, h, P, R, q, f⟩ => ⟨μ, env, h, _, R, q, fun k h1 μ1 H1 p1 e1 R1 => by
    cases k with
    | false => exact ⟨μ1, env, h1, P, R.step e1 R1, p1, fun k h2 μ2 H2 p2 e2 R2 => f k h2 μ2 H2 p2 (e1.trans e2) R2⟩
    | true => exact f true h1 μ1 H1 p1 e1 R1⟩⟩
theorem zt_not {a : Expr} {wa : WT} {pos} (ha : ZT X a wa) : ZT X (.UnaryOp .Not a pos) (wNot wa) :=
  ⟨fun B E tk => pt_imp (pt_not (ha.run B E tk)) fun σ H Q ⟨μ, env, h, P, R, q, f⟩ => ⟨μ, env, h, _, R, q, fun k h1 μ1 H1 p1 e1 R1 => f _ h1 μ1 H1 p1 e1 R1⟩⟩
/-! as values -/
def wAndV (a b : WE) : WE := fun env h P E => a env h (fun z h1 => match z with | .bl k => (if k = true then b env h1 P E else P (.bl false) h1) | _ => False) E
def wOrV (a b : WE) : WE := fun env h P E => a env h (fun z h1 => match z with | .bl k => (if k = true then P (.bl true) h1 else b env h1 P E) | _ => False) E
theorem ze_one {a : Expr} {op} {w : WE} {pos} (ha : ZE X a w) : ZE X (.BoolOp op [a] pos) w := ⟨fun B E tk => pe_one (ha.run B E tk)⟩
theorem ze_and {a b : Expr} {r : List Expr} {wa wb : WE} {pos} (ha : ZE X a wa) (hb : ZE X (.BoolOp .And (b :: r) pos) wb) : ZE X (.BoolOp .And (a :: b :: r) pos) (wAndV wa wb) :=
  ⟨fun B E tk => pe_imp (pe_and (ha.run B E tk) (hb.run B E tk)) fun σ H Q ⟨μ, env, h, P, R, q, f⟩ => ⟨μ, env, h, _, R, q, fun z h1 μ1 H1 v p1 e1 R1 r1 => by
    split at p1
    · rename_i k
      refine ⟨k, of_bl r1, ?_⟩
      cases k with
      | true => exact ⟨μ1, env, h1, P, R.step e1 R1, p1, f.ext e1⟩
      | false => exact f _ h1 μ1 H1 _ p1 e1 R1 rep_bl
    · exact p1.elim⟩⟩
theorem ze_or {a b : Expr} {r : List Expr} {wa wb : WE} {pos} (ha : ZE X a wa) (hb : ZE X (.BoolOp .Or (b :: r) pos) wb) : ZE X (.BoolOp .Or (a :: b :: r) pos) (wOrV wa wb) :=
  ⟨fun B E tk => pe_imp (pe_or (ha.run B E tk) (hb.run B E tk)) fun σ H Q ⟨μ, env, h, P, R, q, f⟩ => ⟨μ, env, h, _, R, q, fun z h1 μ1 H1 v p1 e1 R1 r1 => by
    split at p1
    · rename_i k
      refine ⟨k, of_bl r1, ?_⟩
      cases k with
      | false => exact ⟨μ1, env, h1, P, R.step e1 R1, p1, f.ext e1⟩
      | true => exact f _ h1 μ1 H1 _ p1 e1 R1 rep_bl
    · exact p1.elim⟩⟩
def wNotV (a : WE) : WE := fun env h P E => a env h (fun z h1 => match z with | .bl k => P (.bl (!k)) h1 | _ => False) E
theorem ze_not {a : Expr} {w : WE} {pos} (ha : ZE X a w) : ZE X (.UnaryOp .Not a pos) (wNotV w) :=
  ⟨fun B E tk => pe_imp (pe_not (ha.run B E tk)) fun σ H Q ⟨μ, env, h, P, R, q, f⟩ => ⟨μ, env, h, _, R, q, fun z h1 μ1 H1 v p1 e1 R1 r1 => by
    split at p1
    · exact ⟨_, of_bl r1, f _ h1 μ1 H1 _ p1 e1 R1 rep_bl⟩
    · exact p1.elim⟩⟩
/-- a if c else b -/
def wIf (c : WT) (a b : WE) : WE := fun env h P E => c env h (fun k h1 => if k = true then a env h1 P E else b env h1 P E) E
theorem ze_if {c a b : Expr} {wc : WT} {wa wb : WE} {pos} (hc : ZT X c wc) (ha : ZE X a wa) (hb : ZE X b wb) : ZE X (.IfExp c a b pos) (wIf wc wa wb) :=
  ⟨fun B E tk => pe_imp (pe_ifExp (hc.run B E tk) (ha.run B E tk) (hb.run B E tk)) fun σ H Q ⟨μ, env, h, P, R, q, f⟩ => ⟨μ, env, h, _, R, q, fun k h1 μ1 H1 p1 e1 R1 => by
    cases k with
    | true => exact ⟨μ1, env, h1, P, R.step e1 R1, p1, f.ext e1⟩
    | false => exact ⟨μ1, env, h1, P, R.step e1 R1, p1, f.ext e1⟩⟩⟩
/-- -n -/
def wNeg (a : WE) : WE := fun env h P E => a env h (fun z h1 => match z with | .int i => P (.int (-i)) h1 | _ => False) E
theorem ze_neg {a : Expr} {w : WE} {pos} (ha : ZE X a w) : ZE X (.UnaryOp .USub a pos) (wNeg w) :=
  ⟨fun B E tk => pe_imp (pe_un un_neg (ha.run B E tk)) fun σ H Q ⟨μ, env, h, P, R, q, f⟩ => ⟨μ, env, h, _, R, q, fun z h1 μ1 H1 v p1 e1 R1 r1 => by
    split at p1
    · exact ⟨_, of_int r1, f _ h1 μ1 H1 _ p1 e1 R1 rep_int⟩
    · exact p1.elim⟩⟩
/-- a op b op' c -/
def wChain (o o' : Z2) (wa wb wc : WE) : WE := fun env h P E => wa env h (fun a h1 => wb env h1 (fun b h2 => o a b h2 fun z h3 => match z with
  | .bl k => (if k = true then wc env h3 (fun c h4 => o' b c h4 P) E else P (.bl false) h3)
  | _ => False) E) E
theorem tz_chain {o o' : Z2} {r r' : R2} {wa wb wc : WE} {E : EZ} (ho : ∀ μ H h a b x y P Q, RelH X.K X.mg μ H h → RepV X.K μ H a x → RepV X.K μ H b y → o a b h P → Fol X.K X.mg μ H P Q → r x y H Q)
    (ho' : ∀ μ H h a b x y P Q, RelH X.K X.mg μ H h → RepV X.K μ H a x → RepV X.K μ H b y → o' a b h P → Fol X.K X.mg μ H P Q → r' x y H Q) :
    ∀ σ H Q, TZ X.K X.mg B (wChain o o' wa wb wc) E σ H Q → tChain r r' (TZ X.K X.mg B wa E) (TZ X.K X.mg B wb E) (TZ X.K X.mg B wc E) σ H Q := fun σ H Q ⟨μ, env, h, P, R, q, f⟩ =>
  ⟨μ, env, h, _, R, q, fun a h1 μ1 H1 x p1 e1 R1 r1 => ⟨μ1, env, h1, _, R.step e1 R1, p1, fun b h2 μ2 H2 y p2 e2 R2 r2 => ho μ2 H2 h2 a b x y _ _ R2 (r1.mono e2) r2 p2 fun z h3 μ3 H3 v p3 e3 R3 r3 => by
    split at p3
    · rename_i k
      refine ⟨k, of_bl r3, ?_⟩
      cases k with
      | true => exact ⟨μ3, env, h3, _, ((R.step e1 R1).step e2 R2).step e3 R3, p3, fun c h4 μ4 H4 w p4 e4 R4 r4 => ho' μ4 H4 h4 b c y w P Q R4 ((r2.mono e3).mono e4) r4 p4 (f.ext (((e1.trans e2).trans e3).trans e4))⟩
      | false => exact f _ h3 μ3 H3 _ p3 ((e1.trans e2).trans e3) R3 rep_bl
    · exact p3.elim⟩⟩
theorem ze_chain {op op' : CmpOp} {o o' : Z2} {a b c : Expr} {wa wb wc : WE} {pos} (ho : OpZ X (compareOp op) o) (ho' : OpZ X (compareOp op') o') (ha : ZE X a wa) (hb : ZE X b wb) (hc : ZE X c wc)
    (hm : lastMarks [op, op'] [b, c] = false := by with_unfolding_all rfl) : ZE X (.Compare a [op, op'] [b, c] pos) (wChain o o' wa wb wc) :=
  let ⟨_, h1, h2⟩ := ho
  let ⟨_, h3, h4⟩ := ho'
  ⟨fun B E tk => pe_imp (pe_chain h1 h3 (ha.run B E tk) (hb.run B E tk) (hc.run B E tk) hm) (tz_chain h2 h4)⟩
theorem zt_chain {op op' : CmpOp} {o o' : Z2} {a b c : Expr} {wa wb wc : WE} {pos} (ho : OpZ X (compareOp op) o) (ho' : OpZ X (compareOp op') o') (ha : ZE X a wa) (hb : ZE X b wb) (hc : ZE X c wc)
    (hm : lastMarks [op, op'] [b, c] = false := by with_unfolding_all rfl) : ZT X (.Compare a [op, op'] [b, c] pos) (wB (wChain o o' wa wb wc)) :=
  let ⟨_, h1, h2⟩ := ho
  let ⟨_, h3, h4⟩ := ho'
  ⟨fun B E tk => pt_imp (pt_chain h1 h3 (ha.run B E tk) (hb.run B E tk) (hc.run B E tk) hm) (tzB (tz_chain h2 h4))⟩
end
end ZL

namespace ZL
open PySem PySem.Spec PyProof.Rows L2

/-! ### fields -/
def zput (f : Str) (v : Z) : List (Str × Z) → List (Str × Z)
  | [] => [(f, v)]
  | (g, x) :: r => if g = f then (g, v) :: r else (g, x) :: zput f v r
theorem fr_look {K : PySem.W.Frag} {μ : List Addr} {H : Hp} {fs : List (Str × Z)} {vs : List (Str × V)} (r : Paired (FR K μ H) fs vs) (f : Str) : OptR K μ H (fs.lookup f) (vs.lookup f) := by
  induction r with
  | nil => exact .inl ⟨rfl, rfl⟩
  | @cons p q l m h r ih =>
    obtain ⟨a, b⟩ := p
    obtain ⟨a', b'⟩ := q
    obtain ⟨e, h⟩ := h
    cases e
    rw [List.lookup_cons, List.lookup_cons]
    cases f == a with
    | true => exact .inr ⟨_, _, rfl, rfl, h⟩
    | false => exact ih
theorem fr_put {K : PySem.W.Frag} {μ : List Addr} {H : Hp} {f : Str} {z : Z} {v : V} (rz : RepV K μ H z v) {fs : List (Str × Z)} {vs : List (Str × V)} (r : Paired (FR K μ H) fs vs) : Paired (FR K μ H) (zput f z fs) (putF f v vs) := by
  induction r with
  | nil => exact .cons ⟨rfl, rz⟩ .nil
  | @cons p q l m h r ih =>
    obtain ⟨a, b⟩ := p
    obtain ⟨a', b'⟩ := q
    obtain ⟨e, h⟩ := h
    cases e
    unfold zput putF
    by_cases hf : a = f
    · rw [if_pos hf, if_pos hf]; exact .cons ⟨rfl, rz⟩ r
    · rw [if_neg hf, if_neg hf]; exact .cons ⟨rfl, h⟩ ih
section
variable {X : Cx} {B : List Addr × Hp}
/-- what the classes cs give at a field -/
def FOk (K : PySem.W.Frag) (mg : Str → Option Value) (cs : List Str) (f : Str) : Prop := ∀ c ∈ cs, ∀ C, mg c = some (.ref C) → Cls K C ∧ NoAttr K C f
def fldZ (cs : List Str) (f : Str) (h : ZH) (z : Z) (P : Z → Prop) : Prop := match z with
  | .ref n => (match h[n]? with
    | some (.ins c fs) => c ∈ cs ∧ (match fs.lookup f with
      | some v => P v
      | none => False)
    | _ => False)
  | _ => False
def wFld (cs : List Str) (f : Str) (w : WE) : WE := fun env h P E => w env h (fun z h1 => fldZ cs f h1 z fun v => P v h1) E
theorem ins_of {K : PySem.W.Frag} {mg : Str → Option Value} {μ : List Addr} {H : Hp} {h : ZH} (R : RelH K mg μ H h) {n : Nat} {c : Str} {fs : List (Str × Z)} {v : V} (e : h[n]? = some (.ins c fs)) (r : RepV K μ H (.ref n) v) :
    ∃ a C dx vs, v = .ref a ∧ μ[n]? = some a ∧ mg c = some (.ref C) ∧ H a = some (.ins C dx vs) ∧ Paired (FR K μ H) fs vs := by
  obtain ⟨a, rfl, ha⟩ := of_ref r
  obtain ⟨b, hb, C, dx, vs, m, e1, p⟩ := R.at e
  rw [ha] at hb; cases hb
  exact ⟨a, C, dx, vs, rfl, ha, m, e1, p⟩
theorem ze_fld {e : Expr} {f : Str} {w : WE} {cs : List Str} {pos} (ok : FOk X.K X.mg cs f) (he : ZE X e w) (hb : attributeBase e f X.env (eval e X.env) = eval e X.env := by rfl) : ZE X (.Attribute e f pos) (wFld cs f w) :=
  ⟨fun B E tk => pe_imp (pe_fld (he.run B E tk) hb) fun σ H Q ⟨μ, env, h, P, R, q, f'⟩ => ⟨μ, env, h, _, R, q, fun z h1 μ1 H1 v p1 e1 R1 r1 => by
    unfold fldZ at p1
    split at p1
    · split at p1
      · rename_i n c fs e2
        obtain ⟨hc, p1⟩ := p1
        obtain ⟨a, C, dx, vs, rfl, ha, m, hH, p⟩ := ins_of R1 e2 r1
        have l := fr_look p f
        split at p1
        · rename_i z e3
          rw [e3] at l
          obtain ⟨u, e4, ru⟩ := optR_some l
          obtain ⟨k1, k2⟩ := ok c hc C m
          exact ⟨a, C, dx, vs, u, rfl, hH, k1, k2, e4, f' _ _ _ _ _ p1 e1 R1 ru⟩
        · exact p1.elim
      · exact p1.elim
    · exact p1.elim⟩⟩
/-- o.f = e -/
def setFZ (cs : List Str) (f : Str) (h : ZH) (z v : Z) (P : ZH → Prop) : Prop := match z with
  | .ref n => (match h[n]? with
    | some (.ins c fs) => c ∈ cs ∧ fs.length < 1000 ∧ P (h.set n (.ins c (zput f v fs)))
    | _ => False)
  | _ => False
def wsFld (cs : List Str) (f : Str) (wo we : WE) : WS := fun D env h E => we env h (fun v h1 => wo env h1 (fun o h2 => setFZ cs f h2 o v fun h3 => D.nx env h3) E) E
theorem fin_set {μ : List Addr} {H : Hp} {h : ZH} (R : RelH X.K X.mg μ H h) {n : Nat} {a : Addr} {o : ZO} {u : HO} (ha : μ[n]? = some a) (w : ∃ w, H a = some w ∧ (∀ xs, w ≠ .tup xs) ∧ ∀ ob v, w ≠ .frz ob v) (ho : Ext μ H μ (upd H a u) → RelO X.K X.mg μ (upd H a u) o a) :
    RelH X.K X.mg μ (upd H a u) (h.set n o) ∧ Ext μ H μ (upd H a u) := by
  obtain ⟨w, ew, w1, w2⟩ := w
  have ex : Ext μ H μ (upd H a u) := ext_at (List.mem_of_getElem? ha) ⟨w, ew, w1, w2⟩
  exact R.set ha ⟨w, ew, w1, w2⟩ (ho ex)
theorem set_fld {μ : List Addr} {H : Hp} {h : ZH} {n : Nat} {f c : Str} {fs : List (Str × Z)} {z : Z} {v : V} {a C dx : Addr} {vs : List (Str × V)} (R : RelH X.K X.mg μ H h) (ha : μ[n]? = some a) (m : X.mg c = some (.ref C))
    (hH : H a = some (.ins C dx vs)) (p : Paired (FR X.K μ H) fs vs) (rz : RepV X.K μ H z v) : RelH X.K X.mg μ (upd H a (.ins C dx (putF f v vs))) (h.set n (.ins c (zput f z fs))) ∧ Ext μ H μ (upd H a (.ins C dx (putF f v vs))) :=
  fin_set R ha ⟨_, hH, by simp, by simp⟩ fun ex => ⟨C, dx, _, m, upd_same, fr_put (rz.mono ex) (paired_mono (fun _ _ y => ⟨y.1, y.2.mono ex⟩) p)⟩
theorem zs_fld {o value : Expr} {f : Str} {wo we : WE} {cs : List Str} {pos pos'} (ok : FOk X.K X.mg cs f) (ho : ZE X o wo) (hv : ZE X value we) (hs : swapsWith value (some (.Attribute o f pos')) pos.line X.env = pure false := by rfl) :
    ZS X (.Assign [.Attribute o f pos'] value pos) (wsFld cs f wo we) :=
  ⟨fun B E tk => ps_imp (ps_fld (ho.run B E tk) (hv.run B E tk) hs) fun D' σ H ⟨μ, env, h, D, R, q, fd⟩ => ⟨μ, env, h, _, R, q, fun z h1 μ1 H1 v p1 e1 R1 r1 => ⟨μ1, env, h1, _, R.step e1 R1, p1, fun y h2 μ2 H2 x p2 e2 R2 r2 => by
    unfold setFZ at p2
    split at p2
    · split at p2
      · rename_i n c fs e3
        obtain ⟨hc, hl, p2⟩ := p2
        obtain ⟨a, C, dx, vs, rfl, ha, m, hH, p⟩ := ins_of R2 e3 r2
        obtain ⟨k1, k2⟩ := ok c hc C m
        obtain ⟨R3, ex⟩ := set_fld (f := f) R2 ha m hH p (r1.mono e2)
        refine ⟨a, C, dx, vs, rfl, hH, k1, k2, by rw [← paired_len p]; exact hl, fd.nx _ _ _ _ _ (((R.step e1 R1).step e2 R2).step ex R3) p2⟩
      · exact p2.elim
    · exact p2.elim⟩⟩⟩
/-- o.f += e, o.f -= e -/
def wsFldAug (sg : Bool) (cs : List Str) (f : Str) (wo we : WE) : WS := fun D env h E => wo env h (fun o h1 => match o with
  | .ref n => (match h1[n]? with
    | some (.ins c fs) => c ∈ cs ∧ (match fs.lookup f with
      | some x => we env h1 (fun y h2 => match x, y with
        | .int i, .int j => (match h2[n]? with
          | some (.ins c2 fs2) => c2 = c ∧ fs2.length < 1000 ∧ D.nx env (h2.set n (.ins c2 (zput f (.int (if sg = true then i + j else i - j)) fs2)))
          | _ => False)
        | _, _ => False) E
      | none => False)
    | _ => False)
  | _ => False) E
theorem fldaug_core {sg : Bool} {op : Operator} {rd : V → V → Hp → VK → Prop} (hop : InOp X op rd) (hrd : ∀ i j H Q, Q (.int (if sg = true then i + j else i - j)) H → rd (.int i) (.int j) H Q) {o value : Expr} {f : Str} {wo we : WE} {cs : List Str} {pos tpos} (ok : FOk X.K X.mg cs f)
    (ho : ZE X o wo) (hv : ZE X value we) : ZS X (.AugAssign (.Attribute o f tpos) op value pos) (wsFldAug sg cs f wo we) :=
  ⟨fun B E tk => ps_imp (ps_fldaug (ho.run B E tk) (hv.run B E tk) hop) fun D' σ H ⟨μ, env, h, D, R, q, fd⟩ => ⟨μ, env, h, _, R, q, fun z h1 μ1 H1 v p1 e1 R1 r1 => by
    split at p1
    · split at p1
      · rename_i n _ c fs e2
        obtain ⟨hc, p1⟩ := p1
        obtain ⟨a, C, dx, vs, rfl, ha, m, hH, p⟩ := ins_of R1 e2 r1
        have l := fr_look p f
        split at p1
        · rename_i z e3
          rw [e3] at l
          obtain ⟨u, e4, ru⟩ := optR_some l
          obtain ⟨k1, k2⟩ := ok c hc C m
          refine ⟨a, C, dx, vs, u, rfl, hH, k1, k2, e4, μ1, env, h1, _, R.step e1 R1, p1, fun y h2 μ2 H2 x p2 ex2 R2 r2 => ?_⟩
          split at p2
          · rename_i i j
            cases of_int (ru.mono ex2); cases of_int r2
            split at p2
            · rename_i c2 fs2 e5
              obtain ⟨rfl, hl, p2⟩ := p2
              obtain ⟨a', C', dx', vs', ea', ha', m', hH', p'⟩ := ins_of (v := .ref a) R2 e5 (by unfold RepV; exact ⟨a, rfl, ex2.get ha⟩)
              cases ea'
              rw [m] at m'; cases m'
              obtain ⟨R3, ex⟩ := set_fld (f := f) (z := .int (if sg = true then i + j else i - j)) R2 ha' m hH' p' rep_int
              exact hrd _ _ _ _ ⟨dx', vs', hH', by rw [← paired_len p']; exact hl, fd.nx _ _ _ _ _ (((R.step e1 R1).step ex2 R2).step ex R3) p2⟩
            · exact p2.elim
          · exact p2.elim
        · exact p1.elim
      · exact p1.elim
    · exact p1.elim⟩⟩
theorem zs_fldadd {o value : Expr} {f : Str} {wo we : WE} {cs : List Str} {pos tpos} (ok : FOk X.K X.mg cs f) (ho : ZE X o wo) (hv : ZE X value we) : ZS X (.AugAssign (.Attribute o f tpos) .Add value pos) (wsFldAug true cs f wo we) :=
  fldaug_core (sg := true) in_add (fun i j H Q q => ⟨i, j, rfl, rfl, q⟩) ok ho hv
theorem zs_fldsub {o value : Expr} {f : Str} {wo we : WE} {cs : List Str} {pos tpos} (ok : FOk X.K X.mg cs f) (ho : ZE X o wo) (hv : ZE X value we) : ZS X (.AugAssign (.Attribute o f tpos) .Sub value pos) (wsFldAug false cs f wo we) :=
  fldaug_core (sg := false) in_sub (fun i j H Q q => ⟨i, j, rfl, rfl, q⟩) ok ho hv
end

/-! ### room, and no repr on the way -/
structure RoomG (k : Nat) (A : Around) : Prop where
  r : Room k A
  g : A.guards = some []
theorem RoomG.mono {j k : Nat} {A : Around} (x : RoomG k A) (h : j ≤ k) : RoomG j A := ⟨x.r.mono h, x.g⟩
theorem RoomG.deeper {k : Nat} {A : Around} (x : RoomG (k + 1) A) (env : PySem.Env) : RoomG k (A.deeper env) := ⟨x.r.deeper env, x.g⟩
theorem RoomG.make {k : Nat} {A : Around} (x : RoomG (k + 1) A) (C : Addr) (us : List Value) (kw : List (Str × Value)) : RoomG k (A.under (.builtin "type.__call__" ⟨.ref C :: us, kw⟩)) :=
  ⟨x.r.make C us kw, by simp [Around.under, x.g, Code.guards, Code.isGuard, pushGuards, guardIds]⟩
/-- a def's promise, there -/
structure FnG (P : Program) (w : World) (K : PySem.W.Frag) (mg : Str → Option Value) (base : Heap) (CX : CXT) (k : Nat) (f : Addr) (fd : FuncData) (ps : List Str) (sp : Sp) : Prop where
  len : ∀ vs H Q E, sp vs H Q E → vs.length = ps.length
  run : ∀ (A : Around) (outer : List PySem.Env) (s : Shared) (H : Hp) (args : Args) (us : List Value) (vs : List V) (Q : VK) (E : XK), RoomG k A → Env0 P w K mg base A outer s H → BindsTo s fd args (ps.zip us) → Vals vs us → sp vs H Q E →
    codeAny (model P w) A (.call (.ref f) args) (CR CX outer P w H s Q E) s
theorem FnG.imp {P : Program} {w : World} {K : PySem.W.Frag} {mg : Str → Option Value} {base : Heap} {CX : CXT} {k : Nat} {f : Addr} {fd : FuncData} {ps : List Str} {sp sp' : Sp} (F : FnG P w K mg base CX k f fd ps sp) (h : ∀ vs H Q E, sp' vs H Q E → sp vs H Q E) : FnG P w K mg base CX k f fd ps sp' :=
  ⟨fun vs H Q E q => F.len vs H Q E (h _ _ _ _ q), fun A o s H a us vs Q E r0 e0 b v q => F.run A o s H a us vs Q E r0 e0 b v (h _ _ _ _ q)⟩
section
variable {X : Cx} {CX : CXT} {k : Nat} {f : Addr} {fd : FuncData} {ps : List Str} {sp : Sp} {E : L2.St → XK}
theorem run_fnG {pins : List (Addr × Obj)} {σ : L2.St} {H : Hp} {s : Shared} {Q : VK} {us : List Value} {vs : List V} (F : FnG X.prog X.w X.K X.mg X.base CX k f fd ps sp) (hr : RoomG k X.A) (hb : Binds X.K fd ps []) (hx : PassesAt CX X σ (E σ))
    (I : Inv X pins σ H s) (r : Vals vs us) (h : sp vs H Q (E σ)) : wpAny (model X.prog X.w) X.A (call (.ref f) us) (EP X pins σ Q) X.xe s := by
  have b := hb s us I.kIn (by rw [List.append_nil, ← r.length]; exact F.len _ _ _ _ h)
  rw [List.append_nil] at b
  refine wpAny_call (codeAny_mono (F.run X.A X.stack s H ⟨us, []⟩ us vs Q (E σ) hr I.env0 b r h) fun r' s' hq => ?_)
  match r', hq with
  | .error e, hq => exact hx pins H s e s' I hq
  | .ok (.ret u), hq => exact I.after hq
theorem pe_callG {x : Str} {e : Expr} {es : List Expr} {t : TA} {p pos : Pos} (F : FnG X.prog X.w X.K X.mg X.base CX k f fd ps sp) (hr : RoomG k X.A) (hg : Gl X x) (hm : X.mg x = some (.ref f)) (hk : PySem.W.keepIn X.K (.ref f) = true) (hb : Binds X.K fd ps []) (hx : ∀ σ, PassesAt CX X σ (E σ)) (ha : PA X (e :: es) t)
    (hdb : (x == ("__debug__" : Str)) = false := by decide) (he : starEach (e :: es) X.env = (false, eval e X.env) :: starEach es X.env := by rfl) (hpl : (backTo pos (starEach es X.env)).any (·.1) = false := by rfl) : PE X (.Call (.Name x p) (e :: es) [] pos) (tCallS sp E t) :=
  ⟨fun pins s σ H Q I h => wpAny_Call_Name_kw (ld_glob I hg hm (PySem.W.callWith_K (h₀ := X.base) I.ok.mod.kin hk (thn (ha.run pos pins s σ H _ I h) fun us s1 ⟨vs, H1, I1, r, q⟩ => ⟨I1.kIn, run_fnG F hr hb (hx σ) I1 r q⟩) he hpl) hdb)⟩
end

/-! ### calls of defs -/
/-- what a def does: arguments, heap, what follows, what follows of an exception -/
abbrev WF := List Z → ZH → PZ → (XZ → ZH → Prop) → Prop
def spZ (K : PySem.W.Frag) (mg : Str → Option Value) (n : Nat) (wf : WF) : Sp := fun vs H Q E => vs.length = n ∧ ∃ μ zs h P EX, RelH K mg μ H h ∧ RepVs K μ H zs vs ∧ wf zs h P EX ∧ Fol K mg μ H P Q ∧
  ∀ x h' μ' H' c d, EX x h' → Ext μ H μ' H' → RelH K mg μ' H' h' → RelX K mg μ' H' x c d → NewX (μ, H) d → E c d H'
/-- a function object of the text that does wf -/
structure FnZ (P : Program) (w : World) (K : PySem.W.Frag) (mg : Str → Option Value) (base : Heap) (k n : Nat) (wf : WF) (f : Addr) : Prop where
  ex : ∃ (fd : FuncData) (ps : List Str), ps.length = n ∧ FnG P w K mg base (L2N.CX P w) k f fd ps (spZ K mg n wf) ∧ PySem.W.keepIn K (.ref f) = true ∧ Binds K fd ps []
theorem FnZ.imp {P : Program} {w : World} {K : PySem.W.Frag} {mg : Str → Option Value} {base : Heap} {k n : Nat} {wf wf' : WF} {f : Addr} (F : FnZ P w K mg base k n wf f) (h : ∀ zs h P E, wf' zs h P E → wf zs h P E) : FnZ P w K mg base k n wf' f := by
  obtain ⟨fd, ps, hl, ok, r⟩ := F.ex
  exact ⟨fd, ps, hl, ok.imp fun vs H Q E ⟨l, μ, zs, hh, P, EX, R, rv, q, f⟩ => ⟨l, μ, zs, hh, P, EX, R, rv, h _ _ _ _ q, f⟩, r⟩
section
variable {X : Cx} {B : List Addr × Hp}
def wCall (n : Nat) (wf : WF) (wa : WA) : WE := fun env h P E => wa env h (fun zs h1 => zs.length = n ∧ wf zs h1 P (fun x h2 => E x env h2)) E
/-- the callee's promise, from what is known at the call -/
theorem sp_of {wf : WF} {n : Nat} {E : EZ} {μ : List Addr} {env : Env} {h : ZH} {σ : L2.St} {H : Hp} {zs : List Z} {vs : List V} {P : PZ} {Q : VK} (R : Rel X.K X.mg B μ env h σ H) (r : RepVs X.K μ H zs vs) (hn : vs.length = n) (q : wf zs h P (fun x h2 => E x env h2)) (f : Fol X.K X.mg μ H P Q) :
    spZ X.K X.mg n wf vs H Q (L2.WE (WZ X.K X.mg B E) σ) :=
  ⟨hn, μ, zs, h, P, _, R.heap, r, q, f, fun x h' μ' H' c d ex e1 R1 rx nx => ⟨x, μ', env, h', R.step e1 R1, rx, nx.back (B' := (μ, H)) R.ext, ex⟩⟩
theorem ze_call {k n : Nat} {wf : WF} {f : Addr} {x : Str} {e : Expr} {es : List Expr} {wa : WA} {p pos : Pos} (F : FnZ X.prog X.w X.K X.mg X.base k n wf f) (hr : RoomG k X.A) (hg : Gl X x) (hm : X.mg x = some (.ref f)) (ha : ZA X (e :: es) wa)
    (hdb : (x == ("__debug__" : Str)) = false := by decide) (he : starEach (e :: es) X.env = (false, eval e X.env) :: starEach es X.env := by rfl) (hpl : (backTo pos (starEach es X.env)).any (·.1) = false := by rfl) :
    ZE X (.Call (.Name x p) (e :: es) [] pos) (wCall n wf wa) := by
  obtain ⟨fd, ps, hp, ok, kp, hb⟩ := F.ex
  refine ⟨fun B E tk => pe_imp (pe_callG ok hr hg hm kp hb (fun σ => L2N.passAt tk σ) (ha.run B E tk) hdb he hpl) fun σ H Q ⟨μ, env, h, P, R, q, f⟩ => ⟨μ, env, h, _, R, q, fun zs h1 μ1 H1 vs ⟨l, p1⟩ e1 R1 r1 => ?_⟩⟩
  exact sp_of (R.step e1 R1) r1 (by rw [← r1.length]; exact l) p1 (f.ext e1)
theorem ze_call0 {k : Nat} {wf : WF} {f : Addr} {x : Str} {p pos : Pos} (F : FnZ X.prog X.w X.K X.mg X.base k 0 wf f) (hr : RoomG k X.A) (hg : Gl X x) (hm : X.mg x = some (.ref f))
    (hdb : (x == ("__debug__" : Str)) = false := by decide) : ZE X (.Call (.Name x p) [] [] pos) (wCall 0 wf wNil) := by
  obtain ⟨fd, ps, hp, ok, kp, hb⟩ := F.ex
  refine ⟨fun B E tk => ⟨fun pins s σ H Q I ⟨μ, env, h, P, R, q, f⟩ => ?_⟩⟩
  refine wpAny_Call_Name_kw (ld_glob I hg hm ?_ hdb)
  exact PySem.W.callWith_K0 I.kIn kp (run_fnG (us := []) (E := L2.WE (WZ X.K X.mg B E)) ok hr hb (L2N.passAt tk σ) I .nil (sp_of R .nil rfl q.2 f))
/-- a method of the class c -/
structure MtZ (X : Cx) (c m : Str) (k n : Nat) (wf : WF) : Prop where
  ex : ∃ C f, X.mg c = some (.ref C) ∧ Cls X.K C ∧ Meth X.K C m f ∧ FnZ X.prog X.w X.K X.mg X.base k n wf f
def insZ (c m : Str) (h : ZH) (o : Z) (P : Prop) : Prop := match o with
  | .ref i => (match h[i]? with
    | some (.ins c' fs) => c' = c ∧ fs.lookup m = none ∧ P
    | _ => False)
  | _ => False
def wMeth (c m : Str) (n : Nat) (wf : WF) (wo : WE) (wa : WA) : WE := fun env h P E => wo env h (fun o h1 => insZ c m h1 o (wa env h1 (fun zs h2 => zs.length = n ∧ wf (o :: zs) h2 P (fun x h2 => E x env h2)) E)) E
theorem ze_meth {pl : Sem Bool} {c m : Str} {k n : Nat} {wf : WF} {o e : Expr} {es : List Expr} {wo : WE} {wa : WA} {apos pos : Pos} (M : MtZ X c m k (n + 1) wf) (hr : RoomG k X.A) (ho : ZE X o wo) (ha : ZA X (e :: es) wa)
    (hst : starEach (e :: es) X.env = (false, eval e X.env) :: starEach es X.env := by rfl) (hpl : (backTo pos (starEach es X.env)).any (·.1) = false := by rfl)
    (ht : eval (.Call (.Attribute o m apos) (e :: es) [] pos) X.env = (do
      let ov ← eval o X.env
      standAt apos.atName
      let (f, first) ← holding [ov] (getMethod ov m pl)
      callWith pos f first (backTo pos (starEach (e :: es) X.env)) (backToKw pos (keywordEach [] X.env))) := by rfl) :
    ZE X (.Call (.Attribute o m apos) (e :: es) [] pos) (wMeth c m n wf wo wa) := by
  obtain ⟨C, f, hC, cl, hm, F⟩ := M.ex
  obtain ⟨fd, ps, hp, ok, kp, hb⟩ := F.ex
  refine ⟨fun B E tk => ⟨fun pins s σ H Q I ⟨μ, env, h, P, R, q, f⟩ => ?_⟩⟩
  refine PySem.W.methodCall_KW (pl := pl) (thn ((ho.run B E tk).run pins s σ H (fun x H1 => ∃ a dx fs, x = .ref a ∧ H1 a = some (.ins C dx fs) ∧ fs.lookup m = none ∧ TZa X.K X.mg B wa E σ H1 fun vs H2 => spZ X.K X.mg (n + 1) wf (x :: vs) H2 Q (L2.WE (WZ X.K X.mg B E) σ)) I
    ⟨μ, env, h, _, R, q, fun o h1 μ1 H1 v p1 e1 R1 r1 => ?_⟩) fun u s1 ⟨x, H1, I1, rx, a, dx, fs, ex, ea, l, q⟩ => ?_) ht
  · unfold insZ at p1
    split at p1
    · split at p1
      · rename_i i _ c' fs e2
        obtain ⟨rfl, hl, p1⟩ := p1
        obtain ⟨a, C', dx, vs, rfl, ha', m', hH, p⟩ := ins_of R1 e2 r1
        rw [hC] at m'; cases m'
        have l := fr_look p m
        rw [hl] at l
        have l : vs.lookup m = none := by
          rcases l with ⟨_, e⟩ | ⟨_, _, e, _⟩
          · exact e
          · cases e
        refine ⟨a, dx, vs, rfl, hH, l, μ1, env, h1, _, R.step e1 R1, p1, fun zs h2 μ2 H2 ws ⟨l2, p2⟩ e2 R2 r2 => ?_⟩
        exact sp_of ((R.step e1 R1).step e2 R2) (.cons (r1.mono e2) r2) (by rw [List.length_cons, ← r2.length, l2]) p2 (f.ext (e1.trans e2))
      · exact p1.elim
    · exact p1.elim
  · subst ex
    obtain rfl : u = Value.ref a := rx
    refine getmeth_ok I1 ea cl hm l ?_
    refine PySem.W.callWith_K (first := [.ref a]) (h₀ := X.base) I.ok.mod.kin hm.kp (thn ((ha.run B E tk).run pos pins s1 σ H1 _ I1 q) fun us s2 ⟨vs, H2, I2, r, q2⟩ => ⟨I2.kIn, ?_⟩) hst hpl
    exact run_fnG (us := .ref a :: us) (vs := .ref a :: vs) (E := L2.WE (WZ X.K X.mg B E)) ok hr hb (L2N.passAt tk σ) I2 (.cons rfl r) q2
theorem ze_meth0 {pl : Sem Bool} {c m : Str} {k : Nat} {wf : WF} {o : Expr} {wo : WE} {apos pos : Pos} (M : MtZ X c m k 1 wf) (hr : RoomG k X.A) (ho : ZE X o wo)
    (ht : eval (.Call (.Attribute o m apos) [] [] pos) X.env = (do
      let ov ← eval o X.env
      standAt apos.atName
      let (f, first) ← holding [ov] (getMethod ov m pl)
      callWith pos f first (backTo pos (starEach [] X.env)) (backToKw pos (keywordEach [] X.env))) := by rfl) :
    ZE X (.Call (.Attribute o m apos) [] [] pos) (wMeth c m 0 wf wo wNil) := by
  obtain ⟨C, f, hC, cl, hm, F⟩ := M.ex
  obtain ⟨fd, ps, hp, ok, kp, hb⟩ := F.ex
  refine ⟨fun B E tk => ⟨fun pins s σ H Q I ⟨μ, env, h, P, R, q, f⟩ => ?_⟩⟩
  refine PySem.W.methodCall_KW (pl := pl) (thn ((ho.run B E tk).run pins s σ H (fun x H1 => ∃ a dx fs, x = .ref a ∧ H1 a = some (.ins C dx fs) ∧ fs.lookup m = none ∧ spZ X.K X.mg 1 wf [x] H1 Q (L2.WE (WZ X.K X.mg B E) σ)) I
    ⟨μ, env, h, _, R, q, fun o h1 μ1 H1 v p1 e1 R1 r1 => ?_⟩) fun u s1 ⟨x, H1, I1, rx, a, dx, fs, ex, ea, l, q⟩ => ?_) ht
  · unfold insZ at p1
    split at p1
    · split at p1
      · rename_i i _ c' fs e2
        obtain ⟨rfl, hl, p1⟩ := p1
        obtain ⟨a, C', dx, vs, rfl, ha', m', hH, p⟩ := ins_of R1 e2 r1
        rw [hC] at m'; cases m'
        have l := fr_look p m
        rw [hl] at l
        have l : vs.lookup m = none := by
          rcases l with ⟨_, e⟩ | ⟨_, _, e, _⟩
          · exact e
          · cases e
        refine ⟨a, dx, vs, rfl, hH, l, ?_⟩
        exact sp_of (R.step e1 R1) (.cons r1 .nil) rfl p1.2 (f.ext e1)
      · exact p1.elim
    · exact p1.elim
  · subst ex
    obtain rfl : u = Value.ref a := rx
    refine getmeth_ok I1 ea cl hm l ?_
    exact PySem.W.callWith_K0 (first := [.ref a]) I1.kIn hm.kp (run_fnG (us := [.ref a]) (vs := [.ref a]) (E := L2.WE (WZ X.K X.mg B E)) ok hr hb (L2N.passAt tk σ) I1 (.cons rfl .nil) q)
/-- C(..) -/
structure MkZ (X : Cx) (c : Str) (k n : Nat) (wf : WF) : Prop where
  ex : ∃ C f, X.mg c = some (.ref C) ∧ Mk X.K C f ∧ FnZ X.prog X.w X.K X.mg X.base k n wf f
def wMake (c : Str) (n : Nat) (wf : WF) (wa : WA) : WE := fun env h P E => wa env h (fun zs h1 => zs.length = n ∧ wf (.ref h1.length :: zs) (h1 ++ [.ins c []]) (fun r h2 => r = .non ∧ P (.ref h1.length) h2) (fun x h2 => E x env h2)) E
theorem run_makeZ {pins : List (Addr × Obj)} {σ : L2.St} {H : Hp} {s : Shared} {Q : VK} {us : List Value} {vs : List V} {c : Str} {k n : Nat} {wf : WF} {E : EZ} {C f : Addr} {fd : FuncData} {ps : List Str} {μ : List Addr} {env : Env} {h : ZH} {zs : List Z} {P : PZ} (hC : X.mg c = some (.ref C)) (M : Mk X.K C f)
    (ok : FnG X.prog X.w X.K X.mg X.base (L2N.CX X.prog X.w) k f fd ps (spZ X.K X.mg (n + 1) wf)) (hb : Binds X.K fd ps []) (hr : RoomG (k + 1) X.A) (tk : ZTk X B E) (I : Inv X pins σ H s) (r : Vals vs us) (R : Rel X.K X.mg B μ env h σ H) (rz : RepVs X.K μ H zs vs) (hn : zs.length = n)
    (q : wf (.ref h.length :: zs) (h ++ [.ins c []]) (fun r h2 => r = .non ∧ P (.ref h.length) h2) (fun x h2 => E x env h2)) (f : Fol X.K X.mg μ H P Q) : wpAny (model X.prog X.w) X.A (call (.ref C) us) (EP X pins σ Q) X.xe s := by
  have I2 := Inv.made (C := C) I
  have f0 : H s.heap.objs.size = none := I.hok.fresh (Nat.le_refl _)
  have f1 : H (s.heap.objs.size + 1) = none := I.hok.fresh (Nat.le_succ _)
  generalize hdx : s.heap.objs.size = dx at *
  have ne : dx + 1 ≠ dx := Nat.succ_ne_self dx
  have f1' : (upd H dx (.own (dx + 1))) (dx + 1) = none := by rw [upd_ne ne]; exact f1
  have ex1 : Ext μ H μ (upd H dx (.own (dx + 1))) := ext_new f0
  have ex2 : Ext μ H (μ ++ [dx + 1]) (upd (upd H dx (.own (dx + 1))) (dx + 1) (.ins C dx [])) := ext_app _ (ex1.trans (ext_new f1')) f1
  have R2 : RelH X.K X.mg (μ ++ [dx + 1]) (upd (upd H dx (.own (dx + 1))) (dx + 1) (.ins C dx [])) (h ++ [.ins c []]) := (R.heap.tup (u := .own (dx + 1)) f0).new f1' ⟨C, dx, [], hC, upd_same, .nil⟩
  have rr : RepV X.K (μ ++ [dx + 1]) (upd (upd H dx (.own (dx + 1))) (dx + 1) (.ins C dx [])) (.ref h.length) (.ref (dx + 1)) := by
    unfold RepV
    exact ⟨_, rfl, by rw [← R.heap.len]; simp⟩
  have sp : spZ X.K X.mg (n + 1) wf (V.ref (dx + 1) :: vs) (upd (upd H dx (.own (dx + 1))) (dx + 1) (.ins C dx [])) (fun v H2 => v = .non ∧ Q (.ref (dx + 1)) H2) (L2.WE (WZ X.K X.mg B E) σ) :=
    sp_of (P := fun r h2 => r = .non ∧ P (.ref h.length) h2) (R.step ex2 R2) (.cons rr (rz.mono ex2)) (by rw [List.length_cons, ← rz.length, hn]) q fun z h' μ' H' v ⟨ez, pz⟩ e3 R3 r3 => by
      subst ez
      exact ⟨of_non r3, f _ _ _ _ _ pz (ex2.trans e3) R3 (rr.mono e3)⟩
  have r2 : Vals (V.ref (dx + 1) :: vs) (Value.ref (dx + 1) :: us) := .cons rfl r
  have hl : (Value.ref (dx + 1) :: us).length = ps.length := by rw [← r2.length]; exact ok.len _ _ _ _ sp
  have b := hb _ (Value.ref (dx + 1) :: us) I2.kIn (by rw [List.append_nil]; exact hl)
  rw [List.append_nil] at b
  subst hdx
  refine wpAny_call (make_map I.kIn M.makes M.init (beq_iff_eq.mp M.fn) (codeAny_mono (ok.run _ X.stack _ _ ⟨Value.ref (s.heap.objs.size + 1) :: us, []⟩ (Value.ref (s.heap.objs.size + 1) :: us) _ _ (L2.WE (WZ X.K X.mg B E) σ) (hr.make C us [])
    (I2.env0.make C us []) b r2 sp) fun r s' hq' => ?_))
  cases r with
  | error e => exact L2N.passAt tk σ pins _ _ e s' I2 hq'
  | ok fl =>
    cases fl with
    | ret u =>
      obtain ⟨v, H', I3, rv, ev, q3⟩ := I2.after hq'
      subst ev
      exact ⟨rv, ⟨V.ref (s.heap.objs.size + 1), H', I3, rfl, q3⟩⟩
    | next => exact False.elim hq'
    | brk => exact False.elim hq'
    | cont => exact False.elim hq'
theorem ze_make {c : Str} {k n : Nat} {wf : WF} {e : Expr} {es : List Expr} {wa : WA} {p pos : Pos} (M : MkZ X c k (n + 1) wf) (hr : RoomG (k + 1) X.A) (hg : Gl X c) (ha : ZA X (e :: es) wa)
    (hdb : (c == ("__debug__" : Str)) = false := by decide) (he : starEach (e :: es) X.env = (false, eval e X.env) :: starEach es X.env := by rfl) (hpl : (backTo pos (starEach es X.env)).any (·.1) = false := by rfl) :
    ZE X (.Call (.Name c p) (e :: es) [] pos) (wMake c n wf wa) := by
  obtain ⟨C, f, hC, mk, F⟩ := M.ex
  obtain ⟨fd, ps, hp, ok, kp, hb⟩ := F.ex
  refine ⟨fun B E tk => ⟨fun pins s σ H Q I ⟨μ, env, h, P, R, q, f⟩ => ?_⟩⟩
  refine wpAny_Call_Name_kw (ld_glob I hg hC ?_ hdb)
  refine PySem.W.callWith_K (h₀ := X.base) I.ok.mod.kin mk.kp (thn ((ha.run B E tk).run pos pins s σ H (fun vs H1 => ∃ μ1 h1 zs, Rel X.K X.mg B μ1 env h1 σ H1 ∧ RepVs X.K μ1 H1 zs vs ∧ zs.length = n ∧ wf (.ref h1.length :: zs) (h1 ++ [.ins c []]) (fun r h2 => r = .non ∧ P (.ref h1.length) h2) (fun x h2 => E x env h2) ∧ Fol X.K X.mg μ1 H1 P Q) I
    ⟨μ, env, h, _, R, q, fun zs h1 μ1 H1 vs ⟨l, p1⟩ e1 R1 r1 => ⟨μ1, h1, zs, R.step e1 R1, r1, l, p1, f.ext e1⟩⟩) fun us s1 ⟨vs, H1, I1, r, μ1, h1, zs, R1, rz, l, q1, f1⟩ => ⟨I1.kIn, ?_⟩) he hpl
  exact run_makeZ hC mk ok hb hr tk I1 r R1 rz l q1 f1
theorem ze_make0 {c : Str} {k : Nat} {wf : WF} {p pos : Pos} (M : MkZ X c k 1 wf) (hr : RoomG (k + 1) X.A) (hg : Gl X c) (hdb : (c == ("__debug__" : Str)) = false := by decide) :
    ZE X (.Call (.Name c p) [] [] pos) (wMake c 0 wf wNil) := by
  obtain ⟨C, f, hC, mk, F⟩ := M.ex
  obtain ⟨fd, ps, hp, ok, kp, hb⟩ := F.ex
  refine ⟨fun B E tk => ⟨fun pins s σ H Q I ⟨μ, env, h, P, R, q, f⟩ => ?_⟩⟩
  refine wpAny_Call_Name_kw (ld_glob I hg hC ?_ hdb)
  exact PySem.W.callWith_K0 I.kIn mk.kp (run_makeZ (us := []) hC mk ok hb hr tk I .nil R .nil rfl q.2 f)
end
end ZL

namespace ZL
open PySem PySem.Spec PyProof.Rows L2

/-! ### targets -/
abbrev WG := Z → Env → ZH → (Env → ZH → Prop) → EZ → Prop
abbrev WGs := List Z → Env → ZH → (Env → ZH → Prop) → EZ → Prop
section
variable (K : PySem.W.Frag) (mg : Str → Option Value) (B : List Addr × Hp)
def FolS (μ : List Addr) (H : Hp) (P : Env → ZH → Prop) (Q : L2.St → Hp → Prop) : Prop := ∀ env' h' μ' σ' H', P env' h' → Ext μ H μ' H' → Rel K mg B μ' env' h' σ' H' → Q σ' H'
def TZg (w : WG) (E : EZ) : TG := fun v σ H Q => ∃ μ env h z P, Rel K mg B μ env h σ H ∧ RepV K μ H z v ∧ w z env h P E ∧ FolS K mg B μ H P Q
def TZgs (w : WGs) (E : EZ) : TGs := fun vs σ H Q => ∃ μ env h zs P, Rel K mg B μ env h σ H ∧ RepVs K μ H zs vs ∧ w zs env h P E ∧ FolS K mg B μ H P Q
end
structure ZG (X : Cx) (tg : Expr) (w : WG) : Prop where
  run : ∀ B E, ZTk X B E → PG X tg (TZg X.K X.mg B w E)
structure ZGs (X : Cx) (tgs : List Expr) (w : WGs) : Prop where
  run : ∀ B E, ZTk X B E → PGs X tgs (TZgs X.K X.mg B w E)
section
variable {X : Cx}
theorem pg_imp {e : Expr} {t t' : TG} (p : PG X e t) (f : ∀ v σ H Q, t' v σ H Q → t v σ H Q) : PG X e t' := ⟨fun pins s σ H v u Q I r q => p.run pins s σ H v u Q I r (f _ _ _ _ q)⟩
theorem pgs_imp {e : List Expr} {t t' : TGs} (p : PGs X e t) (f : ∀ v σ H Q, t' v σ H Q → t v σ H Q) : PGs X e t' := ⟨fun pins s σ H v u Q I r q => p.run pins s σ H v u Q I r (f _ _ _ _ q)⟩
def wgName (i : Nat) : WG := fun z env h P _ => P (env.set i (some z)) h
theorem zg_name {i : Nat} {x : Str} {pos : Pos} (hN : X.N.Nodup) (hi : X.N[i]? = some x) (hx : Loc X.env.scope x) (hf : X.fn x = true ∨ X.env.scope.names.lookup x = some .local := by first | exact .inl rfl | exact .inr rfl | assumption) : ZG X (.Name x pos) (wgName i) :=
  ⟨fun B E tk => pg_imp (pg_name hN hi hx hf) fun v σ H Q ⟨μ, env, h, z, P, R, r, q, f⟩ => f _ _ _ _ _ q (Ext.refl _ _) (R.put r i)⟩
def wgNil : WGs := fun zs env h P _ => zs = [] ∧ P env h
def wgCons (g : WG) (r : WGs) : WGs := fun zs env h P E => match zs with
  | z :: zs => g z env h (fun env1 h1 => r zs env1 h1 P E) E
  | [] => False
theorem zgs_nil : ZGs X [] wgNil := ⟨fun B E tk => pgs_imp pgs_nil fun vs σ H Q ⟨μ, env, h, zs, P, R, r, q, f⟩ => by
  obtain ⟨rfl, q⟩ := q
  unfold RepVs at r
  exact ⟨r, f _ _ _ _ _ q (Ext.refl _ _) R⟩⟩
theorem zgs_cons {e : Expr} {es : List Expr} {g : WG} {r : WGs} (h1 : ZG X e g) (h2 : ZGs X es r) (hs : (assignEach (e :: es) X.env).map (·.2) = assign e X.env :: (assignEach es X.env).map (·.2) := by rfl) : ZGs X (e :: es) (wgCons g r) :=
  ⟨fun B E tk => pgs_imp (pgs_cons (h1.run B E tk) (h2.run B E tk) hs) fun vs σ H Q ⟨μ, env, h, zs, P, R, rv, q, f⟩ => by
    cases zs with
    | nil => exact q.elim
    | cons z zs =>
      unfold RepVs at rv
      obtain ⟨v, ws, rfl, r1, r2⟩ := rv
      exact ⟨v, ws, rfl, μ, env, h, z, _, R, r1, q, fun env1 h1 μ1 σ1 H1 p1 e1 R1 => ⟨μ1, env1, h1, zs, P, R1, r2.mono e1, p1, fun env2 h2 μ2 σ2 H2 p2 e2 R2 => f _ _ _ _ _ p2 (e1.trans e2) R2⟩⟩⟩
def wgTup (n : Nat) (r : WGs) : WG := fun z env h P E => match z with
  | .tup zs => zs.length = n ∧ r zs env h P E
  | _ => False
theorem zg_tup {es : List Expr} {k : Nat} {r : WGs} {n : Nat} {pos : Pos} (hc : X.calm = true) (h : ZGs X es r) (hn : (assignEach es X.env).length = n := by rfl) (hst : (assignEach es X.env).findIdx? (·.1) = none := by rfl) : ZG X (.Tuple es k pos) (wgTup n r) :=
  ⟨fun B E tk => pg_imp (pg_tup hc (h.run B E tk) hn hst) fun v σ H Q ⟨μ, env, h, z, P, R, r, q, f⟩ => by
    unfold wgTup at q
    split at q
    · obtain ⟨a, vs, rfl, t, rv⟩ := of_tup r
      exact ⟨a, vs, rfl, t.sq, by rw [← rv.length]; exact q.1, μ, env, h, _, P, R, rv, q.2, f⟩
    · exact q.elim⟩
/-- a[i] = v, by values -/
def oSet (a i v : Z) (h : ZH) (P : ZH → Prop) : Prop := match a with
  | .ref n => (match h[n]? with
    | some (.lst zs) => (match i with
      | .int k => ∃ j, ixN zs.length k = some j ∧ P (h.set n (.lst (zs.set j v)))
      | _ => False)
    | some (.dict kvs) => dkey kvs i ∧ kvs.length < sizeLine ∧ P (h.set n (.dict (dput kvs i v)))
    | _ => False)
  | _ => False
theorem set_dict (hu : X.A.units + 1 < cLine) : PSet X (fun o i v H Q => ∃ a H', o = .ref a ∧ DP H a i v H' ∧ Q H') := by
  intro pins s σ H o i v ov iv u Q I ro ri rv h
  obtain ⟨a, H', rfl, g, q⟩ := h
  cases ro
  exact z_set hu I g ri rv fun s' I' => ⟨H', I', q⟩
theorem pset_or {t t' : TSet} (a : PSet X t) (b : PSet X t') : PSet X (fun o i v H Q => t o i v H Q ∨ t' o i v H Q) := by
  intro pins s σ H o i v ov iv u Q I ro ri rv h
  rcases h with h | h
  · exact a pins s σ H o i v ov iv u Q I ro ri rv h
  · exact b pins s σ H o i v ov iv u Q I ro ri rv h
abbrev tSetZ (X : Cx) : TSet := fun o i v H Q => rSetL o i v H Q ∨ ∃ a H', o = .ref a ∧ DP H a i v H' ∧ Q H'
theorem set_z {μ : List Addr} {H : Hp} {h : ZH} {a i z : Z} {x y v : V} {P : ZH → Prop} {Q : Hp → Prop} (R : RelH X.K X.mg μ H h) (ra : RepV X.K μ H a x) (ri : RepV X.K μ H i y) (rz : RepV X.K μ H z v) (o : oSet a i z h P)
    (f : ∀ h' H', P h' → Ext μ H μ H' → RelH X.K X.mg μ H' h' → Q H') : tSetZ X x y v H Q := by
  unfold oSet at o
  split at o
  · rename_i n
    split at o
    · rename_i zs e1
      split at o
      · rename_i k
        obtain ⟨j, hj, p⟩ := o
        obtain ⟨p', vs, rfl, ha, hp, r⟩ := of_lst R e1 ra
        cases of_int ri
        obtain ⟨R2, ex⟩ := fin_set (o := .lst (zs.set j z)) (u := .lst (vs.set j v)) R ha ⟨_, hp, by simp, by simp⟩ fun ex => ⟨_, upd_same, (r.mono ex).set _ (rz.mono ex)⟩
        exact .inl ⟨p', vs, k, j, rfl, rfl, hp, by rw [← r.length]; exact hj, f _ _ p ex R2⟩
      · exact o.elim
    · rename_i kvs e1
      obtain ⟨ok, hl, p⟩ := o
      obtain ⟨p', o', rfl, ha, hp, d⟩ := dict_of R e1 ra
      obtain ⟨u, g, R2, ex⟩ := dict_put R e1 ha hp d ok hl ri rz
      exact .inr ⟨p', _, rfl, g, f _ _ p ex R2⟩
    · exact o.elim
  · exact o.elim
def wgSub (wo wi : WE) : WG := fun v env h P E => wo env h (fun o h1 => wi env h1 (fun i h2 => oSet o i v h2 fun h3 => P env h3) E) E
theorem zg_sub {o i : Expr} {wo wi : WE} {pos : Pos} (hu : X.A.units + 1 < cLine) (ho : ZE X o wo) (hi : ZE X i wi)
    (ha : ∀ v, assign (.Subscript o i pos) X.env v = (do
      let ov ← holding [v] (eval o X.env)
      let iv ← holding [v, ov] (eval i X.env)
      standAt pos
      holding [v, ov, iv] (setItem ov iv v)
      release [v, ov, iv] []) := by intro _; rfl) : ZG X (.Subscript o i pos) (wgSub wo wi) :=
  ⟨fun B E tk => pg_imp (pg_sub (ho.run B E tk) (hi.run B E tk) (pset_or set_list (set_dict hu)) ha) fun v σ H Q ⟨μ, env, h, z, P, R, r, q, f⟩ =>
    ⟨μ, env, h, _, R, q, fun o h1 μ1 H1 x p1 e1 R1 r1 => ⟨μ1, env, h1, _, R.step e1 R1, p1, fun i h2 μ2 H2 y p2 e2 R2 r2 =>
      set_z R2 (r1.mono e2) r2 ((r.mono e1).mono e2) p2 fun h' H' p ex R3 => f _ _ _ _ _ p ((e1.trans e2).trans ex) (((R.step e1 R1).step e2 R2).step ex R3)⟩⟩⟩

/-! ### statements -/
def wsAsg (w : WE) (g : WG) : WS := fun D env h E => w env h (fun z h1 => g z env h1 (fun env2 h2 => D.nx env2 h2) E) E
theorem zs_asg {tg e : Expr} {w : WE} {g : WG} {pos : Pos} (he : ZE X e w) (hg : ZG X tg g) (hs : swapsWithSole [tg] e pos.line X.env = pure false := by rfl) (hw : swappedStores [tg] e X.env = pure none := by rfl)
    (h1 : (assignEach [tg] X.env).map (·.2) = [assign tg X.env] := by rfl) : ZS X (.Assign [tg] e pos) (wsAsg w g) :=
  ⟨fun B E tk => ps_imp (ps_asg (he.run B E tk) (hg.run B E tk) hs hw h1) fun D' σ H ⟨μ, env, h, D, R, q, d⟩ => ⟨μ, env, h, _, R, q, fun z h1 μ1 H1 v p1 e1 R1 r1 =>
    ⟨μ1, env, h1, z, _, R.step e1 R1, r1, p1, fun env2 h2 μ2 σ2 H2 p2 e2 R2 => d.nx _ _ _ _ _ R2 p2⟩⟩⟩
def wsSet (i : Nat) (w : WE) : WS := fun D env h E => w env h (fun z h1 => D.nx (env.set i (some z)) h1) E
theorem zs_set {i : Nat} {x : Str} {e : Expr} {w : WE} {pos pos' : Pos} (hN : X.N.Nodup) (hi : X.N[i]? = some x) (hx : Loc X.env.scope x) (he : ZE X e w) (hs : swapsWith e (some (.Name x pos')) pos.line X.env = pure false := by rfl)
    (hf : X.fn x = true ∨ X.env.scope.names.lookup x = some .local := by first | exact .inl rfl | exact .inr rfl | assumption) : ZS X (.Assign [.Name x pos'] e pos) (wsSet i w) :=
  ⟨fun B E tk => ps_imp (ps_set hN hi hx (he.run B E tk) hs hf) fun D' σ H ⟨μ, env, h, D, R, q, d⟩ => ⟨μ, env, h, _, R, q, fun z h1 μ1 H1 v p1 e1 R1 r1 => d.nx _ _ _ _ _ ((R.step e1 R1).put r1 i) p1⟩⟩
/-- x += e, x -= e -/
def wsAug (o : Z2) (i : Nat) (w : WE) : WS := fun D env h E => match env[i]? with
  | some (some x) => w env h (fun y h1 => o x y h1 fun z h2 => D.nx (env.set i (some z)) h2) E
  | _ => False
def AugZ (X : Cx) (op : Operator) (o : Z2) : Prop :=
  ∃ t, PIp X op t ∧ ∀ μ H h a b x y P Q, RelH X.K X.mg μ H h → RepV X.K μ H a x → RepV X.K μ H b y → o a b h P → Fol X.K X.mg μ H P Q → t x y H Q
theorem zs_aug {i : Nat} {x : Str} {e : Expr} {w : WE} {op : Operator} {o : Z2} {pos pos' : Pos} (ho : AugZ X op o) (hN : X.N.Nodup) (hi : X.N[i]? = some x) (hx : Loc X.env.scope x) (he : ZE X e w)
    (hf : X.fn x = true ∨ X.env.scope.names.lookup x = some .local := by first | exact .inl rfl | exact .inr rfl | assumption) : ZS X (.AugAssign (.Name x pos') op e pos) (wsAug o i w) :=
  let ⟨_, h1, h2⟩ := ho
  ⟨fun B E tk => ps_imp (ps_aug hN hi hx (he.run B E tk) h1 hf) fun D' σ H ⟨μ, env, h, D, R, q, d⟩ => by
    unfold wsAug at q
    split at q
    · rename_i z e0
      obtain ⟨v, e1, r⟩ := R.env i z e0
      exact ⟨v, e1, μ, env, h, _, R, q, fun y h1 μ1 H1 u p1 ex1 R1 r1 => h2 μ1 H1 h1 _ _ _ _ _ _ R1 (r.mono ex1) r1 p1 fun z' h2' μ2 H2 v2 p2 ex2 R2 r2 => d.nx _ _ _ _ _ (((R.step ex1 R1).step ex2 R2).put r2 i) p2⟩
    · exact q.elim⟩
/-- ints, texts -/
def oIadd : Z2 := fun a b h P => match a, b with
  | .int i, .int j => P (.int (i + j)) h
  | .str x, .str y => x.length + y.length ≤ sizeLine ∧ P (.str (x ++ y)) h
  | _, _ => False
theorem aug_add : AugZ X .Add oIadd := by
  refine ⟨_, (iop_add (X := X)).or iop_add_str, fun μ H h a b x y P Q R ra rb o f => ?_⟩
  unfold oIadd at o
  split at o
  · cases of_int ra; cases of_int rb
    exact .inl ⟨_, _, rfl, rfl, f.here R o rep_int⟩
  · cases of_str ra; cases of_str rb
    exact .inr ⟨_, _, rfl, rfl, o.1, f.here R o.2 rep_str⟩
  · exact o.elim
theorem aug_sub : AugZ X .Sub oSub := by
  refine ⟨_, iop_sub (X := X), fun μ H h a b x y P Q R ra rb o f => ?_⟩
  unfold oSub at o
  split at o
  · cases of_int ra; cases of_int rb
    exact ⟨_, _, rfl, rfl, f.here R o rep_int⟩
  · exact o.elim
def wsExpr (w : WE) : WS := fun D env h E => w env h (fun _ h1 => D.nx env h1) E
theorem zs_expr {e : Expr} {w : WE} {pos : Pos} (he : ZE X e w) (hs : swapsWith e none pos.line X.env = pure false := by rfl) : ZS X (.Expr e pos) (wsExpr w) :=
  ⟨fun B E tk => ps_imp (ps_expr (he.run B E tk) hs) fun D' σ H ⟨μ, env, h, D, R, q, d⟩ => ⟨μ, env, h, _, R, q, fun z h1 μ1 H1 v p1 e1 R1 r1 => d.nx _ _ _ _ _ (R.step e1 R1) p1⟩⟩
def wsRet (w : WE) : WS := fun D env h E => w env h D.rt E
theorem zs_ret {e : Expr} {w : WE} {pos : Pos} (he : ZE X e w) : ZS X (.Return (some e) pos) (wsRet w) :=
  ⟨fun B E tk => ps_imp (ps_ret (he.run B E tk)) fun D' σ H ⟨μ, env, h, D, R, q, d⟩ => ⟨μ, env, h, _, R, q, fun z h1 μ1 H1 v p1 e1 R1 r1 => d.rt _ _ _ _ _ (R.ext.trans e1) R1 r1 p1⟩⟩
def wsRetN : WS := fun D env h E => D.rt .non h
theorem zs_retN {pos : Pos} : ZS X (.Return none pos) wsRetN := ⟨fun B E tk => ps_imp ps_retN fun D' σ H ⟨μ, env, h, D, R, q, d⟩ => d.rt _ _ _ _ _ R.ext R.heap rep_non q⟩
def wsNext : WS := fun D env h _ => D.nx env h
theorem zs_pass {pos : Pos} : ZS X (.Pass pos) wsNext := ⟨fun B E tk => ps_imp ps_pass fun D' σ H ⟨μ, env, h, D, R, q, d⟩ => d.nx _ _ _ _ _ R q⟩
theorem zs_doc {x j pos pos'} : ZS X (.Expr (.Constant (.str x) j pos) pos') wsNext := ⟨fun B E tk => ps_imp ps_doc fun D' σ H ⟨μ, env, h, D, R, q, d⟩ => d.nx _ _ _ _ _ R q⟩
def wsBreak : WS := fun D env h _ => D.bk env h
theorem zs_break {pos : Pos} : ZS X (.Break pos) wsBreak := ⟨fun B E tk => ps_imp ps_break fun D' σ H ⟨μ, env, h, D, R, q, d⟩ => d.bk _ _ _ _ _ R q⟩
def wsCont : WS := fun D env h _ => D.ct env h
theorem zs_continue {pos : Pos} : ZS X (.Continue pos) wsCont := ⟨fun B E tk => ps_imp ps_continue fun D' σ H ⟨μ, env, h, D, R, q, d⟩ => d.ct _ _ _ _ _ R q⟩
def wsIf (c : WT) (a b : WS) : WS := fun D env h E => c env h (fun k h1 => if k = true then a D env h1 E else b D env h1 E) E
theorem zs_if {c : Expr} {a b : List Stmt} {wc : WT} {wa wb : WS} {pos : Pos} (hc : ZT X c wc) (ha : ZSs X a wa) (hb : ZSs X b wb) : ZS X (.If c a b pos) (wsIf wc wa wb) :=
  ⟨fun B E tk => ps_imp (ps_if (hc.run B E tk) (ha.run B E tk) (hb.run B E tk)) fun D' σ H ⟨μ, env, h, D, R, q, d⟩ => ⟨μ, env, h, _, R, q, fun k h1 μ1 H1 p1 e1 R1 => by
    cases k with
    | true => exact ⟨μ1, env, h1, D, R.step e1 R1, p1, d⟩
    | false => exact ⟨μ1, env, h1, D, R.step e1 R1, p1, d⟩⟩⟩
theorem zss_nil : ZSs X [] wsNext := ⟨fun B E tk => pss_imp pss_nil fun D' σ H ⟨μ, env, h, D, R, q, d⟩ => d.nx _ _ _ _ _ R q⟩
def wsSeq (a b : WS) : WS := fun D env h E => a { D with nx := fun env1 h1 => b D env1 h1 E } env h E
theorem zss_cons {s : Stmt} {r : List Stmt} {a b : WS} (h1 : ZS X s a) (h2 : ZSs X r b) : ZSs X (s :: r) (wsSeq a b) :=
  ⟨fun B E tk => pss_imp (pss_cons (h1.run B E tk) (h2.run B E tk)) fun D' σ H ⟨μ, env, h, D, R, q, d⟩ => ⟨μ, env, h, _, R, q, ⟨fun μ1 env1 h1 σ1 H1 R1 q1 => ⟨μ1, env1, h1, D, R1, q1, d⟩, d.bk, d.ct, d.rt⟩⟩⟩
theorem zss_one {s : Stmt} {a : WS} (h1 : ZS X s a) : ZSs X [s] a := ⟨fun B E tk => pss_one (h1.run B E tk)⟩
end
end ZL

namespace ZL
open PySem PySem.Spec PyProof.Rows L2

/-! ### rules at any later base -/
section
variable {X : Cx}
theorem pg_any {tg : Expr} {w : WG} {B : List Addr × Hp} {E : EZ} (hg : ZG X tg w) (tk : ZTk X B E) : PG X tg (fun v σ H Q => ∃ B' : List Addr × Hp, Ext B.1 B.2 B'.1 B'.2 ∧ TZg X.K X.mg B' w E v σ H Q) :=
  ⟨fun pins s σ H v u Q I r ⟨B', e, q⟩ => (hg.run B' E (tk.rebase e)).run pins s σ H v u Q I r q⟩
theorem pss_any {b : List Stmt} {w : WS} {B : List Addr × Hp} {E : EZ} (hb : ZSs X b w) (tk : ZTk X B E) : PSs X b (fun D σ H => ∃ B' : List Addr × Hp, Ext B.1 B.2 B'.1 B'.2 ∧ TZs X.K X.mg B' w E D σ H) :=
  ⟨fun pins s σ H D I ⟨B', e, q⟩ => (hb.run B' E (tk.rebase e)).run pins s σ H D I q⟩
theorem pt_any {c : Expr} {w : WT} {B : List Addr × Hp} {E : EZ} (hc : ZT X c w) (tk : ZTk X B E) : PT X c (fun σ H Q => ∃ B' : List Addr × Hp, Ext B.1 B.2 B'.1 B'.2 ∧ TZt X.K X.mg B' w E σ H Q) :=
  ⟨fun pins s σ H Q I ⟨B', e, q⟩ => (hc.run B' E (tk.rebase e)).run pins s σ H Q I q⟩
end

/-! ### while -/
def whileZ (c : WT) (b : WS) (D : ZEnds) (E : EZ) : Nat → Env → ZH → Prop
  | 0 => fun _ _ => False
  | n + 1 => fun env h => c env h (fun k h1 => if k = true then b ⟨whileZ c b D E n, D.rt, D.nx, whileZ c b D E n⟩ env h1 E else D.nx env h1) E
def wsWhile (c : WT) (b : WS) : WS := fun D env h E => ∃ n, whileZ c b D E n env h
section
variable {X : Cx}
theorem zs_while {c : Expr} {body : List Stmt} {wc : WT} {wb : WS} {pos : Pos} (hp : PassesOwn (model X.prog X.w) X.A X.env X.xe) (hc : ZT X c wc) (hb : ZSs X body wb) : ZS X (.While c body [] pos) (wsWhile wc wb) :=
  ⟨fun B E tk => ps_imp (ps_while hp (hc.run B E tk) (hb.run B E tk)) fun D' σ H ⟨μ, env, h, D, R, ⟨n, q⟩, d⟩ => by
    refine ⟨fun m σ H => ∃ μ env h, Rel X.K X.mg B μ env h σ H ∧ whileZ wc wb D E m env h, ⟨n, μ, env, h, R, q⟩, ?_⟩
    rintro m σ H ⟨μ, env, h, R, q⟩
    cases m with
    | zero => exact q.elim
    | succ m =>
      refine ⟨μ, env, h, _, R, q, fun k h1 μ1 H1 p1 e1 R1 => ?_⟩
      cases k with
      | false => rw [if_neg Bool.false_ne_true] at p1 ⊢; exact d.nx _ _ _ _ _ (R.step e1 R1) p1
      | true =>
        rw [if_pos rfl] at p1 ⊢
        refine ⟨fun σ' H' => ∃ μ env h, Rel X.K X.mg B μ env h σ' H' ∧ whileZ wc wb D E m env h, fun σ' H' w => ⟨m, Nat.lt_succ_self _, w⟩, μ1, env, h1, _, R.step e1 R1, p1, ?_⟩
        exact ⟨fun μ2 env2 h2 σ2 H2 R2 q2 => ⟨μ2, env2, h2, R2, q2⟩, fun μ2 env2 h2 σ2 H2 R2 q2 => d.nx _ _ _ _ _ R2 q2, fun μ2 env2 h2 σ2 H2 R2 q2 => ⟨μ2, env2, h2, R2, q2⟩, d.rt⟩⟩
end

/-! ### what is walked -/
/-- the iterator J yields zs while chk stays true of the heap -/
structure ItR (K : PySem.W.Frag) (mg : Str → Option Value) (J : It) (zs : List Z) (chk : ZH → Prop) (μ0 : List Addr) (H0 : Hp) : Prop where
  go : ∀ (i : Nat) (z : Z) μ H h, Ext μ0 H0 μ H → RelH K mg μ H h → chk h → zs[i]? = some z → J.go i H ∧ ∀ x H', J.yld i H x H' → ∃ μ', Ext μ H μ' H' ∧ RelH K mg μ' H' h ∧ RepV K μ' H' z x
  stop : ∀ μ H h, Ext μ0 H0 μ H → RelH K mg μ H h → chk h → J.stop zs.length H
abbrev WI := Env → ZH → (List Z → (ZH → Prop) → ZH → Prop) → EZ → Prop
def TZi (K : PySem.W.Frag) (mg : Str → Option Value) (B : List Addr × Hp) (w : WI) (E : EZ) : TI := fun σ H R => ∃ μ env h P, Rel K mg B μ env h σ H ∧ w env h P E ∧
  ∀ zs chk h' μ' H' J, P zs chk h' → Ext μ H μ' H' → RelH K mg μ' H' h' → ItR K mg J zs chk μ' H' → R J H'
structure ZI (X : Cx) (tg iter : Expr) (w : WI) : Prop where
  run : ∀ B E, ZTk X B E → PI X tg iter (TZi X.K X.mg B w E)
theorem pi_imp {X : Cx} {tg e : Expr} {t t' : TI} (p : PI X tg e t) (f : ∀ σ H Q, t' σ H Q → t σ H Q) : PI X tg e t' := ⟨fun pins s σ H Q I q => p.run pins s σ H Q I (f _ _ _ q)⟩

/-! ### for -/
def forZ (g : WG) (b : WS) (chk : ZH → Prop) (D : ZEnds) (E : EZ) : List Z → Env → ZH → Prop
  | [] => fun env h => chk h ∧ D.nx env h
  | z :: zs => fun env h => chk h ∧ g z env h (fun env1 h1 => b ⟨forZ g b chk D E zs, D.rt, D.nx, forZ g b chk D E zs⟩ env1 h1 E) E
def wsFor (wi : WI) (g : WG) (b : WS) : WS := fun D env h E => wi env h (fun zs chk h1 => forZ g b chk D E zs env h1) E
section
variable {X : Cx}
theorem zs_for {tg iter : Expr} {body : List Stmt} {wi : WI} {g : WG} {wb : WS} {pos : Pos} (hp : PassesOwn (model X.prog X.w) X.A X.env X.xe) (hc : X.calm = true) (hi : ZI X tg iter wi) (hg : ZG X tg g) (hb : ZSs X body wb)
    (hs : ∀ x, foldedSetIterable iter X.env x = pure x := by intro _; rfl) : ZS X (.For tg iter body [] pos) (wsFor wi g wb) :=
  ⟨fun B E tk => ps_imp (ps_for hp hc (hi.run B E tk) (pg_any hg tk) (pss_any hb tk) hs) fun D' σ H ⟨μ, env, h, D, R, q, d⟩ => by
    refine ⟨μ, env, h, _, R, q, fun zs chk h1 μ1 H1 J p1 e1 R1 it => ?_⟩
    have RR := R.step e1 R1
    have eB : Ext B.1 B.2 μ1 H1 := RR.ext
    refine ⟨fun i m σ H => m = zs.length - i ∧ i ≤ zs.length ∧ ∃ μ env h, Rel X.K X.mg (μ1, H1) μ env h σ H ∧ forZ g wb chk D E (zs.drop i) env h, ⟨_, rfl, Nat.zero_le _, μ1, env, h1, RR.based, p1⟩, ?_⟩
    rintro i m σ2 H2 ⟨rfl, hi, μ2, env2, h2, R2, q2⟩
    by_cases hl : i < zs.length
    · rw [List.drop_eq_getElem_cons hl] at q2
      obtain ⟨hk, q2⟩ := q2
      obtain ⟨go, y⟩ := it.go i zs[i] μ2 H2 h2 R2.ext R2.heap hk (by simp [hl])
      refine .inr ⟨go, fun σ' H' => ∃ μ env h, Rel X.K X.mg (μ1, H1) μ env h σ' H' ∧ forZ g wb chk D E (zs.drop (i + 1)) env h, fun σ' H' w => ⟨_, by omega, rfl, hl, w⟩, fun x H3 yl => ?_⟩
      obtain ⟨μ3, e3, R3, r3⟩ := y x H3 yl
      refine ⟨(μ1, H1), eB, μ3, env2, h2, zs[i], _, R2.step e3 R3, r3, q2, fun env4 h4 μ4 σ4 H4 p4 e4 R4 => ⟨(μ1, H1), eB, μ4, env4, h4, _, R4, p4, ?_⟩⟩
      have d' := d.rebase (B' := (μ1, H1)) eB
      exact ⟨fun μ2 env2 h2 σ2 H2 R2 q2 => ⟨μ2, env2, h2, R2, q2⟩, fun μ2 env2 h2 σ2 H2 R2 q2 => d'.nx _ _ _ _ _ R2 q2, fun μ2 env2 h2 σ2 H2 R2 q2 => ⟨μ2, env2, h2, R2, q2⟩, d'.rt⟩
    · have e : i = zs.length := by omega
      subst e
      rw [List.drop_length] at q2
      exact .inl ⟨it.stop μ2 H2 h2 R2.ext R2.heap q2.1, d.nx _ _ _ _ _ (R2.rebase eB) q2.2⟩⟩
end

/-! ### sources -/
theorem drop1 {α : Type} {a : α} {l : List α} : (a :: l).length = l.length + 1 := rfl
section
variable {X : Cx} {K : PySem.W.Frag} {mg : Str → Option Value} {tg : Expr}
/-- the iterator's items, at a list that stays -/
theorem itr_list {a : Addr} {n : Nat} {zs : List Z} {μ0 : List Addr} {H0 : Hp} (ha : μ0[n]? = some a) : ItR K mg (Itl K a) zs (fun h => h[n]? = some (.lst zs)) μ0 H0 := by
  have key : ∀ μ H h, Ext μ0 H0 μ H → RelH K mg μ H h → h[n]? = some (.lst zs) → ∃ vs, SqL K H a vs ∧ RepVs K μ H zs vs ∧ H a = some (.lst vs) := fun μ H h e R c => by
    obtain ⟨b, hb, vs, e1, r⟩ := R.at c
    rw [e.get ha] at hb; cases hb
    exact ⟨vs, SqL.of e1, r, e1⟩
  refine ⟨fun i z μ H h e R c hz => ?_, fun μ H h e R c => ?_⟩
  · obtain ⟨vs, sq, r, _⟩ := key μ H h e R c
    obtain ⟨v, hv, rv⟩ := r.get hz
    refine ⟨⟨vs, v, sq, hv⟩, fun x H' y => ?_⟩
    obtain ⟨rfl, y⟩ := y
    rw [y vs sq] at hv; cases hv
    exact ⟨μ, Ext.refl _ _, R, rv⟩
  · obtain ⟨vs, sq, r, _⟩ := key μ H h e R c
    exact ⟨vs, sq, by rw [r.length]; exact Nat.le_refl _⟩
theorem itr_tup {a : Addr} {zs : List Z} {vs : List V} {μ0 : List Addr} {H0 : Hp} (t : TupA K H0 a vs) (r : RepVs K μ0 H0 zs vs) : ItR K mg (Itt K a) zs (fun _ => True) μ0 H0 := by
  refine ⟨fun i z μ H h e R c hz => ?_, fun μ H h e R c => ?_⟩
  · obtain ⟨v, hv, rv⟩ := (r.mono e).get hz
    refine ⟨⟨vs, v, (e.tupA t).sq, hv⟩, fun x H' y => ?_⟩
    obtain ⟨rfl, y⟩ := y
    rw [y vs (e.tupA t).sq] at hv; cases hv
    exact ⟨μ, Ext.refl _ _, R, rv⟩
  · exact ⟨vs, (e.tupA t).sq, by rw [r.length]; exact Nat.le_refl _⟩
/-- what stands for the script stays -/
theorem scr_stay {μ0 μ : List Addr} {H0 H : Hp} {ns : List Int} {a : Addr} (e : Ext μ0 H0 μ H) (r : RepV K μ0 H0 (.scr ns) (.ref a)) : SqL K H a (ns.map V.int) := by
  obtain ⟨b, eb, sq⟩ := scr_sq (r.mono e)
  cases eb
  exact sq
theorem itr_scr {a : Addr} {ns : List Int} {μ0 : List Addr} {H0 : Hp} (r : RepV K μ0 H0 (.scr ns) (.ref a)) : ItR K mg (Itl K a) (ns.map Z.int) (fun _ => True) μ0 H0 := by
  refine ⟨fun i z μ H h e R c hz => ?_, fun μ H h e R c => ⟨_, scr_stay e r, by simp⟩⟩
  obtain ⟨v, hv, rv⟩ := (RepVs.ints (K := K) (μ := μ) (H := H) ns).get hz
  refine ⟨⟨_, v, scr_stay e r, hv⟩, fun x H' y => ?_⟩
  obtain ⟨rfl, y⟩ := y
  rw [y _ (scr_stay e r)] at hv; cases hv
  exact ⟨μ, Ext.refl _ _, R, rv⟩
def chrs (x : Str) : List Z := x.cps.toList.map fun c => .str ⟨#[c]⟩
theorem itr_str {x : Str} {μ0 : List Addr} {H0 : Hp} : ItR K mg (Its x) (chrs x) (fun _ => True) μ0 H0 := by
  refine ⟨fun i z μ H h e R c hz => ?_, fun μ H h e R c => by show x.cps.size ≤ _; simp [chrs]⟩
  unfold chrs at hz
  rw [List.getElem?_map] at hz
  cases q : x.cps.toList[i]? with
  | none => rw [q] at hz; cases hz
  | some c0 =>
    rw [q] at hz
    cases hz
    have hi : i < x.cps.size := by have := (List.getElem?_eq_some_iff.mp q).1; simpa using this
    refine ⟨hi, fun v H' y => ?_⟩
    obtain ⟨rfl, c1, y1, rfl⟩ := y
    have : c1 = c0 := by
      have q' : x.cps[i]? = some c0 := by simpa using q
      rw [q'] at y1; cases y1; rfl
    subst this
    exact ⟨μ, Ext.refl _ _, R, rep_str⟩
/-- the items of a value -/
def valI (z : Z) (h : ZH) (P : List Z → (ZH → Prop) → ZH → Prop) : Prop := match z with
  | .tup zs => P zs (fun _ => True) h
  | .scr ns => P (ns.map Z.int) (fun _ => True) h
  | .str x => P (chrs x) (fun _ => True) h
  | .ref n => (match h[n]? with
    | some (.lst zs) => P zs (fun h' => h'[n]? = some (.lst zs)) h
    | _ => False)
  | _ => False
def iVal (w : WE) : WI := fun env h P E => w env h (fun z h1 => valI z h1 P) E
/-- a list, a tuple, a text -/
theorem pi_val {e : Expr} {te : TE} (he : PE X e te) : PI X tg e (fun σ H R => te σ H fun v H1 => (∃ a, v = .ref a ∧ (∃ xs, SqL X.K H1 a xs) ∧ R (Itl X.K a) H1) ∨ (∃ a, v = .ref a ∧ (∃ xs, SqT X.K H1 a xs) ∧ R (Itt X.K a) H1) ∨ ∃ x, v = .str x ∧ R (Its x) H1) := by
  refine ⟨fun pins s σ H R I h => ?_⟩
  refine thn (he.run pins s σ H _ I h) fun v s1 ⟨x, H1, I1, r1, q1⟩ => ?_
  rcases q1 with q1 | q1 | q1
  · obtain ⟨a, e, ⟨xs, hq⟩, q⟩ := q1
    subst e
    cases r1
    obtain ⟨its, rv, p, hz⟩ := I1.list hq
    refine wpAny_pyIter_list p.isList ?_
    refine ⟨s1.heap.objs.size, [s1.heap.objs.size], _, _, H1, rfl, I1.kept (t' := s1.toks) fun b o e => Heap.get?_push_of_some _ e, turn_list a _, ⟨_, Heap.get?_push_size _ rfl, rfl, rfl⟩, fun b hb => ?_, q⟩
    have e : b = s1.heap.objs.size := by simpa using hb
    subst e
    exact I1.fpOk (Nat.le_refl _) (I1.hok.fresh (Nat.le_refl _))
  · obtain ⟨a, e, ⟨xs, hq⟩, q⟩ := q1
    subst e
    cases r1
    obtain ⟨its, rv, p, hz⟩ := I1.tuple hq
    refine wpAny_pyIter_tuple (show s1.heap.IsTuple a its.toArray from p) ?_
    refine ⟨s1.heap.objs.size, [s1.heap.objs.size], _, _, H1, rfl, I1.kept (t' := s1.toks) fun b o e => Heap.get?_push_of_some _ e, turn_tuple a _, ⟨_, Heap.get?_push_size _ rfl, rfl, rfl⟩, fun b hb => ?_, q⟩
    have e : b = s1.heap.objs.size := by simpa using hb
    subst e
    exact I1.fpOk (Nat.le_refl _) (I1.hok.fresh (Nat.le_refl _))
  · obtain ⟨x, ex, q⟩ := q1
    subst ex
    obtain ⟨t, rfl⟩ := r1
    cases ha : x.cps.all (· < 128)
    · exact wpAny_pyIter_wide ha (pi_one (tk := s1.toks) I1 _ (turn_str _ x t "str_iterator" (.inr rfl)) ⟨_, Heap.get?_push_size _ rfl, rfl, rfl⟩ q)
    · exact wpAny_pyIter_ascii ha (pi_one (tk := s1.toks) I1 _ (turn_str _ x t "str_ascii_iterator" (.inl rfl)) ⟨_, Heap.get?_push_size _ rfl, rfl, rfl⟩ q)
theorem zi_val {e : Expr} {w : WE} (he : ZE X e w) : ZI X tg e (iVal w) :=
  ⟨fun B E tk => pi_imp (pi_val (he.run B E tk)) fun σ H Q ⟨μ, env, h, P, R, q, f⟩ => ⟨μ, env, h, _, R, q, fun z h1 μ1 H1 x p1 e1 R1 r1 => by
    unfold valI at p1
    split at p1
    · obtain ⟨a, vs, rfl, t, r⟩ := of_tup r1
      exact .inr (.inl ⟨a, rfl, ⟨_, t.sq⟩, f _ _ _ _ _ _ p1 e1 R1 (itr_tup t r)⟩)
    · obtain ⟨a, rfl, sq⟩ := scr_sq r1
      exact .inl ⟨a, rfl, ⟨_, sq⟩, f _ _ _ _ _ _ p1 e1 R1 (itr_scr r1)⟩
    · cases of_str r1
      exact .inr (.inr ⟨_, rfl, f _ _ _ _ _ _ p1 e1 R1 itr_str⟩)
    · split at p1
      · rename_i zs e2
        obtain ⟨a, vs, rfl, ha, hp, r⟩ := of_lst R1 e2 r1
        exact .inl ⟨a, rfl, ⟨_, SqL.of hp⟩, f _ _ _ _ _ _ p1 e1 R1 (itr_list ha)⟩
      · exact p1.elim
    · exact p1.elim⟩⟩
def rngZ (lo : Int) (n : Nat) : List Z := (List.range n).map fun i => .int (lo + (i : Nat))
theorem itr_rng {lo : Int} {n : Nat} {μ0 : List Addr} {H0 : Hp} : ItR K mg (Itr lo n) (rngZ lo n) (fun _ => True) μ0 H0 := by
  refine ⟨fun i z μ H h e R c hz => ?_, fun μ H h e R c => by show n ≤ _; simp [rngZ]⟩
  unfold rngZ at hz
  rw [List.getElem?_map] at hz
  cases q : (List.range n)[i]? with
  | none => rw [q] at hz; cases hz
  | some j =>
    rw [q] at hz
    cases hz
    obtain ⟨hi, e2⟩ := List.getElem?_eq_some_iff.mp q
    simp at hi e2
    subst e2
    refine ⟨hi, fun v H' y => ?_⟩
    obtain ⟨rfl, rfl⟩ := y
    exact ⟨μ, Ext.refl _ _, R, rep_int⟩
def inRng (j : Int) : Prop := -(2 ^ 62) ≤ j ∧ j < 2 ^ 62
theorem one_vals {μ : List Addr} {H : Hp} {zs : List Z} {vs : List V} (r : RepVs K μ H zs vs) {z : Z} (e : zs = [z]) : ∃ v, vs = [v] ∧ RepV K μ H z v := by
  subst e
  unfold RepVs at r
  obtain ⟨v, w, rfl, h1, h2⟩ := r
  unfold RepVs at h2
  exact ⟨v, by rw [h2], h1⟩
theorem two_vals {μ : List Addr} {H : Hp} {zs : List Z} {vs : List V} (r : RepVs K μ H zs vs) {z y : Z} (e : zs = [z, y]) : ∃ v u, vs = [v, u] ∧ RepV K μ H z v ∧ RepV K μ H y u := by
  subst e
  unfold RepVs at r
  obtain ⟨v, w, rfl, h1, h2⟩ := r
  obtain ⟨u, rfl, h3⟩ := one_vals h2 rfl
  exact ⟨v, u, rfl, h1, h3⟩
/-- one argument -/
def w1 (w : WE) : WA := wCons w wNil
theorem za1 {a : Expr} {w : WE} (ha : ZE X a w) (hs : starEach [a] X.env = [(false, eval a X.env)] := by rfl) : ZA X [a] (w1 w) := za_cons ha za_nil hs
def rng1 (zs : List Z) (Q : List Z → Prop) : Prop := match zs with
  | [.int j] => inRng j ∧ Q (rngZ 0 j.toNat)
  | _ => False
def rng2 (zs : List Z) (Q : List Z → Prop) : Prop := match zs with
  | [.int i, .int j] => (inRng i ∧ inRng j) ∧ Q (rngZ i (j - i).toNat)
  | _ => False
def iR1 (w : WA) : WI := fun env h P E => w env h (fun zs h1 => rng1 zs fun l => P l (fun _ => True) h1) E
def iR2 (w : WA) : WI := fun env h P E => w env h (fun zs h1 => rng2 zs fun l => P l (fun _ => True) h1) E
theorem zi_range1 {a : Expr} {w : WA} {p pos : Pos} (hg : Gl X "range") (hm : X.mg "range" = none) (ha : ZA X [a] w) (hs : starEach [a] X.env = [(false, eval a X.env)] := by rfl) : ZI X tg (.Call (.Name "range" p) [a] [] pos) (iR1 w) :=
  ⟨fun B E tk => pi_imp (pi_range1 hg hm (ha.run B E tk) hs) fun σ H Q ⟨μ, env, h, P, R, q, f⟩ => ⟨μ, env, h, _, R, q, fun zs h1 μ1 H1 vs p1 e1 R1 r1 => by
    unfold rng1 at p1
    split at p1
    · obtain ⟨v, rfl, r⟩ := one_vals r1 rfl
      cases of_int r
      exact ⟨_, rfl, p1.1.1, p1.1.2, f _ _ _ _ _ _ p1.2 e1 R1 itr_rng⟩
    · exact p1.elim⟩⟩
theorem zi_range2 {a b : Expr} {w : WA} {p pos : Pos} (hg : Gl X "range") (hm : X.mg "range" = none) (ha : ZA X [a, b] w)
    (hs : starEach [a, b] X.env = [(false, eval a X.env), (false, eval b X.env)] := by rfl) (hs2 : starEach [b] X.env = [(false, eval b X.env)] := by rfl) : ZI X tg (.Call (.Name "range" p) [a, b] [] pos) (iR2 w) :=
  ⟨fun B E tk => pi_imp (pi_range2 hg hm (ha.run B E tk) hs hs2) fun σ H Q ⟨μ, env, h, P, R, q, f⟩ => ⟨μ, env, h, _, R, q, fun zs h1 μ1 H1 vs p1 e1 R1 r1 => by
    unfold rng2 at p1
    split at p1
    · obtain ⟨v, u, rfl, ra, rb⟩ := two_vals r1 rfl
      cases of_int ra; cases of_int rb
      exact ⟨_, _, rfl, ⟨p1.1.1.1, p1.1.1.2, p1.1.2.1, p1.1.2.2⟩, f _ _ _ _ _ _ p1.2 e1 R1 itr_rng⟩
    · exact p1.elim⟩⟩
end
end ZL

namespace ZL
open PySem PySem.Spec PyProof.Rows L2

/-! ### calls of builtins -/
abbrev Z3 := List Z → ZH → PZ → Prop
def CallZ (X : Cx) (f : Value) (o : Z3) : Prop :=
  ∃ r, CallR X f r ∧ ∀ μ H h zs vs P Q, RelH X.K X.mg μ H h → RepVs X.K μ H zs vs → o zs h P → Fol X.K X.mg μ H P Q → r vs H Q
def wCB (o : Z3) (wa : WA) : WE := fun env h P E => wa env h (fun zs h1 => o zs h1 P) E
section
variable {X : Cx} {x : Str} {p pos : Pos} {e : Expr} {es : List Expr} {id T : String} {o : Z3} {wa : WA}
theorem tzCB {B : List Addr × Hp} {E : EZ} {r : List V → Hp → VK → Prop} (ho : ∀ μ H h zs vs P Q, RelH X.K X.mg μ H h → RepVs X.K μ H zs vs → o zs h P → Fol X.K X.mg μ H P Q → r vs H Q) :
    ∀ σ H Q, TZ X.K X.mg B (wCB o wa) E σ H Q → tCB r (TZa X.K X.mg B wa E) σ H Q := fun σ H Q ⟨μ, env, h, P, R, q, f⟩ =>
  ⟨μ, env, h, _, R, q, fun zs h1 μ1 H1 vs p1 e1 R1 r1 => ho μ1 H1 h1 zs vs P Q R1 r1 p1 (f.ext e1)⟩
theorem ze_callB (hc : CallZ X (.builtin id) o) (hv : bootBuiltins x = some (.builtin id)) (hg : Gl X x) (hm : X.mg x = none) (ha : ZA X (e :: es) wa) (hn : x ≠ "__name__" := by decide) (hdb : (x == ("__debug__" : Str)) = false := by decide)
    (he : starEach (e :: es) X.env = (false, eval e X.env) :: starEach es X.env := by rfl) (hpl : (backTo pos (starEach es X.env)).any (·.1) = false := by rfl) : ZE X (.Call (.Name x p) (e :: es) [] pos) (wCB o wa) :=
  let ⟨_, h1, h2⟩ := hc
  ⟨fun B E tk => pe_imp (pe_callB h1 hg hm hv (ha.run B E tk) hn hdb he hpl) (tzCB h2)⟩
theorem ze_callTy (hc : CallZ X (.type T) o) (hv : bootBuiltins x = some (.type T)) (hg : Gl X x) (hm : X.mg x = none) (ha : ZA X (e :: es) wa) (hn : x ≠ "__name__" := by decide) (hdb : (x == ("__debug__" : Str)) = false := by decide)
    (he : starEach (e :: es) X.env = (false, eval e X.env) :: starEach es X.env := by rfl) (hpl : (backTo pos (starEach es X.env)).any (·.1) = false := by rfl) : ZE X (.Call (.Name x p) (e :: es) [] pos) (wCB o wa) :=
  let ⟨_, h1, h2⟩ := hc
  ⟨fun B E tk => pe_imp (pe_callTy h1 hg hm hv (ha.run B E tk) hn hdb he hpl) (tzCB h2)⟩

/-! ### len -/
def oLen : Z3 := fun zs h P => match zs with
  | [.str x] => x.length ≤ sizeLine ∧ P (.int x.length) h
  | [.tup zs] => P (.int zs.length) h
  | [.scr ns] => P (.int ns.length) h
  | [.ref n] => (match h[n]? with
    | some (.lst zs) => P (.int zs.length) h
    | some (.dict kvs) => P (.int kvs.length) h
    | _ => False)
  | _ => False
theorem call_lenZ : CallZ X (.builtin "len") oLen := by
  refine ⟨_, call_len_seq.or (call_len_str.or (call_lenD.or call_len_dT)), fun μ H h zs vs P Q R r o f => ?_⟩
  unfold oLen at o
  split at o
  · obtain ⟨v, rfl, rv⟩ := one_vals r rfl
    cases of_str rv
    exact .inr (.inl ⟨_, rfl, o.1, f.here R o.2 rep_int⟩)
  · obtain ⟨v, rfl, rv⟩ := one_vals r rfl
    obtain ⟨a, ws, rfl, t, rw⟩ := of_tup rv
    rw [rw.length] at o
    exact .inl ⟨a, ws, rfl, .inr t.sq, f.here R o rep_int⟩
  · obtain ⟨v, rfl, rv⟩ := one_vals r rfl
    obtain ⟨a, rfl, sq⟩ := scr_sq rv
    exact .inl ⟨a, _, rfl, .inl sq, by rw [List.length_map]; exact f.here R o rep_int⟩
  · obtain ⟨v, rfl, rv⟩ := one_vals r rfl
    split at o
    · rename_i zs e1
      obtain ⟨a, ws, rfl, _, hp, rw⟩ := of_lst R e1 rv
      rw [rw.length] at o
      exact .inl ⟨a, ws, rfl, .inl (SqL.of hp), f.here R o rep_int⟩
    · rename_i kvs e1
      obtain ⟨a, ho, rfl, _, hp, d⟩ := dict_of R e1 rv
      rcases d with ⟨l, rfl, pr⟩ | ⟨l, rfl, pr⟩
      · rw [paired_len pr] at o
        exact .inr (.inr (.inl ⟨a, l, rfl, hp, f.here R o rep_int⟩))
      · rw [paired_len pr] at o
        exact .inr (.inr (.inr ⟨a, l, rfl, hp, f.here R o rep_int⟩))
    · exact o.elim
  · exact o.elim

/-! ### int, abs, min, max, str, ord -/
def oInt : Z3 := fun zs h P => match zs with
  | [.int i] => P (.int i) h
  | [.bl b] => P (.int (if b then 1 else 0)) h
  | _ => False
theorem call_intZ : CallZ X (.type "int") oInt := by
  refine ⟨_, call_int1, fun μ H h zs vs P Q R r o f => ?_⟩
  unfold oInt at o
  split at o
  · obtain ⟨v, rfl, rv⟩ := one_vals r rfl
    cases of_int rv
    exact .inl ⟨_, rfl, f.here R o rep_int⟩
  · obtain ⟨v, rfl, rv⟩ := one_vals r rfl
    cases of_bl rv
    exact .inr ⟨_, rfl, f.here R o rep_int⟩
  · exact o.elim
theorem abs_bool {prog : Program} {w : World} {A : Around} {E : Value → Shared → Prop} {s : Shared} {b : Bool} {Q : Value → Shared → Prop} (h : ∀ u tk, Q (.int (if b then 1 else 0) u) { s with toks := tk }) : wpAny (model prog w) A (call (.builtin "abs") [.bool b]) Q E s := by
  refine Calls.call_function_entry kind_abs plain_abs entry_abs (args_abs _) ?_
  unfold Builtin.«abs»
  refine wpAny_bind (m := oneArg "abs" _) (wpAny_pure ?_)
  refine wpAny_bind (m := callSpecial? (.bool b) (Str.ofString "__abs__")) (wpAny_callSpecial?_slot (name := Str.ofString "__abs__") rfl PySem.F.slot_bool_abs
    (wpAny_call_entry PySem.F.slot_bool_abs rfl entry_int_abs ?_ (args_int_abs _)))
  cases b with
  | true =>
    exact wpAny_ret_mkInt (wpAny_pure ⟨_, rfl, h s.toks (s.toks + 1)⟩)
  | false => exact wpAny_ret_mkInt (wpAny_pure ⟨_, rfl, h s.toks (s.toks + 1)⟩)
def oAbs : Z3 := fun zs h P => match zs with
  | [.int i] => P (.int (if i < 0 then -i else i)) h
  | [.bl b] => P (.int (if b then 1 else 0)) h
  | _ => False
theorem call_absB : CallR X (.builtin "abs") (fun xs H Q => ∃ b, xs = [.bl b] ∧ Q (.int (if b then 1 else 0)) H) := by
  intro pins s σ H xs us Q I r h
  obtain ⟨b, rfl, q⟩ := h
  obtain ⟨u, rfl, ru⟩ := vals1 r
  cases ru
  exact abs_bool fun u tk => ⟨.int (if b then 1 else 0), H, I.tok _, ⟨_, rfl⟩, q⟩
theorem call_absZ : CallZ X (.builtin "abs") oAbs := by
  refine ⟨_, call_abs.or call_absB, fun μ H h zs vs P Q R r o f => ?_⟩
  unfold oAbs at o
  split at o
  · obtain ⟨v, rfl, rv⟩ := one_vals r rfl
    cases of_int rv
    exact .inl ⟨_, rfl, f.here R o rep_int⟩
  · obtain ⟨v, rfl, rv⟩ := one_vals r rfl
    cases of_bl rv
    exact .inr ⟨_, rfl, f.here R o rep_int⟩
  · exact o.elim
def oOrd : Z3 := fun zs h P => match zs with
  | [.str x] => x.length = 1 ∧ P (.int (x.cps.getD 0 0 : Nat)) h
  | _ => False
theorem call_ordZ : CallZ X (.builtin "ord") oOrd := by
  refine ⟨_, call_ord, fun μ H h zs vs P Q R r o f => ?_⟩
  unfold oOrd at o
  split at o
  · obtain ⟨v, rfl, rv⟩ := one_vals r rfl
    cases of_str rv
    exact ⟨_, rfl, o.1, f.here R o.2 rep_int⟩
  · exact o.elim
def oStr : Z3 := fun zs h P => match zs with
  | [.int i] => i.natAbs.log2 < 1920 ∧ P (.str (toString i)) h
  | _ => False
theorem call_strZ : CallZ X (.type "str") oStr := by
  refine ⟨_, call_str_int, fun μ H h zs vs P Q R r o f => ?_⟩
  unfold oStr at o
  split at o
  · obtain ⟨v, rfl, rv⟩ := one_vals r rfl
    cases of_int rv
    exact ⟨_, rfl, o.1, f.here R o.2 rep_str⟩
  · exact o.elim
theorem all_ints {K : PySem.W.Frag} {μ : List Addr} {H : Hp} : ∀ {ns : List Int} {vs : List V}, RepVs K μ H (ns.map Z.int) vs → vs = ns.map V.int
  | [], vs, r => by unfold RepVs at r; exact r
  | n :: ns, vs, r => by
    rw [List.map_cons] at r
    unfold RepVs at r
    obtain ⟨v, w, rfl, h1, h2⟩ := r
    cases of_int h1
    rw [all_ints h2] <;> rfl
/-- the greatest of two, of a list of ints -/
def intsZ : List Z → Option (List Int)
  | [] => some []
  | .int i :: r => (intsZ r).map (i :: ·)
  | _ => none
theorem intsZ_some : ∀ {zs : List Z} {ns : List Int}, intsZ zs = some ns → zs = ns.map Z.int
  | [], ns, e => by unfold intsZ at e; cases e; rfl
  | .int i :: r, ns, e => by
    unfold intsZ at e
    cases q : intsZ r with
    | none => rw [q] at e; cases e
    | some l => rw [q] at e; cases e; rw [intsZ_some q] <;> rfl
  | .non :: _, _, e => by cases e
  | .bl _ :: _, _, e => by cases e
  | .str _ :: _, _, e => by cases e
  | .tup _ :: _, _, e => by cases e
  | .scr _ :: _, _, e => by cases e
  | .ref _ :: _, _, e => by cases e
theorem intsZ_map : ∀ ns : List Int, intsZ (ns.map Z.int) = some ns
  | [] => rfl
  | n :: ns => by show (intsZ (ns.map Z.int)).map (n :: ·) = _; rw [intsZ_map ns]; rfl
def maxI (ns : List Int) : Int := ns.tail.foldl (fun a b => if b > a then b else a) (ns.headD 0)
def minI (ns : List Int) : Int := ns.tail.foldl (fun a b => if b < a then b else a) (ns.headD 0)
def oMax : Z3 := fun zs h P => match zs with
  | [.int i, .int j] => P (.int (if j > i then j else i)) h
  | [.ref n] => (match h[n]? with
    | some (.lst zs) => ∃ ns, intsZ zs = some ns ∧ 0 < ns.length ∧ ∀ m, m ∈ ns → (∀ y, y ∈ ns → y ≤ m) → P (.int m) h
    | _ => False)
  | _ => False
def oMin : Z3 := fun zs h P => match zs with
  | [.int i, .int j] => P (.int (if j < i then j else i)) h
  | [.ref n] => (match h[n]? with
    | some (.lst zs) => ∃ ns, intsZ zs = some ns ∧ 0 < ns.length ∧ ∀ m, m ∈ ns → (∀ y, y ∈ ns → m ≤ y) → P (.int m) h
    | _ => False)
  | _ => False
theorem call_maxZ (hc : X.calm = true) : CallZ X (.builtin "max") oMax := by
  refine ⟨_, (call_max2 hc).or (cr_max hc), fun μ H h zs vs P Q R r o f => ?_⟩
  unfold oMax at o
  split at o
  · obtain ⟨v, u, rfl, rv, ru⟩ := two_vals r rfl
    cases of_int rv; cases of_int ru
    exact .inl ⟨_, _, rfl, f.here R o rep_int⟩
  · split at o
    · rename_i zs e1
      obtain ⟨v, rfl, rv⟩ := one_vals r rfl
      obtain ⟨a, ws, rfl, _, hp, rw⟩ := of_lst R e1 rv
      obtain ⟨ns, e2, hl, q⟩ := o
      cases intsZ_some e2
      cases all_ints rw
      exact .inr ⟨a, ns, rfl, SqL.of hp, hl, fun m h1 h2 => f.here R (q m h1 h2) rep_int⟩
    · exact o.elim
  · exact o.elim
theorem call_minZ (hc : X.calm = true) : CallZ X (.builtin "min") oMin := by
  refine ⟨_, (call_min2 hc).or (cr_min hc), fun μ H h zs vs P Q R r o f => ?_⟩
  unfold oMin at o
  split at o
  · obtain ⟨v, u, rfl, rv, ru⟩ := two_vals r rfl
    cases of_int rv; cases of_int ru
    exact .inl ⟨_, _, rfl, f.here R o rep_int⟩
  · split at o
    · rename_i zs e1
      obtain ⟨v, rfl, rv⟩ := one_vals r rfl
      obtain ⟨a, ws, rfl, _, hp, rw⟩ := of_lst R e1 rv
      obtain ⟨ns, e2, hl, q⟩ := o
      cases intsZ_some e2
      cases all_ints rw
      exact .inr ⟨a, ns, rfl, SqL.of hp, hl, fun m h1 h2 => f.here R (q m h1 h2) rep_int⟩
    · exact o.elim
  · exact o.elim
def oSum : Z3 := fun zs h P => match zs with
  | [.ref n] => (match h[n]? with
    | some (.lst zs) => ∃ ns, intsZ zs = some ns ∧ P (.int ns.sum) h
    | _ => False)
  | _ => False
theorem call_sumZ (hc : X.calm = true) : CallZ X (.builtin "sum") oSum := by
  refine ⟨_, cr_sum hc, fun μ H h zs vs P Q R r o f => ?_⟩
  unfold oSum at o
  split at o
  · split at o
    · rename_i zs e1
      obtain ⟨v, rfl, rv⟩ := one_vals r rfl
      obtain ⟨a, ws, rfl, _, hp, rw⟩ := of_lst R e1 rv
      obtain ⟨ns, e2, q⟩ := o
      cases intsZ_some e2
      cases all_ints rw
      exact ⟨a, ns, rfl, SqL.of hp, f.here R q rep_int⟩
    · exact o.elim
  · exact o.elim

/-! ### tuple, list -/
def oTuple : Z3 := fun zs h P => match zs with
  | [.tup zs] => P (.tup zs) h
  | [.scr ns] => P (.tup (ns.map Z.int)) h
  | [.ref n] => (match h[n]? with
    | some (.lst zs) => P (.tup zs) h
    | _ => False)
  | _ => False
theorem call_tupleZ : CallZ X (.type "tuple") oTuple := by
  refine ⟨_, ZTS.call_tupleS (kl := keyV), fun μ H h zs vs P Q R r o f => ?_⟩
  unfold oTuple at o
  split at o
  · obtain ⟨v, rfl, rv⟩ := one_vals r rfl
    obtain ⟨a, ws, rfl, t, rw⟩ := of_tup rv
    exact ⟨a, ws, rfl, .inr ⟨t.sq, f.here R o (by unfold RepV; exact ⟨a, ws, rfl, t, rw⟩)⟩⟩
  · obtain ⟨v, rfl, rv⟩ := one_vals r rfl
    obtain ⟨a, rfl, sq⟩ := scr_sq rv
    exact ⟨a, _, rfl, .inl ⟨sq, fol_tup R (RepVs.ints _) o f⟩⟩
  · split at o
    · rename_i zs e1
      obtain ⟨v, rfl, rv⟩ := one_vals r rfl
      obtain ⟨a, ws, rfl, _, hp, rw⟩ := of_lst R e1 rv
      exact ⟨a, ws, rfl, .inl ⟨SqL.of hp, fol_tup R rw o f⟩⟩
    · exact o.elim
  · exact o.elim
def oList : Z3 := fun zs h P => match zs with
  | [.tup zs] => P (.ref h.length) (h ++ [.lst zs])
  | [.scr ns] => P (.ref h.length) (h ++ [.lst (ns.map Z.int)])
  | [.ref n] => (match h[n]? with
    | some (.lst zs) => P (.ref h.length) (h ++ [.lst zs])
    | some (.dict kvs) => (∀ p ∈ kvs, keyOk p.1 = true) ∧ P (.ref h.length) (h ++ [.lst (kvs.map (·.1))])
    | _ => False)
  | _ => False
theorem keys_rep {K : PySem.W.Frag} {μ : List Addr} {H : Hp} {kvs : List (Z × Z)} {l : List (Key × V)} (r : Paired (KR K μ H) kvs l) : RepVs K μ H (kvs.map (·.1)) (l.map fun kv => kV kv.1) := by
  induction r with
  | nil => exact .nil
  | @cons p q l m h r ih =>
    rw [List.map_cons, List.map_cons]
    refine .cons ?_ ih
    rw [h.1]
    cases q.1 with
    | inl i => exact rep_int
    | inr x => exact rep_str
theorem keys_repV {K : PySem.W.Frag} {μ : List Addr} {H : Hp} : ∀ ks : List Key, RepVs K μ H (ks.map keyZ) (ks.map kV)
  | [] => .nil
  | k :: ks => by
    rw [List.map_cons, List.map_cons]
    refine .cons ?_ (keys_repV ks)
    cases k with
    | inl i => exact rep_int
    | inr x => exact rep_str
theorem keyV_of {q : List Key} (h : keyOk (.tup (q.map keyZ)) = true) : keyV (q.map kV) = true := by
  rw [keyV_keys]
  have := (Bool.and_eq_true_iff.mp (show ((ksOf (q.map keyZ)).isSome && keyN (q.map keyZ).length ((q.map keyZ).all textZ)) = true from h)).2
  rwa [List.length_map] at this
theorem keysT_rep {K : PySem.W.Frag} {μ : List Addr} {H : Hp} {kvs : List (Z × Z)} {l : List (List Key × V)} {bs : List Addr} (r : Paired (TR K μ H) kvs l) (k : IsKeys H l bs) (ok : ∀ p ∈ kvs, keyOk p.1 = true) : RepVs K μ H (kvs.map (·.1)) (bs.map V.ref) := by
  unfold IsKeys at k
  induction r generalizing bs with
  | nil => cases k; exact .nil
  | @cons p q l m h r ih =>
    cases k with
    | cons k1 k2 =>
      rw [List.map_cons, List.map_cons]
      have o1 := ok p List.mem_cons_self
      rw [h.1] at o1
      refine .cons ?_ (ih k2 fun y m => ok y (List.mem_cons_of_mem _ m))
      rw [h.1]
      unfold RepV
      exact ⟨_, _, rfl, .inl ⟨keyV_of o1, k1⟩, keys_repV _⟩
theorem call_listZ (hc : X.calm = true) : CallZ X (.type "list") oList := by
  refine ⟨_, call_list_of.or ((call_list_dK hc).or (call_list_dT hc)), fun μ H h zs vs P Q R r o f => ?_⟩
  unfold oList at o
  split at o
  · obtain ⟨v, rfl, rv⟩ := one_vals r rfl
    obtain ⟨a, ws, rfl, t, rw⟩ := of_tup rv
    exact .inl ⟨a, ws, rfl, .inr t.sq, fol_lst R rw o f⟩
  · obtain ⟨v, rfl, rv⟩ := one_vals r rfl
    obtain ⟨a, rfl, sq⟩ := scr_sq rv
    exact .inl ⟨a, _, rfl, .inl sq, fol_lst R (RepVs.ints _) o f⟩
  · obtain ⟨v, rfl, rv⟩ := one_vals r rfl
    split at o
    · rename_i zs e1
      obtain ⟨a, ws, rfl, _, hp, rw⟩ := of_lst R e1 rv
      exact .inl ⟨a, ws, rfl, .inl (SqL.of hp), fol_lst R rw o f⟩
    · rename_i kvs e1
      obtain ⟨a, ho, rfl, _, hp, d⟩ := dict_of R e1 rv
      rcases d with ⟨l, rfl, pr⟩ | ⟨l, rfl, pr⟩
      · exact .inr (.inl ⟨a, l, rfl, hp, fol_lst R (keys_rep pr) o.2 f⟩)
      · exact .inr (.inr ⟨a, l, rfl, .inl hp, fun p bs hn ik => fol_lst R (keysT_rep pr ik o.1) o.2 f p hn⟩)
    · exact o.elim
  · exact o.elim

/-! ### isinstance with a builtin type -/
inductive BT where
  | int | str | bool | tuple | list | dict
def BT.name : BT → String
  | .int => "int" | .str => "str" | .bool => "bool" | .tuple => "tuple" | .list => "list" | .dict => "dict"
/-- whether a value is of a type; of own objects: none is -/
def isiZ (T : BT) (cs : List Str) (h : ZH) (z : Z) (Q : Bool → Prop) : Prop := match z with
  | .non => Q false
  | .bl _ => Q (match T with | .int => true | .bool => true | _ => false)
  | .int _ => Q (match T with | .int => true | _ => false)
  | .str _ => Q (match T with | .str => true | _ => false)
  | .tup _ => Q (match T with | .tuple => true | _ => false)
  | .scr _ => Q (match T with | .list => true | _ => false)
  | .ref n => (match h[n]? with
    | some (.lst _) => Q (match T with | .list => true | _ => false)
    | some (.dict _) => Q (match T with | .dict => true | _ => false)
    | some (.ins c _) => c ∈ cs ∧ Q false
    | _ => False)
  | .err _ => False
/-- the classes cs are of no such type -/
def NoT (K : PySem.W.Frag) (mg : Str → Option Value) (cs : List Str) (T : String) : Prop := ∀ c ∈ cs, ∀ C, mg c = some (.ref C) → Cls K C ∧ PySem.W.findIn K (.ref C) "__class__" = some (some (.builtin "object.__class__")) ∧
  PySem.W.specialIn K (.builtin "object.__class__") "__get__" = some (some (.builtin "getset_descriptor.__get__")) ∧ PySem.W.takesIn K (.builtin "object.__class__") = some true ∧ PySem.W.mroIn K C (.type "object") = some true ∧ PySem.W.kitOne K (.ref C) (.type T) = some false
def wIsi (T : BT) (cs : List Str) (w : WE) : WE := fun env h P E => w env h (fun z h1 => isiZ T cs h1 z fun b => P (.bl b) h1) E
def kN (a : String) (T : BT) : Bool := (kitB a T.name).getD false
theorem kit_all (a : String) (h : a ∈ ["NoneType", "bool", "int", "str", "tuple", "list", "dict"]) (T : BT) : kitB a T.name = some (kN a T) := by
  simp only [List.mem_cons, List.mem_nil_iff, or_false] at h
  rcases h with rfl | rfl | rfl | rfl | rfl | rfl | rfl <;> cases T <;> decide +kernel
theorem isi_core {K : PySem.W.Frag} {mg : Str → Option Value} {T : BT} {cs : List Str} (hn : NoT K mg cs T.name) {μ : List Addr} {H : Hp} {h : ZH} {z : Z} {v : V} {P : PZ} {Q : VK} (R : RelH K mg μ H h) (r : RepV K μ H z v)
    (o : isiZ T cs h z fun b => P (.bl b) h) (f : Fol K mg μ H P Q) : ∃ (t : Value) (b : Bool), TyX K H v t ∧ PySem.W.kitOne K t (.type T.name) = some b ∧ Q (.bl b) H := by
  have go : ∀ (a : String) (b : Bool), a ∈ ["NoneType", "bool", "int", "str", "tuple", "list", "dict"] → kN a T = b → TyX K H v (.type a) → P (.bl b) h → ∃ (t : Value) (b : Bool), TyX K H v t ∧ PySem.W.kitOne K t (.type T.name) = some b ∧ Q (.bl b) H :=
    fun a b ha e ty p => ⟨_, b, ty, by rw [← e]; exact kit_ty (kit_all a ha T), f.here R p rep_bl⟩
  unfold isiZ at o
  split at o
  · cases of_non r
    exact go "NoneType" _ (by decide) (by cases T <;> decide +kernel) (.base .non) o
  · cases of_bl r
    exact go "bool" _ (by decide) (by cases T <;> decide +kernel) (.base (.bl _)) o
  · cases of_int r
    exact go "int" _ (by decide) (by cases T <;> decide +kernel) (.base (.int _)) o
  · cases of_str r
    exact go "str" _ (by decide) (by cases T <;> decide +kernel) (.base (.str _)) o
  · obtain ⟨a, ws, rfl, t, rw⟩ := of_tup r
    rcases t with ⟨_, t⟩ | ⟨_, ob, _, t⟩
    · exact go "tuple" _ (by decide) (by cases T <;> decide +kernel) (.base (.tup t)) o
    · exact go "tuple" _ (by decide) (by cases T <;> decide +kernel) (.fTuple t) o
  · unfold RepV at r
    obtain ⟨a, rfl, ⟨o', e⟩ | e⟩ := r
    · exact go "list" _ (by decide) (by cases T <;> decide +kernel) (.base (.frz e)) o
    · obtain ⟨ob, _, _, e1, e2, _⟩ := e
      exact go "list" _ (by decide) (by cases T <;> decide +kernel) (.kList e1 e2) o
  · split at o
    · rename_i e1
      obtain ⟨a, ws, rfl, _, hp, rw⟩ := of_lst R e1 r
      exact go "list" _ (by decide) (by cases T <;> decide +kernel) (.base (.lst hp)) o
    · rename_i e1
      obtain ⟨a, ho, rfl, _, hp, d⟩ := dict_of R e1 r
      rcases d with ⟨l, rfl, pr⟩ | ⟨l, rfl, pr⟩
      · exact go "dict" _ (by decide) (by cases T <;> decide +kernel) (.base (.dK hp)) o
      · exact go "dict" _ (by decide) (by cases T <;> decide +kernel) (.base (.dT hp)) o
    · rename_i e1
      obtain ⟨a, C, dx, vs, rfl, ha, m, hH, p⟩ := ins_of R e1 r
      obtain ⟨h1, h2, h3, h4, h5, h6⟩ := hn _ o.1 C m
      exact ⟨_, false, .base (.ins hH h1 h2 h3 h4 h5), h6, f.here R o.2 rep_bl⟩
    · exact o.elim
  · exact o.elim
theorem ze_isi {T : BT} {cs : List Str} {w : WE} {e : Expr} {tn : Str} {p p2 pos : Pos} (hn : NoT X.K X.mg cs T.name) (htn : tn = Str.ofString T.name) (hg : Gl X "isinstance") (hm : X.mg "isinstance" = none) (hg2 : Gl X tn) (hm2 : X.mg tn = none) (he : ZE X e w)
    (hs : starEach [e, .Name tn p2] X.env = (false, eval e X.env) :: starEach [.Name tn p2] X.env := by rfl) (hpl : (backTo pos (starEach [.Name tn p2] X.env)).any (·.1) = false := by rfl) (hs2 : starEach [.Name tn p2] X.env = [(false, eval (.Name tn p2) X.env)] := by rfl) :
    ZE X (.Call (.Name "isinstance" p) [e, .Name tn p2] [] pos) (wIsi T cs w) := by
  have hv : bootBuiltins tn = some (.type T.name) := by subst htn; cases T <;> rfl
  have pT : PE X (.Name tn p2) (tC (.ty T.name)) := pe_bltn hg2 hm2 hv rfl (by subst htn; cases T <;> decide) (by subst htn; cases T <;> decide)
  refine ⟨fun B E tk => pe_imp (pe_callB (X := X) (x := "isinstance") (id := "isinstance") call_isi hg hm rfl (pa_cons (he.run B E tk) (pa_cons pT pa_nil hs2) hs) (by decide) (by decide) hs hpl) fun σ H Q ⟨μ, env, h, P, R, q, f⟩ => ⟨μ, env, h, _, R, q, fun z h1 μ1 H1 v p1 e1 R1 r1 => ?_⟩⟩
  obtain ⟨t, b, k1, k2, k3⟩ := isi_core hn R1 r1 p1 (f.ext e1)
  exact ⟨v, .ty T.name, t, .type T.name, b, rfl, .ty _, k1, k2, k3⟩
end
end ZL

namespace ZL
open PySem PySem.Spec PyProof.Rows L2

/-! ### targets of comprehensions -/
inductive Pat where
  | nm (i : Nat) | tup (ps : List Pat)
mutual
def Pat.put : Pat → Z → Env → Option Env
  | .nm i, z, env => some (env.set i (some z))
  | .tup ps, z, env => match z with
    | .tup zs => Pat.puts ps zs env
    | _ => none
def Pat.puts : List Pat → List Z → Env → Option Env
  | [], [], env => some env
  | p :: ps, z :: zs, env => match Pat.put p z env with
    | some e => Pat.puts ps zs e
    | none => none
  | _, _, _ => none
end
mutual
def Pat.slots : Pat → List Nat
  | .nm i => [i]
  | .tup ps => Pat.slotss ps
def Pat.slotss : List Pat → List Nat
  | [] => []
  | p :: ps => Pat.slots p ++ Pat.slotss ps
end
mutual
inductive PutV (H : Hp) : Pat → V → L2.St → L2.St → Prop where
  | nm {i : Nat} {v : V} {σ : L2.St} : PutV H (.nm i) v σ (σ.set i (some v))
  | tup {ps : List Pat} {a : Addr} {vs : List V} {σ σ' : L2.St} (h : Rd H a (.tup vs)) (hl : vs.length = ps.length) (r : PutVs H ps vs σ σ') : PutV H (.tup ps) (.ref a) σ σ'
inductive PutVs (H : Hp) : List Pat → List V → L2.St → L2.St → Prop where
  | nil {σ : L2.St} : PutVs H [] [] σ σ
  | cons {p : Pat} {ps : List Pat} {v : V} {vs : List V} {σ σ1 σ' : L2.St} (h : PutV H p v σ σ1) (r : PutVs H ps vs σ1 σ') : PutVs H (p :: ps) (v :: vs) σ σ'
end
theorem wipe_set {σ : L2.St} {i : Nat} {v : V} : ∀ {vs : List Nat}, i ∈ vs → wipe (σ.set i (some v)) vs = wipe σ vs
  | j :: vs, h => by
    unfold wipe
    by_cases hi : i ∈ vs
    · rw [wipe_set hi]
    · have e : i = j := by simpa [hi] using h
      subst e
      have key : ∀ (ws : List Nat), i ∉ ws → wipe (σ.set i (some v)) ws = (wipe σ ws).set i (some v) := by
        intro ws
        induction ws with
        | nil => intro _; rfl
        | cons k ws ih =>
          intro hn
          simp only [List.mem_cons, not_or] at hn
          unfold wipe
          rw [ih hn.2, List.set_comm _ _ hn.1]
      rw [key vs hi, List.set_set]
theorem wipe_cons (σ : L2.St) (k : Nat) (us : List Nat) : wipe σ (k :: us) = (wipe σ us).set k none := rfl
theorem wipe_in (σ : L2.St) (k : Nat) : ∀ ws : List Nat, k ∈ ws → (wipe σ ws).set k none = wipe σ ws
  | j :: ws, h => by
    rw [wipe_cons]
    by_cases hj : j = k
    · subst hj
      rw [List.set_set]
    · have h' : k ∈ ws := by
        rcases List.mem_cons.mp h with z | z
        · exact absurd z.symm hj
        · exact z
      rw [List.set_comm _ _ hj, wipe_in σ k ws h']
theorem wipe_idem (σ : L2.St) (ws : List Nat) : ∀ us : List Nat, (∀ i ∈ us, i ∈ ws) → wipe (wipe σ ws) us = wipe σ ws
  | [], _ => rfl
  | k :: us, hu => by
    rw [wipe_cons, wipe_idem σ ws us (fun i hi => hu i (List.mem_cons_of_mem _ hi)), wipe_in σ k ws (hu k List.mem_cons_self)]
mutual
theorem PutV.wipe {H : Hp} {p : Pat} {v : V} {σ σ' : L2.St} {vs : List Nat} (h : PutV H p v σ σ') (hs : ∀ i ∈ p.slots, i ∈ vs) : wipe σ' vs = wipe σ vs := by
  cases h with
  | nm => exact wipe_set (hs _ (by unfold Pat.slots; simp))
  | tup _ _ r => exact PutVs.wipe r (fun i hi => hs i (by unfold Pat.slots; exact hi))
theorem PutVs.wipe {H : Hp} {ps : List Pat} {xs : List V} {σ σ' : L2.St} {vs : List Nat} (h : PutVs H ps xs σ σ') (hs : ∀ i ∈ Pat.slotss ps, i ∈ vs) : wipe σ' vs = wipe σ vs := by
  cases h with
  | nil => rfl
  | cons h r => rw [PutVs.wipe r (fun i hi => hs i (by unfold Pat.slotss; exact List.mem_append_right _ hi)), PutV.wipe h (fun i hi => hs i (by unfold Pat.slotss; exact List.mem_append_left _ hi))]
end
mutual
theorem pat_put {K : PySem.W.Frag} {mg : Str → Option Value} {B : List Addr × Hp} {μ : List Addr} {h : ZH} {H : Hp} : ∀ {p : Pat} {z : Z} {v : V} {env env' : Env} {σ : L2.St}, Rel K mg B μ env h σ H → RepV K μ H z v → p.put z env = some env' → ∃ σ', PutV H p v σ σ' ∧ Rel K mg B μ env' h σ' H
  | .nm i, z, v, env, env', σ, R, r, e => by
    unfold Pat.put at e
    cases e
    exact ⟨_, .nm, R.put r i⟩
  | .tup ps, z, v, env, env', σ, R, r, e => by
    unfold Pat.put at e
    cases z with
    | tup zs =>
      obtain ⟨a, vs, rfl, t, rv⟩ := of_tup r
      obtain ⟨σ', h1, h2, hl⟩ := pat_puts (ps := ps) (vs := vs) R rv e
      exact ⟨σ', .tup t.rd hl h1, h2⟩
    | _ => cases e
theorem pat_puts {K : PySem.W.Frag} {mg : Str → Option Value} {B : List Addr × Hp} {μ : List Addr} {h : ZH} {H : Hp} : ∀ {ps : List Pat} {zs : List Z} {vs : List V} {env env' : Env} {σ : L2.St}, Rel K mg B μ env h σ H → RepVs K μ H zs vs → Pat.puts ps zs env = some env' → ∃ σ', PutVs H ps vs σ σ' ∧ Rel K mg B μ env' h σ' H ∧ vs.length = ps.length
  | [], [], vs, env, env', σ, R, r, e => by
    unfold Pat.puts at e
    cases e
    unfold RepVs at r
    subst r
    exact ⟨_, .nil, R, rfl⟩
  | p :: ps, z :: zs, vs, env, env', σ, R, r, e => by
    unfold Pat.puts at e
    unfold RepVs at r
    obtain ⟨v, ws, rfl, r1, r2⟩ := r
    cases q : Pat.put p z env with
    | none => rw [q] at e; cases e
    | some env1 =>
      rw [q] at e
      obtain ⟨σ1, h1, R1⟩ := pat_put R r1 q
      obtain ⟨σ2, h2, R2, hl⟩ := pat_puts R1 r2 e
      exact ⟨σ2, .cons h1 h2, R2, by rw [List.length_cons, List.length_cons, hl]⟩
  | [], _ :: _, _, _, _, _, _, _, e => by cases e
  | _ :: _, [], _, _, _, _, _, _, e => by cases e
end
/-- the assignment itself -/
structure ZP (X : Cx) (tg : Expr) (p : Pat) : Prop where
  run : PG X tg (fun v σ H Q => ∃ σ', PutV H p v σ σ' ∧ Q σ' H)
structure ZPs (X : Cx) (tgs : List Expr) (ps : List Pat) : Prop where
  run : PGs X tgs (fun vs σ H Q => ∃ σ', PutVs H ps vs σ σ' ∧ Q σ' H)
section
variable {X : Cx}
theorem zp_name {i : Nat} {x : Str} {pos : Pos} (hN : X.N.Nodup) (hi : X.N[i]? = some x) (hx : Loc X.env.scope x) (hf : X.fn x = true ∨ X.env.scope.names.lookup x = some .local := by first | exact .inl rfl | exact .inr rfl | assumption) : ZP X (.Name x pos) (.nm i) :=
  ⟨pg_imp (pg_name hN hi hx hf) fun v σ H Q ⟨σ', h, q⟩ => by cases h; exact q⟩
theorem zps_nil : ZPs X [] [] := ⟨pgs_imp pgs_nil fun vs σ H Q ⟨σ', h, q⟩ => by cases h; exact ⟨rfl, q⟩⟩
theorem zps_cons {e : Expr} {es : List Expr} {p : Pat} {ps : List Pat} (h1 : ZP X e p) (h2 : ZPs X es ps) (hs : (assignEach (e :: es) X.env).map (·.2) = assign e X.env :: (assignEach es X.env).map (·.2) := by rfl) : ZPs X (e :: es) (p :: ps) :=
  ⟨pgs_imp (pgs_cons h1.run h2.run hs) fun vs σ H Q ⟨σ', h, q⟩ => by
    cases h with
    | cons h r => exact ⟨_, _, rfl, _, h, _, r, q⟩⟩
theorem zp_tup {es : List Expr} {k : Nat} {ps : List Pat} {n : Nat} {pos : Pos} (hc : X.calm = true) (h : ZPs X es ps) (hl : ps.length = n := by rfl) (hn : (assignEach es X.env).length = n := by rfl) (hst : (assignEach es X.env).findIdx? (·.1) = none := by rfl) : ZP X (.Tuple es k pos) (.tup ps) :=
  ⟨pg_imp (pg_tup hc h.run hn hst) fun v σ H Q ⟨σ', hp, q⟩ => by
    cases hp with
    | tup t hl' r => exact ⟨_, _, rfl, .inl t, by rw [hl', hl], _, r, q⟩⟩
end

/-! ### the block's environment -/
def wipeE (env : Env) : List Nat → Env
  | [] => env
  | v :: vs => (wipeE env vs).set v none
theorem Rel.wipe {K : PySem.W.Frag} {mg : Str → Option Value} {B : List Addr × Hp} {μ : List Addr} {env : Env} {h : ZH} {σ : L2.St} {H : Hp} (R : Rel K mg B μ env h σ H) : ∀ vs : List Nat, Rel K mg B μ (wipeE env vs) h (wipe σ vs) H
  | [] => R
  | v :: vs => by
    have r := Rel.wipe R vs
    refine ⟨r.ext, r.heap, by unfold wipeE L2.wipe; rw [List.length_set, List.length_set]; exact r.len, fun i z q => ?_⟩
    unfold wipeE at q
    unfold L2.wipe
    by_cases hi : v = i
    · subst hi
      by_cases hl : v < (wipeE env vs).length
      · rw [List.getElem?_set_self hl] at q; cases q
      · rw [List.getElem?_eq_none (by simpa using hl)] at q; cases q
    · rw [List.getElem?_set_ne hi] at q ⊢
      exact r.env i z q

/-! ### the comprehension -/
def E0 : EZ := fun _ _ _ => False
theorem takes0 {X : Cx} {B : List Addr × Hp} : ZTk X B E0 := fun u s' ⟨a, C, sI, pins, σ, H, cls, d, e, I, nb, up, sky, na, os, ag, ⟨_, _, _, _, _, _, _, f⟩⟩ => f.elim
/-- the tests of a clause -/
structure ZTs (X : Cx) (ifs : List Expr) (w : WT) : Prop where
  run : ∀ B E, ZTk X B E → PTs X ifs (TZt X.K X.mg B w E)
def wYes : WT := fun _ h P _ => P true h
theorem pts_imp {X : Cx} {e : List Expr} {t t' : TT} (p : PTs X e t) (f : ∀ σ H Q, t' σ H Q → t σ H Q) : PTs X e t' := ⟨fun pins s σ H Q I q => p.run pins s σ H Q I (f _ _ _ q)⟩
theorem zts_nil {X : Cx} : ZTs X [] wYes := ⟨fun B E tk => pts_imp pts_nil fun σ H Q ⟨μ, env, h, P, R, w, f⟩ => f true h μ H w (Ext.refl _ _) R.heap⟩
theorem zts_one {X : Cx} {c : Expr} {w : WT} (h : ZT X c w) : ZTs X [c] w := ⟨fun B E tk => pts_one (h.run B E tk)⟩
/-- turn by turn -/
def lcZ (p : Pat) (tt : WT) (te : WE) (chk : ZH → Prop) (env : Env) (P : PZ) : List Z → List Z → ZH → Prop
  | [], acc, h => chk h ∧ P (.ref h.length) (h ++ [.lst acc])
  | z :: zs, acc, h => chk h ∧ match p.put z env with
    | some env1 => tt env1 h (fun b h2 => if b = true then te env1 h2 (fun y h3 => acc.length < sizeLine ∧ lcZ p tt te chk env P zs (acc ++ [y]) h3) E0 else lcZ p tt te chk env P zs acc h2) E0
    | none => False
def wLc (wi : WI) (p : Pat) (tt : WT) (te : WE) (vs : List Nat) : WE := fun env h P E => wi env h (fun zs chk h1 => lcZ p tt te chk (wipeE env vs) P zs [] h1) E
theorem lc_cons {p : Pat} {tt : WT} {te : WE} {chk : ZH → Prop} {env : Env} {P : PZ} {z : Z} {zs acc : List Z} {h : ZH} : lcZ p tt te chk env P (z :: zs) acc h = (chk h ∧ match p.put z env with
    | some env1 => tt env1 h (fun b h2 => if b = true then te env1 h2 (fun y h3 => acc.length < sizeLine ∧ lcZ p tt te chk env P zs (acc ++ [y]) h3) E0 else lcZ p tt te chk env P zs acc h2) E0
    | none => False) := rfl
section
variable {K : PySem.W.Frag} {mg : Str → Option Value} {μ μ0 : List Addr} {H H0 : Hp} {h : ZH}
/-- an object that is not ours changes -/
theorem Ext.beside {D : Addr} {u : HO} (e : Ext μ0 H0 μ H) (h0 : H0 D = none) : Ext μ0 H0 μ (upd H D u) :=
  ⟨⟨e.pre, fun a xs q => by rw [upd_ne (ne_of_none q h0)]; exact e.tup a xs q, fun a o xs c q => by rw [upd_ne (ne_of_none q h0)]; exact e.frz a o xs c q⟩,
    fun a o q n => ⟨by rw [upd_ne (ne_of_none q h0)]; exact (e.off a o q n).1, (e.off a o q n).2⟩, fun a o v c q => by rw [upd_ne (ne_of_none q h0)]; exact e.lck a o v c q⟩
theorem ext0_beside {D : Addr} {xs : List V} {u : HO} (hD : H D = some (.lst xs)) : Ext0 μ H μ (upd H D u) :=
  ⟨⟨[], by simp⟩, fun a ys q => by rw [upd_ne (fun z => by rw [z, hD] at q; cases q)]; exact q, fun a o ys _ q => by rw [upd_ne (fun z => by rw [z, hD] at q; cases q)]; exact q⟩
theorem RelH.beside {D : Addr} {xs : List V} {u : HO} (R : RelH K mg μ H h) (hD : H D = some (.lst xs)) (hn : D ∉ μ) : RelH K mg μ (upd H D u) h :=
  ⟨R.len, R.nd, fun n a o e1 e2 => (R.obj n a o e1 e2).keep0 (ext0_beside hD) (upd_ne fun z => hn (z ▸ List.mem_of_getElem? e1))⟩
/-- .. becomes ours -/
theorem RelH.adopt {D : Addr} {zs : List Z} {vs : List V} (R : RelH K mg μ H h) (hD : H D = some (.lst vs)) (hn : D ∉ μ) (r : RepVs K μ H zs vs) : RelH K mg (μ ++ [D]) H (h ++ [.lst zs]) := by
  have ex : Ext0 μ H (μ ++ [D]) H := ⟨⟨[D], rfl⟩, fun _ _ q => q, fun _ _ _ _ q => q⟩
  refine ⟨by simp [R.len], List.nodup_append.mpr ⟨R.nd, by simp, fun a ha b hb => by simp at hb; subst hb; exact fun z => hn (z ▸ ha)⟩, fun n a o' e1 e2 => ?_⟩
  by_cases hl : n < μ.length
  · rw [List.getElem?_append_left hl] at e1
    rw [List.getElem?_append_left (by rw [← R.len]; exact hl)] at e2
    exact (R.obj n a o' e1 e2).keep0 ex rfl
  · have e3 : n = μ.length := by
      have := (List.getElem?_eq_some_iff.mp e1).1
      simp at this; omega
    subst e3
    rw [List.getElem?_append_right (by omega)] at e1
    rw [R.len, List.getElem?_append_right (by omega)] at e2
    simp at e1 e2
    subst e1 e2
    exact ⟨vs, hD, r.mono0 ex⟩
theorem Ext.adopt {D : Addr} (e : Ext μ0 H0 μ H) (h0 : H0 D = none) : Ext μ0 H0 (μ ++ [D]) H := by
  obtain ⟨m, em⟩ := e.pre
  refine ⟨⟨⟨m ++ [D], by rw [em, List.append_assoc]⟩, e.tup, e.frz⟩, fun a o q n => ⟨(e.off a o q n).1, ?_⟩, e.lck⟩
  rw [List.mem_append, List.mem_singleton]
  exact fun z => z.elim (e.off a o q n).2 fun z => by rw [z, h0] at q; cases q
end
section
variable {X : Cx}
/-- the contexts of a block -/
abbrev AtBlk (X : Cx) (scope : Scope) (P : Cx → Prop) : Prop := ∀ (s : Shared) (H : Hp) (C : Addr) (cl : List (Str × Addr)) (fp : List Addr), P (X.blk s H scope (compEnvC scope cl C X.env) fp)
theorem lc_core {tg iter elt : Expr} {ifs : List Expr} {scope : Scope} {own : List (Str × Nat)} {wi : WI} {p : Pat} {wt : WT} {we : WE} {B : List Addr × Hp} {E : EZ} (hi : ZI X tg iter wi) (hs : (p.slots.all fun i => (own.map (·.2)).contains i) = true) :
    ∀ σ H Q, TZ X.K X.mg B (wLc wi p wt we (own.map (·.2))) E σ H Q → tLc (TZi X.K X.mg B wi E) (fun v σ H Q => ∃ σ', PutV H p v σ σ' ∧ Q σ' H)
      (fun σ H Q => ∃ B' : List Addr × Hp, TZt X.K X.mg B' wt E0 σ H Q) (fun σ H Q => ∃ B' : List Addr × Hp, TZ X.K X.mg B' we E0 σ H Q) (own.map (·.2)) σ H Q := by
  intro σ H Q ⟨μ, env, h, P, R, q, f⟩
  have hsl : ∀ i ∈ p.slots, i ∈ own.map (·.2) := fun i hi => by
    have := List.all_eq_true.mp hs i hi
    exact List.contains_iff_mem.mp this
  refine ⟨μ, env, h, _, R, q, fun zs chk h1 μ1 H1 J p1 e1 R1 it D hD => ?_⟩
  have RR := (R.step e1 R1).based
  -- the turns
  refine ⟨fun i m H2 => m = zs.length - i ∧ i ≤ zs.length ∧ ∃ μ2 h2 acc vs, Ext μ1 H1 μ2 H2 ∧ RelH X.K X.mg μ2 H2 h2 ∧ H2 D = some (.lst vs) ∧ D ∉ μ2 ∧ RepVs X.K μ2 H2 acc vs ∧ lcZ p wt we chk (wipeE env (own.map (·.2))) P (zs.drop i) acc h2,
    ⟨_, rfl, Nat.zero_le _, μ1, h1, [], [], (Ext.refl μ1 H1).beside hD, ?_, upd_same, ?_, .nil, p1⟩, ?_⟩
  · exact R1.tup hD
  · intro hm
    obtain ⟨n, hn, e⟩ := List.mem_iff_getElem.mp hm
    have hh : n < h1.length := by rw [← R1.len]; exact hn
    obtain ⟨w, ew, _⟩ := (R1.obj n D h1[n] (by simp [hn, e]) (by simp [hh])).some
    rw [hD] at ew; cases ew
  rintro i m H2 ⟨rfl, hi2, μ2, h2, acc, vs, e2, R2, hD2, nD, ra, q2⟩
  by_cases hl : i < zs.length
  · rw [List.drop_eq_getElem_cons hl, lc_cons] at q2
    obtain ⟨hk, q2⟩ := q2
    obtain ⟨go, y⟩ := it.go i zs[i] μ2 H2 h2 e2 R2 hk (by simp [hl])
    refine .inr ⟨go, fun H3 => ∃ μ2 h2 acc vs, Ext μ1 H1 μ2 H3 ∧ RelH X.K X.mg μ2 H3 h2 ∧ H3 D = some (.lst vs) ∧ D ∉ μ2 ∧ RepVs X.K μ2 H3 acc vs ∧ lcZ p wt we chk (wipeE env (own.map (·.2))) P (zs.drop (i + 1)) acc h2,
      fun H3 w => ⟨_, by omega, rfl, hl, w⟩, fun x H3 yl => ?_⟩
    obtain ⟨μ3, e3, R3, r3⟩ := y x H3 yl
    split at q2
    · rename_i env1 hput
      have Rw : Rel X.K X.mg (μ3, H3) μ3 (wipeE env (own.map (·.2))) h2 (wipe σ (own.map (·.2))) H3 := by
        have := ((R.step e1 R1).step (e2.trans e3) R3).wipe (own.map (·.2))
        exact this.based
      obtain ⟨σ4, hp4, R4⟩ := pat_put Rw r3 hput
      refine ⟨σ4, hp4, ?_, ?_⟩
      · rw [hp4.wipe hsl]
        exact wipe_idem σ _ _ (fun i hi => hi)
      · refine ⟨(μ3, H3), μ3, env1, h2, _, R4, q2, fun b h5 μ5 H5 p5 e5 R5 => ?_⟩
        have off5 := (e3.trans e5).off D _ hD2 nD
        have ex5 := (e2.trans e3).trans e5
        cases b with
        | false =>
          simp only [Bool.false_eq_true, if_false] at p5 ⊢
          exact ⟨μ5, h5, acc, vs, ex5, R5, off5.1, off5.2, ra.mono (e3.trans e5), p5⟩
        | true =>
          simp only [if_true] at p5 ⊢
          refine ⟨(μ5, H5), μ5, env1, h5, _, (R4.step e5 R5).based, p5, fun z6 h6 μ6 H6 v6 ⟨l6, p6⟩ e6 R6 r6 => ?_⟩
          have off6 := e6.off D _ off5.1 off5.2
          have hlen : acc.length = vs.length := ra.length
          refine ⟨vs, off6.1, by rw [← hlen]; exact l6, μ6, h6, acc ++ [z6], vs ++ [v6], (ex5.trans e6).beside hD, R6.beside off6.1 off6.2, upd_same, off6.2, ?_, p6⟩
          exact ((ra.mono ((e3.trans e5).trans e6)).append (.cons r6 .nil)).mono0 (ext0_beside off6.1)
    · exact q2.elim
  · have e : i = zs.length := by omega
    subst e
    rw [List.drop_length] at q2
    refine .inl ⟨it.stop μ2 H2 h2 e2 R2 q2.1, ?_⟩
    have ex : Ext μ H (μ2 ++ [D]) H2 := (e1.trans (e2.adopt hD))
    refine f _ _ _ _ _ q2.2 ex (R2.adopt hD2 nD ra) ?_
    unfold RepV
    exact ⟨D, rfl, by rw [← R2.len]; simp⟩
theorem ze_lc {elt tg iter : Expr} {ifs : List Expr} {scope : Scope} {own : List (Str × Nat)} {pos : Pos} {wi : WI} {p : Pat} {wt : WT} {we : WE} (hc : X.calm = true) (hN : X.N.Nodup) (hi : ZI X tg iter wi) (ok : BlkOk X.N X.env.scope scope own)
    (hg : AtBlk X scope fun X => ZP X tg p) (ht : AtBlk X scope fun X => ZTs X ifs wt) (he : AtBlk X scope fun X => ZE X elt we) (hsl : (p.slots.all fun i => (own.map (·.2)).contains i) = true := by rfl) (hs : ∀ x, foldedSetIterable iter X.env x = pure x := by intro _; rfl) :
    ZE X (.ListComp elt [⟨tg, iter, ifs, 0⟩] scope pos) (wLc wi p wt we (own.map (·.2))) :=
  ⟨fun B E tk => pe_imp (pe_lc hc hN (hi.run B E tk) ok (fun s H C cl fp => (hg s H C cl fp).run)
    (fun s H C cl fp => ⟨fun pins s' σ H' Q I ⟨B', q⟩ => ((ht s H C cl fp).run B' E0 takes0).run pins s' σ H' Q I q⟩)
    (fun s H C cl fp => ⟨fun pins s' σ H' Q I ⟨B', q⟩ => ((he s H C cl fp).run B' E0 takes0).run pins s' σ H' Q I q⟩) hs) (lc_core (elt := elt) (ifs := ifs) (scope := scope) hi hsl)⟩
/-- name = [..] on one line -/
theorem zs_setLc {i : Nat} {y : Str} {py : Pos} {elt tg iter : Expr} {ifs : List Expr} {scope : Scope} {own : List (Str × Nat)} {pos spos : Pos} {wi : WI} {p : Pat} {wt : WT} {we : WE} (hc : X.calm = true) (hN : X.N.Nodup) (hy : X.N[i]? = some y) (hyl : X.env.scope.names.lookup y = some .local)
    (hsw : swapsWith (.ListComp elt [⟨tg, iter, ifs, 0⟩] scope pos) (some (.Name y py)) spos.line X.env = pure true) (hi : ZI X tg iter wi) (ok : BlkOk X.N X.env.scope scope own)
    (hg : AtBlk X scope fun X => ZP X tg p) (ht : AtBlk X scope fun X => ZTs X ifs wt) (he : AtBlk X scope fun X => ZE X elt we) (hsl : (p.slots.all fun i => (own.map (·.2)).contains i) = true := by rfl) (hs : ∀ x, foldedSetIterable iter X.env x = pure x := by intro _; rfl) :
    ZS X (.Assign [.Name y py] (.ListComp elt [⟨tg, iter, ifs, 0⟩] scope pos) spos) (wsSet i (wLc wi p wt we (own.map (·.2)))) :=
  ⟨fun B E tk => ps_imp (ps_setLc hc hN hy hyl hsw (hi.run B E tk) ok (fun s H C cl fp => (hg s H C cl fp).run)
    (fun s H C cl fp => ⟨fun pins s' σ H' Q I ⟨B', q⟩ => ((ht s H C cl fp).run B' E0 takes0).run pins s' σ H' Q I q⟩)
    (fun s H C cl fp => ⟨fun pins s' σ H' Q I ⟨B', q⟩ => ((he s H C cl fp).run B' E0 takes0).run pins s' σ H' Q I q⟩) hs) fun D' σ H ⟨μ, env, h, D, R, q, d⟩ =>
    lc_core (elt := elt) (ifs := ifs) (scope := scope) hi hsl σ H _ ⟨μ, env, h, _, R, q, fun z h1 μ1 H1 v p1 e1 R1 r1 => d.nx _ _ _ _ _ ((R.step e1 R1).put r1 i) p1⟩⟩
end
end ZL

namespace ZL
open PySem PySem.Spec PyProof.Rows L2

/-! ### defs -/
/-- what a def with the body ws does, m names in all -/
def wfOf (m : Nat) (ws : WS) : WF := fun zs h P EX => ws { nx := fun _ h1 => P .non h1, rt := P } (zs.map some ++ List.replicate (m - zs.length) none) h (fun x _ h1 => EX x h1)
theorem rel_start {K : PySem.W.Frag} {mg : Str → Option Value} {μ : List Addr} {H : Hp} {h : ZH} {zs : List Z} {vs : List V} {N : List Str} (R : RelH K mg μ H h) (r : RepVs K μ H zs vs) : Rel K mg (μ, H) μ (zs.map some ++ List.replicate (N.length - zs.length) none) h (L2.start N vs) H := by
  have hl := r.length
  refine ⟨Ext.refl _ _, R, by unfold L2.start; simp [hl], fun i z q => ?_⟩
  unfold L2.start
  by_cases hi : i < zs.length
  · rw [List.getElem?_append_left (by simpa using hi), List.getElem?_map] at q
    cases e : zs[i]? with
    | none => rw [e] at q; cases q
    | some y =>
      rw [e] at q
      cases q
      obtain ⟨v, e1, e2⟩ := r.get e
      refine ⟨v, ?_, e2⟩
      rw [List.getElem?_append_left (by simp; omega), List.getElem?_map, e1]
      rfl
  · rw [List.getElem?_append_right (by simpa using hi)] at q
    have := List.mem_of_getElem? q
    have := List.eq_of_mem_replicate this
    cases this
/-- the context of a def's body -/
abbrev cxZ (CX : CXT) (P : Program) (w : World) (K : PySem.W.Frag) (mg : Str → Option Value) (base : Heap) (N : List Str) (qual : Str) (scope : Scope) (f : Addr) (cdv : Value) (A : Around) (outer : List PySem.Env) (s : Shared) (H : Hp) (E : XK) : Cx := cxOf CX P w K mg base N qual scope f cdv A outer s H E
section
variable {P : Program} {w : World} {K : PySem.W.Frag} {mg : Str → Option Value} {base : Heap} {x qual : Str} {params : Arguments} {body : List Stmt} {scope : Scope} {f : Addr} {fd : FuncData}
/-- in every context of such a body -/
abbrev InDef (CX : CXT) (P : Program) (w : World) (K : PySem.W.Frag) (mg : Str → Option Value) (base : Heap) (N : List Str) (qual : Str) (scope : Scope) (f : Addr) (k : Nat) (C : Cx → Prop) : Prop :=
  ∀ (cdv : Value) (A : Around) (outer : List PySem.Env) (s : Shared) (H : Hp) (E : XK), RoomG k (A.deeper (envOfC qual scope s.heap.objs.size f cdv)) → C (cxZ CX P w K mg base N qual scope f cdv A outer s H E)
theorem fng_of {CX : CXT} {N ps : List Str} {k : Nat} {sp : Sp} (F : FunD K x qual params body scope [] [] f fd) (S : FnScope N ps scope) (len : ∀ vs H Q E, sp vs H Q E → vs.length = ps.length)
    (hb : ∀ (cdv : Value) (A : Around) (outer : List PySem.Env) (s : Shared) (H : Hp) (vs : List V) (Q : VK) (E : XK), RoomG k (A.deeper (envOfC qual scope s.heap.objs.size f cdv)) → sp vs H Q E →
      ∃ t, PSs (cxOf CX P w K mg base N qual scope f cdv A outer s H E) body t ∧ t { nx := fun _ H' => Q .non H', rt := Q } (L2.start N vs) H) : FnG P w K mg base CX (k + 1) f fd ps sp := by
  obtain ⟨_, _, _, _, _, _, _, cdv, _, _, rfl, lk, hcd, _, _⟩ := F.ex
  refine ⟨len, fun A outer s H args us vs Q E hr e0 bd r hsp => ?_⟩
  have old : ∀ b o, base.get? b = some o → s.heap.get? b = some o := fun b o e => (e0.bs b o e).1
  have kinds : ∀ y ∈ ps.zip us, scope.names.lookup y.1 = some .local ∨ (scope.names.lookup y.1 = some .cell ∧ ((cellsFrom (s.heap.objs.size + 1) scope.names []).lookup y.1).isSome = true) := by
    rintro ⟨n, v⟩ hy
    exact (S.par n (List.of_mem_zip hy).1).elim .inl fun q => .inr ⟨q, PySem.W.cellsFrom_some _ _ _ (.inl q)⟩
  refine codeAny_call_function hr.r.depth (e0.mod.kin.keeps old _ _ lk) rfl S.co S.gen rfl (PySem.W.codeRec_of (e0.mod.kin.keeps old) hcd) (bd _ _ _ _ ?_)
  refine wpAny_newFunctionEnv_cells S.kind kinds fun env he s1 y => ?_
  subst he
  refine ⟨(e0.mod.nolimit.keeps old).keeps y.toInCall.keep, codeAny_func ?_⟩
  obtain ⟨t, ht, hq⟩ := hb cdv A outer s H vs Q E (hr.deeper _) hsp
  have I : Inv (cxOf CX P w K mg base N qual scope f cdv A outer s H E) [] (L2.start N vs) H s1 := inv_start S hr.r.hd e0 (len _ _ _ _ hsp) r y
  refine wpAny_mono (ht.run [] s1 (L2.start N vs) H _ I hq) (fun fl s' hs => ?_) fun e s' z => z
  have fin : ∀ {σ' : L2.St} {H' : Hp} {v : V} {u : Value}, Inv (cxOf CX P w K mg base N qual scope f cdv A outer s H E) [] σ' H' s' → RelV v u → Q v H' → CE outer P w H s Q u s' := fun {σ' H' v u} J rv q => ⟨v, H', J.os, J.bare, J.base, J.hok, rv, q⟩
  cases fl with
  | ret u => obtain ⟨v, σ', H', J, rv, q⟩ := hs; exact fin J rv q
  | next => obtain ⟨σ', H', J, q⟩ := hs; exact fin (v := V.non) (u := Value.none) J rfl q
  | brk => obtain ⟨_, _, _, q⟩ := hs; exact q.elim
  | cont => obtain ⟨_, _, _, q⟩ := hs; exact q.elim
theorem fn_ok {N ps : List Str} {k n : Nat} {ws : WS} (F : FunD K x qual params body scope [] [] f fd) (S : FnScope N ps scope) (hn : ps.length = n) (hbody : InDef (L2N.CX P w) P w K mg base N qual scope f k fun X => ZSs X body ws) : FnG P w K mg base (L2N.CX P w) (k + 1) f fd ps (spZ K mg n (wfOf N.length ws)) := by
  refine fng_of F S (fun vs H Q E h => by rw [h.1, hn]) fun cdv A outer s H vs Q E hr hsp => ?_
  obtain ⟨hl, μ, zs, h, P', EX, R, r, q, fl, fx⟩ := hsp
  have tk : ZTk (cxZ (L2N.CX P w) P w K mg base N qual scope f cdv A outer s H E) (μ, H) (fun x _ h1 => EX x h1) :=
    L2N.Takes.imp (L2N.takes_of rfl rfl rfl rfl) fun c d σ H' ⟨z, μ', env, h', RR, rx, nx, e⟩ => fx z h' μ' H' c d e RR.ext RR.heap rx nx
  refine ⟨_, (hbody cdv A outer s H E hr).run (μ, H) _ tk, ?_⟩
  refine ⟨μ, _, h, _, rel_start (N := N) R r, q, ⟨fun μ' env h' σ H' RR p => fl _ _ _ _ _ p RR.ext RR.heap rep_non, fun _ _ _ _ _ _ p => p.elim, fun _ _ _ _ _ _ p => p.elim, fun μ' z h' v H' ex RR rr p => fl _ _ _ _ _ p ex RR rr⟩⟩
theorem fnz_of {N ps : List Str} {k n : Nat} {ws : WS} (F : FunD K x qual params body scope [] [] f fd) (S : FnScope N ps scope) (hb : Binds K fd ps []) (hn : ps.length = n) (hbody : InDef (L2N.CX P w) P w K mg base N qual scope f k fun X => ZSs X body ws) : FnZ P w K mg base (k + 1) n (wfOf N.length ws) f :=
  ⟨fd, ps, hn, fn_ok F S hn hbody, F.kp, hb⟩
end

/-! ### the law -/
/-- the script is handed in, True comes out -/
def LawOk (wf : WF) : Prop := ∀ ns : List Int, ns.length ≤ 63 → wf [.scr ns] [] (fun z _ => z = .bl true) (fun _ _ => False)
/-- a def that lets nothing out -/
def spZ0 (K : PySem.W.Frag) (mg : Str → Option Value) (n : Nat) (wf : WF) : Sp := fun vs H Q _ => vs.length = n ∧ ∃ μ zs h P, RelH K mg μ H h ∧ RepVs K μ H zs vs ∧ wf zs h P (fun _ _ => False) ∧ Fol K mg μ H P Q
theorem fn_ok0 {P : Program} {w : World} {K : PySem.W.Frag} {mg : Str → Option Value} {base : Heap} {x qual : Str} {params : Arguments} {body : List Stmt} {scope : Scope} {f : Addr} {fd : FuncData} {N ps : List Str} {k n : Nat} {ws : WS} (F : FunD K x qual params body scope [] [] f fd) (S : FnScope N ps scope) (hn : ps.length = n)
    (hbody : InDef CX0 P w K mg base N qual scope f k fun X => ZSs X body ws) : FnG P w K mg base CX0 (k + 1) f fd ps (spZ0 K mg n (wfOf N.length ws)) := by
  refine fng_of F S (fun vs H Q E h => by rw [h.1, hn]) fun cdv A outer s H vs Q E hr hsp => ?_
  obtain ⟨hl, μ, zs, h, P', R, r, q, fl⟩ := hsp
  refine ⟨_, (hbody cdv A outer s H E hr).run (μ, H) E0 takes0, ?_⟩
  refine ⟨μ, _, h, _, rel_start (N := N) R r, q, ⟨fun μ' env h' σ H' RR p => fl _ _ _ _ _ p RR.ext RR.heap rep_non, fun _ _ _ _ _ _ p => p.elim, fun _ _ _ _ _ _ p => p.elim, fun μ' z h' v H' ex RR rr p => fl _ _ _ _ _ p ex RR rr⟩⟩
theorem law_sp {K : PySem.W.Frag} {mg : Str → Option Value} {wf : WF} (L : LawOk wf) (H : Hp) (a : Addr) (ns : List Int) (hl : ns.length ≤ 63) (hO : Only H) (hS : SqL K H a (ns.map V.int)) : spZ0 K mg 1 wf [.ref a] H (fun v _ => v = .bl true) (fun _ _ _ => False) := by
  refine ⟨rfl, [], [.scr ns], [], _, ⟨rfl, List.nodup_nil, fun n a o e _ => by simp at e⟩, .cons ?_ .nil, L ns hl, fun z h' μ' H' v e _ _ r => ?_⟩
  · unfold RepV
    refine ⟨a, rfl, ?_⟩
    rcases hS with (h | ⟨o, h⟩) | h
    · rcases hO a with z | ⟨o, xs, z⟩
      · rw [z] at h; cases h
      · rw [z] at h; cases h
    · exact .inl ⟨o, h⟩
    · exact .inr h
  · subst e
    exact of_bl r
/-! ### the law's call, from the caller of claims -/
theorem seq_at {ns : List Int} {vs : List Value} {a : Addr} {s : Shared} {P : Program} {w : World} (ha : s.heap.get? a = some { cls := .type "list", data := .seq vs.toArray }) (rv : Vals (ns.map V.int) vs) (hl : ns.length ≤ sizeLine) :
    HOk P w (fun b => if b = a then some (.frz { cls := .type "list", data := .seq vs.toArray } (.lst (ns.map V.int))) else none) s.heap := fun b u z => by
  by_cases hb : b = a
  · subst hb
    have z' := (if_pos rfl).symm.trans z
    cases z'
    exact ⟨ha, by rw [List.length_map]; exact hl, vs, _, rv, ha⟩
  · have z' := (if_neg hb).symm.trans z
    cases z'
section
variable {P : Program} {w : World} {K : PySem.W.Frag} {mg mb : Str → Option Value} {k : Nat} {fa a : Addr} {fd : FuncData} {x : Str} {sp : Sp} {s₁ : Shared} {vs : List Value} {ns : List Int}
/-- over a heap in which at most the script is tracked -/
theorem law_over (KX : K.In s₁.heap) (hns : s₁.heap.Ns mainGlobals mg) (hb : s₁.heap.Ns builtinsNs mb) (hbb : ∀ x : Str, x ≠ "__name__" → mb x = bootBuiltins x) (hlim : s₁.heap.NoLimit) (hg : s₁.gens = #[])
    (ha : s₁.heap.get? a = some { cls := .type "list", data := .seq vs.toArray }) (hr : RoomG k callerA) (F : ∀ base : Heap, K.In base → base.Ns mainGlobals mg → FnG P w K mg base CX0 k fa fd [x] sp) (hbind : ∀ (s : Shared) (u : Value), BindsTo s fd ⟨[u], []⟩ [(x, u)])
    (H : Hp) (hO : Only H) (hsp : sp [.ref a] H (fun v _ => v = .bl true) fun _ _ _ => False) (hok : HOk P w H s₁.heap) (hA : ∀ b, H b ≠ none → b = a) (hK : H a ≠ none → K.lookup a = none) :
    codeAny (model P w) callerA (.call (.ref fa) ⟨[.ref a], []⟩) (fun r s' => r = .ok (.ret (.bool true)) ∧ OldK s₁.heap s'.heap ∧ s'.os = s₁.os ∧ AllBare s'.gens) s₁ := by
  have hid : ∀ {b : Addr} {o : Obj}, s₁.heap.get? b = some o → (∀ its n, o.data ≠ .seq its n) ∨ H b = none → (hidT s₁.heap H).get? b = some o := fun {b o} e n => hidT_get e (by
    rcases n with n | n
    · cases q : H b with
      | none => rfl
      | some u =>
        have e' : b = a := hA b (by rw [q]; simp)
        subst e'
        rw [ha] at e
        cases e
        exact absurd rfl (n _ _)
    · exact n)
  have nsH : ∀ {b : Addr} {m : Str → Option Value}, s₁.heap.Ns b m → (hidT s₁.heap H).Ns b m := fun {b m} ⟨o, es, ep, e, d, r⟩ => ⟨o, es, ep, hid e (.inl fun its n z => by rw [d] at z; cases z), d, r⟩
  have inH : K.In (hidT s₁.heap H) := fun b o e => hid (KX b o e) (by
    cases q : H b with
    | none => exact .inr rfl
    | some u =>
      have e' : b = a := hA b (by rw [q]; simp)
      subst e'
      rw [hK (by rw [q]; simp)] at e
      cases e)
  obtain ⟨mc, l1, l2⟩ := hlim
  have e0 : Env0 P w K mg (hidT s₁.heap H) callerA [] s₁ H := ⟨rfl, ⟨inH, nsH hns, ⟨mb, nsH hb, hbb⟩, ⟨mc, nsH l1, l2⟩⟩, fun b o e => of_hidT e, Nat.le_of_eq (hidT_size _ _), trivial, fun b z => absurd z List.not_mem_nil, hok, .of_eq hg⟩
  refine codeAny_mono ((F _ inH (nsH hns)).run callerA [] s₁ H ⟨[.ref a], []⟩ [.ref a] [.ref a] _ _ hr e0 (hbind s₁ (.ref a)) (.cons rfl .nil) hsp) fun r s' h => ?_
  match r, h with
  | .ok (.ret u), ⟨v, H', os, bare, un, hok', r', q⟩ =>
    have q : v = .bl true := q
    subst q
    obtain rfl : u = Value.bool true := r'
    refine ⟨rfl, OldK.of_keep fun b o e => ?_, os, bare⟩
    cases q : H b with
    | none => exact un.keep b o e q (fun z => absurd z List.not_mem_nil) (by simp)
    | some u =>
      rcases hO b with z | ⟨ob, xs, z⟩
      · rw [q] at z; cases z
      · obtain ⟨e1, _⟩ := hok b _ z
        obtain ⟨e2, _⟩ := hok' b _ (un.frzs b ob _ z)
        rw [e] at e1
        cases e1
        exact e2
theorem walkG {l : PySem.W.OpenLaw} {q : Program} {loose : List Str} {XP : (Str → Option Value) → Heap → Prop} {YP : World → Heap → Prop} {d : DefRec} (hn : l.most = some 63) (hdf : d.params.defaults = []) (hr : Room k callerA)
    (F : ∀ (w : World) (mg : Str → Option Value) (fa : Addr) (h : Heap), YP w h → h.Ns mainGlobals mg → mg d.name = some (.ref fa) → ∃ (K : PySem.W.Frag) (fd : FuncData) (sp : Sp), K.In h ∧ (∀ (s : Shared) (u : Value), BindsTo s fd ⟨[u], []⟩ [(x, u)]) ∧
        (∀ (H : Hp) (a : Addr) (ns : List Int), ns.length ≤ 63 → Only H → SqL K H a (ns.map V.int) → sp [.ref a] H (fun v _ => v = .bl true) fun _ _ _ => False) ∧ ∀ base : Heap, K.In base → base.Ns mainGlobals mg → FnG l.prog w K mg base CX0 k fa fd [x] sp) :
    PySem.W.WalkO q loose XP YP l.row.toRowW d [] (fun f vs => PySem.call f vs) := by
  refine Att.attach_call hn hdf fun w s₀ s₁ mg mb fa o pm cd doc a vs ns G Y ho hd hcd hmg hobj hints hlen hg => ?_
  obtain ⟨K, fd, sp, KX, hb, hsp, hF⟩ := F w mg fa _ Y G.T.g hmg
  have rv := vals_ints hints
  have hl : ns.length ≤ sizeLine := Nat.le_trans hlen (by decide)
  have go := law_over (sp := sp) (a := a) (vs := vs) KX G.T.g G.T.b G.T.builtins G.T.nolimit hg hobj ⟨hr, rfl⟩ hF hb
  cases hk : K.lookup a with
  | some o =>
    have e := KX a o hk
    rw [hobj] at e
    cases e
    exact go (fun _ => none) (fun _ => .inl rfl) (hsp _ a ns hlen (fun _ => .inl rfl) (.inr ⟨_, vs.toArray, _, hk, rfl, rfl, rfl, by rw [List.size_toArray, hints.length]; exact hl, by simpa using rv⟩)) (fun b u z => by have z' : (none : Option HO) = some u := z; cases z') (fun b z => absurd rfl z) fun z => absurd rfl z
  | none =>
    have hO : Only (fun b => if b = a then some (.frz { cls := .type "list", data := .seq vs.toArray } (.lst (ns.map V.int))) else none) := fun b => by
      by_cases hb : b = a
      · exact .inr ⟨_, _, if_pos hb⟩
      · exact .inl (if_neg hb)
    exact go _ hO (hsp _ a ns hlen hO (.inl (.inr ⟨_, if_pos rfl⟩))) (seq_at hobj rv hl) (fun b z => Classical.byContradiction fun n => z (if_neg n)) fun _ => hk
end
theorem wf_mono {wf wf' : WF} {P : Program} {w : World} {K : PySem.W.Frag} {mg : Str → Option Value} {base : Heap} {k n : Nat} {f : Addr} {fd : FuncData} {ps : List Str} (h : ∀ zs h P E, wf' zs h P E → wf zs h P E) (F : FnG P w K mg base (L2N.CX P w) k f fd ps (spZ K mg n wf)) : FnG P w K mg base (L2N.CX P w) k f fd ps (spZ K mg n wf') :=
  F.imp fun vs H Q E ⟨l, μ, zs, hh, P, EX, R, rv, q, f⟩ => ⟨l, μ, zs, hh, P, EX, R, rv, h _ _ _ _ q, f⟩
end ZL

namespace L2
open PySem PySem.Spec PyProof.Rows
/-! ### ValueError.__init__ through a bound wrapper -/
section
variable {prog : Program} {w : World} {A : Around} {E : Value → Shared → Prop} {h : Heap} {g : Array GenState} {d : Drawn} {t : Nat} {os : OsState}
variable {nm q : Str} {C N : Addr} {bs bm : List Value} {hdct : Bool} {sn : List Str} {sub : List Value} {ab : Bool} {col : Option Bool} {dd : Option Addr} {k0 k1 k2 k3 k5 : Option Value}
theorem wrap_call {u e t0 : Addr} {rest : List Value} {Q : Value → Shared → Prop}
    (hC : h.get? C = some (excClassObj nm q C N bs bm hdct sn sub ab col dd k0 k1 k2 k3 k5 "ValueError.__new__")) (he : h.get? e = some (PySem.HandSPX.excO C t0)) (hu : h.get? u = some (PySem.W.kxs_mw "ValueError.__init__" e)) (hz : rest.length ≤ sizeLine)
    (fin : ∀ h' t1, (∀ b o, b ≠ e → h.get? b = some o → h'.get? b = some o) → h'.get? e = some (PySem.HandSPX.excO C t1) → Q .none ⟨h', g, d, t, os⟩) :
    wpAny (model prog w) A (call (.ref u) rest) Q E ⟨h, g, d, t, os⟩ := by
  have wr : (Value.type "method-wrapper" == Value.type "method" || Value.type "method-wrapper" == Value.type "builtin_function_or_method" || Value.type "method-wrapper" == Value.type "method-wrapper") = true := by decide
  refine wpAny_call (codeAny_of_tree ?_)
  show wpAny _ A.in1 (callAny (.ref u) ⟨rest, []⟩) _ _ _
  unfold callAny
  refine wpAny_bind (wpAny_load hu ?_)
  simp only [PySem.W.kxs_mw, wr, if_true]
  refine PySem.W.KFB.if_so rfl ?_
  refine wpAny_bind (PySem.W.check_bound_init F.excBase_ValueError.toExcCallFacts hC he rfl (wpAny_bind (wpAny_pure (wpAny_pure ⟨plainId_quiet F.excBase_ValueError.init.plain _, codeAny_builtin F.excBase_ValueError.initEntry ?_⟩))))
  exact PySem.W.exc_init_tree (cls := .ref C) (t0 := t0) (dv := none) (c2 := .none) (c3 := .none) (b4 := .bool false) he hz fun h' k ex _ => fin h' _ k ex
end
/-! ### a def that closes over __class__, its first statement super().__init__(..) -/
/-- the context of its body -/
def cxS (CX : CXT) (P : Program) (w : World) (K : PySem.W.Frag) (mg : Str → Option Value) (base : Heap) (N : List Str) (qual : Str) (scope : Scope) (f : Addr) (cd : Value) (cc : Addr) (A : Around) (outer : List Env) (s : Shared) (H : Hp) (E : XK) : Cx :=
  { prog := P, w := w, K := K, mg := mg, base := base, A := A.deeper (PySem.W.ksEnv qual scope s.heap.objs.size f cd cc), N := N, s_0 := s, H_0 := H, env := PySem.W.ksEnv qual scope s.heap.objs.size f cd cc, outer := outer,
    stack := PySem.W.ksEnv qual scope s.heap.objs.size f cd cc :: outer, ex := [], calm := true, fn := fun y => decide (y ≠ "__class__"), pn := [],
    xe := fun e s' => wpAny (model P w) (A.deeper (PySem.W.ksEnv qual scope s.heap.objs.size f cd cc)) (leaving (PySem.W.ksEnv qual scope s.heap.objs.size f cd cc) e) (fun _ s2 => CX outer H s E e s2) (fun e2 s2 => CX outer H s E e2 s2) s' }
/-- what the scope of such a def says -/
structure SupS (sc : Scope) (n1 n2 : Str) : Prop where
  kind : sc.kind = .function
  co : sc.isCoroutine = false
  gen : sc.isGenerator = false
  v1 : sc.names.lookup n1 = some .local
  v2 : sc.names.lookup n2 = some .local
  su : sc.names.lookup ("super" : Str) = some .globalImplicit
  cl : sc.names.lookup ("__class__" : Str) = some .free
  nc : ∀ x ∈ sc.names, x.2 ≠ .cell
  fr : ∀ y ∈ sc.names, y.2 = .free → y.1 = "__class__"
  ne : n1 ≠ n2
/-- what the written part says of the class and its base -/
structure SupC (K : PySem.W.Frag) (C D : Addr) : Prop where
  ox : OexC K C
  cd : ∃ cd, PySem.W.clsIn K C = some cd
  sub : PySem.W.mroIn K C (.ref D) = some true
  at_ : PySem.W.ks_superIn K C D "__init__" = some (some (.builtin "ValueError.__init__"))
  ve : PySem.W.subIn K (.ref C) (.type "ValueError") = some true
  st : PySem.W.nsIn K cStatics "thirdparty.any" = some none
section
variable {CX : CXT} {P : Program} {w : World} {K : PySem.W.Frag} {mg : Str → Option Value} {base : Heap} {qual : Str} {scope : Scope} {f cc D : Addr} {cd : Value} {A : Around} {outer : List Env} {s : Shared} {H : Hp} {E : XK} {n1 n2 : Str}
theorem inv_sup {h1 : Heap} {tk : Nat} {a : Addr} {v : V} {u1 u2 : Value} (S : SupS scope n1 n2) (hd : A.handled = none) (e0 : Env0 P w K mg base A outer s H) {cl : Value} {cld : Option Addr} {csl : Array (Option Value)} (hc : K.lookup cc = some ⟨cl, cld, .cell (some (.ref D)), csl⟩)
    (r1 : RelV (.ref a) u1) (r2 : RelV v u2) (hn : h1.Ns s.heap.objs.size (fun x => ([n1, n2].zip [u1, u2]).reverse.lookup x)) (hk : ∀ b o, s.heap.get? b = some o → h1.get? b = some o) :
    Inv (cxS CX P w K mg base [n1, n2] qual scope f cd cc A outer s H E) [] [some (.ref a), some v] H { s with heap := h1, toks := tk } := by
  have KX : K.In base := e0.mod.kin
  have hcb := KX _ _ hc
  obtain ⟨hcs, hcH⟩ := e0.bs _ _ hcb
  have noA : ∀ b : Addr, b ∉ (cxS CX P w K mg base [n1, n2] qual scope f cd cc A outer s H E).ex := fun b z => absurd (show b ∈ ([] : List Addr) from z) (by simp)
  have one : ∀ x c, (cxS CX P w K mg base [n1, n2] qual scope f cd cc A outer s H E).env.cells.lookup x = some c → x = "__class__" ∧ c = cc := fun x c h => by
    have h : ([("__class__", cc)] : List (Str × Addr)).lookup x = some c := h
    rw [List.lookup_cons] at h
    cases q : (x == ("__class__" : Str)) with
    | true => rw [q] at h; exact ⟨by simpa using q, (Option.some.inj h).symm⟩
    | false => rw [q] at h; cases h
  refine ⟨⟨e0.mod, S.kind, rfl, rfl, Nat.le_refl _, fun x y c h1 h2 => ?_, fun y hy => ?_, fun y c hf h => ?_, fun _ => hd, Around.frames_deeper e0.frames, .inr ⟨rfl, rfl⟩, fun b z => absurd z (noA b), e0.bs, e0.bsz, fun b _ _ => noA b, fun b z => absurd z (noA b), e0.funs, e0.frf⟩,
    rfl, e0.bare, Un.kept hk, ⟨_, hn, fun i y z h1 h2 h3 => ?_⟩, fun y c h => ?_, e0.hok.fresh (Nat.le_refl _), fun y c h => ?_, fun p hp => absurd (show p ∈ ([] : List (Addr × Obj)) from hp) (by simp), e0.hok.kept hk, rfl⟩
  · rw [(one _ _ h1).1, (one _ _ h2).1]
  · have hy : scope.names.lookup y = some .cell ∨ scope.names.lookup y = some .free := hy
    rcases hy with hy | hy
    · exact absurd rfl (S.nc _ (PySem.mem_of_lookup hy))
    · have : y = "__class__" := S.fr _ (PySem.mem_of_lookup hy) rfl
      subst this
      exact ⟨cc, rfl⟩
  · have := (one _ _ h).1
    subst this
    cases hf
  · match i, h1, h2 with
    | 0, h1, h2 =>
      cases h1; cases h2
      refine ⟨u1, r1, .inl ⟨S.v1, ?_⟩⟩
      show ([(n1, u1), (n2, u2)] : List (Str × Value)).reverse.lookup n1 = some u1
      have q : (n1 == n2) = false := by simpa using S.ne
      simp [List.lookup, q]
    | 1, h1, h2 =>
      cases h1; cases h2
      refine ⟨u2, r2, .inl ⟨S.v2, ?_⟩⟩
      show ([(n1, u1), (n2, u2)] : List (Str × Value)).reverse.lookup n2 = some u2
      simp [List.lookup]
    | i + 2, h1, h2 => cases h1
  · obtain ⟨_, rfl⟩ := one _ _ h
    exact ⟨_, _, hk _ _ hcs, rfl⟩
  · obtain ⟨_, rfl⟩ := one _ _ h
    exact hcH
variable {k : Nat} {name : Str} {params : Arguments} {dV kV doc pm ct oc : Value} {an od : Option Addr} {osl : Array (Option Value)} {cda : Addr} {st2 : Stmt} {cst : Const} {ck : Nat} {pc : Pos} {p0 p1 p2 p3 p4 : Pos} {ar : Arg} {ccl : Value} {cdd : Option Addr} {vs0 : Array Value} {ccs : Array (Option Value)} {file : Str} {tf : Tok}
  {cl : Value} {cld : Option Addr} {csl : Array (Option Value)} {sp : Sp}
theorem fn_sup (lk : K.lookup f = some ⟨oc, od, .func (PySem.W.fnX name qual params [.Expr (.Call (.Attribute (.Call (.Name "super" p0) [] [] p1) "__init__" p2) [.Constant cst ck pc] [] p3) p4, st2] scope [("__class__", cc)] dV kV doc pm an (.ref cda) ct), osl⟩)
    (hcd : PySem.W.codeIn K (.ref cda) qual = true) (hcode : K.lookup cda = some ⟨ccl, cdd, .fields vs0, ccs⟩) (hvs : vs0[2]? = some (.str file tf)) (hfile : ((P.main.file : Str) == file) = true) (htop : (P.main.scope.names.lookup ("super" : Str)).isSome = false)
    (hcell : K.lookup cc = some ⟨cl, cld, .cell (some (.ref D)), csl⟩) (hD : ∃ cdD, PySem.W.clsIn K D = some cdD) (hp : (params.posonlyargs ++ params.args).head? = some ar) (har : ar.arg = n1) (S : SupS scope n1 n2) (hsuper : mg "super" = none)
    (pl : Addr → Sem Bool) (hev : ∀ L : Addr, eval (.Call (.Attribute (.Call (.Name "super" p0) [] [] p1) "__init__" p2) [.Constant cst ck pc] [] p3) (PySem.W.ksEnv qual scope L f (.ref cda) cc) = (do
      let ov ← attributeBase (.Call (.Name "super" p0) [] [] p1) "__init__" (PySem.W.ksEnv qual scope L f (.ref cda) cc) (eval (.Call (.Name "super" p0) [] [] p1) (PySem.W.ksEnv qual scope L f (.ref cda) cc))
      standAt p2.atName
      let (g, first) ← holding [ov] (getMethod ov "__init__" (pl L))
      callWith p3 g first (backTo p3 (starEach [.Constant cst ck pc] (PySem.W.ksEnv qual scope L f (.ref cda) cc))) []))
    (len : ∀ vs H Q E, sp vs H Q E → vs.length = 2)
    (hbody : ∀ (A : Around) (outer : List Env) (s : Shared) (H : Hp) (vs : List V) (Q : VK) (E : XK), Room k (A.deeper (PySem.W.ksEnv qual scope s.heap.objs.size f (.ref cda) cc)) → sp vs H Q E →
      ∃ (a C : Addr) (v : V), vs = [.ref a, v] ∧ SupC K C D ∧ H a = some (exo a C none) ∧ ∃ ta t, PA (cxS CX P w K mg base [n1, n2] qual scope f (.ref cda) cc A outer s H E) [.Constant cst ck pc] ta ∧ PSs (cxS CX P w K mg base [n1, n2] qual scope f (.ref cda) cc A outer s H E) [st2] t ∧
        ta [some (.ref a), some v] H fun ws H1 => ws.length ≤ 1000 ∧ H1 a = some (exo a C none) ∧ t { nx := fun _ H' => Q .non H', rt := Q } [some (.ref a), some v] H1) :
    FnOk P w K mg base CX (k + 1) f (PySem.W.fnX name qual params [.Expr (.Call (.Attribute (.Call (.Name "super" p0) [] [] p1) "__init__" p2) [.Constant cst ck pc] [] p3) p4, st2] scope [("__class__", cc)] dV kV doc pm an (.ref cda) ct) [n1, n2] sp := by
  refine ⟨len, fun A outer s H args us vs Q E hr e0 hb r hsp => ?_⟩
  have KX : K.In s.heap := e0.mod.kin.keeps fun b o e => (e0.bs b o e).1
  have lim : s.heap.NoLimit := e0.mod.nolimit.keeps fun b o e => (e0.bs b o e).1
  obtain ⟨a, C, v, rfl, SC, ea, ta, t, hta, ht, hq⟩ := hbody A outer s H vs Q E (hr.deeper _) hsp
  obtain ⟨u1, u2, rfl, r1, r2⟩ : ∃ u1 u2, us = [u1, u2] ∧ RelV (.ref a) u1 ∧ RelV v u2 := by
    cases r with
    | cons x y => cases y with
      | cons z y => cases y; exact ⟨_, _, rfl, x, z⟩
  obtain rfl : u1 = .ref a := r1
  have hloc : ∀ y ∈ [n1, n2].zip [Value.ref a, u2], scope.names.lookup y.1 = some .local := fun y m => by
    have m : y ∈ [(n1, Value.ref a), (n2, u2)] := m
    simp only [List.mem_cons, List.mem_nil_iff, or_false] at m
    rcases m with rfl | rfl
    · exact S.v1
    · exact S.v2
  refine ks_codeAny_call_defAt (binds := [n1, n2].zip [Value.ref a, u2]) hr.depth (KX _ _ lk) rfl lim (PySem.W.codeRec_of KX hcd) rfl hb S.nc hloc (fun h0 hns hk => ?_) S.co S.gen S.kind
  have I : Inv (cxS CX P w K mg base [n1, n2] qual scope f (.ref cda) cc A outer s H E) [] [some (.ref a), some v] H { s with heap := h0, toks := s.toks + ([n1, n2].zip [Value.ref a, u2]).length } := inv_sup S hr.hd e0 hcell rfl r2 hns hk
  have fin : ∀ {σ' : St} {H' : Hp} {v : V} {u : Value} {s' : Shared}, Inv (cxS CX P w K mg base [n1, n2] qual scope f (.ref cda) cc A outer s H E) [] σ' H' s' → RelV v u → Q v H' → CE outer P w H s Q u s' :=
    fun {σ' H' v u s'} J rv q => ⟨v, H', J.os, J.bare, J.base, J.hok, rv, q⟩
  generalize s.toks + ([n1, n2].zip [Value.ref a, u2]).length = tk at *
  show PySem.wpAt (model P w) (A.deeper (PySem.W.ksEnv qual scope s.heap.objs.size f (.ref cda) cc)) (.func _ (PySem.W.ksEnv qual scope s.heap.objs.size f (.ref cda) cc)) (execs _ (PySem.W.ksEnv qual scope s.heap.objs.size f (.ref cda) cc)) _
    (fun e s' => wpAny (model P w) (A.deeper (PySem.W.ksEnv qual scope s.heap.objs.size f (.ref cda) cc)) (leaving (PySem.W.ksEnv qual scope s.heap.objs.size f (.ref cda) cc) e) (fun _ s2 => CX outer H s E e s2) (fun e2 s2 => CX outer H s E e2 s2) s') _
  obtain ⟨cd0, hcd0⟩ := SC.cd
  obtain ⟨cdD, hcdD⟩ := hD
  have XI : K.In h0 := I.kIn
  obtain ⟨t1, ho⟩ := exo_at I.hok ea
  have II : PySem.W.InstAt h0 a _ C none := ⟨ho, rfl, rfl, trivial⟩
  have naC : a ≠ C := PySem.W.ks_ne XI II hcd0
  obtain ⟨oD, hD1, hD2⟩ : ∃ oD, h0.get? D = some oD ∧ oD.data = .cls cdD := by
    unfold PySem.W.clsIn at hcdD
    split at hcdD
    · rename_i c d cd' sl ho
      cases hcdD
      exact ⟨_, XI _ _ ho, rfl⟩
    · cases hcdD
  refine ks_wpAt_execs_cons ?_
  refine ks_wpAt_Expr_any ?_ (by unfold interactive; show (scope.kind == ScopeKind.module && _) = false; rw [S.kind]; rfl)
  refine ks_wpAt_MethodCall (pl := pl s.heap.objs.size) ?_ (hev _)
  refine ks_wpAt_super_base (f := f) (cc := cda) (ar := ar) (file := file) (tf := tf) S.su S.cl (by decide) rfl (XI _ _ lk) rfl hp rfl (XI _ _ hcode) rfl hvs hfile htop ?_
  obtain ⟨mb, hb1, hb2⟩ := e0.mod.blt
  have bk : ∀ b o, base.get? b = some o → h0.get? b = some o := I.bk
  refine PySem.W.ks_loadName_global S.kind S.su (Calls.loadGlobal_builtin (e0.mod.glob.keeps bk) hsuper (hb1.keeps bk) ((hb2 _ (by decide)).trans (show bootBuiltins "super" = some (.type "super") by first | rfl | kernel_rfl)) ⟨rfl, ?_⟩)
  refine wpAny_loadName_free S.kind S.cl rfl ⟨_, XI _ _ hcell, rfl⟩ ?_
  rw [har]
  refine wpAny_loadName_local S.kind S.v1 hns (v := .ref a) ?_ ?_
  · show ([(n1, Value.ref a), (n2, u2)] : List (Str × Value)).reverse.lookup n1 = some (.ref a)
    have q : (n1 == n2) = false := by simpa using S.ne
    simp [List.lookup, q]
  refine ks_wpAny_isType_cls hD1 hD2 ⟨rfl, ?_⟩
  refine ks_wpAny_call_super hD1 hD2 ho rfl (fun c e => by cases e) (PySem.W.looks_mroIn XI SC.sub) (fun h1 eso k1 => ?_)
  have XI1 : K.In h1 := XI.keeps k1
  have II1 : PySem.W.InstAt h1 a _ C none := ⟨k1 _ _ ho, rfl, rfl, trivial⟩
  have ali : PySem.W.alongIn K "__init__" ((cd0.mro.dropWhile (· != .ref D)).drop 1) = some (some (.builtin "ValueError.__init__")) := by
    have := SC.at_
    unfold PySem.W.ks_superIn at this
    rw [hcd0] at this
    exact this
  refine PySem.W.kxs_getMethod PySem.W.kxs_ValueError eso (PySem.W.looks_opaque XI1 SC.st) (l₀ := cd0.mro) (fun A Q E s k q => wpAny_bind ((PySem.W.looks_clsIn XI1 hcd0) A _ E s k (wpAny_pure q))) rfl XI1 ali (II1.type.andThen (PySem.W.looks_subIn XI1 SC.ve)) naC (by decide) ?_
  have J0 : Inv (cxS CX P w K mg base [n1, n2] qual scope f (.ref cda) cc A outer s H E) [] [some (.ref a), some v] H ⟨h1.push (PySem.W.kxs_mw "ValueError.__init__" a), s.gens, s.drawn, tk + 1, s.os⟩ := I.kept fun b o e => Heap.get?_push_of_some _ (k1 b o e)
  have gu : (h1.push (PySem.W.kxs_mw "ValueError.__init__" a)).get? h1.objs.size = some (PySem.W.kxs_mw "ValueError.__init__" a) := Heap.get?_push_at rfl rfl
  have lu : h0.objs.size ≤ h1.objs.size := Nat.le_of_lt (Heap.lt_size eso)
  have nu : H h1.objs.size = none := I.hok.fresh lu
  have J1 := J0.pins_of (pins' := [(h1.objs.size, PySem.W.kxs_mw "ValueError.__init__" a)]) fun p hp => by
    obtain rfl := List.mem_singleton.mp hp
    exact ⟨gu, nu, fun z => absurd I.lt (by rw [← z]; exact Nat.not_lt.mpr lu), I.nofs lu, fun v z => by cases z⟩
  refine PySem.W.kxs_callWith (u := h1.objs.size) (i := "ValueError.__init__") (x := a) rfl (PySem.Calls.evalArgs_plain ?_)
  refine thn (hta.run p3 _ _ _ _ _ J1 hq) fun us s1 ⟨ws, H1, I1, r1, hl, ea1, q1⟩ => ?_
  obtain ⟨pu, _, _, _, _⟩ := I1.pin (h1.objs.size, PySem.W.kxs_mw "ValueError.__init__" a) (by simp)
  refine ⟨pu, ?_⟩
  show wpAny _ _ (call (.ref h1.objs.size) us) _ _ _
  obtain ⟨nm, q, N, bs, bm, sn, sub, ab, col, dd, k0, k2, k3, k4, k5, hC, hbm⟩ := SC.ox.cls
  obtain ⟨t2, ho2⟩ := exo_at I1.hok ea1
  have hlz : us.length ≤ sizeLine := by
    rw [← Paired.length r1, sizeLine_eq]
    omega
  obtain ⟨hp2, g2, d2, tk2, os2⟩ := s1
  refine wrap_call (I1.kIn _ _ hC) ho2 pu hlz fun h3 t3 k3 ex => ?_
  have J2 := I1.write (t' := tk2) (x := a) (e := a) (o := exo a C none) (by rw [ea1]; exact True.intro) (.inl rfl) k3 ⟨_, ex⟩ (exo_ok ex)
  have eu : upd H1 a (exo a C none) = H1 := by
    funext b
    by_cases hb : b = a
    · rw [hb, upd_same, ea1]
    · rw [upd_ne hb]
  rw [eu] at J2
  have J3 := J2.pins_of (pins' := []) (fun p hp => absurd hp (by simp))
  refine wpAt_of_wpAny (wpAny_mono (ht.run [] _ _ _ _ J3 q1) (fun fl s' hs => ?_) fun e s' hs => hs)
  cases fl with
  | ret u =>
    obtain ⟨v, σ', H', J, rv, q⟩ := hs
    exact fin J rv q
  | next =>
    obtain ⟨σ', H', J, q⟩ := hs
    exact fin (v := V.non) (u := Value.none) J rfl q
  | brk =>
    obtain ⟨_, _, _, q⟩ := hs
    exact False.elim q
  | cont =>
    obtain ⟨_, _, _, q⟩ := hs
    exact False.elim q
end
end L2

namespace ZL
open PySem PySem.Spec PyProof.Rows L2
/-! ### facts of a class over ValueError whose __init__ says super().__init__(..) -/
structure SupD where
  x : Str
  fld : Str
  name : Str
  qual : Str
  params : Arguments
  body : List Stmt
  scope : Scope
  file : Str
abbrev FnS : Type := Option (Str × Str × Arguments × FuncBody × Scope × Addr × List Str × Addr)
def SupD.at_ (d : SupD) : Str × Option Str := (d.x, some "__init__")
def SupD.want (d : SupD) : FnS := some (d.name, d.qual, d.params, .stmts d.body, d.scope, mainGlobals, [("__class__" : Str)], builtinsNs)
def SupD.seen (K : PySem.W.Frag) (d : SupD) : FnS := match K.lookup (He.fAd K d.at_) with
  | some ⟨_, _, .func fd, _⟩ => some (fd.name, fd.qualname, fd.params, fd.body, fd.scope, fd.globals, fd.closure.map (·.1), fd.builtins)
  | _ => none
def codeFile (K : PySem.W.Frag) (v : Value) (file : Str) : Bool := match v with
  | .ref c => (match K.lookup c with
    | some ⟨_, _, .fields vs, _⟩ => (match (vs[2]? : Option Value) with
      | some (Value.str fl _) => decide (fl = file)
      | _ => false)
    | _ => false)
  | _ => false
def cellTo (K : PySem.W.Frag) (cl : List (Str × Addr)) (C : Addr) : Bool := match cl with
  | [p] => (match K.lookup p.2 with
    | some ⟨_, _, .cell (some (.ref D)), _⟩ => decide (D = C)
    | _ => false)
  | _ => false
def noneB (v : Value) : Bool := match v with
  | .none => true
  | _ => false
def excS (K : PySem.W.Frag) (C : Addr) : Bool := match K.lookup C with
  | some ⟨.type c, _, .cls cd, sl⟩ => decide (c = "type") && (match cd.mro, sl.toList with
    | .ref C2 :: bm, [_, _, _, _, some (.builtin n), _] => decide (C2 = C) && (decide (n = "ValueError.__new__") && (cd.hasDict && (!cd.hasDel && PySem.HandSPX.refsVE bm)))
    | _, _ => false)
  | _ => false
def supB (K : PySem.W.Frag) (d : SupD) : Bool := (match K.lookup (He.fAd K d.at_) with
  | some ⟨_, _, .func fd, _⟩ => PySem.W.codeIn K fd.code d.qual && (codeFile K fd.code d.file && (cellTo K fd.closure (He.ga K d.x) && noneB fd.defaults))
  | _ => false) && (excS K (He.ga K d.x) && (He.eqO (PySem.W.findIn K (.ref (He.ga K d.x)) "__init__") (some (some (.ref (He.fAd K d.at_)))) && (decide (PySem.W.typeIn K (.ref (He.fAd K d.at_)) = some (.type "function")) &&
  (He.eqO (PySem.W.findIn K (.ref (He.ga K d.x)) d.fld) (some none) && (He.eqO (PySem.W.findIn K (.ref (He.ga K d.x)) "__setattr__") (some (some (.builtin "object.__setattr__"))) && (decide (PySem.W.subIn K (.ref (He.ga K d.x)) (.type "BaseException") = some true) &&
  (decide (PySem.W.typeIn K (.ref (He.ga K d.x)) = some (.type "type")) && (PySem.W.keepIn K (.ref (He.ga K d.x)) && (decide (PySem.W.mroIn K (He.ga K d.x) (.ref (He.ga K d.x)) = some true) &&
  (He.eqO (PySem.W.ks_superIn K (He.ga K d.x) (He.ga K d.x) "__init__") (some (some (.builtin "ValueError.__init__"))) && (decide (PySem.W.subIn K (.ref (He.ga K d.x)) (.type "ValueError") = some true) && He.eqO (PySem.W.nsIn K cStatics "thirdparty.any") (some none))))))))))))
/-- they hold -/
structure SupOk (K : PySem.W.Frag) (d : SupD) : Prop where
  fn : ∃ (oc : Value) (od : Option Addr) (kV doc pm : Value) (an : Option Addr) (cda : Addr) (ct : Value) (osl : Array (Option Value)) (cc : Addr) (ccl : Value) (cdd : Option Addr) (vs0 : Array Value) (ccs : Array (Option Value)) (tf : Tok) (cl : Value) (cld : Option Addr) (csl : Array (Option Value)),
    K.lookup (He.fAd K d.at_) = some ⟨oc, od, .func (PySem.W.fnX d.name d.qual d.params d.body d.scope [("__class__", cc)] .none kV doc pm an (.ref cda) ct), osl⟩ ∧ PySem.W.codeIn K (.ref cda) d.qual = true ∧ K.lookup cda = some ⟨ccl, cdd, .fields vs0, ccs⟩ ∧ vs0[2]? = some (.str d.file tf) ∧
      K.lookup cc = some ⟨cl, cld, .cell (some (.ref (He.ga K d.x))), csl⟩
  sc : SupC K (He.ga K d.x) (He.ga K d.x)
  nof : PySem.W.findIn K (.ref (He.ga K d.x)) d.fld = some none
  iC : PySem.W.findIn K (.ref (He.ga K d.x)) "__init__" = some (some (.ref (He.fAd K d.at_)))
  tI : PySem.W.typeIn K (.ref (He.fAd K d.at_)) = some (.type "function")
section
variable {K : PySem.W.Frag} {C : Addr}
theorem excS_ok (h : excS K C = true) : ∃ nm q N bs bm sn sub ab col dd k0 k1 k2 k3 k5, K.lookup C = some (excClassObj nm q C N bs bm true sn sub ab col dd k0 k1 k2 k3 k5 "ValueError.__new__") ∧ PySem.HandSPX.refsVE bm = true := by
  unfold excS at h
  split at h
  · rename_i c dd cd sl ho
    obtain ⟨h1, h⟩ := He.ba h
    split at h
    · rename_i C2 bm k0 k1 k2 k3 n k5 hm hs
      obtain ⟨h2, h⟩ := He.ba h
      obtain ⟨h3, h⟩ := He.ba h
      obtain ⟨h4, h⟩ := He.ba h
      obtain ⟨h5, h6⟩ := He.ba h
      have h1 := of_decide_eq_true h1
      have h2 := of_decide_eq_true h2
      have h3 := of_decide_eq_true h3
      obtain ⟨nm, bs, mro, ns, qn, hd, sn, sub, ab, col, del⟩ := cd
      dsimp only at hm h4 h5
      subst h1 h2 h3 hm h4
      have h5 : del = false := by simpa using h5
      subst h5
      have hsl : sl = #[k0, k1, k2, k3, some (.builtin "ValueError.__new__"), k5] := by
        obtain ⟨l⟩ := sl
        simp only at hs
        rw [hs]
      subst hsl
      exact ⟨_, _, _, _, _, _, _, _, _, _, _, _, _, _, _, ho, h6⟩
    · cases h
  · cases h
theorem codeFile_ok {v : Value} {file : Str} (h : codeFile K v file = true) : ∃ c ccl cdd vs0 ccs tf, v = .ref c ∧ K.lookup c = some ⟨ccl, cdd, .fields vs0, ccs⟩ ∧ vs0[2]? = some (.str file tf) := by
  unfold codeFile at h
  split at h
  · split at h
    · rename_i ho
      split at h
      · rename_i fl tf he
        have := of_decide_eq_true h
        subst this
        exact ⟨_, _, _, _, _, _, rfl, ho, he⟩
      · cases h
    · cases h
  · cases h
theorem cellTo_ok {cl : List (Str × Addr)} (h : cellTo K cl C = true) : ∃ p a b c, cl = [p] ∧ K.lookup p.2 = some ⟨a, b, .cell (some (.ref C)), c⟩ := by
  unfold cellTo at h
  split at h
  · split at h
    · rename_i ho
      have := of_decide_eq_true h
      subst this
      exact ⟨_, _, _, _, rfl, ho⟩
    · cases h
  · cases h
theorem noneB_ok {v : Value} (h : noneB v = true) : v = .none := by
  cases v <;> first | rfl | cases h
theorem sup_ok {d : SupD} (v : d.seen K = d.want) (c : supB K d = true) : SupOk K d := by
  unfold supB at c
  obtain ⟨c0, c⟩ := He.ba c
  obtain ⟨c1, c⟩ := He.ba c
  obtain ⟨c2, c⟩ := He.ba c
  obtain ⟨c3, c⟩ := He.ba c
  obtain ⟨c4, c⟩ := He.ba c
  obtain ⟨c5, c⟩ := He.ba c
  obtain ⟨c6, c⟩ := He.ba c
  obtain ⟨c7, c⟩ := He.ba c
  obtain ⟨c8, c⟩ := He.ba c
  obtain ⟨c9, c⟩ := He.ba c
  obtain ⟨c10, c⟩ := He.ba c
  obtain ⟨c11, c12⟩ := He.ba c
  have ox : OexC K (He.ga K d.x) := ⟨excS_ok c1, He.eqO_ok c5, of_decide_eq_true c6, of_decide_eq_true c7, c8⟩
  have ecd : ∃ cd, PySem.W.clsIn K (He.ga K d.x) = some cd := by
    obtain ⟨nm, q, N, bs, bm, sn, sub, ab, col, dd, k0, k1, k2, k3, k5, hC, _⟩ := ox.cls
    exact ⟨_, by unfold PySem.W.clsIn; rw [hC]⟩
  refine ⟨?_, ⟨ox, ecd, of_decide_eq_true c9, He.eqO_ok c10, of_decide_eq_true c11, He.eqO_ok c12⟩, He.eqO_ok c4, He.eqO_ok c2, of_decide_eq_true c3⟩
  unfold SupD.seen at v
  unfold SupD.want at v
  cases q : K.lookup (He.fAd K d.at_) with
  | none => rw [q] at c0; cases c0
  | some o =>
    obtain ⟨oc, od, dt, osl⟩ := o
    rw [q] at c0 v
    cases dt with
    | func fd =>
      obtain ⟨n1, n2, n3, n4, n5, n6, n7, n8, n9, n10, n11, n12, n13, n14, n15⟩ := fd
      have v : (some (n1, n2, n3, n4, n5, n6, n7.map (·.1), n15) : FnS) = some (d.name, d.qual, d.params, .stmts d.body, d.scope, mainGlobals, [("__class__" : Str)], builtinsNs) := v
      have c0 : (PySem.W.codeIn K n13 d.qual && (codeFile K n13 d.file && (cellTo K n7 (He.ga K d.x) && noneB n8))) = true := c0
      obtain ⟨e1, c0⟩ := He.ba c0
      obtain ⟨e2, c0⟩ := He.ba c0
      obtain ⟨e3, e4⟩ := He.ba c0
      simp only [Option.some.injEq, Prod.mk.injEq] at v
      obtain ⟨h1, h2, h3, h4, h5, h6, h7, h8⟩ := v
      obtain ⟨cda, ccl, cdd, vs0, ccs, tf, rfl, hcode, hvs⟩ := codeFile_ok e2
      obtain ⟨p, a, b, c, rfl, hcell⟩ := cellTo_ok e3
      have h9 := noneB_ok e4
      obtain ⟨pn, cc⟩ := p
      have h7 : [pn] = [("__class__" : Str)] := h7
      cases h7
      subst h1 h2 h3 h4 h5 h6 h8 h9
      exact ⟨oc, od, n9, n10, n11, n12, cda, n14, osl, cc, ccl, cdd, vs0, ccs, tf, a, b, c, rfl, e1, hcode, hvs, hcell⟩
    | _ => cases c0
end
end ZL

namespace ZL
open PySem PySem.Spec PyProof.Rows L2
theorem hu64 {A : Around} {k : Nat} (hr : RoomG k A) : A.units + 64 < cLine := by have := hr.r.un; omega
theorem hu65 {A : Around} {k : Nat} (hr : RoomG k A) : A.units + 65 < cLine := by have := hr.r.un; omega
theorem hu1 {A : Around} {k : Nat} (hr : RoomG k A) : A.units + 1 < cLine := by have := hr.r.un; omega
section
variable {X : Cx}
theorem zv (i : Nat) {x : Str} {pos : Pos} (hN : X.N[i]? = some x := by rfl) (hv : Vis X.env.scope x := by first | exact Or.inl rfl | exact Or.inr (Or.inl rfl) | exact Or.inr (Or.inr rfl)) (hd : (x == ("__debug__" : Str)) = false := by decide)
    (hcd : (x == ("__classdict__" : Str)) = false := by decide) : ZE X (.Name x pos) (wVar i) := ze_var hN hv hd hcd
/-- an int by the module's name -/
theorem ze_gint {x : Str} {pos : Pos} {i : Int} (hm : ∃ t, X.mg x = some (.int i t)) (hg : Gl X x := by rfl) (hd : (x == ("__debug__" : Str)) = false := by decide) : ZE X (.Name x pos) (wC (.int i)) := by
  obtain ⟨t, hm⟩ := hm
  exact ze_c (pe_glob hg hm (show RelV (.int i) (.int i t) from ⟨t, rfl⟩) hd) fun _ _ => rep_int
end
/-- more facts by names: an instance's class; isinstance by classes; an exception's class; a tuple of the module -/
inductive Fb where
  | own (x : Str)
  | isn (x : Str) (T : String) (b : Bool)
  | ecx (x : Str)
  | kit (x y : Str) (b : Bool)
  | tupc (x : Str) (vs : List He.Dv)
  | sup (d : SupD)
def clsFact (K : PySem.W.Frag) (C : Addr) : Bool := He.eqO (PySem.W.findIn K (.ref C) "__class__") (some (some (.builtin "object.__class__"))) && (decide (PySem.W.specialIn K (.builtin "object.__class__") "__get__" = some (some (.builtin "getset_descriptor.__get__"))) &&
  (decide (PySem.W.takesIn K (.builtin "object.__class__") = some true) && decide (PySem.W.mroIn K C (.type "object") = some true)))
def Fb.ok (K : PySem.W.Frag) : Fb → Bool
  | .own x => clsFact K (He.ga K x)
  | .isn x T b => decide (PySem.W.kitOne K (.ref (He.ga K x)) (.type T) = some b)
  | .ecx x => clsFact K (He.ga K x) && (He.eqO (PySem.W.findIn K (.ref (He.ga K x)) "__getattribute__") (some (some (.builtin "BaseException.__getattribute__"))) && (He.eqO (PySem.W.findIn K (.ref (He.ga K x)) "__getattr__") (some none) &&
      (decide (PySem.W.subIn K (.ref (He.ga K x)) (.type "BaseException") = some true) && PySem.W.hasDictIn K (He.ga K x))))
  | .kit x y b => decide (PySem.W.kitOne K (.ref (He.ga K x)) (.ref (He.ga K y)) = some b)
  | .tupc x vs => He.tupB K x vs
  | .sup d => supB K d
/-- what is seen of a def with a closure -/
def Fb.seen (K : PySem.W.Frag) : Fb → FnS
  | .sup d => d.seen K
  | _ => none
def Fb.want : Fb → FnS
  | .sup d => d.want
  | _ => none
structure SaysZ (fa : List He.Fa) (fb : List Fb) (fn : List He.DefD) (K : PySem.W.Frag) : Prop where
  d : He.SaysD fa fn K
  b : (fb.all fun f => f.ok K) = true
  s : (fb.map fun f => f.seen K) = fb.map Fb.want
theorem SaysZ.more {fa : List He.Fa} {fb : List Fb} {fn : List He.DefD} {K : PySem.W.Frag} (c : SaysZ fa fb fn K) (i : Nat) {f : Fb} (h : fb[i]? = some f) : f.ok K = true := List.all_eq_true.mp c.b f (List.mem_of_getElem? h)
abbrev ObT : Type := He.AlD × Bool × List FnS
theorem SaysZ.sup {fa : List He.Fa} {fb : List Fb} {fn : List He.DefD} {K : PySem.W.Frag} (c : SaysZ fa fb fn K) (i : Nat) {d : SupD} (h : fb[i]? = some (.sup d)) : SupOk K d := by
  have e := congrArg (fun l : List FnS => l[i]?) c.s
  simp only [List.getElem?_map, h, Option.map_some] at e
  exact sup_ok (Option.some.inj e) (c.more i h)
/-- what is looked at: what the module's names lead to, and the interpreter's own notes -/
def asZ (g : Addr → Option Obj) (n : Nat) : List Addr := cStatics :: He.asD g n
def obsZ (n : Nat) (fa : List He.Fa) (fb : List Fb) (fn : List He.DefD) (g : Addr → Option Obj) : ObT := (He.obsD fa fn (He.frG g (asZ g n)), fb.all fun f => f.ok (He.frG g (asZ g n)), fb.map fun f => f.seen (He.frG g (asZ g n)))
def hookZ (n : Nat) (fa : List He.Fa) (fb : List Fb) (fn : List He.DefD) : PySem.W.Hook where
  α := ObT
  obs := fun s => obsZ n fa fb fn s.heap.get?
  val := fun _ => (He.valD fn, true, fb.map Fb.want)
  says := fun _ h => ∃ K : PySem.W.Frag, K.In h ∧ SaysZ fa fb fn K
  of := fun _ _ e => ⟨_, He.frG_in, ⟨congrArg (fun z : ObT => z.1) e, congrArg (fun z : ObT => z.2.1) e, congrArg (fun z : ObT => z.2.2) e⟩⟩
  keeps := fun _ _ _ ⟨K, hK, c⟩ k => ⟨K, PySem.W.Frag.In.keeps hK k, c⟩
theorem obsZ_eq {n : Nat} {fa : List He.Fa} {fb : List Fb} {fn : List He.DefD} {g : Addr → Option Obj} {s : Shared} (h : ∀ a, g a = s.heap.get? a) : obsZ n fa fb fn g = (hookZ n fa fb fn).obs s := by
  have e : g = s.heap.get? := funext h
  rw [e] <;> rfl
/-- the head's facts -/
structure Txt (fa : List He.Fa) (fb : List Fb) (fn : List He.DefD) (K : PySem.W.Frag) (mg : Str → Option Value) : Prop where
  at_ : ∃ h : Heap, K.In h ∧ h.Ns mainGlobals mg
  says : SaysZ fa fb fn K
section
variable {fa : List He.Fa} {fb : List Fb} {fn : List He.DefD} {K : PySem.W.Frag} {mg : Str → Option Value}
theorem Txt.glo (T : Txt fa fb fn K mg) (i : Nat) {x : Str} (h : fa[i]? = some (.glo x) := by rfl) : mg x = some (.ref (He.ga K x)) := let ⟨_, X, G⟩ := T.at_; He.glo_ok X G (T.says.d.fact i h)
theorem Txt.free (T : Txt fa fb fn K mg) (i : Nat) {x : Str} (h : fa[i]? = some (.free x) := by rfl) : mg x = none := let ⟨_, X, G⟩ := T.at_; He.free_ok X G (T.says.d.fact i h)
theorem Txt.int (T : Txt fa fb fn K mg) (i : Nat) {x : Str} {n : Int} (h : fa[i]? = some (.int x n) := by rfl) : ∃ t, mg x = some (.int n t) := let ⟨_, X, G⟩ := T.at_; He.int_ok X G (T.says.d.fact i h)
theorem Txt.def_ (T : Txt fa fb fn K mg) (i : Nat) {d : He.DefD} (h : fn[i]? = some d := by rfl) : ∃ fd, FunD K d.name d.qual d.params d.body d.scope (d.dvs K) (d.kws K) (He.fAd K d.at_) fd := T.says.d.def_ i h
end
/-- no own objects -/
theorem noT0 {K : PySem.W.Frag} {mg : Str → Option Value} {T : String} : NoT K mg [] T := fun c h => by cases h
end ZL

namespace ZL
open PySem PySem.Spec PyProof.Rows L2

/-! ### methods of lists, of dicts -/
abbrev ZM := Z → List Z → ZH → PZ → Prop
def MthZ (X : Cx) (id : String) (o : ZM) : Prop :=
  ∃ r, MtR X id r ∧ ∀ μ H h a zs x vs P Q, RelH X.K X.mg μ H h → RepV X.K μ H a x → RepVs X.K μ H zs vs → o a zs h P → Fol X.K X.mg μ H P Q → r x vs H Q
def isLst (h : ZH) (a : Z) (P : Prop) : Prop := match a with
  | .ref n => (match h[n]? with
    | some (.lst _) => P
    | _ => False)
  | _ => False
def isDct (h : ZH) (a : Z) (P : Prop) : Prop := match a with
  | .ref n => (match h[n]? with
    | some (.dict _) => P
    | _ => False)
  | _ => False
/-- o.m(..), o a list or a dict (it) -/
def wBM (it : ZH → Z → Prop → Prop) (o : ZM) (wo : WE) (wa : WA) : WE := fun env h P E => wo env h (fun a h1 => it h1 a (wa env h1 (fun zs h2 => o a zs h2 P) E)) E
section
variable {X : Cx} {e o : Expr} {es : List Expr} {wo : WE} {wa : WA} {name : Str} {apos cpos : Pos} {id : String} {om : ZM}
theorem ty_lst {μ : List Addr} {H : Hp} {h : ZH} {a : Z} {v : V} {P : Prop} (R : RelH X.K X.mg μ H h) (r : RepV X.K μ H a v) (p : isLst h a P) : tyV X.K "list" v H ∧ P := by
  unfold isLst at p
  split at p
  · split at p
    · rename_i e
      obtain ⟨q, vs, rfl, _, hp, _⟩ := of_lst R e r
      exact ⟨.inl ⟨rfl, vs, SqL.of hp⟩, p⟩
    · exact p.elim
  · exact p.elim
theorem ty_dct {μ : List Addr} {H : Hp} {h : ZH} {a : Z} {v : V} {P : Prop} (R : RelH X.K X.mg μ H h) (r : RepV X.K μ H a v) (p : isDct h a P) : tyV X.K "dict" v H ∧ P := by
  unfold isDct at p
  split at p
  · split at p
    · rename_i e
      obtain ⟨q, ho, rfl, _, hp, d⟩ := dict_of R e r
      refine ⟨.inr (.inr (.inl ⟨rfl, ?_⟩)), p⟩
      rcases d with ⟨l, rfl, _⟩ | ⟨l, rfl, _⟩
      · exact .inl ⟨_, hp⟩
      · exact .inr ⟨_, hp⟩
    · exact p.elim
  · exact p.elim
theorem tz_bm {T : String} {it : ZH → Z → Prop → Prop} {r : V → List V → Hp → VK → Prop} (ht : ∀ μ H h a v P, RelH X.K X.mg μ H h → RepV X.K μ H a v → it h a P → tyV X.K T v H ∧ P)
    (hr : ∀ μ H h a zs x vs P Q, RelH X.K X.mg μ H h → RepV X.K μ H a x → RepVs X.K μ H zs vs → om a zs h P → Fol X.K X.mg μ H P Q → r x vs H Q) {B : List Addr × Hp} {E : EZ} :
    ∀ σ H Q, TZ X.K X.mg B (wBM it om wo wa) E σ H Q → tBM X.K T r (TZ X.K X.mg B wo E) (TZa X.K X.mg B wa E) σ H Q := fun σ H Q ⟨μ, env, h, P, R, q, f⟩ =>
  ⟨μ, env, h, _, R, q, fun a h1 μ1 H1 x p1 e1 R1 r1 => by
    obtain ⟨t, p1⟩ := ht μ1 H1 h1 a x _ R1 r1 p1
    exact ⟨t, μ1, env, h1, _, R.step e1 R1, p1, fun zs h2 μ2 H2 vs p2 e2 R2 r2 => hr μ2 H2 h2 a zs x vs P Q R2 (r1.mono e2) r2 p2 (f.ext (e1.trans e2))⟩⟩
theorem ze_lm (slot : Slot "list" name id) (hty : typeOf (.builtin id) = pure (.type "method_descriptor")) (hm : MthZ X id om) (ho : ZE X o wo) (ha : ZA X (e :: es) wa)
    (hbase : attributeBase o name X.env (eval o X.env) = eval o X.env := by rfl)
    (hfew : ((backTo cpos (starEach (e :: es) X.env)).all (fun x => !x.1) && (backToKw cpos (keywordEach [] X.env)).all (fun x => x.1.isSome)
      && decide ((e :: es).length + ([] : List Keyword).length + (if ([] : List Keyword).isEmpty then 0 else 1) < 30)) = true := by rfl)
    (hline : (apos.endLine == cpos.line) = true := by rfl) (hs : starEach (e :: es) X.env = (false, eval e X.env) :: starEach es X.env := by rfl) (hplain : (backTo cpos (starEach es X.env)).any (·.1) = false := by rfl) :
    ZE X (.Call (.Attribute o name apos) (e :: es) [] cpos) (wBM isLst om wo wa) :=
  let ⟨_, h1, h2⟩ := hm
  ⟨fun B E tk => pe_imp (pe_bm PySem.F.plainAttrs_list slot hty h1 (ho.run B E tk) (ha.run B E tk) hbase hfew hline hs hplain) (tz_bm (fun _ _ _ _ _ _ R r p => ty_lst R r p) h2)⟩
theorem ze_dm (slot : Slot "dict" name id) (hty : typeOf (.builtin id) = pure (.type "method_descriptor")) (hm : MthZ X id om) (ho : ZE X o wo) (ha : ZA X (e :: es) wa)
    (hbase : attributeBase o name X.env (eval o X.env) = eval o X.env := by rfl)
    (hfew : ((backTo cpos (starEach (e :: es) X.env)).all (fun x => !x.1) && (backToKw cpos (keywordEach [] X.env)).all (fun x => x.1.isSome)
      && decide ((e :: es).length + ([] : List Keyword).length + (if ([] : List Keyword).isEmpty then 0 else 1) < 30)) = true := by rfl)
    (hline : (apos.endLine == cpos.line) = true := by rfl) (hs : starEach (e :: es) X.env = (false, eval e X.env) :: starEach es X.env := by rfl) (hplain : (backTo cpos (starEach es X.env)).any (·.1) = false := by rfl) :
    ZE X (.Call (.Attribute o name apos) (e :: es) [] cpos) (wBM isDct om wo wa) :=
  let ⟨_, h1, h2⟩ := hm
  ⟨fun B E tk => pe_imp (pe_bm PySem.F.plainAttrs_dict slot hty h1 (ho.run B E tk) (ha.run B E tk) hbase hfew hline hs hplain) (tz_bm (fun _ _ _ _ _ _ R r p => ty_dct R r p) h2)⟩
theorem tz_bm0 {T : String} {it : ZH → Z → Prop → Prop} {r : V → List V → Hp → VK → Prop} (ht : ∀ μ H h a v P, RelH X.K X.mg μ H h → RepV X.K μ H a v → it h a P → tyV X.K T v H ∧ P)
    (hr : ∀ μ H h a zs x vs P Q, RelH X.K X.mg μ H h → RepV X.K μ H a x → RepVs X.K μ H zs vs → om a zs h P → Fol X.K X.mg μ H P Q → r x vs H Q) {B : List Addr × Hp} {E : EZ} :
    ∀ σ H Q, TZ X.K X.mg B (wBM it om wo wNil) E σ H Q → tBM0 X.K T r (TZ X.K X.mg B wo E) σ H Q := fun σ H Q ⟨μ, env, h, P, R, q, f⟩ =>
  ⟨μ, env, h, _, R, q, fun a h1 μ1 H1 x p1 e1 R1 r1 => by
    obtain ⟨t, p1⟩ := ht μ1 H1 h1 a x _ R1 r1 p1
    exact ⟨t, hr μ1 H1 h1 a [] x [] P Q R1 r1 .nil p1 (f.ext e1)⟩⟩
theorem ze_lm0 (slot : Slot "list" name id) (hty : typeOf (.builtin id) = pure (.type "method_descriptor")) (hm : MthZ X id om) (ho : ZE X o wo)
    (hbase : attributeBase o name X.env (eval o X.env) = eval o X.env := by rfl) (hline : (apos.endLine == cpos.line) = true := by rfl) :
    ZE X (.Call (.Attribute o name apos) [] [] cpos) (wBM isLst om wo wNil) :=
  let ⟨_, h1, h2⟩ := hm
  ⟨fun B E tk => pe_imp (pe_bm0 PySem.F.plainAttrs_list slot hty h1 (ho.run B E tk) hbase hline) (tz_bm0 (fun _ _ _ _ _ _ R r p => ty_lst R r p) h2)⟩
theorem ze_dm0 (slot : Slot "dict" name id) (hty : typeOf (.builtin id) = pure (.type "method_descriptor")) (hm : MthZ X id om) (ho : ZE X o wo)
    (hbase : attributeBase o name X.env (eval o X.env) = eval o X.env := by rfl) (hline : (apos.endLine == cpos.line) = true := by rfl) :
    ZE X (.Call (.Attribute o name apos) [] [] cpos) (wBM isDct om wo wNil) :=
  let ⟨_, h1, h2⟩ := hm
  ⟨fun B E tk => pe_imp (pe_bm0 PySem.F.plainAttrs_dict slot hty h1 (ho.run B E tk) hbase hline) (tz_bm0 (fun _ _ _ _ _ _ R r p => ty_dct R r p) h2)⟩
end

section
variable {X : Cx} {K : PySem.W.Frag} {mg : Str → Option Value} {μ : List Addr} {H : Hp} {h : ZH}
/-- a list is rewritten -/
theorem fol_set {n : Nat} {a : Addr} {xs ys : List Z} {vs us : List V} {P : PZ} {Q : VK} {z : Z} {v : V} (R : RelH X.K X.mg μ H h) (ha : μ[n]? = some a) (hp : H a = some (.lst vs)) (r : RepVs X.K μ H ys us) (rz : RepV X.K μ H z v) (p : P z (h.set n (.lst ys))) (f : Fol X.K X.mg μ H P Q) :
    Q v (upd H a (.lst us)) := by
  obtain ⟨R2, ex⟩ := fin_set (o := .lst ys) (u := .lst us) R ha ⟨_, hp, by simp, by simp⟩ fun ex => ⟨_, upd_same, r.mono ex⟩
  exact f _ _ _ _ _ p ex R2 (rz.mono ex)
def oAppend : ZM := fun a zs h P => match a, zs with
  | .ref n, [y] => (match h[n]? with
    | some (.lst xs) => xs.length < sizeLine ∧ P .non (h.set n (.lst (xs ++ [y])))
    | _ => False)
  | _, _ => False
theorem m_append : MthZ X "list.append" oAppend := by
  refine ⟨_, mt_append, fun μ H h a zs x vs P Q R ra rz o f => ?_⟩
  unfold oAppend at o
  split at o
  · split at o
    · rename_i e1
      obtain ⟨p, ws, rfl, ha, hp, r⟩ := of_lst R e1 ra
      obtain ⟨v, rfl, rv⟩ := one_vals rz rfl
      exact ⟨p, ws, v, rfl, rfl, hp, by rw [← r.length]; exact o.1, fol_set (xs := []) R ha hp (r.append (.cons rv .nil)) rep_non o.2 f⟩
    · exact o.elim
  · exact o.elim
def oExtend : ZM := fun a zs h P => match a, zs with
  | .ref n, [.ref m] => (match h[n]?, h[m]? with
    | some (.lst xs), some (.lst ys) => xs.length + ys.length ≤ sizeLine ∧ P .non (h.set n (.lst (xs ++ ys)))
    | _, _ => False)
  | _, _ => False
theorem m_extend : MthZ X "list.extend" oExtend := by
  refine ⟨_, mt_extend, fun μ H h a zs x vs P Q R ra rz o f => ?_⟩
  unfold oExtend at o
  split at o
  · split at o
    · rename_i e1 e2
      obtain ⟨p, ws, rfl, ha, hp, r⟩ := of_lst R e1 ra
      obtain ⟨v, rfl, rv⟩ := one_vals rz rfl
      obtain ⟨q, us, rfl, hb, hq, r'⟩ := of_lst R e2 rv
      exact ⟨p, q, ws, us, rfl, rfl, hp, hq, by rw [← r.length, ← r'.length]; exact o.1, fol_set (xs := []) R ha hp (r.append r') rep_non o.2 f⟩
    · exact o.elim
  · exact o.elim
def oPop : ZM := fun a zs h P => match a, zs with
  | .ref n, [] => (match h[n]? with
    | some (.lst xs) => ∃ y, xs[xs.length - 1]? = some y ∧ P y (h.set n (.lst xs.dropLast))
    | _ => False)
  | .ref n, [.int i] => (match h[n]? with
    | some (.lst xs) => -(2 ^ 63) ≤ i ∧ i < 2 ^ 63 ∧ ∃ k y, seqIndex? i xs.length = some k ∧ xs[k]? = some y ∧ P y (h.set n (.lst (xs.eraseIdx k)))
    | _ => False)
  | _, _ => False
theorem mtr_or {id : String} {r r' : V → List V → Hp → VK → Prop} (a : MtR X id r) (b : MtR X id r') : MtR X id (fun x vs H Q => r x vs H Q ∨ r' x vs H Q) := by
  intro pins s σ H x xs v us Q I rx rxs h
  rcases h with h | h
  · exact a pins s σ H x xs v us Q I rx rxs h
  · exact b pins s σ H x xs v us Q I rx rxs h
theorem m_pop : MthZ X "list.pop" oPop := by
  refine ⟨_, mtr_or mt_pop mt_popAt, fun μ H h a zs x vs P Q R ra rz o f => ?_⟩
  unfold oPop at o
  split at o
  · split at o
    · rename_i e1
      obtain ⟨p, ws, rfl, ha, hp, r⟩ := of_lst R e1 ra
      obtain ⟨y, hy, q⟩ := o
      unfold RepVs at rz
      subst rz
      obtain ⟨v, hv, rv⟩ := r.get hy
      exact .inl ⟨p, ws, v, rfl, rfl, hp, by rw [← r.length]; exact hv, fol_set (xs := []) R ha hp r.dropLast rv q f⟩
    · exact o.elim
  · split at o
    · rename_i e1
      obtain ⟨p, ws, rfl, ha, hp, r⟩ := of_lst R e1 ra
      obtain ⟨h1, h2, k, y, hk, hy, q⟩ := o
      obtain ⟨v, rfl, rv⟩ := one_vals rz rfl
      cases of_int rv
      obtain ⟨u, hu, ru⟩ := r.get hy
      exact .inr ⟨p, ws, _, k, u, rfl, rfl, hp, h1, h2, by rw [← r.length]; exact hk, hu, fol_set (xs := []) R ha hp (r.eraseIdx k) ru q f⟩
    · exact o.elim
  · exact o.elim
def oInsert : ZM := fun a zs h P => match a, zs with
  | .ref n, [.int i, y] => (match h[n]? with
    | some (.lst xs) => xs.length < sizeLine ∧ 0 ≤ i ∧ i < 2 ^ 63 ∧ P .non (h.set n (.lst (xs.take i.toNat ++ [y] ++ xs.drop i.toNat)))
    | _ => False)
  | _, _ => False
theorem m_insert : MthZ X "list.insert" oInsert := by
  refine ⟨_, mt_insert, fun μ H h a zs x vs P Q R ra rz o f => ?_⟩
  unfold oInsert at o
  split at o
  · split at o
    · rename_i e1
      obtain ⟨p, ws, rfl, ha, hp, r⟩ := of_lst R e1 ra
      obtain ⟨v, u, rfl, rv, ru⟩ := two_vals rz rfl
      cases of_int rv
      exact ⟨p, ws, _, u, rfl, rfl, hp, by rw [← r.length]; exact o.1, o.2.1, o.2.2.1, fol_set (xs := []) R ha hp (((r.take _).append (.cons ru .nil)).append (r.drop _)) rep_non o.2.2.2 f⟩
    · exact o.elim
  · exact o.elim
/-- d.get(k), d.get(k, z) -/
def oGet : ZM := fun a zs h P => match a, zs with
  | .ref n, [k] => (match h[n]? with
    | some (.dict kvs) => dkey kvs k ∧ P ((dget kvs k).getD .non) h
    | _ => False)
  | .ref n, [k, z] => (match h[n]? with
    | some (.dict kvs) => dkey kvs k ∧ P ((dget kvs k).getD z) h
    | _ => False)
  | _, _ => False
theorem mt_get1 (hu : X.A.units + 1 < cLine) : MtR X "dict.get" (fun x vs H Q => ∃ a y o, x = .ref a ∧ vs = [y] ∧ DG H a y o ∧ Q (o.getD .non) H) := by
  intro pins s σ H x xs v us Q I rx rxs h
  obtain ⟨a, y, o, rfl, rfl, g, q⟩ := h
  cases rx
  obtain ⟨u, rfl, ru⟩ := vals1 rxs
  exact z_get1 hu I g ru fun w' s' I' rw' => ⟨_, H, I', rw', q⟩
theorem mt_get2 (hu : X.A.units + 1 < cLine) : MtR X "dict.get" (fun x vs H Q => ∃ a y d o, x = .ref a ∧ vs = [y, d] ∧ DG H a y o ∧ Q (o.getD d) H) := by
  intro pins s σ H x xs v us Q I rx rxs h
  obtain ⟨a, y, d, o, rfl, rfl, g, q⟩ := h
  cases rx
  obtain ⟨u, w, rfl, ru, rd⟩ := vals2 rxs
  exact z_get2 hu I g ru rd fun w' s' I' rw' => ⟨_, H, I', rw', q⟩
theorem optR_getD {z : Option Z} {o : Option V} {d : Z} {e : V} (r : OptR K μ H z o) (rd : RepV K μ H d e) : RepV K μ H (z.getD d) (o.getD e) := by
  rcases r with ⟨rfl, rfl⟩ | ⟨a, b, rfl, rfl, r⟩
  · exact rd
  · exact r
theorem m_get (hu : X.A.units + 1 < cLine) : MthZ X "dict.get" oGet := by
  refine ⟨_, mtr_or (mt_get1 hu) (mt_get2 hu), fun μ H h a zs x vs P Q R ra rz o f => ?_⟩
  unfold oGet at o
  split at o
  · split at o
    · rename_i e1
      obtain ⟨p, ho, rfl, _, hp, d⟩ := dict_of R e1 ra
      obtain ⟨v, rfl, rv⟩ := one_vals rz rfl
      obtain ⟨q, g, r⟩ := dict_at hp d o.1 rv
      exact .inl ⟨p, v, q, rfl, rfl, g, f.here R o.2 (optR_getD r rep_non)⟩
    · exact o.elim
  · split at o
    · rename_i e1
      obtain ⟨p, ho, rfl, _, hp, d⟩ := dict_of R e1 ra
      obtain ⟨v, u, rfl, rv, ru⟩ := two_vals rz rfl
      obtain ⟨q, g, r⟩ := dict_at hp d o.1 rv
      exact .inr ⟨p, v, u, q, rfl, rfl, g, f.here R o.2 (optR_getD r ru)⟩
    · exact o.elim
  · exact o.elim
end
end ZL

namespace ZL
open PySem PySem.Spec PyProof.Rows L2

theorem noRfl {α : Sort u} {a b : α} (h : a = b) : a = b := h
/-! ### the machine: what follows, by names (nothing is looked at ahead of its turn) -/
section
variable {env : Env} {h h1 h2 : ZH} {P : PZ} {PA : List Z → ZH → Prop} {PT : Bool → ZH → Prop} {PO : Option Int → ZH → Prop} {PS : Env → ZH → Prop} {E : EZ} {D : ZEnds} {z a b x y v : Z} {zs : List Z} {k : Bool} {i j n : Nat} {w wa wb wc we wo wi : WE} {r : WA} {t t2 : WT} {o o2 : Z2} {s s2 : WS} {g : WG} {gs : WGs}
/-! expressions -/
@[simp] theorem m_var : wVar i env h P E = (match env[i]? with | some (some z) => P z h | _ => False) := noRfl rfl
@[simp] theorem m_c : wC z env h P E = P z h := noRfl rfl
def kCons2 (P : List Z → ZH → Prop) (z : Z) : List Z → ZH → Prop := fun zs h => P (z :: zs) h
def kCons (r : WA) (env : Env) (P : List Z → ZH → Prop) (E : EZ) : PZ := fun z h => r env h (kCons2 P z) E
@[simp] theorem m_nil : wNil env h PA E = PA [] h := noRfl rfl
@[simp] theorem m_cons : wCons w r env h PA E = w env h (kCons r env PA E) E := noRfl rfl
@[simp] theorem m_w1 : w1 w env h PA E = w env h (kCons wNil env PA E) E := noRfl rfl
@[simp] theorem m_kCons : kCons r env PA E z h = r env h (kCons2 PA z) E := noRfl rfl
@[simp] theorem m_kCons2 : kCons2 PA z zs h = PA (z :: zs) h := noRfl rfl
def kTup (P : PZ) : List Z → ZH → Prop := fun zs h => zs.length ≤ sizeLine ∧ P (.tup zs) h
def kLst (P : PZ) : List Z → ZH → Prop := fun zs h => zs.length ≤ sizeLine ∧ P (.ref h.length) (h ++ [.lst zs])
@[simp] theorem m_tup : wTup r env h P E = r env h (kTup P) E := noRfl rfl
@[simp] theorem m_lst : wLst r env h P E = r env h (kLst P) E := noRfl rfl
@[simp] theorem m_kTup : kTup P zs h = (zs.length ≤ sizeLine ∧ P (.tup zs) h) := noRfl rfl
@[simp] theorem m_kLst : kLst P zs h = (zs.length ≤ sizeLine ∧ P (.ref h.length) (h ++ [.lst zs])) := noRfl rfl
def k2b (o : Z2) (a : Z) (P : PZ) : PZ := fun b h => o a b h P
def k2 (o : Z2) (wb : WE) (env : Env) (P : PZ) (E : EZ) : PZ := fun a h => wb env h (k2b o a P) E
@[simp] theorem m_w2 : w2 o wa wb env h P E = wa env h (k2 o wb env P E) E := noRfl rfl
@[simp] theorem m_k2 : k2 o wb env P E a h = wb env h (k2b o a P) E := noRfl rfl
@[simp] theorem m_k2b : k2b o a P b h = o a b h P := noRfl rfl
def kB (P : Bool → ZH → Prop) : PZ := fun z h => match z with | .bl b => P b h | _ => False
@[simp] theorem m_wB : wB w env h PT E = w env h (kB PT) E := noRfl rfl
@[simp] theorem m_kB : kB PT (.bl k) h = PT k h := noRfl rfl
def kTru (P : Bool → ZH → Prop) : PZ := fun z h => match truK h z with | some k => P k h | none => False
@[simp] theorem m_wTru : wTru w env h PT E = w env h (kTru PT) E := noRfl rfl
@[simp] theorem m_kTru : kTru PT z h = (match truK h z with | some k => PT k h | none => False) := noRfl rfl
@[simp] theorem tr_non : truK h .non = some false := noRfl rfl
@[simp] theorem tr_bl : truK h (.bl k) = some k := noRfl rfl
@[simp] theorem tr_int {i : Int} : truK h (.int i) = some (i != 0) := noRfl rfl
@[simp] theorem tr_tup : truK h (.tup zs) = some (!zs.isEmpty) := noRfl rfl
@[simp] theorem tr_scr {ns : List Int} : truK h (.scr ns) = some (!ns.isEmpty) := noRfl rfl
def kAnd (t : WT) (env : Env) (P : Bool → ZH → Prop) (E : EZ) : Bool → ZH → Prop := fun k h => if k = true then t env h P E else P false h
def kOr (t : WT) (env : Env) (P : Bool → ZH → Prop) (E : EZ) : Bool → ZH → Prop := fun k h => if k = true then P true h else t env h P E
def kNot (P : Bool → ZH → Prop) : Bool → ZH → Prop := fun k h => P (!k) h
@[simp] theorem m_and : wAnd t t2 env h PT E = t env h (kAnd t2 env PT E) E := noRfl rfl
@[simp] theorem m_or : wOr t t2 env h PT E = t env h (kOr t2 env PT E) E := noRfl rfl
@[simp] theorem m_not : wNot t env h PT E = t env h (kNot PT) E := noRfl rfl
@[simp] theorem m_kAnd_t : kAnd t env PT E true h = t env h PT E := noRfl rfl
@[simp] theorem m_kAnd_f : kAnd t env PT E false h = PT false h := noRfl rfl
@[simp] theorem m_kOr_t : kOr t env PT E true h = PT true h := noRfl rfl
@[simp] theorem m_kOr_f : kOr t env PT E false h = t env h PT E := noRfl rfl
@[simp] theorem m_kNot : kNot PT k h = PT (!k) h := noRfl rfl
def kAndV (w : WE) (env : Env) (P : PZ) (E : EZ) : PZ := fun z h => match z with | .bl k => (if k = true then w env h P E else P (.bl false) h) | _ => False
def kOrV (w : WE) (env : Env) (P : PZ) (E : EZ) : PZ := fun z h => match z with | .bl k => (if k = true then P (.bl true) h else w env h P E) | _ => False
def kNotV (P : PZ) : PZ := fun z h => match z with | .bl k => P (.bl (!k)) h | _ => False
@[simp] theorem m_andV : wAndV wa wb env h P E = wa env h (kAndV wb env P E) E := noRfl rfl
@[simp] theorem m_orV : wOrV wa wb env h P E = wa env h (kOrV wb env P E) E := noRfl rfl
@[simp] theorem m_notV : wNotV wa env h P E = wa env h (kNotV P) E := noRfl rfl
@[simp] theorem m_kAndV_t : kAndV w env P E (.bl true) h = w env h P E := noRfl rfl
@[simp] theorem m_kAndV_f : kAndV w env P E (.bl false) h = P (.bl false) h := noRfl rfl
@[simp] theorem m_kOrV_t : kOrV w env P E (.bl true) h = P (.bl true) h := noRfl rfl
@[simp] theorem m_kOrV_f : kOrV w env P E (.bl false) h = w env h P E := noRfl rfl
@[simp] theorem m_kNotV : kNotV P (.bl k) h = P (.bl (!k)) h := noRfl rfl
def kIfE (a b : WE) (env : Env) (P : PZ) (E : EZ) : Bool → ZH → Prop := fun k h => if k = true then a env h P E else b env h P E
@[simp] theorem m_if : wIf t wa wb env h P E = t env h (kIfE wa wb env P E) E := noRfl rfl
@[simp] theorem m_kIfE_t : kIfE wa wb env P E true h = wa env h P E := noRfl rfl
@[simp] theorem m_kIfE_f : kIfE wa wb env P E false h = wb env h P E := noRfl rfl
def kNeg (P : PZ) : PZ := fun z h => match z with | .int i => P (.int (-i)) h | _ => False
@[simp] theorem m_neg : wNeg w env h P E = w env h (kNeg P) E := noRfl rfl
@[simp] theorem m_kNeg {i : Int} : kNeg P (.int i) h = P (.int (-i)) h := noRfl rfl
def kChD (o' : Z2) (b : Z) (P : PZ) : PZ := fun c h => o' b c h P
def kChC (o' : Z2) (wc : WE) (b : Z) (env : Env) (P : PZ) (E : EZ) : PZ := fun z h => match z with
  | .bl k => (if k = true then wc env h (kChD o' b P) E else P (.bl false) h)
  | _ => False
def kChB (o o' : Z2) (wc : WE) (a : Z) (env : Env) (P : PZ) (E : EZ) : PZ := fun b h => o a b h (kChC o' wc b env P E)
def kChA (o o' : Z2) (wb wc : WE) (env : Env) (P : PZ) (E : EZ) : PZ := fun a h => wb env h (kChB o o' wc a env P E) E
@[simp] theorem m_chain : wChain o o2 wa wb wc env h P E = wa env h (kChA o o2 wb wc env P E) E := noRfl rfl
@[simp] theorem m_kChA : kChA o o2 wb wc env P E a h = wb env h (kChB o o2 wc a env P E) E := noRfl rfl
@[simp] theorem m_kChB : kChB o o2 wc a env P E b h = o a b h (kChC o2 wc b env P E) := noRfl rfl
@[simp] theorem m_kChC_t : kChC o wc b env P E (.bl true) h = wc env h (kChD o b P) E := noRfl rfl
@[simp] theorem m_kChC_f : kChC o wc b env P E (.bl false) h = P (.bl false) h := noRfl rfl
@[simp] theorem m_kChD : kChD o b P a h = o b a h P := noRfl rfl
/-! slices -/
def kPart (P : Option Int → ZH → Prop) : PZ := fun z h => match z with | .int i => P (some i) h | _ => False
@[simp] theorem m_noPart : wNoPart env h PO E = PO none h := noRfl rfl
@[simp] theorem m_part : wPart w env h PO E = w env h (kPart PO) E := noRfl rfl
@[simp] theorem m_kPart {i : Int} : kPart PO (.int i) h = PO (some i) h := noRfl rfl
def kSl3 (a : Z) (lo : Option Int) (P : PZ) : Option Int → ZH → Prop := fun hi h => oSl a lo hi h P
def kSl2 (a : Z) (wh : WO) (env : Env) (P : PZ) (E : EZ) : Option Int → ZH → Prop := fun lo h => wh env h (kSl3 a lo P) E
def kSl1 (wl wh : WO) (env : Env) (P : PZ) (E : EZ) : PZ := fun a h => wl env h (kSl2 a wh env P E) E
@[simp] theorem m_sl {wl wh : WO} : wSl w wl wh env h P E = w env h (kSl1 wl wh env P E) E := noRfl rfl
@[simp] theorem m_kSl1 {wl wh : WO} : kSl1 wl wh env P E a h = wl env h (kSl2 a wh env P E) E := noRfl rfl
@[simp] theorem m_kSl2 {wh : WO} {lo : Option Int} : kSl2 a wh env P E lo h = wh env h (kSl3 a lo P) E := noRfl rfl
@[simp] theorem m_kSl3 {lo hi : Option Int} : kSl3 a lo P hi h = oSl a lo hi h P := noRfl rfl
def kRev (P : PZ) : PZ := fun a h1 => match a with
  | .ref n => (match h1[n]? with
    | some (.lst zs) => P (.ref h1.length) (h1 ++ [.lst zs.reverse])
    | _ => False)
  | _ => False
@[simp] theorem m_rev : wRev w env h P E = w env h (kRev P) E := noRfl rfl
@[simp] theorem m_kRev : kRev P (.ref n) h = (match h[n]? with
    | some (.lst zs) => P (.ref h.length) (h ++ [.lst zs.reverse])
    | _ => False) := noRfl rfl
/-! fields, calls -/
def kFld (cs : List Str) (f : Str) (P : PZ) : PZ := fun z h => fldZ cs f h z fun v => P v h
@[simp] theorem m_fld {cs : List Str} {f : Str} : wFld cs f w env h P E = w env h (kFld cs f P) E := noRfl rfl
@[simp] theorem m_kFld {cs : List Str} {f : Str} : kFld cs f P (.ref n) h = (match h[n]? with
    | some (.ins c fs) => c ∈ cs ∧ (match fs.lookup f with
      | some v => P v h
      | none => False)
    | _ => False) := noRfl rfl
def kEx (env : Env) (E : EZ) : XZ → ZH → Prop := fun x h => E x env h
def kCall (n : Nat) (wf : WF) (env : Env) (P : PZ) (E : EZ) : List Z → ZH → Prop := fun zs h1 => zs.length = n ∧ wf zs h1 P (kEx env E)
@[simp] theorem m_call {wf : WF} : wCall n wf r env h P E = r env h (kCall n wf env P E) E := noRfl rfl
@[simp] theorem m_kCall {wf : WF} : kCall n wf env P E zs h = (zs.length = n ∧ wf zs h P (kEx env E)) := noRfl rfl
@[simp] theorem m_kEx {x : XZ} : kEx env E x h = E x env h := noRfl rfl
def kMeth2 (n : Nat) (wf : WF) (o : Z) (env : Env) (P : PZ) (E : EZ) : List Z → ZH → Prop := fun zs h2 => zs.length = n ∧ wf (o :: zs) h2 P (kEx env E)
def kMeth (c m : Str) (n : Nat) (wf : WF) (wa : WA) (env : Env) (P : PZ) (E : EZ) : PZ := fun o h1 => insZ c m h1 o (wa env h1 (kMeth2 n wf o env P E) E)
@[simp] theorem m_meth {c m : Str} {wf : WF} : wMeth c m n wf wo r env h P E = wo env h (kMeth c m n wf r env P E) E := noRfl rfl
@[simp] theorem m_kMeth {c m : Str} {wf : WF} : kMeth c m n wf r env P E (.ref i) h = (match h[i]? with
    | some (.ins c' fs) => c' = c ∧ fs.lookup m = none ∧ r env h (kMeth2 n wf (.ref i) env P E) E
    | _ => False) := noRfl rfl
@[simp] theorem m_kMeth2 {wf : WF} : kMeth2 n wf a env P E zs h = (zs.length = n ∧ wf (a :: zs) h P (kEx env E)) := noRfl rfl
def kNew (n : Nat) (P : PZ) : PZ := fun r h2 => r = .non ∧ P (.ref n) h2
def kMake (c : Str) (n : Nat) (wf : WF) (env : Env) (P : PZ) (E : EZ) : List Z → ZH → Prop := fun zs h1 => zs.length = n ∧ wf (.ref h1.length :: zs) (h1 ++ [.ins c []]) (kNew h1.length P) (kEx env E)
@[simp] theorem m_make {c : Str} {wf : WF} : wMake c n wf r env h P E = r env h (kMake c n wf env P E) E := noRfl rfl
@[simp] theorem m_kMake {c : Str} {wf : WF} : kMake c n wf env P E zs h = (zs.length = n ∧ wf (.ref h.length :: zs) (h ++ [.ins c []]) (kNew h.length P) (kEx env E)) := noRfl rfl
@[simp] theorem m_kNew : kNew n P .non h = P (.ref n) h := by show (Z.non = Z.non ∧ _) = _; simp
def kCB (o : Z3) (P : PZ) : List Z → ZH → Prop := fun zs h => o zs h P
@[simp] theorem m_CB {o : Z3} : wCB o r env h P E = r env h (kCB o P) E := noRfl rfl
@[simp] theorem m_kCB {o : Z3} : kCB o P zs h = o zs h P := noRfl rfl
def kIsi (T : BT) (cs : List Str) (P : PZ) : PZ := fun z h => isiZ T cs h z fun b => P (.bl b) h
@[simp] theorem m_isi {T : BT} {cs : List Str} : wIsi T cs w env h P E = w env h (kIsi T cs P) E := noRfl rfl
@[simp] theorem m_kIsi {T : BT} {cs : List Str} : kIsi T cs P z h = isiZ T cs h z fun b => P (.bl b) h := noRfl rfl
def kBM2 (o : ZM) (a : Z) (P : PZ) : List Z → ZH → Prop := fun zs h => o a zs h P
def kBM (it : ZH → Z → Prop → Prop) (o : ZM) (r : WA) (env : Env) (P : PZ) (E : EZ) : PZ := fun a h => it h a (r env h (kBM2 o a P) E)
@[simp] theorem m_BM {it : ZH → Z → Prop → Prop} {o : ZM} : wBM it o w r env h P E = w env h (kBM it o r env P E) E := noRfl rfl
@[simp] theorem m_kBM {it : ZH → Z → Prop → Prop} {o : ZM} : kBM it o r env P E a h = it h a (r env h (kBM2 o a P) E) := noRfl rfl
@[simp] theorem m_kBM2 {o : ZM} : kBM2 o a P zs h = o a zs h P := noRfl rfl
@[simp] theorem m_isLst {p : Prop} : isLst h (.ref n) p = (match h[n]? with | some (.lst _) => p | _ => False) := noRfl rfl
@[simp] theorem m_isDct {p : Prop} : isDct h (.ref n) p = (match h[n]? with | some (.dict _) => p | _ => False) := noRfl rfl
/-! comprehensions -/
def kLc (p : Pat) (tt : WT) (te : WE) (vs : List Nat) (env : Env) (P : PZ) : List Z → (ZH → Prop) → ZH → Prop := fun zs chk h1 => lcZ p tt te chk (wipeE env vs) P zs [] h1
@[simp] theorem m_lc {wi : WI} {p : Pat} {vs : List Nat} : wLc wi p t we vs env h P E = wi env h (kLc p t we vs env P) E := noRfl rfl
@[simp] theorem m_kLc {p : Pat} {vs : List Nat} {chk : ZH → Prop} : kLc p t we vs env P zs chk h = lcZ p t we chk (wipeE env vs) P zs [] h := noRfl rfl
@[simp] theorem m_yes : wYes env h PT E = PT true h := noRfl rfl
/-! what is walked -/
def kVal (P : List Z → (ZH → Prop) → ZH → Prop) : PZ := fun z h => valI z h P
def Always : ZH → Prop := fun _ => True
def Stays (n : Nat) (zs : List Z) : ZH → Prop := fun h' => h'[n]? = some (.lst zs)
section
variable {PI : List Z → (ZH → Prop) → ZH → Prop}
@[simp] theorem m_iVal : iVal w env h PI E = w env h (kVal PI) E := noRfl rfl
@[simp] theorem m_kVal_t : kVal PI (.tup zs) h = PI zs Always h := noRfl rfl
@[simp] theorem m_kVal_s {ns : List Int} : kVal PI (.scr ns) h = PI (ns.map Z.int) Always h := noRfl rfl
@[simp] theorem m_kVal_x {x : Str} : kVal PI (.str x) h = PI (chrs x) Always h := noRfl rfl
@[simp] theorem m_kVal_r : kVal PI (.ref n) h = (match h[n]? with | some (.lst zs) => PI zs (Stays n zs) h | _ => False) := noRfl rfl
def kR1 (P : List Z → (ZH → Prop) → ZH → Prop) : List Z → ZH → Prop := fun zs h => rng1 zs fun l => P l Always h
def kR2 (P : List Z → (ZH → Prop) → ZH → Prop) : List Z → ZH → Prop := fun zs h => rng2 zs fun l => P l Always h
@[simp] theorem m_iR1 : iR1 r env h PI E = r env h (kR1 PI) E := noRfl rfl
@[simp] theorem m_iR2 : iR2 r env h PI E = r env h (kR2 PI) E := noRfl rfl
@[simp] theorem m_kR1 {i : Int} : kR1 PI [.int i] h = (inRng i ∧ PI (rngZ 0 i.toNat) Always h) := noRfl rfl
@[simp] theorem m_kR2 {i j : Int} : kR2 PI [.int i, .int j] h = ((inRng i ∧ inRng j) ∧ PI (rngZ i (j - i).toNat) Always h) := noRfl rfl
end
/-! targets -/
def kG (g : WG) (P : Env → ZH → Prop) (env : Env) (E : EZ) : PZ := fun z h => g z env h P E
@[simp] theorem m_gName : wgName i z env h PS E = PS (env.set i (some z)) h := noRfl rfl
@[simp] theorem m_gNil : wgNil [] env h PS E = PS env h := by show ([] = [] ∧ _) = _; simp
def kGs (gs : WGs) (zs : List Z) (P : Env → ZH → Prop) (E : EZ) : Env → ZH → Prop := fun env h => gs zs env h P E
@[simp] theorem m_gCons : wgCons g gs (z :: zs) env h PS E = g z env h (kGs gs zs PS E) E := noRfl rfl
@[simp] theorem m_kGs : kGs gs zs PS E env h = gs zs env h PS E := noRfl rfl
@[simp] theorem m_gTup : wgTup n gs (.tup zs) env h PS E = (zs.length = n ∧ gs zs env h PS E) := noRfl rfl
def kEnv (P : Env → ZH → Prop) (env : Env) : ZH → Prop := fun h => P env h
@[simp] theorem m_kEnv : kEnv PS env h = PS env h := noRfl rfl
def kGsub2 (o v : Z) (P : Env → ZH → Prop) (env : Env) : PZ := fun i h => oSet o i v h (kEnv P env)
def kGsub1 (wi : WE) (v : Z) (P : Env → ZH → Prop) (env : Env) (E : EZ) : PZ := fun o h => wi env h (kGsub2 o v P env) E
@[simp] theorem m_gSub : wgSub wo wi v env h PS E = wo env h (kGsub1 wi v PS env E) E := noRfl rfl
@[simp] theorem m_kGsub1 : kGsub1 wi v PS env E a h = wi env h (kGsub2 a v PS env) E := noRfl rfl
@[simp] theorem m_kGsub2 : kGsub2 a v PS env b h = oSet a b v h (kEnv PS env) := noRfl rfl
/-! statements -/
@[simp] theorem m_kG : kG g PS env E z h = g z env h PS E := noRfl rfl
@[simp] theorem m_asg : wsAsg w g D env h E = w env h (kG g D.nx env E) E := noRfl rfl
def kSet (i : Nat) (P : Env → ZH → Prop) (env : Env) : PZ := fun z h => P (env.set i (some z)) h
@[simp] theorem m_set : wsSet i w D env h E = w env h (kSet i D.nx env) E := noRfl rfl
@[simp] theorem m_kSet : kSet i PS env z h = PS (env.set i (some z)) h := noRfl rfl
def kAug (o : Z2) (x : Z) (i : Nat) (P : Env → ZH → Prop) (env : Env) : PZ := fun y h => o x y h (kSet i P env)
@[simp] theorem m_aug : wsAug o i w D env h E = (match env[i]? with
  | some (some x) => w env h (kAug o x i D.nx env) E
  | _ => False) := noRfl rfl
@[simp] theorem m_kAug : kAug o x i PS env y h = o x y h (kSet i PS env) := noRfl rfl
def kExpr (P : Env → ZH → Prop) (env : Env) : PZ := fun _ h => P env h
@[simp] theorem m_expr : wsExpr w D env h E = w env h (kExpr D.nx env) E := noRfl rfl
@[simp] theorem m_kExpr : kExpr PS env z h = PS env h := noRfl rfl
@[simp] theorem m_ret : wsRet w D env h E = w env h D.rt E := noRfl rfl
@[simp] theorem m_retN : wsRetN D env h E = D.rt .non h := noRfl rfl
@[simp] theorem m_next : wsNext D env h E = D.nx env h := noRfl rfl
@[simp] theorem m_break : wsBreak D env h E = D.bk env h := noRfl rfl
@[simp] theorem m_cont : wsCont D env h E = D.ct env h := noRfl rfl
def kIf (a b : WS) (D : ZEnds) (env : Env) (E : EZ) : Bool → ZH → Prop := fun k h => if k = true then a D env h E else b D env h E
@[simp] theorem m_sif : wsIf t s s2 D env h E = t env h (kIf s s2 D env E) E := noRfl rfl
@[simp] theorem m_kIf_t : kIf s s2 D env E true h = s D env h E := noRfl rfl
@[simp] theorem m_kIf_f : kIf s s2 D env E false h = s2 D env h E := noRfl rfl
def kSeq (b : WS) (D : ZEnds) (E : EZ) : Env → ZH → Prop := fun env h => b D env h E
@[simp] theorem m_seq : wsSeq s s2 D env h E = s ⟨kSeq s2 D E, D.rt, D.bk, D.ct⟩ env h E := noRfl rfl
@[simp] theorem m_kSeq : kSeq s D E env h = s D env h E := noRfl rfl
def kFor (g : WG) (b : WS) (D : ZEnds) (env : Env) (E : EZ) : List Z → (ZH → Prop) → ZH → Prop := fun zs chk h => forZ g b chk D E zs env h
@[simp] theorem m_for {wi : WI} : wsFor wi g s D env h E = wi env h (kFor g s D env E) E := noRfl rfl
@[simp] theorem m_kFor {chk : ZH → Prop} : kFor g s D env E zs chk h = forZ g s chk D E zs env h := noRfl rfl
def kFldS2 (cs : List Str) (f : Str) (v : Z) (P : Env → ZH → Prop) (env : Env) : PZ := fun o h => setFZ cs f h o v (kEnv P env)
def kFldS (cs : List Str) (f : Str) (wo : WE) (P : Env → ZH → Prop) (env : Env) (E : EZ) : PZ := fun v h => wo env h (kFldS2 cs f v P env) E
@[simp] theorem m_sfld {cs : List Str} {f : Str} : wsFld cs f wo we D env h E = we env h (kFldS cs f wo D.nx env E) E := noRfl rfl
@[simp] theorem m_kFldS {cs : List Str} {f : Str} : kFldS cs f wo PS env E v h = wo env h (kFldS2 cs f v PS env) E := noRfl rfl
@[simp] theorem m_kFldS2 {cs : List Str} {f : Str} : kFldS2 cs f v PS env (.ref n) h = (match h[n]? with
    | some (.ins c fs) => c ∈ cs ∧ fs.length < 1000 ∧ PS env (h.set n (.ins c (zput f v fs)))
    | _ => False) := noRfl rfl

/-! operators -/
@[simp] theorem oAdd_i {i j : Int} : oAdd (.int i) (.int j) h P = P (.int (i + j)) h := noRfl rfl
@[simp] theorem oAdd_s {x y : Str} : oAdd (.str x) (.str y) h P = (x.length + y.length ≤ sizeLine ∧ P (.str (x ++ y)) h) := noRfl rfl
@[simp] theorem oAdd_t {xs ys : List Z} : oAdd (.tup xs) (.tup ys) h P = (xs.length + ys.length ≤ sizeLine ∧ P (.tup (xs ++ ys)) h) := noRfl rfl
@[simp] theorem oAdd_r {n m : Nat} : oAdd (.ref n) (.ref m) h P = (match h[n]?, h[m]? with
    | some (.lst xs), some (.lst ys) => xs.length + ys.length ≤ sizeLine ∧ P (.ref h.length) (h ++ [.lst (xs ++ ys)])
    | _, _ => False) := noRfl rfl
@[simp] theorem oSub_i {i j : Int} : oSub (.int i) (.int j) h P = P (.int (i - j)) h := noRfl rfl
@[simp] theorem oMul_i {i j : Int} : oMul (.int i) (.int j) h P = (CMul i j ∧ P (.int (i * j)) h) := noRfl rfl
@[simp] theorem oMul_s {x : Str} {n : Int} : oMul (.str x) (.int n) h P = (0 ≤ n ∧ x.length * n.toNat ≤ sizeLine ∧ n < 2 ^ 62 ∧ P (.str (strRep x n.toNat)) h) := noRfl rfl
@[simp] theorem oMul_t {xs : List Z} {n : Int} : oMul (.tup xs) (.int n) h P = (xs ≠ [] ∧ 0 ≤ n ∧ n ≤ 1000 ∧ xs.length ≤ 1000 ∧ P (.tup (List.replicate n.toNat xs).flatten) h) := noRfl rfl
@[simp] theorem oMod_i {i j : Int} : oMod (.int i) (.int j) h P = (0 < j ∧ P (.int (i % j)) h) := noRfl rfl
@[simp] theorem oFdiv_i {i j : Int} : oFdiv (.int i) (.int j) h P = (CDiv i j ∧ P (.int (i / j)) h) := noRfl rfl
@[simp] theorem oPow_i {i j : Int} : oPow (.int i) (.int j) h P = (CPow i j ∧ P (.int (i ^ j.toNat)) h) := noRfl rfl
@[simp] theorem oEq_i {i j : Int} : oEq (.int i) (.int j) h P = P (.bl (decide (i = j))) h := noRfl rfl
@[simp] theorem oEq_s {i j : Str} : oEq (.str i) (.str j) h P = P (.bl (decide (i = j))) h := noRfl rfl
@[simp] theorem oEq_b {i j : Bool} : oEq (.bl i) (.bl j) h P = P (.bl (decide (i = j))) h := noRfl rfl
@[simp] theorem oNe_i {i j : Int} : oNe (.int i) (.int j) h P = P (.bl (!decide (i = j))) h := noRfl rfl
@[simp] theorem oNe_s {i j : Str} : oNe (.str i) (.str j) h P = P (.bl (!decide (i = j))) h := noRfl rfl
@[simp] theorem oNe_b {i j : Bool} : oNe (.bl i) (.bl j) h P = P (.bl (!decide (i = j))) h := noRfl rfl
@[simp] theorem oLt_i {i j : Int} : oLt (.int i) (.int j) h P = P (.bl (decide (i < j))) h := noRfl rfl
@[simp] theorem oLt_s {i j : Str} : oLt (.str i) (.str j) h P = P (.bl (decide (i.cps.toList < j.cps.toList))) h := noRfl rfl
@[simp] theorem oLe_i {i j : Int} : oLe (.int i) (.int j) h P = P (.bl (decide (i ≤ j))) h := noRfl rfl
@[simp] theorem oLe_s {i j : Str} : oLe (.str i) (.str j) h P = P (.bl (!decide (j.cps.toList < i.cps.toList))) h := noRfl rfl
@[simp] theorem oGt_i {i j : Int} : oGt (.int i) (.int j) h P = P (.bl (decide (j < i))) h := noRfl rfl
@[simp] theorem oGe_i {i j : Int} : oGe (.int i) (.int j) h P = P (.bl (decide (j ≤ i))) h := noRfl rfl
@[simp] theorem oIsN_n : oIsN z .non h P = P (.bl (zNone z)) h := noRfl rfl
@[simp] theorem oNotN_n : oNotN z .non h P = P (.bl (!zNone z)) h := noRfl rfl
@[simp] theorem oIx_t {i : Int} : oIx (.tup zs) (.int i) h P = ∃ z, L2.atI zs i = some z ∧ P z h := noRfl rfl
@[simp] theorem oIx_s {ns : List Int} {i : Int} : oIx (.scr ns) (.int i) h P = ∃ n, L2.atI ns i = some n ∧ P (.int n) h := noRfl rfl
@[simp] theorem oIx_x {x : Str} {i : Int} : oIx (.str x) (.int i) h P = (x.length ≤ sizeLine ∧ ∃ c, L2.atI x.cps.toList i = some c ∧ P (.str ⟨#[c]⟩) h) := noRfl rfl
@[simp] theorem oIx_r : oIx (.ref n) z h P = (match h[n]? with
    | some (.lst zs) => (match z with
      | .int i => ∃ z, L2.atI zs i = some z ∧ P z h
      | _ => False)
    | some (.dict kvs) => dkey kvs z ∧ ∃ v, dget kvs z = some v ∧ P v h
    | some (.dictL kvs) => dkey kvs z ∧ ∃ v, dget kvs z = some v ∧ P v h
    | _ => False) := by cases z <;> rfl
@[simp] theorem oSl_t {l u : Option Int} : oSl (.tup zs) l u h P = P (.tup (cutZ zs l u)) h := noRfl rfl
@[simp] theorem oSl_x {x : Str} {l u : Option Int} : oSl (.str x) l u h P = (x.length ≤ sizeLine ∧ P (.str ⟨(cutZ x.cps.toList l u).toArray⟩) h) := noRfl rfl
@[simp] theorem oSl_s {ns : List Int} {l u : Option Int} : oSl (.scr ns) l u h P = P (.ref h.length) (h ++ [.lst ((cutZ ns l u).map Z.int)]) := noRfl rfl
@[simp] theorem oSl_r {l u : Option Int} : oSl (.ref n) l u h P = (match h[n]? with
    | some (.lst zs) => P (.ref h.length) (h ++ [.lst (cutZ zs l u)])
    | _ => False) := noRfl rfl
@[simp] theorem oLen_x {x : Str} : oLen [.str x] h P = (x.length ≤ sizeLine ∧ P (.int x.length) h) := noRfl rfl
@[simp] theorem oLen_t : oLen [.tup zs] h P = P (.int zs.length) h := noRfl rfl
@[simp] theorem oLen_s {ns : List Int} : oLen [.scr ns] h P = P (.int ns.length) h := noRfl rfl
@[simp] theorem oLen_r : oLen [.ref n] h P = (match h[n]? with
    | some (.lst zs) => P (.int zs.length) h
    | some (.dict kvs) => P (.int kvs.length) h
    | _ => False) := noRfl rfl
@[simp] theorem oInt_i {i : Int} : oInt [.int i] h P = P (.int i) h := noRfl rfl
@[simp] theorem oInt_b : oInt [.bl k] h P = P (.int (if k then 1 else 0)) h := noRfl rfl
@[simp] theorem oAbs_i {i : Int} : oAbs [.int i] h P = P (.int (if i < 0 then -i else i)) h := noRfl rfl
@[simp] theorem oAbs_b : oAbs [.bl k] h P = P (.int (if k then 1 else 0)) h := noRfl rfl
@[simp] theorem oOrd_x {x : Str} : oOrd [.str x] h P = (x.length = 1 ∧ P (.int (x.cps.getD 0 0 : Nat)) h) := noRfl rfl
@[simp] theorem oMax_2 {i j : Int} : oMax [.int i, .int j] h P = P (.int (if j > i then j else i)) h := noRfl rfl
@[simp] theorem oMin_2 {i j : Int} : oMin [.int i, .int j] h P = P (.int (if j < i then j else i)) h := noRfl rfl
@[simp] theorem oTuple_t : oTuple [.tup zs] h P = P (.tup zs) h := noRfl rfl
@[simp] theorem oTuple_s {ns : List Int} : oTuple [.scr ns] h P = P (.tup (ns.map Z.int)) h := noRfl rfl
@[simp] theorem oTuple_r : oTuple [.ref n] h P = (match h[n]? with
    | some (.lst zs) => P (.tup zs) h
    | _ => False) := noRfl rfl
@[simp] theorem oList_t : oList [.tup zs] h P = P (.ref h.length) (h ++ [.lst zs]) := noRfl rfl
@[simp] theorem oList_s {ns : List Int} : oList [.scr ns] h P = P (.ref h.length) (h ++ [.lst (ns.map Z.int)]) := noRfl rfl
@[simp] theorem oList_r : oList [.ref n] h P = (match h[n]? with
    | some (.lst zs) => P (.ref h.length) (h ++ [.lst zs])
    | some (.dict kvs) => (∀ p ∈ kvs, keyOk p.1 = true) ∧ P (.ref h.length) (h ++ [.lst (kvs.map (·.1))])
    | _ => False) := noRfl rfl
@[simp] theorem oAppend_r : oAppend (.ref n) [y] h P = (match h[n]? with
    | some (.lst xs) => xs.length < sizeLine ∧ P .non (h.set n (.lst (xs ++ [y])))
    | _ => False) := noRfl rfl
@[simp] theorem oExtend_r {m : Nat} : oExtend (.ref n) [.ref m] h P = (match h[n]?, h[m]? with
    | some (.lst xs), some (.lst ys) => xs.length + ys.length ≤ sizeLine ∧ P .non (h.set n (.lst (xs ++ ys)))
    | _, _ => False) := noRfl rfl
@[simp] theorem oGet_1 : oGet (.ref n) [z] h P = (match h[n]? with
    | some (.dict kvs) => dkey kvs z ∧ P ((dget kvs z).getD .non) h
    | _ => False) := noRfl rfl
@[simp] theorem oGet_2 : oGet (.ref n) [z, v] h P = (match h[n]? with
    | some (.dict kvs) => dkey kvs z ∧ P ((dget kvs z).getD v) h
    | _ => False) := noRfl rfl
/-! isinstance -/
section
variable {T : BT} {cs : List Str} {Q : Bool → Prop}
@[simp] theorem isi_non : isiZ T cs h .non Q = Q false := noRfl rfl
@[simp] theorem isi_bl : isiZ T cs h (.bl k) Q = Q (match T with | .int => true | .bool => true | _ => false) := noRfl rfl
@[simp] theorem isi_int {i : Int} : isiZ T cs h (.int i) Q = Q (match T with | .int => true | _ => false) := noRfl rfl
@[simp] theorem isi_str {i : Str} : isiZ T cs h (.str i) Q = Q (match T with | .str => true | _ => false) := noRfl rfl
@[simp] theorem isi_tup : isiZ T cs h (.tup zs) Q = Q (match T with | .tuple => true | _ => false) := noRfl rfl
@[simp] theorem isi_scr {ns : List Int} : isiZ T cs h (.scr ns) Q = Q (match T with | .list => true | _ => false) := noRfl rfl
@[simp] theorem isi_ref : isiZ T cs h (.ref n) Q = (match h[n]? with
    | some (.lst _) => Q (match T with | .list => true | _ => false)
    | some (.dict _) => Q (match T with | .dict => true | _ => false)
    | some (.ins c _) => c ∈ cs ∧ Q false
    | _ => False) := noRfl rfl
end
end

/-! ### loops by induction -/
theorem forZ_ind {g : WG} {b : WS} {chk : ZH → Prop} {D : ZEnds} {E : EZ} (I : List Z → Env → ZH → Prop) (h0 : ∀ env h, I [] env h → chk h ∧ D.nx env h)
    (hs : ∀ z zs env h (N : Env → ZH → Prop), (∀ env h, I zs env h → N env h) → I (z :: zs) env h → chk h ∧ g z env h (kSeq b ⟨N, D.rt, D.nx, N⟩ E) E) : ∀ zs env h, I zs env h → forZ g b chk D E zs env h
  | [], env, h, i => h0 env h i
  | z :: zs, env, h, i => hs z zs env h _ (fun env h i => forZ_ind I h0 hs zs env h i) i
def kWh (b : WS) (N : Env → ZH → Prop) (D : ZEnds) (env : Env) (E : EZ) : Bool → ZH → Prop := fun k h => if k = true then b ⟨N, D.rt, D.nx, N⟩ env h E else D.nx env h
@[simp] theorem m_kWh_t {b : WS} {N : Env → ZH → Prop} {D : ZEnds} {env : Env} {E : EZ} {h : ZH} : kWh b N D env E true h = b ⟨N, D.rt, D.nx, N⟩ env h E := noRfl rfl
@[simp] theorem m_kWh_f {b : WS} {N : Env → ZH → Prop} {D : ZEnds} {env : Env} {E : EZ} {h : ZH} : kWh b N D env E false h = D.nx env h := noRfl rfl
theorem whileZ_ind {c : WT} {b : WS} {D : ZEnds} {E : EZ} (I : Nat → Env → ZH → Prop) (hs : ∀ m env h (N : Env → ZH → Prop), (∀ m' env h, m' < m → I m' env h → N env h) → I m env h → c env h (kWh b N D env E) E) {m : Nat} {env : Env} {h : ZH} (i : I m env h) : wsWhile c b D env h E := by
  refine ⟨m + 1, ?_⟩
  have key : ∀ m m' env h, m' ≤ m → I m' env h → whileZ c b D E (m + 1) env h := by
    intro m
    induction m with
    | zero =>
      intro m' env h hm i
      have e : m' = 0 := by omega
      subst e
      exact hs 0 env h _ (fun _ _ _ z => absurd z (Nat.not_lt_zero _)) i
    | succ m ih =>
      intro m' env h hm i
      exact hs m' env h _ (fun m'' env h hl i => ih m'' env h (by omega) i) i
  exact key m m env h (Nat.le_refl _) i
/-- turn by turn -/
def kLt2 (p : Pat) (tt : WT) (te : WE) (chk : ZH → Prop) (env : Env) (N : List Z → ZH → Prop) (acc : List Z) : PZ := fun y h => acc.length < sizeLine ∧ N (acc ++ [y]) h
def kLt (te : WE) (env1 : Env) (N : List Z → ZH → Prop) (acc : List Z) : Bool → ZH → Prop := fun b h => if b = true then te env1 h (fun y h3 => acc.length < sizeLine ∧ N (acc ++ [y]) h3) E0 else N acc h
def kAcc (N : List Z → ZH → Prop) (acc : List Z) : PZ := fun y h3 => acc.length < sizeLine ∧ N (acc ++ [y]) h3
@[simp] theorem m_kAcc {N : List Z → ZH → Prop} {acc : List Z} {y : Z} {h : ZH} : kAcc N acc y h = (acc.length < sizeLine ∧ N (acc ++ [y]) h) := noRfl rfl
@[simp] theorem m_kLt_t {te : WE} {env1 : Env} {N : List Z → ZH → Prop} {acc : List Z} {h : ZH} : kLt te env1 N acc true h = te env1 h (kAcc N acc) E0 := noRfl rfl
@[simp] theorem m_kLt_f {te : WE} {env1 : Env} {N : List Z → ZH → Prop} {acc : List Z} {h : ZH} : kLt te env1 N acc false h = N acc h := noRfl rfl
theorem lcZ_ind {p : Pat} {tt : WT} {te : WE} {chk : ZH → Prop} {env : Env} {P : PZ} (I : List Z → List Z → ZH → Prop) (h0 : ∀ acc h, I [] acc h → chk h ∧ P (.ref h.length) (h ++ [.lst acc]))
    (hs : ∀ z zs acc h (N : List Z → ZH → Prop), (∀ acc h, I zs acc h → N acc h) → I (z :: zs) acc h → chk h ∧ ∃ env1, p.put z env = some env1 ∧ tt env1 h (kLt te env1 N acc) E0) : ∀ zs acc h, I zs acc h → lcZ p tt te chk env P zs acc h
  | [], acc, h, i => h0 acc h i
  | z :: zs, acc, h, i => by
    obtain ⟨c, env1, e, q⟩ := hs z zs acc h _ (fun acc h i => lcZ_ind I h0 hs zs acc h i) i
    rw [lc_cons, e]
    exact ⟨c, q⟩
/-! ### heaps that have grown -/
def Pre (h h' : ZH) : Prop := ∃ g, h' = h ++ g
theorem Pre.refl (h : ZH) : Pre h h := ⟨[], by simp⟩
theorem Pre.trans {a b c : ZH} (x : Pre a b) (y : Pre b c) : Pre a c := by
  obtain ⟨g, rfl⟩ := x
  obtain ⟨g', rfl⟩ := y
  exact ⟨g ++ g', by simp⟩
theorem Pre.app (h g : ZH) : Pre h (h ++ g) := ⟨g, rfl⟩
theorem Pre.more {h h' : ZH} (x : Pre h h') (g : ZH) : Pre h (h' ++ g) := x.trans (.app _ _)
theorem Pre.get {h h' : ZH} (x : Pre h h') {n : Nat} {o : ZO} (e : h[n]? = some o) : h'[n]? = some o := by
  obtain ⟨g, rfl⟩ := x
  rw [List.getElem?_append_left (List.getElem?_eq_some_iff.mp e).1]
  exact e
theorem Pre.le {h h' : ZH} (x : Pre h h') : h.length ≤ h'.length := by
  obtain ⟨g, rfl⟩ := x
  simp
/-- an object that came later changes -/
theorem Pre.set {h h' : ZH} (x : Pre h h') {n : Nat} (hn : h.length ≤ n) (o : ZO) : Pre h (h'.set n o) := by
  obtain ⟨g, rfl⟩ := x
  refine ⟨g.set (n - h.length) o, ?_⟩
  rw [List.set_append_right _ _ hn]
/-- a comprehension of a pure element -/
theorem lcZ_map {i : Pat} {te : WE} {chk : ZH → Prop} {env : Env} {P : PZ} (f : Z → Z) (S : Z → Prop) (C : ZH → Prop) (hC : ∀ h h', C h → Pre h h' → C h') (hchk : ∀ h, C h → chk h) {zs acc : List Z} {h : ZH} (hl : acc.length + zs.length ≤ sizeLine) (c : C h) (hS : ∀ z ∈ zs, S z)
    (he : ∀ z, S z → ∃ env1, i.put z env = some env1 ∧ ∀ h (K : PZ), C h → (∀ h', Pre h h' → K (f z) h') → te env1 h K E0) (hP : ∀ h', Pre h h' → P (.ref h'.length) (h' ++ [.lst (acc ++ zs.map f)])) : lcZ i wYes te chk env P zs acc h := by
  refine lcZ_ind (fun zs' acc' h' => Pre h h' ∧ C h' ∧ acc' ++ zs'.map f = acc ++ zs.map f ∧ acc'.length + zs'.length ≤ sizeLine ∧ ∀ z ∈ zs', S z) ?_ ?_ zs acc h ⟨.refl h, c, rfl, hl, hS⟩
  · rintro acc' h' ⟨p, c', e, _, _⟩
    refine ⟨hchk _ c', ?_⟩
    have := hP h' p
    rw [← e] at this
    simpa using this
  · rintro z zs' acc' h' N hN ⟨p, c', e, l, s⟩
    refine ⟨hchk _ c', ?_⟩
    obtain ⟨env1, e1, q⟩ := he z (s z List.mem_cons_self)
    refine ⟨env1, e1, ?_⟩
    show te env1 h' (kAcc N acc') E0
    refine q h' _ c' fun h'' p' => ?_
    rw [List.length_cons] at l
    exact ⟨by omega, hN _ _ ⟨p.trans p', hC _ _ c' p', by simp at e ⊢; exact e, by simp; omega, fun y hy => s y (List.mem_cons_of_mem _ hy)⟩⟩
end ZL

namespace ZL
open PySem PySem.Spec PyProof.Rows L2

/-! ### dict displays -/
def wDict0 : WE := fun env h P E => P (.ref h.length) (h ++ [.dict []])
section
variable {X : Cx}
theorem fol_dict {K : PySem.W.Frag} {mg : Str → Option Value} {μ : List Addr} {H : Hp} {h : ZH} {P : PZ} {Q : VK} {kvs : List (Z × Z)} {o : HO} (R : RelH K mg μ H h) (d : DictR K μ H kvs o) (p : P (.ref h.length) (h ++ [.dict kvs])) (f : Fol K mg μ H P Q) :
    ∀ a, H a = none → Q (.ref a) (upd H a o) := fun a ha => by
  have ex : Ext μ H (μ ++ [a]) (upd H a o) := ext_app a (ext_new ha) ha
  refine f _ _ _ _ _ p ex (R.new ha ⟨o, upd_same, d.mono ex⟩) ?_
  unfold RepV
  exact ⟨a, rfl, by rw [← R.len]; simp⟩
theorem ze_dict0 {pos : Pos} : ZE X (.Dict [] [] pos) wDict0 :=
  ⟨fun B E tk => pe_imp pe_dnewK fun σ H Q ⟨μ, env, h, P, R, q, f⟩ => fol_dict R.heap (.inl ⟨[], rfl, .nil⟩) q f⟩
/-- {k: v, ..}: keys that are ints or texts -/
def wPairs : List (WE × WE) → Env → ZH → (List (Z × Z) → ZH → Prop) → EZ → Prop
  | [], env, h, P, E => P [] h
  | (wk, wv) :: r, env, h, P, E => wk env h (fun k h1 => wv env h1 (fun v h2 => wPairs r env h2 (fun ps h3 => P ((k, v) :: ps) h3) E) E) E
def wDisp (ps : List (WE × WE)) : WE := fun env h P E => wPairs ps env h (fun kvs h1 => kvs.length ≤ 15 ∧ (∀ p ∈ kvs, isT p.1 = false ∧ keyOk p.1 = true) ∧ P (.ref h1.length) (h1 ++ [.dict (kvs.foldl (fun acc p => dput acc p.1 p.2) [])])) E
structure ZPP (X : Cx) (pos : Pos) (keys : List (Option Expr)) (values : List Expr) (ws : List (WE × WE)) : Prop where
  run : ∀ B E, ZTk X B E → PPs X pos keys values (ws.map fun p => (TZ X.K X.mg B p.1 E, TZ X.K X.mg B p.2 E))
theorem zpp_nil {pos : Pos} : ZPP X pos [] [] [] := ⟨fun B E tk => pps_nil⟩
theorem zpp_cons {pos : Pos} {k v : Expr} {ks : List (Option Expr)} {vs : List Expr} {wk wv : WE} {ws : List (WE × WE)} (hk : ZE X k wk) (hv : ZE X v wv) (hr : ZPP X pos ks vs ws) : ZPP X pos (some k :: ks) (v :: vs) ((wk, wv) :: ws) :=
  ⟨fun B E tk => pps_cons (hk.run B E tk) (hv.run B E tk) (hr.run B E tk)⟩
def KVR (K : PySem.W.Frag) (μ : List Addr) (H : Hp) (p : Z × Z) (q : V × V) : Prop := RepV K μ H p.1 q.1 ∧ RepV K μ H p.2 q.2
theorem tz_pairs {K : PySem.W.Frag} {mg : Str → Option Value} {B : List Addr × Hp} {E : EZ} {D : Addr} {H0 : Hp} : ∀ (ws : List (WE × WE)) {μ : List Addr} {env : Env} {h : ZH} {σ : L2.St} {H : Hp} {P : List (Z × Z) → ZH → Prop} {Q : List (V × V) → Hp → Prop},
    Rel K mg B μ env h σ H → wPairs ws env h P E → (∀ kvs h' μ' H' ps, P kvs h' → Ext μ H μ' H' → RelH K mg μ' H' h' → Paired (KVR K μ' H') kvs ps → Q ps H') → tPairs (ws.map fun p => (TZ K mg B p.1 E, TZ K mg B p.2 E)) σ H Q
  | [], μ, env, h, σ, H, P, Q, R, w, f => f [] h μ H [] w (Ext.refl _ _) R.heap .nil
  | (wk, wv) :: r, μ, env, h, σ, H, P, Q, R, w, f => by
    refine ⟨μ, env, h, _, R, w, fun k h1 μ1 H1 x p1 e1 R1 r1 => ⟨μ1, env, h1, _, R.step e1 R1, p1, fun v h2 μ2 H2 y p2 e2 R2 r2 => ?_⟩⟩
    exact tz_pairs (H0 := H0) (D := D) r ((R.step e1 R1).step e2 R2) p2 fun kvs h' μ' H' ps p3 e3 R3 r3 => f _ h' μ' H' _ p3 ((e1.trans e2).trans e3) R3 (.cons ⟨(r1.mono e2).mono e3, r2.mono e3⟩ r3)
theorem leaf_of {K : PySem.W.Frag} {μ : List Addr} {H : Hp} {k : Z} {y : V} (t : isT k = false) (ok : keyOk k = true) (r : RepV K μ H k y) : ∃ q : Key, k = keyZ q ∧ y = kV q := by
  rcases key_cases ok r with ⟨_, q⟩ | ⟨t', _⟩
  · exact q
  · rw [t] at t'; cases t'
theorem leafs_of {K : PySem.W.Frag} {μ : List Addr} {H : Hp} : ∀ {kvs : List (Z × Z)} {ps : List (V × V)}, (∀ p ∈ kvs, isT p.1 = false ∧ keyOk p.1 = true) → Paired (KVR K μ H) kvs ps → ∃ l : List (Key × V), ps = l.map (fun kv => (kV kv.1, kv.2)) ∧ Paired (KR K μ H) kvs l
  | _, _, _, .nil => ⟨[], rfl, .nil⟩
  | p :: kvs, (x, y) :: ps, h, .cons a r => by
    obtain ⟨k, v⟩ := p
    obtain ⟨q, e1, e2⟩ := leaf_of (h _ List.mem_cons_self).1 (h _ List.mem_cons_self).2 a.1
    obtain ⟨l, e3, r3⟩ := leafs_of (fun p hp => h p (List.mem_cons_of_mem _ hp)) r
    exact ⟨(q, y) :: l, by rw [List.map_cons, ← e3]; exact congrArg (fun z => (z, y) :: ps) e2, .cons ⟨e1, a.2⟩ r3⟩
theorem merge_rep {K : PySem.W.Frag} {μ : List Addr} {H : Hp} : ∀ {more : List (Z × Z)} {l : List (Key × V)} {kvs : List (Z × Z)} {l0 : List (Key × V)}, Paired (KR K μ H) more l → Paired (KR K μ H) kvs l0 → Paired (KR K μ H) (more.foldl (fun acc p => dput acc p.1 p.2) kvs) (mergeK l0 l)
  | _, _, _, _, .nil, r0 => r0
  | p :: more, q :: l, kvs, l0, .cons a r, r0 => by
    obtain ⟨k, z⟩ := p
    obtain ⟨k', v⟩ := q
    obtain ⟨e, rz⟩ := a
    cases e
    have := merge_rep (more := more) (l := l) r (pr_put (F := keyZ) (G := RepV K μ H) (fun a b => keyZ_inj) r0 k' rz)
    exact this
theorem ze_disp {pos : Pos} {keys : List (Option Expr)} {values : List Expr} {ws : List (WE × WE)} (hp : ZPP X pos keys values ws) (hall : keys.all (·.isSome) = true := by rfl) (hl : keys.length = values.length := by rfl) (h0 : keys ≠ [] := by exact List.cons_ne_nil _ _) (h15 : keys.length ≤ 15 := by decide) : ZE X (.Dict keys values pos) (wDisp ws) :=
  ⟨fun B E tk => pe_imp (pe_disp (hp.run B E tk) hall hl h0 h15) fun σ H Q ⟨μ, env, h, P, R, q, f⟩ => by
    intro D hD
    have Rb : RelH X.K X.mg μ (upd H D (.dK [])) h := R.heap.tup hD
    have ex : Ext μ H μ (upd H D (.dK [])) := ext_new hD
    have nD : D ∉ μ := fun hm => by
      obtain ⟨n, hn, e⟩ := List.mem_iff_getElem.mp hm
      have hh : n < h.length := by rw [← R.heap.len]; exact hn
      obtain ⟨w, ew, _⟩ := (R.heap.obj n D h[n] (by simp [hn, e]) (by simp [hh])).some
      rw [hD] at ew; cases ew
    refine tz_pairs (H0 := H) (D := D) ws (R.step ex Rb) q fun kvs h' μ' H' ps ⟨l15, lf, p⟩ e1 R1 r1 => ?_
    obtain ⟨eD, nD'⟩ := e1.off D _ upd_same nD
    obtain ⟨l, rfl, rl⟩ := leafs_of lf r1
    refine ⟨eD, l, rfl, by rw [← paired_len rl]; exact l15, ?_⟩
    have e0 : Ext0 μ' H' (μ' ++ [D]) (upd H' D (.dK (mergeK [] l))) := ⟨⟨[D], rfl⟩, fun a xs z => by rw [upd_ne (fun w => by rw [w, eD] at z; cases z)]; exact z, fun a o xs _ z => by rw [upd_ne (fun w => by rw [w, eD] at z; cases z)]; exact z⟩
    have R2 : RelH X.K X.mg (μ' ++ [D]) (upd H' D (.dK (mergeK [] l))) (h' ++ [.dict (kvs.foldl (fun acc p => dput acc p.1 p.2) [])]) := by
      refine ⟨by simp [R1.len], List.nodup_append.mpr ⟨R1.nd, by simp, fun a ha b hb => by simp at hb; subst hb; exact fun z => nD' (z ▸ ha)⟩, fun n a o' z1 z2 => ?_⟩
      by_cases hl : n < μ'.length
      · rw [List.getElem?_append_left hl] at z1
        rw [List.getElem?_append_left (by rw [← R1.len]; exact hl)] at z2
        exact (R1.obj n a o' z1 z2).keep0 e0 (upd_ne fun w => nD' (by rw [← w]; exact List.mem_of_getElem? z1))
      · have e3 : n = μ'.length := by
          have := (List.getElem?_eq_some_iff.mp z1).1
          simp at this; omega
        subst e3
        rw [List.getElem?_append_right (by omega)] at z1
        rw [R1.len, List.getElem?_append_right (by omega)] at z2
        simp at z1 z2
        subst z1 z2
        exact ⟨_, upd_same, .inl ⟨_, rfl, paired_mono (fun p q x => ⟨x.1, x.2.mono0 e0⟩) (merge_rep rl .nil)⟩⟩
    have eF : Ext μ H (μ' ++ [D]) (upd H' D (.dK (mergeK [] l))) := (ex.trans e1).beside hD |>.adopt hD
    refine f _ _ _ _ _ p eF R2 ?_
    unfold RepV
    exact ⟨D, rfl, by rw [← R1.len]; simp⟩⟩
end
/-! the machine -/
section
variable {env : Env} {h : ZH} {P : PZ} {E : EZ} {ws : List (WE × WE)} {wk wv : WE} {PP : List (Z × Z) → ZH → Prop} {k v : Z} {kvs : List (Z × Z)}
@[simp] theorem m_dict0 : wDict0 env h P E = P (.ref h.length) (h ++ [.dict []]) := noRfl rfl
def kP3 (k v : Z) (P : List (Z × Z) → ZH → Prop) : List (Z × Z) → ZH → Prop := fun ps h => P ((k, v) :: ps) h
def kP2 (r : List (WE × WE)) (k : Z) (env : Env) (P : List (Z × Z) → ZH → Prop) (E : EZ) : PZ := fun v h => wPairs r env h (kP3 k v P) E
def kP1 (r : List (WE × WE)) (wv : WE) (env : Env) (P : List (Z × Z) → ZH → Prop) (E : EZ) : PZ := fun k h => wv env h (kP2 r k env P E) E
def kDisp (P : PZ) : List (Z × Z) → ZH → Prop := fun kvs h1 => kvs.length ≤ 15 ∧ (∀ p ∈ kvs, isT p.1 = false ∧ keyOk p.1 = true) ∧ P (.ref h1.length) (h1 ++ [.dict (kvs.foldl (fun acc p => dput acc p.1 p.2) [])])
@[simp] theorem m_disp : wDisp ws env h P E = wPairs ws env h (kDisp P) E := noRfl rfl
@[simp] theorem m_pairs0 : wPairs [] env h PP E = PP [] h := noRfl rfl
@[simp] theorem m_pairs : wPairs ((wk, wv) :: ws) env h PP E = wk env h (kP1 ws wv env PP E) E := noRfl rfl
@[simp] theorem m_kP1 : kP1 ws wv env PP E k h = wv env h (kP2 ws k env PP E) E := noRfl rfl
@[simp] theorem m_kP2 : kP2 ws k env PP E v h = wPairs ws env h (kP3 k v PP) E := noRfl rfl
@[simp] theorem m_kP3 : kP3 k v PP kvs h = PP ((k, v) :: kvs) h := noRfl rfl
@[simp] theorem m_kDisp : kDisp P kvs h = (kvs.length ≤ 15 ∧ (∀ p ∈ kvs, isT p.1 = false ∧ keyOk p.1 = true) ∧ P (.ref h.length) (h ++ [.dict (kvs.foldl (fun acc p => dput acc p.1 p.2) [])])) := noRfl rfl
end
end ZL

namespace ZL
open PySem PySem.Spec PyProof.Rows L2
section
variable {fa : List He.Fa} {fb : List Fb} {fn : List He.DefD} {K : PySem.W.Frag} {mg : Str → Option Value}
theorem Txt.cls (T : Txt fa fb fn K mg) (i : Nat) {x : Str} (h : fa[i]? = some (.cls x) := by rfl) : Cls K (He.ga K x) := He.cls_ok (T.says.d.fact i h)
theorem Txt.noat (T : Txt fa fb fn K mg) (i : Nat) {x f : Str} (h : fa[i]? = some (.noat x f) := by rfl) : NoAttr K (He.ga K x) f := He.noat_ok (T.says.d.fact i h)
theorem Txt.meth (T : Txt fa fb fn K mg) (i : Nat) {x m : Str} (h : fa[i]? = some (.meth x m) := by rfl) : Meth K (He.ga K x) m (He.ma K (He.ga K x) m) := He.meth_ok (T.says.d.fact i h)
theorem Txt.mkr (T : Txt fa fb fn K mg) (i : Nat) {x : Str} (h : fa[i]? = some (.mkr x) := by rfl) : Mk K (He.ga K x) (He.ma K (He.ga K x) "__init__") := He.mkr_ok (T.says.d.fact i h)
theorem fok_nil {f : Str} : FOk K mg [] f := fun c h => by cases h
theorem fok_cons {c f : Str} {C : Addr} {cs : List Str} (g : mg c = some (.ref C)) (cl : Cls K C) (n : NoAttr K C f) (r : FOk K mg cs f) : FOk K mg (c :: cs) f := fun c' hc C' hC => by
  rcases List.mem_cons.mp hc with e | hc
  · subst e
    rw [g] at hC
    cases hC
    exact ⟨cl, n⟩
  · exact r c' hc C' hC
end
section
variable {X : Cx} {c m : Str} {k n : Nat} {wf : WF} {C f : Addr}
theorem mtz (g : X.mg c = some (.ref C)) (cl : Cls X.K C) (hm : Meth X.K C m f) (F : FnZ X.prog X.w X.K X.mg X.base k n wf f) : MtZ X c m k n wf := ⟨C, f, g, cl, hm, F⟩
theorem mkz (g : X.mg c = some (.ref C)) (mk : Mk X.K C f) (F : FnZ X.prog X.w X.K X.mg X.base k n wf f) : MkZ X c k n wf := ⟨C, f, g, mk, F⟩
end
end ZL

namespace ZL
open PySem PySem.Spec PyProof.Rows L2

/-! ### an own exception without own __init__, made of any value -/
section
variable {X : Cx} {C : Addr} {bmB : List Value} {Bs newId initId : String}
theorem pmk_any {x : Str} {e : Expr} {ta : TA} {p pos : Pos} (F : ExcBaseFacts Bs newId initId bmB) (q : PySem.W.excIn X.K C bmB newId = true) (gC : X.mg x = some (.ref C)) (kC : PySem.W.keepIn X.K (.ref C) = true) (r : Raises X (.ref C)) (hg : Gl X x) (ha : PA X [e] ta)
    (hdb : (x == ("__debug__" : Str)) = false := by decide) (he : starEach [e] X.env = (false, eval e X.env) :: starEach [] X.env := by rfl) (hpl : (backTo pos (starEach [] X.env)).any (·.1) = false := by rfl) :
    L2N.PMk X (.Call (.Name x p) [e] [] pos) (fun σ H Q => ta σ H fun vs H1 => vs.length = 1 ∧ Q (.ref C) none H1) := by
  intro pins s σ H Q I h
  refine wpAny_Call_Name_kw (ld_glob I hg gC ?_ hdb)
  refine PySem.W.callWith_K (h₀ := X.base) I.ok.mod.kin kC (thn (ha.run pos pins s σ H _ I h) fun us s1 hh => ?_) he hpl
  obtain ⟨vs, H1, I1, r1, ev, q1⟩ := hh
  refine ⟨I1.kIn, ?_⟩
  have hl : us.length = 1 := by rw [← r1.length]; exact ev
  match us, hl with
  | [u], _ =>
    show wpAny _ _ (call (.ref C) [u]) _ _ _
    obtain ⟨bm, N, nm, qn, bs, hdct, sn, sub, ab, col, dd, k0, k1, k2, k3, k5, mN, hC, hN, hni, T⟩ := exc_obj I1.kIn q
    refine wpAny_call_exc_subT F T hC hN hni (fun h' e hm => ?_) (by show 1 ≤ sizeLine; rw [sizeLine_eq]; omega)
    exact L2N.mk_of I1 hm r q1 (I1.hok.gone hm.new)
end
def wsRaise (c : Str) (w : WA) : WS := fun D env h E => w env h (fun zs h1 => zs.length = 1 ∧ E ⟨c, []⟩ env h1) E
section
variable {X : Cx}
theorem zs_raise {x : Str} {e : Expr} {w : WE} {C : Addr} {p pos pos2 : Pos} (hc : X.calm = true) (fx : PySem.W.excIn X.K C He.veBase "ValueError.__new__" = true ∧ PySem.W.keepIn X.K (.ref C) = true ∧ PySem.W.subIn X.K (.ref C) (.type "BaseException") = some true ∧ PySem.W.typeIn X.K (.ref C) = some (.type "type"))
    (gC : X.mg x = some (.ref C)) (hg : Gl X x) (he : ZE X e w)
    (hdb : (x == ("__debug__" : Str)) = false := by decide) (hs : starEach [e] X.env = (false, eval e X.env) :: starEach [] X.env := by rfl) (hpl : (backTo pos (starEach [] X.env)).any (·.1) = false := by rfl) (hs1 : starEach [e] X.env = [(false, eval e X.env)] := by rfl) :
    ZS X (.Raise (some (.Call (.Name x p) [e] [] pos)) none pos2) (wsRaise x (w1 w)) :=
  ⟨fun B E tk => ps_imp (L2N.ps_raise hc tk (pmk_any F.excBase_ValueError fx.1 gC fx.2.1 (raises_own fx.2.2.1 fx.2.2.2) hg ((za1 he hs1).run B E tk) hdb hs hpl)) fun D' σ H ⟨μ, env, h, D, R, q, d⟩ =>
    ⟨μ, env, h, _, R, q, fun zs h1 μ1 H1 vs p1 e1 R1 r1 => ⟨by rw [← r1.length]; exact p1.1, ⟨x, []⟩, μ1, env, h1, R.step e1 R1, ⟨C, gC, rfl, .inl ⟨rfl, rfl⟩⟩, NewX.none, p1.2⟩⟩⟩
end

/-! ### try: body, except C (as n): suite -/
/-- classes and whether the clause names them -/
abbrev Tab := List (Str × Bool)
def ExT (K : PySem.W.Frag) (mg : Str → Option Value) (t : Tab) (c : Value) : Prop := ∀ cls b C, t.lookup cls = some b → mg cls = some (.ref C) → PySem.W.exmOne K (.ref C) c = some b
theorem ext_nil {K : PySem.W.Frag} {mg : Str → Option Value} {c : Value} : ExT K mg [] c := fun cls b C h => by cases h
theorem ext_cons {K : PySem.W.Frag} {mg : Str → Option Value} {c : Value} {x : Str} {b : Bool} {C : Addr} {t : Tab} (g : mg x = some (.ref C)) (e : PySem.W.exmOne K (.ref C) c = some b) (r : ExT K mg t c) : ExT K mg ((x, b) :: t) c := fun cls b' C' h m => by
  rw [List.lookup_cons] at h
  by_cases q : cls = x
  · subst q
    simp at h
    subst h
    rw [g] at m
    cases m
    exact e
  · have : (cls == x) = false := by simpa using q
    rw [this] at h
    exact r cls b' C' h m
def clr (i : Option Nat) (env : Env) : Env := match i with
  | some i => env.set i none
  | none => env
def hold (i : Option Nat) (a : Addr) (env : Env) : Env := match i with
  | some i => env.set i (some (.err a))
  | none => env
def asD (i : Option Nat) (D : ZEnds) : ZEnds := ⟨fun env h => D.nx (clr i env) h, D.rt, fun env h => D.bk (clr i env) h, fun env h => D.ct (clr i env) h⟩
/-- the heap of a suite: the caught error's fields lie at its end -/
def exh (dd : Addr) (x : XZ) (h : ZH) : ZH := if x.fs = [] then h else h ++ [.exd dd x.fs]
def exd' (dd : Addr) (x : XZ) : Option Addr := if x.fs = [] then none else some dd
def asE (t : Tab) (ws : Addr → Option Addr → XZ → WS) (i : Option Nat) (D : ZEnds) (E : EZ) : EZ := fun x env h => ∃ b, t.lookup x.cls = some b ∧ (b = true → ∀ a dd, ws a (exd' dd x) x (asD i D) (hold i a env) (exh dd x h) E0) ∧ (b = false → E x env h)
/-- an object that stands is taken in -/
theorem RelH.takeIn {K : PySem.W.Frag} {mg : Str → Option Value} {μ : List Addr} {H : Hp} {h : ZH} (R : RelH K mg μ H h) {dd : Addr} {o : ZO} (hd : dd ∉ μ) (ho : RelO K mg (μ ++ [dd]) H o dd) : Ext0 μ H (μ ++ [dd]) H ∧ RelH K mg (μ ++ [dd]) H (h ++ [o]) := by
  have x0 : Ext0 μ H (μ ++ [dd]) H := ⟨⟨[dd], rfl⟩, fun _ _ e => e, fun _ _ _ _ e => e⟩
  refine ⟨x0, ⟨by simp [R.len], List.nodup_append.mpr ⟨R.nd, by simp, fun a ha b hb => by simp at hb; subst hb; exact fun z => hd (z ▸ ha)⟩, fun n a o2 e1 e2 => ?_⟩⟩
  by_cases hn : n < μ.length
  · rw [List.getElem?_append_left hn] at e1
    rw [List.getElem?_append_left (by rw [← R.len]; exact hn)] at e2
    exact (R.obj n a o2 e1 e2).keep0 x0 rfl
  · have e3 : n = μ.length := by
      have := (List.getElem?_eq_some_iff.mp e1).1
      simp at this; omega
    subst e3
    rw [List.getElem?_append_right (by omega)] at e1
    rw [R.len, List.getElem?_append_right (by omega)] at e2
    simp at e1 e2
    subst e1 e2
    exact ho
/-- the state of a suite, and the way back -/
theorem suite_in {K : PySem.W.Frag} {mg : Str → Option Value} {B : List Addr × Hp} {μ : List Addr} {env : Env} {h : ZH} {σ : L2.St} {H : Hp} {x : XZ} {c : Value} {d : Option Addr} (R : Rel K mg B μ env h σ H) (rx : RelX K mg μ H x c d) (nx : NewX B d) :
    ∃ (dd : Addr) (B2 : List Addr × Hp) (μ2 : List Addr), d = exd' dd x ∧ Rel K mg B2 μ2 env (exh dd x h) σ H ∧ Ext B.1 B.2 B2.1 B2.2 := by
  obtain ⟨C, g, e, r⟩ := rx
  rcases r with ⟨hf, hd⟩ | ⟨dd, vs, hf, hd, hx, hm, p⟩
  · exact ⟨0, B, μ, by unfold exd'; rw [if_pos hf, hd], by unfold exh; rw [if_pos hf]; exact R, Ext.refl _ _⟩
  · obtain ⟨n1, n2⟩ := nx dd hd
    have x0 : Ext0 μ H (μ ++ [dd]) H := ⟨⟨[dd], rfl⟩, fun _ _ e => e, fun _ _ _ _ e => e⟩
    obtain ⟨_, R2⟩ := R.heap.takeIn (o := .exd dd x.fs) hm ⟨rfl, vs, hx, paired_mono (fun p q y => ⟨y.1, y.2.mono0 x0⟩) p⟩
    refine ⟨dd, (μ ++ [dd], H), μ ++ [dd], by unfold exd'; rw [if_neg hf, hd], ?_, ?_⟩
    · unfold exh
      rw [if_neg hf]
      exact ⟨Ext.refl _ _, R2, R.len, fun i z q => let ⟨v, e1, e2⟩ := R.env i z q; ⟨v, e1, e2.mono0 x0⟩⟩
    · have e := R.ext
      refine ⟨⟨?_, e.tup, e.frz⟩, fun a o q m => ?_, e.lck⟩
      · obtain ⟨more, q⟩ := e.pre
        exact ⟨more ++ [dd], by show μ ++ [dd] = _; rw [q, List.append_assoc]⟩
      · obtain ⟨a1, a2⟩ := e.off a o q m
        refine ⟨a1, fun m2 => ?_⟩
        rcases List.mem_append.mp m2 with m2 | m2
        · exact a2 m2
        · rw [List.mem_singleton.mp m2, n2] at q
          cases q
def wsTry (t : Tab) (wb : WS) (ws : Addr → Option Addr → XZ → WS) (i : Option Nat) : WS := fun D env h E => wb D env h (asE t ws i D E)
section
variable {X : Cx}
theorem Rel.wipe1 {K : PySem.W.Frag} {mg : Str → Option Value} {B : List Addr × Hp} {μ : List Addr} {env : Env} {h : ZH} {σ : L2.St} {H : Hp} (R : Rel K mg B μ env h σ H) (i : Nat) : Rel K mg B μ (env.set i none) h (σ.set i none) H :=
  ⟨R.ext, R.heap, by simp [R.len], fun j z q => by
    by_cases hj : i = j
    · subst hj
      by_cases hl : i < env.length
      · rw [List.getElem?_set_self hl] at q; cases q
      · rw [List.getElem?_eq_none (by simpa using hl)] at q; cases q
    · rw [List.getElem?_set_ne hj] at q ⊢
      exact R.env j z q⟩
/-- what a suite knows of the exception at a -/
def SuiteOk (X : Cx) (b₀ : Stmt) (suite : List Stmt) (ws : Addr → Option Addr → XZ → WS) : Prop := ∀ (a : Addr) (oe : Obj) (C : Addr) (d : Option Addr) (pn : List (Addr × Obj)) (x : XZ), X.mg x.cls = some (.ref C) → L2N.Zn (.ref C) d oe → (∃ vs, oe.data = .fields vs) → (x.fs = [] → d = none) → ZSs (X.suite a ((a, oe) :: pn)) (b₀ :: suite) (ws a d x)
/-- what the body stands in -/
def BodyOk (X : Cx) (body : List Stmt) (wb : WS) : Prop := ∀ (pn : List (Addr × Obj)) (xe : Value → Shared → Prop), PassesOwn (model X.prog X.w) X.A X.env xe → ZSs (X.tr pn xe) body wb
def tSuite (K : PySem.W.Frag) (mg : Str → Option Value) (ws : Addr → Option Addr → XZ → WS) : Addr → Value → Option Addr → TS := fun a cls d D' σ H => ∃ (B' : List Addr × Hp) (x : XZ) (C : Addr), mg x.cls = some (.ref C) ∧ cls = .ref C ∧ (x.fs = [] → d = none) ∧ TZs K mg B' (ws a d x) E0 D' σ H
def tBody (K : PySem.W.Frag) (mg : Str → Option Value) (wb : WS) (W : WX) : TS := fun D σ H => ∃ (B' : List Addr × Hp) (E' : EZ), (∀ c d σ H, WZ K mg B' E' c d σ H → W c d σ H) ∧ TZs K mg B' wb E' D σ H
theorem body_run {body : List Stmt} {wb : WS} (hb : BodyOk X body wb) (W : WX) (pn : List (Addr × Obj)) (xe : Value → Shared → Prop) (tk : L2N.Takes (X.tr pn xe) W) (hp : PassesOwn (model X.prog X.w) X.A X.env xe) : PSs (X.tr pn xe) body (tBody X.K X.mg wb W) :=
  ⟨fun pins s σ H D I ⟨B', E', hW, q⟩ => ((hb pn xe hp).run B' E' (L2N.Takes.imp tk hW)).run pins s σ H D I q⟩
theorem suite_run {b₀ : Stmt} {suite : List Stmt} {ws : Addr → Option Addr → XZ → WS} (hs : SuiteOk X b₀ suite ws) (a : Addr) (oe : Obj) (cls : Value) (d : Option Addr) (pn : List (Addr × Obj)) (hz : L2N.Zn cls d oe) (hf : ∃ vs, oe.data = .fields vs) : PSs (X.suite a ((a, oe) :: pn)) (b₀ :: suite) (tSuite X.K X.mg ws a cls d) :=
  ⟨fun pins s σ H D I ⟨B', x, C, g, e, hd, q⟩ => by
    subst e
    exact ((hs a oe C d pn x g hz hf hd).run B' E0 takes0).run pins s σ H D I q⟩
theorem rep_err {K : PySem.W.Frag} {μ : List Addr} {H : Hp} {a : Addr} : RepV K μ H (.err a) (.ref a) := by unfold RepV; rfl
theorem relx_none {K : PySem.W.Frag} {mg : Str → Option Value} {μ : List Addr} {H : Hp} {x : XZ} {c : Value} {d : Option Addr} (r : RelX K mg μ H x c d) : ∃ C, mg x.cls = some (.ref C) ∧ c = .ref C ∧ (x.fs = [] → d = none) := by
  obtain ⟨C, g, e, r⟩ := r
  refine ⟨C, g, e, fun h => ?_⟩
  rcases r with ⟨_, r⟩ | ⟨_, _, n, _⟩
  · exact r
  · exact absurd h n
theorem zs_try_as {x n : Str} {c : Value} {i : Nat} {body suite : List Stmt} {b₀ : Stmt} {np pos pos' : Pos} {t : Tab} {wb : WS} {ws : Addr → Option Addr → XZ → WS} (ht : ExT X.K X.mg t c) (hN : X.N.Nodup) (hi : X.N[i]? = some n) (hln : X.env.kindOf n = some .local) (hc : Names X x c) (hb : BodyOk X body wb) (hsu : SuiteOk X b₀ suite ws)
    (hs : X.stack = X.env :: X.outer := by rfl) (hf : X.env.frame = some X.env.locals := by rfl) : ZS X (.Try body [.ExceptHandler (some (.Name x np)) (some n) (b₀ :: suite) pos'] [] [] pos) (wsTry t wb ws (some i)) :=
  ⟨fun B E tk => ps_imp (L2N.ps_try_as (tb := tBody X.K X.mg wb) (ts := tSuite X.K X.mg ws) (Wout := WZ X.K X.mg B E) hs hf hN hi hln hc tk (body_run hb) (suite_run hsu)) fun D' σ H ⟨μ, env, h, D, R, q, d⟩ =>
    ⟨B, asE t ws (some i) D E, fun cls dd σ1 H1 ⟨z, μ1, env1, h1, R1, rx, nx, b, e1, hy, hn⟩ => by
      obtain ⟨C, g, rfl, hd⟩ := relx_none rx
      refine ⟨b, ht _ _ _ e1 g, fun hb a ha => ?_, fun hb => ⟨z, μ1, env1, h1, R1, rx, nx, hn hb⟩⟩
      obtain ⟨d0, B2, μ2, ed, R2, eB⟩ := suite_in R1 rx nx
      rw [ed]
      refine ⟨B2, z, C, g, rfl, by rw [← ed]; exact hd, μ2, _, _, _, R2.put (rep_err (a := a)) i, hy hb a d0, ?_⟩
      exact ⟨fun μ2 env2 h2 σ2 H2 R2 q2 => d.nx _ _ _ _ _ ((R2.rebase eB).wipe1 i) q2, fun μ2 env2 h2 σ2 H2 R2 q2 => d.bk _ _ _ _ _ ((R2.rebase eB).wipe1 i) q2, fun μ2 env2 h2 σ2 H2 R2 q2 => d.ct _ _ _ _ _ ((R2.rebase eB).wipe1 i) q2, fun μ2 z2 h2 v2 H2 x2 R2 r2 q2 => d.rt _ _ _ _ _ (eB.trans x2) R2 r2 q2⟩,
    μ, env, h, D, R, q, d⟩⟩
/-! isinstance of the caught one -/
def KtT (K : PySem.W.Frag) (mg : Str → Option Value) (t : Tab) (c : Value) : Prop := ∀ cls b C, t.lookup cls = some b → mg cls = some (.ref C) → ExcC K C ∧ PySem.W.kitOne K (.ref C) c = some b
theorem ktt_nil {K : PySem.W.Frag} {mg : Str → Option Value} {c : Value} : KtT K mg [] c := fun cls b C h => by cases h
theorem ktt_cons {K : PySem.W.Frag} {mg : Str → Option Value} {c : Value} {x : Str} {b : Bool} {C : Addr} {t : Tab} (g : mg x = some (.ref C)) (ec : ExcC K C) (e : PySem.W.kitOne K (.ref C) c = some b) (r : KtT K mg t c) : KtT K mg ((x, b) :: t) c := fun cls b' C' h m => by
  rw [List.lookup_cons] at h
  by_cases q : cls = x
  · subst q
    simp at h
    subst h
    rw [g] at m
    cases m
    exact ⟨ec, e⟩
  · have : (cls == x) = false := by simpa using q
    rw [this] at h
    exact r cls b' C' h m
def wIsE (a : Addr) (x : XZ) (t : Tab) (w : WE) : WE := fun env h P E => w env h (fun z h1 => x.fs = [] ∧ z = .err a ∧ ∃ b, t.lookup x.cls = some b ∧ P (.bl b) h1) E
theorem call_isD {a C : Addr} {oe : Obj} {d : Option Addr} {pn : List (Addr × Obj)} (hz : Zc (.ref C) d oe) (hf : ∃ vs, oe.data = .fields vs) : CallR (X.suite a ((a, oe) :: pn)) (.builtin "isinstance") (fun xs H Q => d = none ∧ ExcC X.K C ∧ rIsE X.K C a xs H Q) := by
  intro pins s σ H xs us Q I r h
  obtain ⟨rfl, ec, h⟩ := h
  exact call_isE ec hz hf pins s σ H xs us Q I r h
theorem ze_isE {a C : Addr} {oe : Obj} {d : Option Addr} {pn : List (Addr × Obj)} {x : XZ} {t : Tab} {c : V} {cv : Value} {e ce : Expr} {w : WE} {p pos : Pos} (ht : KtT X.K X.mg t cv) (g : X.mg x.cls = some (.ref C)) (hz : Zc (.ref C) d oe) (hf : ∃ vs, oe.data = .fields vs) (hd : x.fs = [] → d = none)
    (hcv : ∀ u, RelV c u → u = cv) (hg : Gl (X.suite a ((a, oe) :: pn)) "isinstance") (hm : X.mg "isinstance" = none) (he : ZE (X.suite a ((a, oe) :: pn)) e w) (hce : PE (X.suite a ((a, oe) :: pn)) ce (tC c))
    (hs : starEach [e, ce] X.env = (false, eval e X.env) :: starEach [ce] X.env := by rfl) (hpl : (backTo pos (starEach [ce] X.env)).any (·.1) = false := by rfl) (hs2 : starEach [ce] X.env = [(false, eval ce X.env)] := by rfl) :
    ZE (X.suite a ((a, oe) :: pn)) (.Call (.Name "isinstance" p) [e, ce] [] pos) (wIsE a x t w) :=
  ⟨fun B E tk => pe_imp (pe_callB (X := X.suite a ((a, oe) :: pn)) (x := "isinstance") (id := "isinstance") (call_isD hz hf) hg hm rfl (pa_cons (he.run B E tk) (pa_cons hce pa_nil hs2) hs) (by decide) (by decide) hs hpl) fun σ H Q ⟨μ, env, h, P, R, q, f⟩ =>
    ⟨μ, env, h, _, R, q, fun z h1 μ1 H1 v p1 e1 R1 r1 => by
      obtain ⟨hn, rfl, b, hb, p1⟩ := p1
      unfold RepV at r1
      subst r1
      obtain ⟨ec, ek⟩ := ht _ _ _ hb g
      exact ⟨hd hn, ec, c, cv, b, rfl, hcv, ek, f _ _ _ _ _ p1 e1 R1 rep_bl⟩⟩⟩
end
/-! facts, the machine -/
section
variable {fa : List He.Fa} {fb : List Fb} {fn : List He.DefD} {K : PySem.W.Frag} {mg : Str → Option Value}
theorem Txt.exc (T : Txt fa fb fn K mg) (i : Nat) {x : Str} (h : fa[i]? = some (.exc x) := by rfl) : PySem.W.excIn K (He.ga K x) He.veBase "ValueError.__new__" = true ∧ PySem.W.keepIn K (.ref (He.ga K x)) = true ∧ PySem.W.subIn K (.ref (He.ga K x)) (.type "BaseException") = some true ∧ PySem.W.typeIn K (.ref (He.ga K x)) = some (.type "type") := He.exc_ok (T.says.d.fact i h)
theorem Txt.exm (T : Txt fa fb fn K mg) (i : Nat) {x y : Str} {b : Bool} (h : fa[i]? = some (.exm x y b) := by rfl) : PySem.W.exmOne K (.ref (He.ga K x)) (.ref (He.ga K y)) = some b := He.exm_ok (T.says.d.fact i h)
theorem clsFact_ok {C : Addr} (c : clsFact K C = true) : PySem.W.findIn K (.ref C) "__class__" = some (some (.builtin "object.__class__")) ∧ PySem.W.specialIn K (.builtin "object.__class__") "__get__" = some (some (.builtin "getset_descriptor.__get__")) ∧
    PySem.W.takesIn K (.builtin "object.__class__") = some true ∧ PySem.W.mroIn K C (.type "object") = some true := by
  unfold clsFact at c
  obtain ⟨c1, c⟩ := He.ba c
  obtain ⟨c2, c⟩ := He.ba c
  obtain ⟨c3, c4⟩ := He.ba c
  exact ⟨He.eqO_ok c1, of_decide_eq_true c2, of_decide_eq_true c3, of_decide_eq_true c4⟩
theorem Txt.ecx (T : Txt fa fb fn K mg) (i : Nat) {x : Str} (h : fb[i]? = some (.ecx x) := by rfl) : ExcC K (He.ga K x) := by
  have c : (clsFact K (He.ga K x) && (He.eqO (PySem.W.findIn K (.ref (He.ga K x)) "__getattribute__") (some (some (.builtin "BaseException.__getattribute__"))) && (He.eqO (PySem.W.findIn K (.ref (He.ga K x)) "__getattr__") (some none) &&
      (decide (PySem.W.subIn K (.ref (He.ga K x)) (.type "BaseException") = some true) && PySem.W.hasDictIn K (He.ga K x))))) = true := T.says.more i h
  obtain ⟨c1, c⟩ := He.ba c
  obtain ⟨c2, c⟩ := He.ba c
  obtain ⟨c3, c⟩ := He.ba c
  obtain ⟨c4, c5⟩ := He.ba c
  obtain ⟨a1, a2, a3, a4⟩ := clsFact_ok c1
  exact ⟨He.eqO_ok c2, He.eqO_ok c3, of_decide_eq_true c4, c5, a1, a2, a3, a4⟩
theorem Txt.kit (T : Txt fa fb fn K mg) (i : Nat) {x y : Str} {b : Bool} (h : fb[i]? = some (.kit x y b) := by rfl) : PySem.W.kitOne K (.ref (He.ga K x)) (.ref (He.ga K y)) = some b := of_decide_eq_true (T.says.more i h)
theorem Txt.isn (T : Txt fa fb fn K mg) (i : Nat) {x : Str} {t : String} {b : Bool} (h : fb[i]? = some (.isn x t b) := by rfl) : PySem.W.kitOne K (.ref (He.ga K x)) (.type t) = some b := of_decide_eq_true (T.says.more i h)
theorem Txt.own (T : Txt fa fb fn K mg) (i : Nat) {x : Str} (h : fb[i]? = some (.own x) := by rfl) : PySem.W.findIn K (.ref (He.ga K x)) "__class__" = some (some (.builtin "object.__class__")) ∧ PySem.W.specialIn K (.builtin "object.__class__") "__get__" = some (some (.builtin "getset_descriptor.__get__")) ∧
    PySem.W.takesIn K (.builtin "object.__class__") = some true ∧ PySem.W.mroIn K (He.ga K x) (.type "object") = some true := clsFact_ok (K := K) (C := He.ga K x) (T.says.more i h)
theorem noT_cons {T : String} {c : Str} {C : Addr} {cs : List Str} (g : mg c = some (.ref C)) (cl : Cls K C) (o : PySem.W.findIn K (.ref C) "__class__" = some (some (.builtin "object.__class__")) ∧ PySem.W.specialIn K (.builtin "object.__class__") "__get__" = some (some (.builtin "getset_descriptor.__get__")) ∧
    PySem.W.takesIn K (.builtin "object.__class__") = some true ∧ PySem.W.mroIn K C (.type "object") = some true) (k : PySem.W.kitOne K (.ref C) (.type T) = some false) (r : NoT K mg cs T) : NoT K mg (c :: cs) T := fun c' hc C' hC => by
  rcases List.mem_cons.mp hc with e | hc
  · subst e
    rw [g] at hC
    cases hC
    exact ⟨cl, o.1, o.2.1, o.2.2.1, o.2.2.2, k⟩
  · exact r c' hc C' hC
end
section
variable {env : Env} {h : ZH} {P : PZ} {E : EZ} {D : ZEnds} {z : Z} {zs : List Z} {w : WE} {r : WA} {c : Str} {a : Addr} {x : XZ} {t : Tab} {wb : WS} {ws : Addr → Option Addr → XZ → WS} {i : Option Nat}
def kRaise (c : Str) (env : Env) (E : EZ) : List Z → ZH → Prop := fun zs h => zs.length = 1 ∧ E ⟨c, []⟩ env h
@[simp] theorem m_raise : wsRaise c r D env h E = r env h (kRaise c env E) E := noRfl rfl
@[simp] theorem m_kRaise : kRaise c env E zs h = (zs.length = 1 ∧ E ⟨c, []⟩ env h) := noRfl rfl
def kIsE (a : Addr) (x : XZ) (t : Tab) (P : PZ) : PZ := fun z h1 => x.fs = [] ∧ z = .err a ∧ ∃ b, t.lookup x.cls = some b ∧ P (.bl b) h1
@[simp] theorem m_isE : wIsE a x t w env h P E = w env h (kIsE a x t P) E := noRfl rfl
@[simp] theorem m_kIsE : kIsE a x t P z h = (x.fs = [] ∧ z = .err a ∧ ∃ b, t.lookup x.cls = some b ∧ P (.bl b) h) := noRfl rfl
@[simp] theorem m_try : wsTry t wb ws i D env h E = wb D env h (asE t ws i D E) := noRfl rfl
@[simp] theorem m_asE : asE t ws i D E x env h = ∃ b, t.lookup x.cls = some b ∧ (b = true → ∀ a dd, ws a (exd' dd x) x (asD i D) (hold i a env) (exh dd x h) E0) ∧ (b = false → E x env h) := noRfl rfl
@[simp] theorem m_exh0 {dd : Addr} {c : Str} : exh dd ⟨c, []⟩ h = h := noRfl rfl
@[simp] theorem m_exh1 {dd : Addr} {c : Str} {p : Str × Z} {fs : List (Str × Z)} : exh dd ⟨c, p :: fs⟩ h = h ++ [.exd dd (p :: fs)] := noRfl rfl
@[simp] theorem m_exd0 {dd : Addr} {c : Str} : exd' dd ⟨c, []⟩ = none := noRfl rfl
@[simp] theorem m_exd1 {dd : Addr} {c : Str} {p : Str × Z} {fs : List (Str × Z)} : exd' dd ⟨c, p :: fs⟩ = some dd := noRfl rfl
@[simp] theorem m_hold {i : Nat} : hold (some i) a env = env.set i (some (.err a)) := noRfl rfl
@[simp] theorem m_hold0 : hold none a env = env := noRfl rfl
@[simp] theorem m_clr {i : Nat} : clr (some i) env = env.set i none := noRfl rfl
@[simp] theorem m_clr0 : clr none env = env := noRfl rfl
end
end ZL

namespace ZL
open PySem PySem.Spec PyProof.Rows L2
section
variable {X : Cx}
/-- o[i], of a list, a dict -/
theorem get_l : PGet X (fun x y H Q => ∃ p xs i v, x = .ref p ∧ y = .int i ∧ SqL X.K H p xs ∧ L2.atI xs i = some v ∧ Q v H) := by
  intro pins s σ H x y v u Q I rx ry h
  obtain ⟨p, xs, i, z, rfl, rfl, hq, he, q⟩ := h
  cases rx
  obtain ⟨t, rfl⟩ := ry
  obtain ⟨its, r, pl, hz⟩ := I.list hq
  obtain ⟨j, h1, h2, h3, h4, h5⟩ := L2.atI_get he
  obtain ⟨w, ew, rw'⟩ := r.get h2
  have hl := r.length
  have hn := line63
  have fin : EP X pins σ Q w s := ⟨z, H, I, rw', q⟩
  by_cases h0 : 0 ≤ i
  · have hj : i.toNat = j := by
      rw [seqIndex_of h0 h5] at h1
      exact Option.some.inj h1
    exact wpAny_getItem_list pl.isList h0 (by omega) (by rw [hj]; simpa using ew) fin
  · have hj : (i + (its.toArray.size : Int)).toNat = j := by
      rw [seqIndex_neg (by omega) h4] at h1
      rw [List.size_toArray, ← hl]
      exact Option.some.inj h1
    exact wpAny_getItem_list_neg pl.isList (by omega) (by rw [List.size_toArray] <;> omega) (by omega) (by rw [hj]; simpa using ew) fin
theorem get_d (hu : X.A.units + 1 < cLine) : PGet X (fun x y H Q => ∃ a v, x = .ref a ∧ DGet H a y (some v) ∧ Q v H) := by
  intro pins s σ H x y v u Q I rx ry h
  obtain ⟨a, z, rfl, g, q⟩ := h
  cases rx
  exact d_getItem hu I g ry fun w' s' I' rw' => ⟨z, H, I', rw', q⟩
def tGetZ (X : Cx) : V → V → Hp → VK → Prop := fun x y H Q => (∃ p xs i v, x = .ref p ∧ y = .int i ∧ SqL X.K H p xs ∧ L2.atI xs i = some v ∧ Q v H) ∨ ∃ a v, x = .ref a ∧ DGet H a y (some v) ∧ Q v H
theorem get_z' (hu : X.A.units + 1 < cLine) : PGet X (tGetZ X) := by
  intro pins s σ H o i ov iv Q I ro ri h
  rcases h with h | h
  · exact get_l pins s σ H o i ov iv Q I ro ri h
  · exact get_d hu pins s σ H o i ov iv Q I ro ri h
/-- o[i] of a list, a dict of ours -/
def ixR (a i : Z) (h : ZH) (P : Z → Prop) : Prop := match a with
  | .ref n => (match h[n]? with
    | some (.lst zs) => (match i with
      | .int k => ∃ z, L2.atI zs k = some z ∧ P z
      | _ => False)
    | some (.dict kvs) => dkey kvs i ∧ ∃ z, dget kvs i = some z ∧ P z
    | _ => False)
  | _ => False
theorem get_of {μ : List Addr} {H : Hp} {h : ZH} {a i : Z} {x y : V} {P : Z → Prop} {Q : VK} (R : RelH X.K X.mg μ H h) (ra : RepV X.K μ H a x) (ri : RepV X.K μ H i y) (p : ixR a i h P) (f : ∀ z v, P z → RepV X.K μ H z v → Q v H) : tGetZ X x y H Q := by
  unfold ixR at p
  split at p
  · split at p
    · rename_i zs e
      split at p
      · obtain ⟨p', vs, rfl, _, hp, r⟩ := of_lst R e ra
        cases of_int ri
        obtain ⟨z, ez, p3⟩ := p
        obtain ⟨v, ev, rv⟩ := r.atI ez
        exact .inl ⟨p', vs, _, v, rfl, rfl, SqL.of hp, ev, f z v p3 rv⟩
      · exact p.elim
    · rename_i kvs e
      obtain ⟨ok, z, ez, p3⟩ := p
      obtain ⟨p', ho, rfl, _, hp, dd⟩ := dict_of R e ra
      obtain ⟨qv, g, r⟩ := dict_at hp dd ok ri
      rw [ez] at r
      obtain ⟨v, rfl, rv⟩ := optR_some r
      exact .inr ⟨p', v, rfl, dg_some g, f z v p3 rv⟩
    · exact p.elim
  · exact p.elim
/-- o[i] op= e -/
def wsAugS (o : Z2) (wo wi we : WE) : WS := fun D env h E => wo env h (fun a h1 => wi env h1 (fun i h2 => ixR a i h2 fun x => we env h2 (fun y h4 => o x y h4 fun z h5 => oSet a i z h5 fun h6 => D.nx env h6) E) E) E
theorem zs_augS {op : Operator} {o : Z2} {a i e : Expr} {wo wi we : WE} {tpos pos : Pos} (hu : X.A.units + 1 < cLine) (hop : AugZ X op o) (ha : ZE X a wo) (hi : ZE X i wi) (he : ZE X e we)
    (hs : ∀ ov iv new, augStore i ov iv new = (do holding [new, ov, iv] (setItem ov iv new); release [new, ov, iv] []; pure .next) := by intros; rfl) : ZS X (.AugAssign (.Subscript a i tpos) op e pos) (wsAugS o wo wi we) :=
  let ⟨_, h1, h2⟩ := hop
  ⟨fun B E tk => ps_imp (ps_augS (ha.run B E tk) (hi.run B E tk) (get_z' hu) (he.run B E tk) h1 (pset_or set_list (set_dict hu)) hs) fun D' σ H ⟨μ, env, h, D, R, q, d⟩ =>
    ⟨μ, env, h, _, R, q, fun z1 g1 μ1 H1 x1 p1 e1 R1 r1 => ⟨μ1, env, g1, _, R.step e1 R1, p1, fun z2 g2 μ2 H2 x2 p2 e2 R2 r2 => by
      have q1 := r1.mono e2
      have RR := (R.step e1 R1).step e2 R2
      refine get_of R2 q1 r2 p2 fun z v p3 rv => ?_
      exact ⟨μ2, env, g2, _, RR, p3, fun w g4 μ4 H4 x4 p4 e4 R4 r4 => h2 μ4 H4 g4 z w v x4 _ _ R4 (rv.mono e4) r4 p4 fun y g5 μ5 H5 x5 p5 e5 R5 r5 =>
          set_z R5 ((q1.mono e4).mono e5) ((r2.mono e4).mono e5) r5 p5 fun h' H' p ex R6 => d.nx _ _ _ _ _ (((RR.step e4 R4).step e5 R5).step ex R6) p⟩⟩⟩⟩
end
/-! the machine -/
section
variable {env : Env} {h : ZH} {P : Z → Prop} {PZ' : PZ} {PS : Env → ZH → Prop} {E : EZ} {D : ZEnds} {a i x y z : Z} {wo wi we : WE} {o : Z2} {n : Nat}
def kAS4 (a i : Z) (P : Env → ZH → Prop) (env : Env) : PZ := fun z h => oSet a i z h (kEnv P env)
def kAS3 (o : Z2) (a i x : Z) (P : Env → ZH → Prop) (env : Env) : PZ := fun y h => o x y h (kAS4 a i P env)
def kAS2 (o : Z2) (a : Z) (we : WE) (P : Env → ZH → Prop) (env : Env) (E : EZ) : PZ := fun i h => ixR a i h fun x => we env h (kAS3 o a i x P env) E
def kAS1 (o : Z2) (wi we : WE) (P : Env → ZH → Prop) (env : Env) (E : EZ) : PZ := fun a h => wi env h (kAS2 o a we P env E) E
@[simp] theorem m_augS : wsAugS o wo wi we D env h E = wo env h (kAS1 o wi we D.nx env E) E := noRfl rfl
@[simp] theorem m_kAS1 : kAS1 o wi we PS env E a h = wi env h (kAS2 o a we PS env E) E := noRfl rfl
@[simp] theorem m_kAS2 : kAS2 o a we PS env E i h = ixR a i h fun x => we env h (kAS3 o a i x PS env) E := noRfl rfl
@[simp] theorem m_kAS3 : kAS3 o a i x PS env y h = o x y h (kAS4 a i PS env) := noRfl rfl
@[simp] theorem m_kAS4 : kAS4 a i PS env z h = oSet a i z h (kEnv PS env) := noRfl rfl
@[simp] theorem m_ixR : ixR (.ref n) i h P = (match h[n]? with
    | some (.lst zs) => (match i with
      | .int k => ∃ z, L2.atI zs k = some z ∧ P z
      | _ => False)
    | some (.dict kvs) => dkey kvs i ∧ ∃ z, dget kvs i = some z ∧ P z
    | _ => False) := noRfl rfl
@[simp] theorem m_oSet {Q : ZH → Prop} : oSet (.ref n) i z h Q = (match h[n]? with
    | some (.lst zs) => (match i with
      | .int k => ∃ j, ixN zs.length k = some j ∧ Q (h.set n (.lst (zs.set j z)))
      | _ => False)
    | some (.dict kvs) => dkey kvs i ∧ kvs.length < sizeLine ∧ Q (h.set n (.dict (dput kvs i z)))
    | _ => False) := noRfl rfl
@[simp] theorem m_iadd {i j : Int} : oIadd (.int i) (.int j) h PZ' = PZ' (.int (i + j)) h := noRfl rfl
@[simp] theorem m_iaddS {i j : Str} : oIadd (.str i) (.str j) h PZ' = (i.length + j.length ≤ sizeLine ∧ PZ' (.str (i ++ j)) h) := noRfl rfl
end
end ZL

namespace ZL
open PySem PySem.Spec PyProof.Rows L2
/-! ### a tuple of strings of the module, asked for what is in it -/
section
variable {X : Cx} {B : Env → Prop} {a : Expr} {wa : WE} {pos p2 : Pos} {x : Str} {ss : List Str}
theorem dps {K : PySem.W.Frag} {H : Hp} : ∀ ss : List Str, DpAll K H (ss.map V.str) ((ss.map Z.str).map Z.toD)
  | [] => .nil
  | s :: ss => .cons (.str s) (dps ss)
theorem tupc_dp {K : PySem.W.Frag} (h : He.tupB K x (ss.map He.Dv.str) = true) (H : Hp) : Dp K H (.ref (He.ga K x)) (.tuple ((ss.map Z.str).map Z.toD)) := by
  refine .tup (He.tupB_ok h H) ?_
  rw [List.map_map]
  exact dps ss
theorem zt_inG (hu : X.A.units + 65 < cLine) (hm : X.mg x = some (.ref (He.ga X.K x))) (hf : He.tupB X.K x (ss.map He.Dv.str) = true) (ha : ZE X a wa) (hg : Gl X x := by rfl) (hd : (x == ("__debug__" : Str)) = false := by decide) (hb : behindInMarks .In (.Name x p2) = false := by rfl) :
    ZT X (.Compare a [.In] [.Name x p2] pos) (wB (w2 oIn wa (wC (.tup (ss.map Z.str))))) :=
  ⟨fun B E tk => pt_imp (pt_cmpR (op_inT hu) (ha.run B E tk) (pe_glob hg hm (show RelV (.ref (He.ga X.K x)) (.ref (He.ga X.K x)) from rfl) hd) hb) (tzB fun σ H Q ⟨μ, env, h, P, R, q, f⟩ =>
    ⟨μ, env, h, _, R, q, fun z h1 μ1 H1 v p1 e1 R1 r1 => by
      have e : dOf h1 (.tup (ss.map Z.str)) = .tuple ((ss.map Z.str).map Z.toD) := by show Z.toD (.tup _) = _; unfold Z.toD; rw [toDs_map]
      obtain ⟨o1, o2, o3⟩ := p1
      show ∃ d ds, Dp X.K H1 v d ∧ Dp X.K H1 (.ref (He.ga X.K x)) (.tuple ds) ∧ SeqAt.shaped d = true ∧ SeqAt.shaped (.tuple ds) = true ∧ _
      refine ⟨dOf h1 z, (ss.map Z.str).map Z.toD, dpo_of R1 (SeqAt.canLay_of_shaped o1) r1, tupc_dp hf H1, o1, by rw [← e]; exact o2, ?_⟩
      rw [List.any_map]
      exact (f.ext e1).here R1 o3 rep_bl⟩)⟩
theorem zt_notinG (hu : X.A.units + 65 < cLine) (hm : X.mg x = some (.ref (He.ga X.K x))) (hf : He.tupB X.K x (ss.map He.Dv.str) = true) (ha : ZE X a wa) (hg : Gl X x := by rfl) (hd : (x == ("__debug__" : Str)) = false := by decide) (hb : behindInMarks .NotIn (.Name x p2) = false := by rfl) :
    ZT X (.Compare a [.NotIn] [.Name x p2] pos) (wB (w2 oNotIn wa (wC (.tup (ss.map Z.str))))) :=
  ⟨fun B E tk => pt_imp (pt_cmpR (op_notInT hu) (ha.run B E tk) (pe_glob hg hm (show RelV (.ref (He.ga X.K x)) (.ref (He.ga X.K x)) from rfl) hd) hb) (tzB fun σ H Q ⟨μ, env, h, P, R, q, f⟩ =>
    ⟨μ, env, h, _, R, q, fun z h1 μ1 H1 v p1 e1 R1 r1 => by
      have e : dOf h1 (.tup (ss.map Z.str)) = .tuple ((ss.map Z.str).map Z.toD) := by show Z.toD (.tup _) = _; unfold Z.toD; rw [toDs_map]
      obtain ⟨o1, o2, o3⟩ := p1
      show ∃ d ds, Dp X.K H1 v d ∧ Dp X.K H1 (.ref (He.ga X.K x)) (.tuple ds) ∧ SeqAt.shaped d = true ∧ SeqAt.shaped (.tuple ds) = true ∧ _
      refine ⟨dOf h1 z, (ss.map Z.str).map Z.toD, dpo_of R1 (SeqAt.canLay_of_shaped o1) r1, tupc_dp hf H1, o1, by rw [← e]; exact o2, ?_⟩
      rw [List.any_map]
      exact (f.ext e1).here R1 o3 rep_bl⟩)⟩
end
theorem Txt.tupc {fa : List He.Fa} {fb : List Fb} {fn : List He.DefD} {K : PySem.W.Frag} {mg : Str → Option Value} (T : Txt fa fb fn K mg) (i : Nat) {x : Str} {ss : List Str} (h : fb[i]? = some (.tupc x (ss.map He.Dv.str)) := by rfl) : He.tupB K x (ss.map He.Dv.str) = true := T.says.more i h
end ZL

namespace ZL
open PySem PySem.Spec PyProof.Rows L2
/-! ### repr -/
section
variable {prog : Program} {w : World} {A : Around} {E : Value → Shared → Prop} {s : Shared} {Q : Value → Shared → Prop} {h₀ : Heap}
theorem repr_tuple {as : List Addr} {d : Nat} {a : Addr} {o : Obj} {items : Array Value} {n : Nat} {ts : List Str}
    (ha : h₀.get? a = some o) (hc : o.cls = .type "tuple") (hd : o.data = .seq items n) (hna : a ∉ as) (hT : ReprAllK prog w as h₀ d items.toList ts)
    (hg : A.guards = some []) (hu : A.units + 1 + (d + 1) < cLine) (hk0 : ∀ b o, h₀.get? b = some o → s.heap.get? b = some o)
    (hQ : ∀ h' u tk, (∀ b o, s.heap.get? b = some o → h'.get? b = some o) → Q (.str (tupleText ts) u) { s with heap := h', toks := tk })
    (hsz : (tupleText ts).length ≤ sizeLine) : wpAny (model prog w) A (call (.builtin "repr") [.ref a]) Q E s := by
  have hTy : s.TypeIs (.ref a) "tuple" := ⟨o, hk0 _ _ ha, hc⟩
  refine Calls.call_function_entry PySem.F.kind_repr PySem.F.plain_repr PySem.F.entry_repr (PySem.F.args_repr1 _) ?_
  unfold Builtin.«repr»
  refine wpAny_bind (m := oneArg "repr" _) (wpAny_pure ?_)
  refine wpAny_bind (wpAny_cRoomFor (show A.in1.units < cLine from by show A.units + 1 < cLine; omega) ?_)
  refine wpAny_bind (wpAny_specialOf (name := Str.ofString "__repr__") hTy PySem.F.slot_tuple_repr.lookup ?_)
  refine wpAny_bind (m := callSpecialIfBound? (.ref a) (Str.ofString "__repr__")) (wpAny_callSpecialIfBound?_slotG (name := Str.ofString "__repr__") hTy PySem.F.slot_tuple_repr
    (call_tuple_reprK (A := A.in1) ha hc hd hna hT hg (fun b _ => Clear.nil b) hu hk0 (fun h' u tk hk => ?_) hsz))
  refine wpAny_bind (wpAny_isInstance (T := "str") (b := true) rfl isSubtype_str_str ?_)
  exact wpAny_pure ⟨_, rfl, hQ h' u tk hk⟩
theorem repr_list {as : List Addr} {d : Nat} {a : Addr} {oa : Obj} {x : Value} {l : List Value} {na : Nat} {ts : List Str}
    (ha : h₀.get? a = some oa) (hc : oa.cls = .type "list") (hda : oa.data = .seq (x :: l).toArray na) (hna : a ∉ as) (hlen : ts.length = (x :: l).toArray.size)
    (hT : ∀ (i : Nat) (y : Value), (x :: l).toArray[i]? = some y → ∃ t, ts[i]? = some t ∧ ReprK prog w as h₀ d y t)
    (hg : A.guards = some []) (hu : A.units + 1 + (d + 1) < cLine) (hk0 : ∀ b o, h₀.get? b = some o → s.heap.get? b = some o)
    (hQ : ∀ h' u tk, (∀ b o, s.heap.get? b = some o → h'.get? b = some o) → Q (.str (listText ts) u) { s with heap := h', toks := tk })
    (hsz : (listText ts).length ≤ sizeLine) : wpAny (model prog w) A (call (.builtin "repr") [.ref a]) Q E s := by
  have hTy : s.TypeIs (.ref a) "list" := ⟨oa, hk0 _ _ ha, hc⟩
  refine Calls.call_function_entry PySem.F.kind_repr PySem.F.plain_repr PySem.F.entry_repr (PySem.F.args_repr1 _) ?_
  unfold Builtin.«repr»
  refine wpAny_bind (m := oneArg "repr" _) (wpAny_pure ?_)
  refine wpAny_bind (wpAny_cRoomFor (show A.in1.units < cLine from by show A.units + 1 < cLine; omega) ?_)
  refine wpAny_bind (wpAny_specialOf (name := Str.ofString "__repr__") hTy PySem.F.slot_list_repr.lookup ?_)
  refine wpAny_bind (m := callSpecialIfBound? (.ref a) (Str.ofString "__repr__")) (wpAny_callSpecialIfBound?_slot (name := Str.ofString "__repr__") hTy PySem.F.slot_list_repr
    (call_list_reprK (A := A.in1) ha hc hda hna hlen hT hg (fun b _ => Clear.nil b) hu hk0 (fun h' u tk hk => ?_) hsz))
  refine wpAny_bind (wpAny_isInstance (T := "str") (b := true) rfl isSubtype_str_str ?_)
  exact wpAny_pure ⟨_, rfl, hQ h' u tk hk⟩
theorem repr_list0 {a : Addr} {o : Obj} {n : Nat} (hTy : s.TypeIs (.ref a) "list") (ha : s.heap.get? a = some o) (hd : o.data = .seq #[] n) (hu : A.units + 1 < cLine)
    (hQ : Q (.str "[]" s.toks) { s with toks := s.toks + 1 }) : wpAny (model prog w) A (call (.builtin "repr") [.ref a]) Q E s := by
  refine Calls.call_function_entry PySem.F.kind_repr PySem.F.plain_repr PySem.F.entry_repr (PySem.F.args_repr1 _) ?_
  unfold Builtin.«repr»
  refine wpAny_bind (m := oneArg "repr" _) (wpAny_pure ?_)
  refine wpAny_bind (wpAny_cRoomFor (show A.in1.units < cLine from hu) ?_)
  refine wpAny_bind (wpAny_specialOf (name := Str.ofString "__repr__") hTy PySem.F.slot_list_repr.lookup ?_)
  refine wpAny_bind (m := callSpecialIfBound? (.ref a) (Str.ofString "__repr__")) (wpAny_callSpecialIfBound?_slot (name := Str.ofString "__repr__") hTy PySem.F.slot_list_repr
    (call_list_repr_empty (A := A.in1) hTy ha hd ?_))
  refine wpAny_bind (wpAny_isInstance (T := "str") (b := true) rfl isSubtype_str_str ?_)
  exact wpAny_pure ⟨_, rfl, hQ⟩
theorem repr_top {v : Value} {d : PyData} {as : List Addr} (r : Reads h₀ v d as) (hs : d.showable = true) (hx : d.hasDict = false) (hz : d.shown.length ≤ sizeLine) (hg : A.guards = some []) (hu : A.units + 1 + d.depth < cLine) (hk0 : ∀ b o, h₀.get? b = some o → s.heap.get? b = some o)
    (hQ : ∀ h' u tk, (∀ b o, s.heap.get? b = some o → h'.get? b = some o) → Q (.str d.shown u) { s with heap := h', toks := tk }) : wpAny (model prog w) A (call (.builtin "repr") [v]) Q E s := by
  cases r with
  | none =>
    simp only [PyData.shown] at hQ
    exact P.repr_of_none (hQ s.heap _ _ fun _ _ e => e)
  | bool b =>
    simp only [PyData.shown] at hQ
    exact P.repr_of_bool (hQ s.heap _ _ fun _ _ e => e)
  | int i t =>
    simp only [PyData.shown] at hQ
    exact P.repr_of_int (by simpa [PyData.showable] using hs) (hQ s.heap _ _ fun _ _ e => e)
  | str x t =>
    simp only [PyData.shown] at hQ
    exact P.repr_of_str (hQ s.heap _ _ fun _ _ e => e) (by simpa only [PyData.shown] using hz)
  | list h1 h2 h3 h4 =>
    rename_i a _ vs _ xs _
    have hz' : (listText (PyData.shownAll xs)).length ≤ sizeLine := by simpa only [PyData.shown] using hz
    obtain ⟨bs, hb, hk⟩ := ReprAllK.of_readsAll (prog := prog) (w := w) h4 (by simpa [PyData.showable] using hs) (fun q _ => by simp [PyData.hasDict] at hx; rw [hx] at q; cases q) (fun t ht => Nat.le_trans (listText_mem_le ht) hz')
    have r : Reads h₀ (.ref a) (.list xs) _ := .list h1 h2 h3 h4
    have hna : a ∉ bs := not_mem_of_deeper r (by simp only [PyData.depth]; omega) hb
    simp only [PyData.depth] at hu
    simp only [PyData.shown] at hQ
    obtain ⟨l⟩ := vs
    cases l with
    | nil =>
      have h4' : ReadsAll h₀ [] xs _ := h4
      cases h4'
      simp only [PyData.shownAll, listText_nil] at hQ
      exact repr_list0 ⟨_, hk0 _ _ h1, h2⟩ (hk0 _ _ h1) h3 (by omega) (hQ s.heap _ _ fun _ _ e => e)
    | cons x l => exact repr_list h1 h2 h3 hna (by simpa using hk.length_eq) (fun i y e => hk.item i y (by simpa using e)) hg (by omega) hk0 hQ hz'
  | tuple h1 h2 h3 h4 =>
    rename_i a _ vs _ xs
    have hz' : (tupleText (PyData.shownAll xs)).length ≤ sizeLine := by simpa only [PyData.shown] using hz
    obtain ⟨bs, hb, hk⟩ := ReprAllK.of_readsAll (prog := prog) (w := w) h4 (by simpa [PyData.showable] using hs) (fun q _ => by simp [PyData.hasDict] at hx; rw [hx] at q; cases q) (fun t ht => Nat.le_trans (tupleText_mem_le ht) hz')
    have r : Reads h₀ (.ref a) (.tuple xs) _ := .tuple h1 h2 h3 h4
    have hna : a ∉ bs := not_mem_of_deeper r (by simp only [PyData.depth]; omega) hb
    simp only [PyData.depth] at hu
    simp only [PyData.shown] at hQ
    exact repr_tuple h1 h2 h3 hna hk hg (by omega) hk0 hQ hz'
  | dict => simp [PyData.hasDict] at hx
end
section
variable {X : Cx}
theorem call_repr (hg : X.A.guards = some []) (hu : X.A.units + 66 < cLine) : CallR X (.builtin "repr") (fun xs H Q => ∃ v d, xs = [v] ∧ Dp X.K H v d ∧ SeqAt.shaped d = true ∧ d.showable = true ∧ d.hasDict = false ∧ d.shown.length ≤ sizeLine ∧ Q (.str d.shown) H) := by
  intro pins s σ H xs us Q I rv h
  obtain ⟨v, d, rfl, hd, sd, hs, hx, hz, q⟩ := h
  cases rv with
  | cons r1 r2 =>
    cases r2
    obtain ⟨as, rd⟩ := Dp.reads I d v _ hd r1
    have hdep : d.depth ≤ 64 := by
      unfold SeqAt.shaped at sd
      have := (Bool.and_eq_true_iff.mp sd).2
      simpa using this
    exact repr_top rd hs hx hz hg (by omega) (fun _ _ e => e) fun h' u tk hk => ⟨.str d.shown, H, I.kept hk, ⟨_, rfl⟩, q⟩
def oRepr : Z3 := fun zs h P => match zs with
  | [z] => okD h z ∧ (dOf h z).showable = true ∧ (dOf h z).hasDict = false ∧ (dOf h z).shown.length ≤ sizeLine ∧ P (.str (dOf h z).shown) h
  | _ => False
theorem call_reprZ (hg : X.A.guards = some []) (hu : X.A.units + 66 < cLine) : CallZ X (.builtin "repr") oRepr := by
  refine ⟨_, call_repr hg hu, fun μ H h zs vs P Q R r o f => ?_⟩
  unfold oRepr at o
  split at o
  · obtain ⟨v, rfl, rv⟩ := one_vals r rfl
    obtain ⟨o1, o2, o3, o4, p⟩ := o
    exact ⟨v, _, rfl, dpo_of R (SeqAt.canLay_of_shaped o1) rv, o1, o2, o3, o4, f.here R p rep_str⟩
  · exact o.elim
end
@[simp] theorem oRepr_1 {z : Z} {h : ZH} {P : PZ} : oRepr [z] h P = (okD h z ∧ (dOf h z).showable = true ∧ (dOf h z).hasDict = false ∧ (dOf h z).shown.length ≤ sizeLine ∧ P (.str (dOf h z).shown) h) := noRfl rfl
theorem hu66 {A : Around} {k : Nat} (hr : RoomG k A) : A.units + 66 < cLine := by have := hr.r.un; omega
/-- .. where an exception is handled -/
theorem hu1m {A : Around} {k : Nat} {v : Option Value} (hr : RoomG k A) : (A.mark v).units + 1 < cLine := show A.units + 1 < cLine from hu1 hr
theorem hu64m {A : Around} {k : Nat} {v : Option Value} (hr : RoomG k A) : (A.mark v).units + 64 < cLine := show A.units + 64 < cLine from hu64 hr
theorem hu65m {A : Around} {k : Nat} {v : Option Value} (hr : RoomG k A) : (A.mark v).units + 65 < cLine := show A.units + 65 < cLine from hu65 hr
theorem hu66m {A : Around} {k : Nat} {v : Option Value} (hr : RoomG k A) : (A.mark v).units + 66 < cLine := show A.units + 66 < cLine from hu66 hr
theorem gum {A : Around} {k : Nat} {v : Option Value} (hr : RoomG k A) : (A.mark v).guards = some [] := hr.g
end ZL

namespace ZL
open PySem PySem.Spec PyProof.Rows L2
/-! ### a def that calls itself: no promise at the end of its turns -/
section
variable {P : Program} {w : World} {K : PySem.W.Frag} {mg : Str → Option Value} {base : Heap} {x qual : Str} {params : Arguments} {body : List Stmt} {scope : Scope} {f : Addr} {fd : FuncData}
theorem fnz_never {ps : List Str} {k n : Nat} (F : FunD K x qual params body scope [] [] f fd) (hb : Binds K fd ps []) (hn : ps.length = n) : FnZ P w K mg base k n (fun _ _ _ _ => False) f :=
  ⟨fd, ps, hn, ⟨fun vs H Q E ⟨_, _, _, _, _, _, _, _, q, _⟩ => q.elim, fun A outer s H args us vs Q E _ _ _ _ ⟨_, _, _, _, _, _, _, _, q, _⟩ => q.elim⟩, F.kp, hb⟩
end
end ZL
namespace ZL
open PySem PySem.Spec PyProof.Rows L2
/-! ### is True, is False -/
section
variable {X : Cx}
def oIsB : Z2 := fun a b h P => match a, b with
  | .bl i, .bl j => P (.bl (decide (i = j))) h
  | _, _ => False
def oNotB : Z2 := fun a b h P => match a, b with
  | .bl i, .bl j => P (.bl (!decide (i = j))) h
  | _, _ => False
theorem op_isB : OpZ X (compareOp .Is) oIsB := by
  refine ⟨_, op_is_bl, fun μ H h a b x y P Q R ra rb o f => ?_⟩
  unfold oIsB at o
  split at o
  · cases of_bl ra; cases of_bl rb
    exact ⟨_, _, rfl, rfl, f.here R o rep_bl⟩
  · exact o.elim
theorem op_notB : OpZ X (compareOp .IsNot) oNotB := by
  refine ⟨_, op_isnot_bl, fun μ H h a b x y P Q R ra rb o f => ?_⟩
  unfold oNotB at o
  split at o
  · cases of_bl ra; cases of_bl rb
    exact ⟨_, _, rfl, rfl, f.here R o rep_bl⟩
  · exact o.elim
@[simp] theorem oIsB_b {i j : Bool} {h : ZH} {P : PZ} : oIsB (.bl i) (.bl j) h P = P (.bl (decide (i = j))) h := noRfl rfl
@[simp] theorem oNotB_b {i j : Bool} {h : ZH} {P : PZ} : oNotB (.bl i) (.bl j) h P = P (.bl (!decide (i = j))) h := noRfl rfl
end
end ZL

/-! ### enumerate(t), t a tuple -/
namespace ZEn
open PySem
abbrev tIt (t : Addr) : Obj := { cls := .type "tuple_iterator", data := .fields #[.ref t, .int 0 0] }
abbrev eOb (it : Addr) : Obj := { cls := .type "enumerate", data := .fields #[.none, .bool false, .ref it, rawInt 0, .none, .none] }
theorem newT (t : Addr) (o : Obj) (items : Array Value) (n : Nat) (hc : o.cls = .type "tuple") (hd : o.data = .seq items n) :
    Meets (Builtin.«enumerate.__new__» ⟨[.type "enumerate", .ref t], []⟩) (fun _ R s => s.heap.get? t = some o ∧ R (.ok (.ret (.ref (s.heap.push (tIt t)).objs.size))) { s with heap := (s.heap.push (tIt t)).push (eOb s.heap.objs.size) }) :=
  .of_wp fun prog w A R s h => by
    obtain ⟨hp, g, d, tk, os⟩ := s
    obtain ⟨hl, h⟩ := h
    have subE := sub_enumerate
    have hT : Heap.IsTuple (Shared.heap ⟨hp, g, d, tk, os⟩) t items := ⟨o, hl, hc, n, hd⟩
    wp_walk using AutoSeq1.wpAny_loadPart' hl
    refine wpAny_stack_any fun st => wpAny_pure ?_
    split
    · rename_i c _ _ _ _ _
      cases (c == Value.type "enumerate") <;> (wp_walk using AutoSeq1.wpAny_loadPart' hl, wpAny_pyIter_tuple hT; exact ⟨_, rfl, h⟩)
    · wp_walk using AutoSeq1.wpAny_loadPart' hl, wpAny_pyIter_tuple hT
      exact ⟨_, rfl, h⟩
section
variable {prog : Program} {w : World} {A : Around} {E : Value → Shared → Prop} {s : Shared}
theorem callT {t : Addr} {items : Array Value} {Q : Value → Shared → Prop} (hT : s.heap.IsTuple t items)
    (q : ∀ h', IsEnum h' (s.heap.objs.size + 1) s.heap.objs.size 0 .none → h'.IsTupleIter s.heap.objs.size t 0 → (∀ b o, s.heap.get? b = some o → h'.get? b = some o) → Q (.ref (s.heap.objs.size + 1)) { s with heap := h' }) :
    wpAny (model prog w) A (call (.type "enumerate") [.ref t]) Q E s := by
  obtain ⟨o, ho, hc, n, hd⟩ := hT
  refine callType_new F.called_enumerate (by decide) (F.typeCall_enumerate_1 _) (F.newCall_enumerate_1 _) (fun ob => F.args_object_init_2 ob _) F.entry_enumerate_new (newT t o items n hc hd) ⟨ho, ?_⟩
  have z1 : (s.heap.push (tIt t)).objs.size = s.heap.objs.size + 1 := Heap.size_push ..
  have e1 : ((s.heap.push (tIt t)).push (eOb s.heap.objs.size)).get? (s.heap.objs.size + 1) = some (eOb s.heap.objs.size) := by
    rw [← z1]; exact Heap.get?_push_size _ rfl
  show _ ∧ _
  rw [z1]
  exact ⟨⟨_, e1, rfl⟩, q _ e1 ⟨_, Heap.get?_push_of_some _ (Heap.get?_push_size _ rfl), rfl, rfl⟩ fun b o x => Heap.get?_push_of_some _ (Heap.get?_push_of_some _ x)⟩
theorem endT {e it l : Addr} {i : Nat} {items : Array Value} {old : Value} {Q : Option Value → Shared → Prop} (hh : A.handled = none) (he : IsEnum s.heap e it i old) (hit : s.heap.IsTupleIter it l i) (hl : s.heap.IsTuple l items) (hx : items[i]? = none)
    (q : ∀ g, Heap.ExtBut it s.heap g → Q none { s with heap := g }) : wpAny (model prog w) A (pyNext (.ref e)) Q E s := by
  have tE : s.TypeIs (.ref e) "enumerate" := ⟨_, he, rfl⟩
  unfold pyNext
  have sl := F.slot_enumerate_next
  refine wpAny_bind (wpAny_attempt (wpAny_callSpecial?_slot (name := Str.ofString "__next__") tE sl (wpAny_call_entry sl tE F.entry_enumerate_next ?_ (F.args_enumerate_next_1 _))))
  show wpAny _ _ (field (.ref e) 2 >>= _) _ _ s
  refine wpAny_bind (wpAny_field he rfl (x := .ref it) rfl (wpAny_bind (RZ.nextOf_tuple_end hh hit hl hx fun g y eb ⟨o, ho, hc⟩ => ?_)))
  exact wpAny_bind (wpAny_isInstance (T := "StopIteration") (b := true) ⟨o, ho, hc⟩ isSubtype_stop (wpAny_pure (q _ eb)))
end
end ZEn
namespace ZTS
open PySem PySem.Spec PyProof.Rows L2
theorem LaidT.ne {kl : List V → Bool} {H H' : Hp} {p b : Addr} {xs : List V} (l : LaidT kl H p xs H') (h : b ≠ p) : H' b = H b := by
  unfold LaidT at l
  split at l
  · rw [l, upd_ne h]
  · obtain ⟨o, _, rfl⟩ := l
    rw [upd_ne h]
end ZTS
namespace ZEn
open PySem PySem.Spec PyProof.Rows L2
/-- the tuple at a as it stands at each turn, each item in a new pair -/
def IteT (K : PySem.W.Frag) (a : Addr) : It :=
  ⟨fun i H => ∃ (xs : List V) (x : V), SqT K H a xs ∧ xs[i]? = some x, fun i H v H' => ∃ T x, v = .ref T ∧ H T = none ∧ ZTS.LaidT ZL.keyV H T [.int (i : Nat), x] H' ∧ ∀ xs, SqT K H a xs → xs[i]? = some x, fun i H => ∃ xs : List V, SqT K H a xs ∧ xs.length ≤ i⟩
theorem turnT {P : Program} {w : World} {K : PySem.W.Frag} {es : List Expr} {kk : Nat} {tp : Pos} (a e it : Addr) :
    Turn P w K (.Tuple es kk tp) (IteT K a) [e, it] e (fun i h => (∃ old, IsEnum h e it ((i : Nat) : Int) old) ∧ h.IsTupleIter it a i ∧ e ≠ it) where
  mem := List.mem_cons_self
  obj := fun i h st b hb => by
    obtain ⟨⟨old, he⟩, ⟨o, ho, hc, hd⟩, _⟩ := st
    rcases (by simpa using hb : b = e ∨ b = it) with rfl | rfl
    · exact ⟨_, he, fun v q => nomatch q⟩
    · exact ⟨o, ho, fun v q => by rw [hd] at q; cases q⟩
  keep := fun i h h' st k => by
    obtain ⟨⟨old, he⟩, hi, ne⟩ := st
    exact ⟨⟨old, k e (by simp) _ he⟩, hi.at fun o q => k it (by simp) o q, ne⟩
  item := by
    intro X hP hw hK hc i pins s σ H E I hf st hg
    subst hP hw hK
    obtain ⟨⟨old, he⟩, hit, ne⟩ := st
    obtain ⟨xs, x, hq, hx⟩ := hg
    obtain ⟨its, rv, pl, hz⟩ := I.tuple hq
    obtain ⟨u, hu, ru⟩ := rv.get hx
    have le : e < s.heap.objs.size := Heap.lt_size he
    have li : it < s.heap.objs.size := by obtain ⟨_, q, _⟩ := hit; exact Heap.lt_size q
    have nai : a ≠ it := fun z => by
      obtain ⟨o1, e1, c1, _⟩ := pl
      obtain ⟨o2, e2, c2, _⟩ := hit
      rw [z, e2] at e1
      cases e1
      rw [c2] at c1
      simp at c1
    have nae : e ≠ a := fun z => by
      obtain ⟨o1, e1, c1, _⟩ := pl
      rw [← z, he] at e1
      cases e1
      simp at c1
    have isz : i < its.toArray.size := by
      have := (List.getElem?_eq_some_iff.mp hu).1
      simpa using this
    have D := Draws.tuple (prog := X.prog) (w := X.w) (A := X.A.in1) (I.ok.hd hc) it a nai its.toArray
    refine wpAny_pyNext_enum_itemD D he ⟨hit, pl⟩ isz ne (by simp [ne, nae]) fun y h' tk hy ho hst hT hsz hk => ?_
    obtain ⟨hit', _⟩ := hst
    have ey : y = u := by
      have e2 : its[i]? = some y := by simpa using hy
      rw [hu] at e2
      exact (Option.some.inj e2).symm
    subst ey
    refine ⟨_, rfl, wpAny_letOwnedTupleGo_enum (s := { s with heap := h', toks := tk + 1 }) ho fun g he' sb => ?_⟩
    have gT : g.get? s.heap.objs.size = some { cls := .type "tuple", data := .seq #[.int i tk, y] } := (sb.2 _ (Nat.ne_of_gt le)).trans hT
    have kept : ∀ b ob, b ∉ [e, it] → s.heap.get? b = some ob → g.get? b = some ob := fun b ob hb q => by
      have n1 : b ≠ e := fun z => hb (by simp [z])
      have n2 : b ≠ it := fun z => hb (by simp [z])
      exact (sb.2 b n1).trans (hk b ob n1 n2 q)
    have z2 : ([V.int (i : Nat), x] : List V).length ≤ sizeLine := by show 2 ≤ sizeLine; decide
    have vv : Vals [V.int (i : Nat), x] [.int i tk, y] := .cons ⟨_, rfl⟩ (.cons ru .nil)
    obtain ⟨H', la, J⟩ : ∃ H', ZTS.LaidT ZL.keyV H s.heap.objs.size [.int (i : Nat), x] H' ∧ Inv X pins σ H' { s with heap := g, toks := tk + 1 } := by
      unfold ZTS.LaidT
      cases c : ZL.keyV [V.int (i : Nat), x] with
      | true => exact ⟨upd H s.heap.objs.size (.tup [.int (i : Nat), x]), by simp, I.turnedNew (ob := .tup [.int (i : Nat), x]) (ch := [e, it]) kept hf (Nat.le_refl _) ⟨z2, _, vv, ⟨_, gT, rfl, _, rfl⟩⟩⟩
      | false =>
        refine ⟨upd H s.heap.objs.size (.frz { cls := .type "tuple", data := .seq #[.int i tk, y] } (.tup [.int (i : Nat), x])), ?_, I.turnedNew (ob := .frz { cls := .type "tuple", data := .seq #[.int i tk, y] } (.tup [.int (i : Nat), x])) (ch := [e, it]) kept hf (Nat.le_refl _) ⟨gT, z2, _, vv, ⟨_, gT, rfl, _, rfl⟩⟩⟩
        simp
        exact ⟨_, rfl, rfl⟩
    refine ⟨.ref s.heap.objs.size, H', J, rfl, ⟨_, x, rfl, I.hok.fresh (Nat.le_refl _), la, fun ys hy2 => by rw [I.tuple_inj hy2 hq]; exact hx⟩, ⟨⟨y, ?_⟩, hit'.at fun o q => (sb.2 it ne.symm).trans q, ne⟩, fun b hb => ?_⟩
    · rw [show ((i + 1 : Nat) : Int) = (i : Int) + 1 by omega]
      exact he'
    · have lb : b < s.heap.objs.size := by
        rcases (by simpa using hb : b = e ∨ b = it) with rfl | rfl
        · exact le
        · exact li
      rw [la.ne (Nat.ne_of_lt lb)]
      exact (hf b hb).1
  done := by
    intro X hP hw hK hc i pins s σ H E I hf st hg
    subst hP hw hK
    obtain ⟨⟨old, he⟩, hit, ne⟩ := st
    obtain ⟨xs, hq, hx⟩ := hg
    obtain ⟨its, rv, pl, hz⟩ := I.tuple hq
    obtain ⟨f0, f1, f2, f3, f4, f5⟩ := hf it (by simp)
    have hl := rv.length
    exact endT (I.ok.hd hc) he hit pl (by simp; omega) fun g eb => ⟨rfl, I.turned (t' := s.toks) (fun b o hb q => eb b o hb q) f0 f1 f3 f4 f5⟩
  self := fun A i s Q E st h => by
    obtain ⟨⟨_, he⟩, _⟩ := st
    exact wpAny_pyIter_enum he h
end ZEn
namespace ZEn
open PySem PySem.Spec PyProof.Rows L2
def iEnumA (K : PySem.W.Frag) (ta : TA) : TI := fun σ H R => ta σ H fun vs H1 => ∃ a xs, vs = [.ref a] ∧ SqT K H1 a xs ∧ R (IteT K a) H1
theorem pi_enumA {X : Cx} {e : Expr} {ta : TA} {p pos tp : Pos} {es : List Expr} {kk : Nat} (hg : Gl X "enumerate") (hm : X.mg "enumerate" = none) (ha : PA X [e] ta) (hs : starEach [e] X.env = [(false, eval e X.env)] := by rfl) :
    PI X (.Tuple es kk tp) (.Call (.Name "enumerate" p) [e] [] pos) (iEnumA X.K ta) := by
  refine ⟨fun pins s σ H R I h => ?_⟩
  refine Call_ (ld_blt I hg hm boot_enumerate (PyProof.Rows.callWith_type1 (thn (ha.run pos pins s σ H _ I h) fun us s1 ⟨vs, H1, I1, r1, a, xs, ev, q⟩ => ?_) hs rfl))
  subst ev
  have fp : ∀ b ∈ [s1.heap.objs.size + 1, s1.heap.objs.size], FpOk X pins H1 b := fun b hb => by
    have lb : s1.heap.objs.size ≤ b := by
      rcases (by simpa using hb : b = s1.heap.objs.size + 1 ∨ b = s1.heap.objs.size) with rfl | rfl <;> omega
    exact I1.fpOk lb (I1.hok.fresh lb)
  cases r1 with
  | cons r rr =>
    cases rr
    cases r
    obtain ⟨hq, q⟩ := q
    obtain ⟨its, rv, pl, hz⟩ := I1.tuple hq
    refine callT (show s1.heap.IsTuple a its.toArray from pl) fun g he hit hk => wpAny_pyIter_enum he ?_
    exact ⟨s1.heap.objs.size + 1, [s1.heap.objs.size + 1, s1.heap.objs.size], _, _, H1, rfl, I1.kept (t' := s1.toks) hk, turnT a (s1.heap.objs.size + 1) s1.heap.objs.size, ⟨⟨.none, he⟩, hit, Nat.succ_ne_self _⟩, fp, q⟩
end ZEn
namespace ZL
open PySem PySem.Spec PyProof.Rows L2 ZEn
section
variable {X : Cx} {K : PySem.W.Frag} {mg : Str → Option Value}
/-- the pairs of enumerate, from k on -/
def enP : Nat → List Z → List Z
  | _, [] => []
  | k, x :: xs => .tup [.int (k : Nat), x] :: enP (k + 1) xs
theorem enP_len : ∀ {k : Nat} {xs : List Z}, (enP k xs).length = xs.length
  | _, [] => rfl
  | k, x :: xs => by unfold enP; simp [enP_len]
theorem enP_at : ∀ {k i : Nat} {xs : List Z} {z : Z}, (enP k xs)[i]? = some z → ∃ x, xs[i]? = some x ∧ z = .tup [.int ((k + i : Nat) : Int), x]
  | _, _, [], _, h => by simp [enP] at h
  | k, 0, x :: xs, z, h => by
    unfold enP at h
    simp at h
    exact ⟨x, rfl, h.symm⟩
  | k, i + 1, x :: xs, z, h => by
    unfold enP at h
    obtain ⟨y, h1, h2⟩ := enP_at (k := k + 1) (i := i) (xs := xs) (by simpa using h)
    exact ⟨y, by simpa using h1, by rw [h2, show k + 1 + i = k + (i + 1) by omega]⟩
def enZ (zs : List Z) (h : ZH) (Q : List Z → (ZH → Prop) → Prop) : Prop := match zs with
  | [.tup xs] => Q (enP 0 xs) (fun _ => True)
  | _ => False
def iEnumW (w : WA) : WI := fun env h P E => w env h (fun zs h1 => enZ zs h1 fun l c => P l c h1) E
theorem pair_newS {μ : List Addr} {H H' : Hp} {h : ZH} {T : Addr} {x y : Z} {v u : V} (R : RelH K mg μ H h) (hT : H T = none) (l : ZTS.LaidT keyV H T [v, u] H') (rx : RepV K μ H x v) (ry : RepV K μ H y u) :
    Ext μ H μ H' ∧ RelH K mg μ H' h ∧ RepV K μ H' (.tup [x, y]) (.ref T) := by
  unfold ZTS.LaidT at l
  cases c : keyV [v, u] with
  | true =>
    rw [c] at l
    simp at l
    subst l
    have ex : Ext μ H μ (upd H T (.tup [v, u])) := ext_new hT
    refine ⟨ex, R.tup hT, ?_⟩
    unfold RepV
    exact ⟨T, _, rfl, .inl ⟨c, upd_same⟩, .cons (rx.mono ex) (.cons (ry.mono ex) .nil)⟩
  | false =>
    rw [c] at l
    simp at l
    obtain ⟨o, d, rfl⟩ := l
    have ex : Ext μ H μ (upd H T (.frz o (.tup [v, u]))) := ext_new hT
    refine ⟨ex, R.tup hT, ?_⟩
    unfold RepV
    exact ⟨T, _, rfl, .inr ⟨c, o, d, upd_same⟩, .cons (rx.mono ex) (.cons (ry.mono ex) .nil)⟩
theorem itr_enT {a : Addr} {xs : List Z} {vs : List V} {μ0 : List Addr} {H0 : Hp} (ta : TupA K H0 a vs) (ra : RepVs K μ0 H0 xs vs) : ItR K mg (IteT K a) (enP 0 xs) (fun _ => True) μ0 H0 := by
  refine ⟨fun i z μ H h e R c hz => ?_, fun μ H h e R c => ?_⟩
  · obtain ⟨x, ex, rfl⟩ := enP_at hz
    obtain ⟨v, hv, rv⟩ := (ra.mono e).get ex
    refine ⟨⟨vs, v, (e.tupA ta).sq, hv⟩, fun w H' y => ?_⟩
    obtain ⟨T, x', rfl, hT, la, y1⟩ := y
    rw [y1 _ (e.tupA ta).sq] at hv; cases hv
    obtain ⟨k1, k2, k3⟩ := pair_newS (x := .int ((0 + i : Nat) : Int)) (v := .int (i : Nat)) R hT la (by rw [Nat.zero_add]; exact rep_int) rv
    exact ⟨μ, k1, k2, k3⟩
  · refine ⟨vs, (e.tupA ta).sq, ?_⟩
    rw [← ra.length, enP_len]
    exact Nat.le_refl _
theorem zi_enum {e : Expr} {w : WA} {p pos tp : Pos} {es : List Expr} {kk : Nat} (hg : Gl X "enumerate") (hm : X.mg "enumerate" = none) (ha : ZA X [e] w) (hs : starEach [e] X.env = [(false, eval e X.env)] := by rfl) :
    ZI X (.Tuple es kk tp) (.Call (.Name "enumerate" p) [e] [] pos) (iEnumW w) :=
  ⟨fun B E tk => pi_imp (pi_enumA hg hm (ha.run B E tk) hs) fun σ H Q ⟨μ, env, h, P, R, q, f⟩ => ⟨μ, env, h, _, R, q, fun zs h1 μ1 H1 vs p1 e1 R1 r1 => by
    unfold enZ at p1
    split at p1
    · obtain ⟨v, rfl, ra⟩ := one_vals r1 rfl
      obtain ⟨a, ws, rfl, ta, r⟩ := of_tup ra
      exact ⟨a, ws, rfl, ta.sq, f _ _ _ _ _ _ p1 e1 R1 (itr_enT ta r)⟩
    · exact p1.elim⟩⟩
section
variable {env : Env} {h : ZH} {P : List Z → (ZH → Prop) → ZH → Prop} {xs : List Z} {n : Nat}
end
end
end ZL

/-! ### sorted(t), t a tuple of ints -/
namespace PyProof.Rows
open PySem PySem.Spec PySem.Calls
section
variable {prog : Program} {w : World} {A : Around} {E : Value → Shared → Prop} {s : Shared}
theorem collect_tuple {l : Addr} {vs : List Value} {o : Obj} {n : Nat} {Q : List Value → Shared → Prop} (ho : s.heap.get? l = some o) (hc : o.cls = .type "tuple") (hd : o.data = .seq vs.toArray n)
    (h : Q vs { s with heap := (s.heap.push (seqObj "list" #[] 0)).update s.heap.objs.size (Obj.mapSeq (· ++ vs.toArray)) }) (hsz : vs.length ≤ sizeLine := by size_fits) :
    wpAny (model prog w) A (collect (.ref l)) Q E s := by
  unfold collect
  refine wpAny_bind (wpAny_runValue (codeAny_builtin entry_proto_collect' ?_))
  show wpAny _ _ (do again (.builtin "list.__iadd__" ⟨[← newList [], .ref l], []⟩)) _ _ s
  refine wpAny_bind (wpAny_newList (wpAny_pure ⟨Code.quiet_builtin _ (by decide +kernel), codeAny_builtin entry_list_iadd' ?_⟩))
  show wpAny _ _ (Builtin.List.listExtendWith (.ref s.heap.objs.size) (.ref l) (.ref s.heap.objs.size)) _ _ { s with heap := s.heap.push (seqObj "list" #[] 0) }
  unfold Builtin.List.listExtendWith
  have ho' : (s.heap.push (seqObj "list" #[] 0)).get? l = some o := Heap.get?_push_of_some _ ho
  refine wpAny_bind (wpAny_typeOf (T := "tuple") ⟨o, ho', hc⟩ ?_)
  have ht : (Value.type "tuple" == Value.type "tuple") = true := by rfl
  rw [if_pos (by rw [ht]; simp)]
  refine wpAny_bind (listItems_at ho' hd ?_)
  refine wpAny_bind (listItems_at (xs := #[]) (n := 0) (Heap.get?_push_size _ rfl) rfl ?_)
  rw [if_neg (by simp)]
  refine wpAny_bind (listUpdate_at (xs := #[]) (n := 0) (Heap.get?_push_size _ rfl) rfl ?_ (Nat.zero_le _) (by show (#[] ++ vs.toArray).size ≤ sizeLine + 1; simp only [Array.size_append, List.size_toArray, List.length_nil]; omega))
  refine wpAny_pure ?_
  show wpAny (model prog w) A (do
      let o ← load s.heap.objs.size
      match o.data with
      | .seq xs _ => pure xs.toList
      | _ => unsupported "internal:collect") Q E { s with heap := (s.heap.push (seqObj "list" #[] 0)).update s.heap.objs.size (Obj.mapSeq (· ++ vs.toArray)) }
  refine wpAny_bind (wpAny_load (get?_update_seq (Heap.get?_push_size _ rfl) _) ?_)
  show wpAny _ _ (pure ((#[] : Array Value) ++ vs.toArray).toList) Q E _
  rw [show ((#[] : Array Value) ++ vs.toArray).toList = vs by simp]
  exact wpAny_pure h
end
end PyProof.Rows
namespace SrtO
open PySem PySem.Spec PyProof.Rows PySem.Calls
section
variable {prog : Program} {w : World} {A : Around} {E : Value → Shared → Prop} {s : Shared}
theorem sorted_ordT {l : Addr} {vs : List Value} {ltv : Value → Value → Bool} {ol : Obj} {nl : Nat} {Q : Value → Shared → Prop} (O : Swo ltv) (ho : s.heap.get? l = some ol) (hc : ol.cls = .type "tuple") (hd : ol.data = .seq vs.toArray nl) (hz : vs.length ≤ sizeLine)
    (hS : 2 ≤ vs.length → ∀ (h₁ : Heap) (a : Addr), h₁.get? a = some (seqObj "list" vs.toArray 0) → (∀ b o, s.heap.get? b = some o → b ≠ a ∧ h₁.get? b = some o) → SortableO prog w A.in1.in1 { s with heap := h₁ } a vs ltv)
    (h : ∀ out : List Value, Srtd ltv out → Stb ltv out vs → Q (.ref (s.heap.objs.size + 1)) { s with heap := sortedAll s.heap vs out.toArray }) :
    wpAny (model prog w) A (call (.builtin "sorted") [.ref l]) Q E s := by
  refine Calls.call_function_entry kind_sorted plain_sorted entry_sorted (args_sorted1 _) ?_
  unfold Builtin.«sorted»
  refine wpAny_bind (m := checkCount "sorted" 1 1 _) (wpAny_pure ?_)
  refine wpAny_bind (collect_tuple ho hc hd ?_ hz)
  refine wpAny_bind (wpAny_newList ?_ hz)
  have hsz : ((s.heap.push (seqObj "list" #[] 0)).update s.heap.objs.size (Obj.mapSeq (· ++ vs.toArray))).objs.size = s.heap.objs.size + 1 := by
    rw [Heap.size_update, size_push']
  have hoL : (((s.heap.push (seqObj "list" #[] 0)).update s.heap.objs.size (Obj.mapSeq (· ++ vs.toArray))).push (seqObj "list" vs.toArray 0)).get? (s.heap.objs.size + 1) = some (seqObj "list" vs.toArray 0) := by
    rw [← hsz]; exact Heap.get?_push_size _ rfl
  have keep : ∀ b o, s.heap.get? b = some o → b ≠ s.heap.objs.size + 1 ∧ (((s.heap.push (seqObj "list" #[] 0)).update s.heap.objs.size (Obj.mapSeq (· ++ vs.toArray))).push (seqObj "list" vs.toArray 0)).get? b = some o := fun b o q => by
    have hlt : b < s.heap.objs.size := Heap.lt_size q
    refine ⟨Nat.ne_of_lt (Nat.lt_succ_of_lt hlt), Heap.get?_push_of_some _ ?_⟩
    rw [Heap.get?_update_ne _ _ _ _ (Nat.ne_of_lt hlt)]
    exact Heap.get?_push_of_some _ q
  show wpAny _ _ _ _ _ { s with heap := ((s.heap.push (seqObj "list" #[] 0)).update s.heap.objs.size (Obj.mapSeq (· ++ vs.toArray))).push (seqObj "list" vs.toArray 0) }
  rw [hsz]
  refine wpAny_bind (wpAny_holding (wpAny_call_entry slot_list_sort ⟨_, hoL, rfl⟩ entry_list_sort (list_sort_ord O hoL hz (fun h2 => hS h2 _ _ hoL keep) fun out hs hb => ⟨_, rfl, ?_⟩) (args_list_sort _)))
  exact wpAny_pure ⟨_, rfl, h out hs hb⟩
end
end SrtO
namespace L2
open PySem PySem.Spec PyProof.Rows
section
variable {X : Cx}
/-- sorted(t), t a tuple of ints -/
def rSortedTI (K : PySem.W.Frag) : List V → Hp → VK → Prop := fun vs H Q => ∃ (a : Addr) (ns : List Int), vs = [V.ref a] ∧ SqT K H a (ns.map V.int) ∧
  ∀ (ns' : List Int) (p : Addr), ns'.Perm ns → ns'.Pairwise (· ≤ ·) → H p = none → Q (.ref p) (upd H p (.lst (ns'.map V.int)))
theorem cr_sortedTI : CallR X (.builtin "sorted") (rSortedTI X.K) := by
  intro pins s σ H vs us Q I r h
  obtain ⟨a, ns, rfl, hs, q⟩ := h
  obtain ⟨its, rv, ⟨ol, ho, hc, nl, hd⟩, hz⟩ := I.tuple hs
  rw [Vals.ref1 r]
  have hi := rv.ints
  refine SrtO.sorted_ordT SrtO.swo_int ho hc hd (by rw [← rv.length]; exact hz) (fun h2 h₁ a' _ _ => SrtO.ints_sortable hi h2) fun out h1 h2 => ?_
  obtain ⟨k1, k2, k3⟩ := SrtO.ints_out hi h1 h2
  obtain ⟨ep, he'⟩ := PyProof.Rows.sortedAll_at s.heap its out.toArray
  have hlen : ((out.map SrtO.iv).map V.int).length ≤ sizeLine := by
    rw [List.length_map, k2.length_eq]
    rw [List.length_map] at hz
    exact hz
  exact ⟨.ref _, upd H (s.heap.objs.size + 1) (.lst ((out.map SrtO.iv).map V.int)), I.laid (t' := s.toks) (fun _ _ => PyProof.Rows.sortedAll_old) (Nat.le_succ _) ⟨hlen, out, ep, vals_of_ints k1, he'⟩, rfl, q _ _ k2 k3 (I.hok.fresh (Nat.le_succ _))⟩
/-! ### t.count(x) -/
def rCntD (K : PySem.W.Frag) : V → List V → Hp → VK → Prop := fun x xs H Q => ∃ (a : Addr) (y : V) (d : PyData) (ds : List PyData), x = V.ref a ∧ xs = [y] ∧ Dp K H (V.ref a) (.tuple ds) ∧ Dp K H y d ∧
  SeqAt.shaped (.tuple ds) = true ∧ SeqAt.shaped d = true ∧ Q (.int ((ds.countP fun z => PyData.eqv z d : Nat) : Int)) H
theorem mt_tcount (hu : X.A.units + 65 < cLine) : MtR X "tuple.count" (rCntD X.K) := by
  intro pins s σ H x xs v us Q I rx rxs h
  obtain ⟨a, y, d, ds, rfl, rfl, hl, hy, sl, sd, q⟩ := h
  cases rx
  cases rxs with
  | cons ry rt =>
    rename_i uy ut
    cases rt
    obtain ⟨bs, r1⟩ := Dp.reads I d y uy hy ry
    have hxs : PyData.canLayAll0 ds = true := SeqAt.canLay_of_shaped sl
    have hroom : X.A.units + 1 + min (PyData.depthAll ds) d.depth < cLine := room_in_shaped sd hu
    cases hl with
    | tup hs ha =>
      obtain ⟨its, rv, ⟨⟨cls, dd, data, sls⟩, ho, hc, n, hdt⟩, hlen⟩ := I.tuple hs
      simp only at hc hdt
      subst hc hdt
      obtain ⟨as, h4⟩ := Dp.readsAll I ds _ its ha rv
      have hmap : its.map (SeqAt.readOf s.heap) = ds := SeqAt.readsAll_map ds its as hxs h4
      refine call_meets PySem.F.slot_tuple_count ⟨_, ho, rfl⟩ PySem.F.entry_tuple_count (PySem.F.args_tuple_count_2 _ _)
        (SeqAt.tuple_countAt a its.toArray n dd sls uy (fun u => PyData.eqv (SeqAt.readOf s.heap u) d)) ⟨ho, SeqAt.items_eqAt (vs := its.toArray) (show ReadsAll s.heap its.toArray.toList ds as from h4) r1 hxs (SeqAt.canLay_of_shaped sd) hroom, ?_⟩
      have ec : its.toArray.toList.countP (fun u => PyData.eqv (SeqAt.readOf s.heap u) d) = ds.countP fun z => PyData.eqv z d := by
        rw [← hmap, List.countP_map]; rfl
      exact ⟨.int _, H, I.tok _, ⟨s.toks, by rw [ec]⟩, q⟩
/-- o.m(..), o a strong tuple -/
def tBMT (K : PySem.W.Frag) (r : V → List V → Hp → VK → Prop) (to : TE) (t : TA) : TE := fun σ H Q => to σ H fun x H1 => (∃ p ys ob, x = .ref p ∧ H1 p = some (.frz ob (.tup ys)) ∧ ob.dict = none) ∧ t σ H1 fun xs H2 => r x xs H2 Q
variable {o e : Expr} {es : List Expr} {to : TE} {t : TA} {name : Str} {apos cpos : Pos} {id : String} {r : V → List V → Hp → VK → Prop}
theorem pe_bmT (pa : PlainAttrs "tuple") (slot : Slot "tuple" name id) (hty : typeOf (.builtin id) = pure (.type "method_descriptor")) (hm : MtR X id r) (ho : PE X o to) (ha : PA X (e :: es) t)
    (hbase : attributeBase o name X.env (eval o X.env) = eval o X.env := by rfl)
    (hfew : ((backTo cpos (starEach (e :: es) X.env)).all (fun x => !x.1) && (backToKw cpos (keywordEach [] X.env)).all (fun x => x.1.isSome)
      && decide ((e :: es).length + ([] : List Keyword).length + (if ([] : List Keyword).isEmpty then 0 else 1) < 30)) = true := by rfl)
    (hline : (apos.endLine == cpos.line) = true := by rfl) (hs : starEach (e :: es) X.env = (false, eval e X.env) :: starEach es X.env := by rfl) (hplain : (backTo cpos (starEach es X.env)).any (·.1) = false := by rfl) :
    PE X (.Call (.Attribute o name apos) (e :: es) [] cpos) (tBMT X.K r to t) := by
  refine ⟨fun pins s σ H Q I h => ?_⟩
  refine wpAny_Call_method_late hbase hfew hline rfl (thn (ho.run pins s σ H _ I h) fun v s1 ⟨x, H1, I1, r1, ty, q1⟩ => ?_)
  obtain ⟨p, ys, ob, rfl, hp, hd⟩ := ty
  cases r1
  obtain ⟨eo, _, its, rv, o2, eo2, hc, n, hdt⟩ := (show ObjOk X.prog X.w H1 s1.heap p (.frz ob (.tup ys)) from I1.hok p _ hp)
  rw [eo] at eo2
  cases eo2
  refine ⟨"tuple", id, pa, slot, hty, ⟨ob, eo, hc⟩, fun a z => ?_, ?_⟩
  · cases z
    exact ⟨ob, eo, hd⟩
  · have hA := ha.run cpos pins s1 σ H1 _ I1 q1
    rw [hs] at hA ⊢
    refine Calls.callWith_builtin (by show (false || (backTo cpos (starEach es X.env)).any (·.1)) = false; rw [hplain] <;> rfl) (Calls.evalArgs_plain (thn hA fun us s2 ⟨vs, H2, I2, r2, q2⟩ => hm pins s2 σ H2 (.ref p) vs (.ref p) us Q I2 rfl r2 q2))
end
end L2
namespace ZL
open PySem PySem.Spec PyProof.Rows L2
/-! ### methods of strong tuples -/
def leafZ : Z → Bool
  | .int _ => true
  | .str _ => true
  | _ => false
def keyT (zs : List Z) : Bool := zs.all leafZ && keyN zs.length (zs.all textZ)
theorem leaf_rep {K : PySem.W.Frag} {μ : List Addr} {H : Hp} {z : Z} {v : V} (r : RepV K μ H z v) : leafK v = leafZ z ∧ textK v = textZ z := by
  cases z with
  | non => cases of_non r; exact ⟨rfl, rfl⟩
  | bl b => cases of_bl r; exact ⟨rfl, rfl⟩
  | int i => cases of_int r; exact ⟨rfl, rfl⟩
  | str x => cases of_str r; exact ⟨rfl, rfl⟩
  | tup zs => obtain ⟨a, vs, rfl, _⟩ := of_tup r; exact ⟨rfl, rfl⟩
  | scr ns => unfold RepV at r; obtain ⟨a, rfl, _⟩ := r; exact ⟨rfl, rfl⟩
  | ref n => unfold RepV at r; obtain ⟨a, rfl, _⟩ := r; exact ⟨rfl, rfl⟩
  | err a => unfold RepV at r; subst r; exact ⟨rfl, rfl⟩
theorem all_rep {K : PySem.W.Frag} {μ : List Addr} {H : Hp} : ∀ {zs : List Z} {vs : List V}, RepVs K μ H zs vs → vs.all leafK = zs.all leafZ ∧ vs.all textK = zs.all textZ
  | [], _, r => by unfold RepVs at r; subst r; exact ⟨rfl, rfl⟩
  | z :: zs, _, r => by
    unfold RepVs at r
    obtain ⟨v, w, rfl, h1, h2⟩ := r
    obtain ⟨a, b⟩ := leaf_rep h1
    obtain ⟨c, d⟩ := all_rep h2
    simp only [List.all_cons, a, b, c, d, and_self]
theorem keyT_rep {K : PySem.W.Frag} {μ : List Addr} {H : Hp} {zs : List Z} {vs : List V} (r : RepVs K μ H zs vs) : keyV vs = keyT zs := by
  obtain ⟨a, b⟩ := all_rep r
  unfold keyV keyT
  rw [a, b, r.length]
def isTup (h : ZH) (a : Z) (P : Prop) : Prop := match a with
  | .tup zs => keyT zs = false ∧ P
  | _ => False
def oTCount : ZM := fun a ys h P => match a, ys with
  | .tup zs, [y] => okD h y ∧ okD h (.tup zs) ∧ P (.int ((zs.countP fun z => PyData.eqv z.toD (dOf h y) : Nat) : Int)) h
  | _, _ => False
section
variable {X : Cx} {e o : Expr} {es : List Expr} {wo : WE} {wa : WA} {name : Str} {apos cpos : Pos} {id : String} {om : ZM}
theorem m_tcount (hu : X.A.units + 65 < cLine) : MthZ X "tuple.count" oTCount := by
  refine ⟨_, mt_tcount hu, fun μ H h a zs x vs P Q R ra rs o f => ?_⟩
  unfold oTCount at o
  split at o
  · rename_i us y
    obtain ⟨o1, o2, o3⟩ := o
    obtain ⟨p, ws, rfl, t, rw⟩ := of_tup ra
    obtain ⟨u, rfl, ru⟩ := one_vals rs rfl
    have e : dOf h (.tup us) = .tuple (us.map Z.toD) := by show Z.toD (.tup us) = _; unfold Z.toD; rw [toDs_map]
    refine ⟨p, u, _, us.map Z.toD, rfl, rfl, by rw [← e]; exact dpo_of R (SeqAt.canLay_of_shaped o2) ra, dpo_of R (SeqAt.canLay_of_shaped o1) ru, by rw [← e]; exact o2, o1, ?_⟩
    rw [List.countP_map]
    exact f.here R o3 rep_int
  · exact o.elim
theorem ze_tm (slot : Slot "tuple" name id) (hty : typeOf (.builtin id) = pure (.type "method_descriptor")) (hm : MthZ X id om) (ho : ZE X o wo) (ha : ZA X (e :: es) wa)
    (hbase : attributeBase o name X.env (eval o X.env) = eval o X.env := by rfl)
    (hfew : ((backTo cpos (starEach (e :: es) X.env)).all (fun x => !x.1) && (backToKw cpos (keywordEach [] X.env)).all (fun x => x.1.isSome)
      && decide ((e :: es).length + ([] : List Keyword).length + (if ([] : List Keyword).isEmpty then 0 else 1) < 30)) = true := by rfl)
    (hline : (apos.endLine == cpos.line) = true := by rfl) (hs : starEach (e :: es) X.env = (false, eval e X.env) :: starEach es X.env := by rfl) (hplain : (backTo cpos (starEach es X.env)).any (·.1) = false := by rfl) :
    ZE X (.Call (.Attribute o name apos) (e :: es) [] cpos) (wBM isTup om wo wa) :=
  let ⟨_, h1, h2⟩ := hm
  ⟨fun B E tk => pe_imp (pe_bmT PySem.F.plainAttrs_tuple slot hty h1 (ho.run B E tk) (ha.run B E tk) hbase hfew hline hs hplain) fun σ H Q ⟨μ, env, h, P, R, q, f⟩ =>
    ⟨μ, env, h, _, R, q, fun a h1' μ1 H1 x p1 e1 R1 r1 => by
      unfold isTup at p1
      split at p1
      · rename_i zs
        obtain ⟨p, vs, rfl, t, rv⟩ := of_tup r1
        refine ⟨?_, μ1, env, h1', _, R.step e1 R1, p1.2, fun zs' h2' μ2 H2 vs' p2 e2 R2 r2 => h2 μ2 H2 h2' _ zs' _ vs' P Q R2 (r1.mono e2) r2 p2 (f.ext (e1.trans e2))⟩
        rcases t with ⟨c, _⟩ | ⟨_, ob, d, t⟩
        · rw [keyT_rep rv, p1.1] at c; cases c
        · exact ⟨p, vs, ob, rfl, t, d⟩
      · exact p1.elim⟩⟩
end
end ZL
namespace ZL
open PySem PySem.Spec PyProof.Rows L2
/-! ### sorted of ints -/
def oSorted : Z3 := fun zs h P => match zs with
  | [.tup us] => ∃ ns, intsZ us = some ns ∧ ∀ ns' : List Int, ns'.Perm ns → ns'.Pairwise (· ≤ ·) → P (.ref h.length) (h ++ [.lst (ns'.map Z.int)])
  | [.ref n] => (match h[n]? with
    | some (.lst us) => ∃ ns, intsZ us = some ns ∧ ∀ ns' : List Int, ns'.Perm ns → ns'.Pairwise (· ≤ ·) → P (.ref h.length) (h ++ [.lst (ns'.map Z.int)])
    | _ => False)
  | _ => False
section
variable {X : Cx}
theorem call_sortedZ : CallZ X (.builtin "sorted") oSorted := by
  refine ⟨_, cr_sortedI.or cr_sortedTI, fun μ H h zs vs P Q R r o f => ?_⟩
  unfold oSorted at o
  split at o
  · obtain ⟨v, rfl, rv⟩ := one_vals r rfl
    obtain ⟨a, ws, rfl, t, rw⟩ := of_tup rv
    obtain ⟨ns, e2, q⟩ := o
    cases intsZ_some e2
    cases all_ints rw
    exact .inr ⟨a, ns, rfl, t.sq, fun ns' p h1 h2 hn => fol_lst R (RepVs.ints ns') (q ns' h1 h2) f p hn⟩
  · split at o
    · rename_i us e1
      obtain ⟨v, rfl, rv⟩ := one_vals r rfl
      obtain ⟨a, ws, rfl, _, hp, rw⟩ := of_lst R e1 rv
      obtain ⟨ns, e2, q⟩ := o
      cases intsZ_some e2
      cases all_ints rw
      exact .inl ⟨a, ns, rfl, SqL.of hp, fun ns' p h1 h2 hn => fol_lst R (RepVs.ints ns') (q ns' h1 h2) f p hn⟩
    · exact o.elim
  · exact o.elim
end
end ZL
namespace ZL
open PySem PySem.Spec PyProof.Rows L2
section
variable {env : Env} {h : ZH} {P : PZ} {PI : List Z → (ZH → Prop) → ZH → Prop} {E : EZ} {r : WA} {zs us : List Z} {y : Z} {n : Nat} {p : Prop}
@[simp] theorem m_isTup : isTup h (.tup zs) p = (keyT zs = false ∧ p) := noRfl rfl
@[simp] theorem oTCount_1 : oTCount (.tup zs) [y] h P = (okD h y ∧ okD h (.tup zs) ∧ P (.int ((zs.countP fun z => PyData.eqv z.toD (dOf h y) : Nat) : Int)) h) := noRfl rfl
@[simp] theorem oSorted_t : oSorted [.tup us] h P = (∃ ns, intsZ us = some ns ∧ ∀ ns' : List Int, ns'.Perm ns → ns'.Pairwise (· ≤ ·) → P (.ref h.length) (h ++ [.lst (ns'.map Z.int)])) := noRfl rfl
@[simp] theorem oSorted_r : oSorted [.ref n] h P = (match h[n]? with
    | some (.lst us) => ∃ ns, intsZ us = some ns ∧ ∀ ns' : List Int, ns'.Perm ns → ns'.Pairwise (· ≤ ·) → P (.ref h.length) (h ++ [.lst (ns'.map Z.int)])
    | _ => False) := noRfl rfl
def kEn (P : List Z → (ZH → Prop) → ZH → Prop) : List Z → ZH → Prop := fun zs h => enZ zs h fun l c => P l c h
@[simp] theorem m_iEn : iEnumW r env h PI E = r env h (kEn PI) E := noRfl rfl
@[simp] theorem m_kEn : kEn PI [.tup zs] h = PI (enP 0 zs) Always h := noRfl rfl
end
end ZL

namespace ZTS
open PySem PySem.Spec PyProof.Rows L2
section
variable {X : Cx} {e : Expr} {te : L2.St → Hp → (Int → Int → Hp → Prop) → Prop} {kl : List V → Bool}
def tTupRgS (kl : List V → Bool) (te : L2.St → Hp → (Int → Int → Hp → Prop) → Prop) : TE := fun σ H Q => te σ H fun a b H1 => RgOk a b ∧ ∀ q H', H1 q = none → LaidT kl H1 q (rgV a b) H' → Q (.ref q) H'
theorem pe_tupRgS {p pos : Pos} (hc : X.calm = true) (hg : Gl X "tuple") (hm : X.mg "tuple" = none) (he : PRg X e te) (na : starEach [e] X.env = (false, eval e X.env) :: starEach [] X.env := by rfl) : PE X (.Call (.Name "tuple" p) [e] [] pos) (tTupRgS kl te) := by
  refine ⟨fun pins s σ H Q I h => Call_ (ld_blt I hg hm boot_tuple (PyProof.Rows.callWith_type1 (args_cons (thn (he pins s σ H _ I h) fun x s1 ⟨r, a, b, t, u, v, H1, ex, hr, I1, ok, q⟩ => args_nil ?_) na) na))⟩
  subst ex
  obtain ⟨b1, b2, b3, b4, b5⟩ := ok
  refine call_tuple_range (n := (b - a).toNat) (I1.ok.hd hc) hr (small_one b1 b2 b3 b4) (rangeSize_nat a b) b5 fun g tk acc hk hi => ?_
  have I2 : Inv X pins σ H1 { s1 with heap := g, toks := tk } := I1.kept hk
  have hz : (rgV a b).length ≤ sizeLine := by rw [rgV_length, sizeLine_eq]; omega
  obtain ⟨H', la, J⟩ := laid_inv (tk := tk) (p := g.objs.size) kl I2 (its := acc.toList) (n := 0) (g := g.push { cls := .type "tuple", data := .seq acc }) (fun c o e => Heap.get?_push_of_some _ e) (Nat.le_refl _) (by rw [Array.toArray_toList]; exact Heap.get?_push_size _ rfl) (vals_rg hi) hz
  exact ⟨.ref g.objs.size, H', J, rfl, q _ H' (I2.hok.fresh (Nat.le_refl _)) la⟩
end
end ZTS
namespace ZL
open PySem PySem.Spec PyProof.Rows L2
section
variable {X : Cx} {a b : Expr}
def wTupRg (wa wb : WE) : WE := fun env h P E => wa env h (fun x h1 => wb env h1 (fun y h2 => match x, y with
  | .int i, .int j => RgOk i j ∧ P (.tup (rngZ i (j - i).toNat)) h2
  | _, _ => False) E) E
def wLstRg (wa wb : WE) : WE := fun env h P E => wa env h (fun x h1 => wb env h1 (fun y h2 => match x, y with
  | .int i, .int j => RgOk i j ∧ P (.ref h2.length) (h2 ++ [.lst (rngZ i (j - i).toNat)])
  | _, _ => False) E) E
theorem rep_rg {K : PySem.W.Frag} {μ : List Addr} {H : Hp} {i j : Int} : RepVs K μ H (rngZ i (j - i).toNat) (rgV i j) := by
  have := RepVs.ints (K := K) (μ := μ) (H := H) ((List.range (j - i).toNat).map fun k => i + ((k : Nat) : Int))
  rw [List.map_map, List.map_map] at this
  exact this
variable {wa wb : WE} {p p2 pos pos2 : Pos}
theorem ze_tupRg (hc : X.calm = true) (hg : Gl X "tuple") (hm : X.mg "tuple" = none) (hg2 : Gl X "range") (hm2 : X.mg "range" = none) (ha : ZE X a wa) (hb : ZE X b wb)
    (na : starEach [a, b] X.env = (false, eval a X.env) :: starEach [b] X.env := by rfl) (nb : starEach [b] X.env = (false, eval b X.env) :: starEach [] X.env := by rfl) (hp : (backTo pos2 (starEach [b] X.env)).any (·.1) = false := by rfl)
    (nc : starEach [.Call (.Name "range" p2) [a, b] [] pos2] X.env = (false, eval (.Call (.Name "range" p2) [a, b] [] pos2) X.env) :: starEach [] X.env := by rfl) :
    ZE X (.Call (.Name "tuple" p) [.Call (.Name "range" p2) [a, b] [] pos2] [] pos) (wTupRg wa wb) :=
  ⟨fun B E tk => pe_imp (ZTS.pe_tupRgS (kl := keyV) hc hg hm (prg_2 hg2 hm2 (ha.run B E tk) (hb.run B E tk) na nb hp) nc) fun σ H Q ⟨μ, env, h, P, R, q, f⟩ =>
    ⟨μ, env, h, _, R, q, fun x h1 μ1 H1 vx p1 e1 R1 r1 => ⟨μ1, env, h1, _, R.step e1 R1, p1, fun y h2 μ2 H2 vy p2 e2 R2 r2 => by
      split at p2
      · cases of_int r1; cases of_int r2
        exact ⟨_, _, rfl, rfl, p2.1, fol_tup R2 rep_rg p2.2 (f.ext (e1.trans e2))⟩
      · exact p2.elim⟩⟩⟩
theorem ze_lstRg (hc : X.calm = true) (hg : Gl X "list") (hm : X.mg "list" = none) (hg2 : Gl X "range") (hm2 : X.mg "range" = none) (ha : ZE X a wa) (hb : ZE X b wb)
    (na : starEach [a, b] X.env = (false, eval a X.env) :: starEach [b] X.env := by rfl) (nb : starEach [b] X.env = (false, eval b X.env) :: starEach [] X.env := by rfl) (hp : (backTo pos2 (starEach [b] X.env)).any (·.1) = false := by rfl)
    (nc : starEach [.Call (.Name "range" p2) [a, b] [] pos2] X.env = (false, eval (.Call (.Name "range" p2) [a, b] [] pos2) X.env) :: starEach [] X.env := by rfl) :
    ZE X (.Call (.Name "list" p) [.Call (.Name "range" p2) [a, b] [] pos2] [] pos) (wLstRg wa wb) :=
  ⟨fun B E tk => pe_imp (pe_listRg hc hg hm (prg_2 hg2 hm2 (ha.run B E tk) (hb.run B E tk) na nb hp) nc) fun σ H Q ⟨μ, env, h, P, R, q, f⟩ =>
    ⟨μ, env, h, _, R, q, fun x h1 μ1 H1 vx p1 e1 R1 r1 => ⟨μ1, env, h1, _, R.step e1 R1, p1, fun y h2 μ2 H2 vy p2 e2 R2 r2 => by
      split at p2
      · cases of_int r1; cases of_int r2
        exact ⟨_, _, rfl, rfl, p2.1, fol_lst R2 rep_rg p2.2 (f.ext (e1.trans e2))⟩
      · exact p2.elim⟩⟩⟩
end
section
variable {env : Env} {h : ZH} {P : PZ} {E : EZ} {wa wb : WE} {i j : Int}
def kRg2 (P : PZ) (i : Z) : PZ := fun y h2 => match i, y with
  | .int i, .int j => RgOk i j ∧ P (.tup (rngZ i (j - i).toNat)) h2
  | _, _ => False
def kRg1 (wb : WE) (env : Env) (P : PZ) (E : EZ) : PZ := fun x h1 => wb env h1 (kRg2 P x) E
@[simp] theorem m_tupRg : wTupRg wa wb env h P E = wa env h (kRg1 wb env P E) E := noRfl rfl
@[simp] theorem m_kRg1 {x : Z} : kRg1 wb env P E x h = wb env h (kRg2 P x) E := noRfl rfl
@[simp] theorem m_kRg2 : kRg2 P (.int i) (.int j) h = (RgOk i j ∧ P (.tup (rngZ i (j - i).toNat)) h) := noRfl rfl
def kLg2 (P : PZ) (i : Z) : PZ := fun y h2 => match i, y with
  | .int i, .int j => RgOk i j ∧ P (.ref h2.length) (h2 ++ [.lst (rngZ i (j - i).toNat)])
  | _, _ => False
def kLg1 (wb : WE) (env : Env) (P : PZ) (E : EZ) : PZ := fun x h1 => wb env h1 (kLg2 P x) E
@[simp] theorem m_lstRg : wLstRg wa wb env h P E = wa env h (kLg1 wb env P E) E := noRfl rfl
@[simp] theorem m_kLg1 {x : Z} : kLg1 wb env P E x h = wb env h (kLg2 P x) E := noRfl rfl
@[simp] theorem m_kLg2 : kLg2 P (.int i) (.int j) h = (RgOk i j ∧ P (.ref h.length) (h ++ [.lst (rngZ i (j - i).toNat)])) := noRfl rfl
end
end ZL

namespace L2
open PySem PySem.Spec PyProof.Rows
/-- v is a pair of a key and a value -/
def PairL (H : Hp) (v : V) (q : List Key × V) : Prop := ∃ (T b : Addr) (ob : Obj), v = .ref T ∧ H T = some (.frz ob (.tup [.ref b, q.2])) ∧ H b = some (.tup (q.1.map kV))
theorem kt_all {H : Hp} : ∀ {ps : List (List Key × Addr × Value)} {kvs acc : List (List Key × V)} {xs : List (List Key × Addr × Value)}, KT H acc xs →
    KT H kvs ps → KT H (kvs.foldl (fun d p => putK d p.1 p.2) acc) (storedAllH xs ps) := by
  intro ps kvs acc xs r t
  induction t generalizing acc xs with
  | nil => exact r
  | @cons p q l m h t ih =>
    obtain ⟨h1, h2, h3⟩ := h
    show KT H (List.foldl _ (putK acc p.1 p.2) l) (storedAllH (storedH xs q.1 q.2.1 q.2.2) m)
    refine ih ?_
    rw [h1]
    exact r.put q.1 (by rw [← h1]; exact h2) h3
theorem pairs_at {P : Program} {w : World} {H : Hp} {h : Heap} (ok : HOk P w H h) : ∀ {vs : List V} {kvs : List (List Key × V)} {its : List Value}, Paired (PairL H) vs kvs → Vals vs its →
    ∃ (ts : List Addr) (ps : List (List Key × Addr × Value)), KT H kvs ps ∧ its = ts.map Value.ref ∧ ts.length = ps.length ∧ ∀ (j : Nat) (k : List Key) (b : Addr) (v : Value), ps[j]? = some (k, b, v) → ∃ T : Addr, ts[j]? = some T ∧ PairAt h T (.ref b) v := by
  intro vs kvs its p r
  induction p generalizing its with
  | nil => cases r; exact ⟨[], [], .nil, rfl, rfl, fun j k b v e => by simp at e⟩
  | @cons v q l m hq t ih =>
    cases r with
    | cons r1 r2 =>
      obtain ⟨ts, ps, h1, h2, h3, h4⟩ := ih r2
      obtain ⟨T, b, ob, rfl, eT, eb⟩ := hq
      cases r1
      obtain ⟨eo, _, js, rv, o2, eo2, hc, n, hd⟩ := (show ObjOk P w H h T (.frz ob (.tup [.ref b, q.2])) from ok T _ eT)
      rw [eo] at eo2; cases eo2
      cases rv with
      | cons a1 a2 =>
        cases a1
        cases a2 with
        | @cons _ u2 _ _ b1 b2 =>
          cases b2
          refine ⟨T :: ts, (q.1, b, u2) :: ps, .cons ⟨rfl, eb, b1⟩ h1, by rw [h2]; rfl, by simp [h3], fun j k b' v' e => ?_⟩
          cases j with
          | zero =>
            simp only [List.getElem?_cons_zero, Option.some.injEq, Prod.mk.injEq] at e
            obtain ⟨rfl, rfl, rfl⟩ := e
            exact ⟨T, rfl, .inl ⟨ob, eo, hc, n, hd⟩⟩
          | succ j => exact h4 j k b' v' (by simpa using e)
section
variable {X : Cx}
theorem putK_len {kvs : List (List Key × V)} {k : List Key} {y : V} : (putK kvs k y).length ≤ kvs.length + 1 := by
  unfold putK
  split <;> simp
theorem putAllK_len : ∀ (more kvs : List (List Key × V)), (more.foldl (fun d p => putK d p.1 p.2) kvs).length ≤ kvs.length + more.length
  | [], kvs => by simp
  | p :: more, kvs => by
    have h1 := putAllK_len more (putK kvs p.1 p.2)
    have h2 : (putK kvs p.1 p.2).length ≤ kvs.length + 1 := putK_len
    simp only [List.foldl_cons, List.length_cons]
    omega
theorem paired_length {α β : Type} {F : α → β → Prop} {l : List α} {m : List β} (h : Paired F l m) : l.length = m.length := by
  induction h with
  | nil => rfl
  | cons _ _ ih => simp [ih]
theorem call_dictPT (hc : X.calm = true) (hu : X.A.units + 65 < cLine) : CallR X (.type "dict") (fun xs H Q => ∃ (a : Addr) (vs : List V) (ob : Obj) (kvs : List (List Key × V)), xs = [.ref a] ∧ H a = some (.frz ob (.tup vs)) ∧ ob.dict = none ∧ Paired (PairL H) vs kvs ∧
    ∀ p, H p = none → Q (.ref p) (upd H p (.dT (kvs.foldl (fun d p => putK d p.1 p.2) [])))) := by
  intro pins s σ H xs us Q I r q
  obtain ⟨a, vs, ob, kvs, ex, ha, hd, hp, q⟩ := q
  subst ex
  obtain ⟨u, eu, rx⟩ := vals1 r
  subst eu
  cases rx
  obtain ⟨eo, hz, its, rv, o2, eo2, hcl, n, hdt⟩ := (show ObjOk X.prog X.w H s.heap a (.frz ob (.tup vs)) from I.hok a _ ha)
  rw [eo] at eo2; cases eo2
  obtain ⟨ts, ps, hk, rfl, hl, hpa⟩ := pairs_at I.hok hp rv
  have l1 : ps.length = kvs.length := (paired_length hk).symm
  have l2 : vs.length = kvs.length := paired_length hp
  have hm : (s.heap.objs.size == sysModules) = false := beq_eq_false_iff_ne.mpr (Nat.ne_of_gt I.big)
  have isK : ∀ {l : List (List Key × V)} {m : List (List Key × Addr × Value)}, KT H l m → ∀ x ∈ m, (tupleKind (mixKind X.prog X.w)).is s.heap x.1 x.2.1 := by
    intro l m q
    induction q with
    | nil => intro x hx; exact nomatch hx
    | @cons p q ps qs hq t ih =>
      intro x hx
      rcases List.mem_cons.mp hx with e | hx
      · subst e
        exact key_of I.hok (by rw [← hq.1]; exact hq.2.1)
      · exact ih x hx
  refine call_dict_pairsH (knd := tupleKind (mixKind X.prog X.w)) (ps := ps) (PairArg.tuple a (ts.map Value.ref).toArray (fun j => ts.getD j 0) (ps.map fun q => (Value.ref q.2.1, q.2.2))) (I.ok.hd hc) (by show _ < _; simp only [Around.in1]; omega)
    ⟨⟨ob, n, eo, hcl, hd, hdt⟩, by simp [hl], fun j k v e => ?_⟩ ⟨by simp, fun i key v hrel => ?_⟩ (fun h' hkeep x hx => ?_) (by simp; omega) fun h' tk dd hkeep => ?_
  · rw [List.getElem?_map] at e
    cases e1 : ps[j]? with
    | none => rw [e1] at e; cases e
    | some x =>
      obtain ⟨k0, b, v0⟩ := x
      rw [e1] at e
      simp only [Option.map_some, Option.some.injEq, Prod.mk.injEq] at e
      obtain ⟨rfl, rfl⟩ := e
      obtain ⟨T, h1, h2⟩ := hpa j k0 b v0 e1
      have eg : ts.getD j 0 = T := by rw [List.getD_eq_getElem?_getD, h1]; rfl
      show _ ∧ PairAt _ (ts.getD j 0) _ _
      rw [show (fun j => ts.getD j 0) j = T from eg, eg]
      refine ⟨?_, h2⟩
      simp [h1]
  · have e : (ps.map fun q => (Value.ref q.2.1, q.2.2))[i]? = some (key, v) := hrel
    rw [List.getElem?_map] at e
    cases e1 : ps[i]? with
    | none => rw [e1] at e; cases e
    | some x =>
      obtain ⟨k0, b, v0⟩ := x
      rw [e1] at e
      simp only [Option.map_some, Option.some.injEq, Prod.mk.injEq] at e
      obtain ⟨rfl, rfl⟩ := e
      exact ⟨k0, b, rfl, rfl⟩
  · exact tupleKind_stays.stays (fun b o vs n e _ => hkeep b o (Nat.ne_of_lt (Heap.lt_size e)) (by simp) e) (isK hk x hx)
  · obtain ⟨o, es, ep, g1, g2, g3, g4, g5, g6⟩ := dd
    have hr : KT H (kvs.foldl (fun d p => putK d p.1 p.2) []) (storedAllH [] ps) := kt_all .nil hk
    have f0 : H s.heap.objs.size = none := I.hok.fresh (Nat.le_refl _)
    refine ⟨.ref s.heap.objs.size, upd H s.heap.objs.size (.dT (kvs.foldl (fun d p => putK d p.1 p.2) [])), I.laid (t' := tk) (fun b u e => hkeep b u (by simp) e) (Nat.le_refl _) ?_, rfl, q _ f0⟩
    refine ⟨?_, hm, storedAllH [] ps, hr.keeps fun b ys e => by rw [upd_ne (ne_of_none e f0)]; exact e, o, es, ep, g1, g2, g3, g4, g6⟩
    have := putAllK_len kvs []
    simp only [List.length_nil] at this
    omega
end
end L2
namespace L2
open PySem PySem.Spec PyProof.Rows
section
variable {X : Cx}
theorem upd_turn {H : Hp} {a p : Addr} {u v w : HO} (e : H a = some u) (n : p ≠ a) : upd (upd (upd H a v) p w) a u = upd H p w := by
  funext b
  by_cases h1 : b = a
  · subst h1
    rw [upd_same, upd_ne (Ne.symm n)]; exact e.symm
  · rw [upd_ne h1]
    by_cases h2 : b = p
    · subst h2; rw [upd_same, upd_same]
    · rw [upd_ne h2, upd_ne h1, upd_ne h2]
theorem call_dictE : CallR X (.type "dict") (fun xs H Q => ∃ a : Addr, xs = [.ref a] ∧ H a = some (.dT []) ∧ ∀ p, H p = none → Q (.ref p) (upd H p (.dK []))) := by
  intro pins s σ H xs us Q I r q
  obtain ⟨a, ex, hd, q⟩ := q
  refine wpAny_mono (call_dictD pins s σ (upd H a (.dK [])) xs us (fun v H2 => ∃ p, p ≠ a ∧ v = V.ref p ∧ H p = none ∧ H2 = upd (upd H a (.dK [])) p (.dK [])) (ZL.Inv.tk I hd) r ⟨a, [], ex, .inl upd_same, fun p hp => ?_⟩) (fun u s' z => ?_) fun _ _ e => e
  · have n : p ≠ a := fun z => by rw [z, upd_same] at hp; cases hp
    exact ⟨p, n, rfl, by rw [upd_ne n] at hp; exact hp, rfl⟩
  · obtain ⟨v, H', I', rv, p, n, ev, hn, e2⟩ := z
    rw [e2] at I'
    have k : upd (upd H a (.dK [])) p (.dK []) a = some (.dK []) := by rw [upd_ne (Ne.symm n)]; exact upd_same
    have I2 := ZL.Inv.kt I' k
    rw [upd_turn hd n] at I2
    exact ⟨v, _, I2, rv, by rw [ev]; exact q p hn⟩
end
end L2
namespace ZL
open PySem PySem.Spec PyProof.Rows L2
/-! ### dict(d) of ints, texts; dict(pairs), their keys tuples -/
def fstZ : Z → Z
  | .tup (a :: _) => a
  | z => z
def sndZ : Z → Z
  | .tup (_ :: b :: _) => b
  | z => z
def dictOf (us : List Z) : List (Z × Z) := us.foldl (fun d u => dput d (fstZ u) (sndZ u)) []
def pairOk (u : Z) : Prop := ∃ ks v, u = .tup [.tup ks, v] ∧ keyOk (.tup ks) = true
def oDict : Z3 := fun zs h P => match zs with
  | [.ref n] => (match h[n]? with
    | some (.dict kvs) => (∀ p ∈ kvs, isT p.1 = false) ∧ P (.ref h.length) (h ++ [.dict kvs])
    | _ => False)
  | [.tup us] => keyT us = false ∧ (∀ u ∈ us, pairOk u) ∧ P (.ref h.length) (h ++ [.dict (dictOf us)])
  | _ => False
section
variable {X : Cx}
theorem pairs_of {K : PySem.W.Frag} {μ : List Addr} {H : Hp} : ∀ {us : List Z} {vs : List V}, RepVs K μ H us vs → (∀ u ∈ us, pairOk u) →
    ∃ kvs : List (List Key × V), Paired (PairL H) vs kvs ∧ Paired (TR K μ H) (us.map fun u => (fstZ u, sndZ u)) kvs
  | [], _, r, _ => by unfold RepVs at r; subst r; exact ⟨[], .nil, .nil⟩
  | u :: us, _, r, ok => by
    unfold RepVs at r
    obtain ⟨v, w, rfl, h1, h2⟩ := r
    obtain ⟨kvs, p1, p2⟩ := pairs_of h2 fun y m => ok y (List.mem_cons_of_mem _ m)
    obtain ⟨ks, x, rfl, hk⟩ := ok u List.mem_cons_self
    obtain ⟨T, ws, rfl, t, rw⟩ := of_tup h1
    unfold RepVs at rw
    obtain ⟨v1, w1, rfl, r1, rw⟩ := rw
    unfold RepVs at rw
    obtain ⟨v2, w2, rfl, r2, rw⟩ := rw
    unfold RepVs at rw
    subst rw
    rcases key_cases hk r1 with ⟨z, _⟩ | ⟨_, q, b, e1, rfl, eb⟩
    · cases z
    · rcases t with ⟨c, _⟩ | ⟨_, ob, _, t⟩
      · cases c
      · exact ⟨(q, v2) :: kvs, .cons ⟨T, b, ob, rfl, t, eb⟩ p1, .cons ⟨e1, r2⟩ p2⟩
theorem dictOf_rep {K : PySem.W.Frag} {μ : List Addr} {H : Hp} : ∀ {us : List Z} {kvs : List (List Key × V)} {d : List (Z × Z)} {l : List (List Key × V)}, Paired (TR K μ H) (us.map fun u => (fstZ u, sndZ u)) kvs → Paired (TR K μ H) d l →
    Paired (TR K μ H) (us.foldl (fun d u => dput d (fstZ u) (sndZ u)) d) (kvs.foldl (fun d p => putK d p.1 p.2) l)
  | [], [], _, _, _, r => r
  | u :: us, q :: kvs, d, l, .cons a p, r => by
    obtain ⟨e, rz⟩ := a
    have e : fstZ u = .tup (q.1.map keyZ) := e
    have := dictOf_rep (us := us) (kvs := kvs) p (pr_put (F := fun q : List Key => Z.tup (q.map keyZ)) (G := RepV K μ H) tupKey_inj r q.1 rz)
    rw [List.foldl_cons, List.foldl_cons, e]
    exact this
theorem call_dictZ (hc : X.calm = true) (hu : X.A.units + 65 < cLine) : CallZ X (.type "dict") oDict := by
  refine ⟨_, call_dictD.or (call_dictE.or (call_dictPT hc hu)), fun μ H h zs vs P Q R r o f => ?_⟩
  unfold oDict at o
  split at o
  · obtain ⟨v, rfl, rv⟩ := one_vals r rfl
    split at o
    · rename_i kvs e1
      obtain ⟨a, ho, rfl, _, hp, d⟩ := dict_of R e1 rv
      rcases d with ⟨l, rfl, pr⟩ | ⟨l, rfl, pr⟩
      · exact .inl ⟨a, l, rfl, .inl hp, fol_dict R (.inl ⟨l, rfl, pr⟩) o.2 f⟩
      · cases pr with
        | nil => exact .inr (.inl ⟨a, rfl, hp, fol_dict R (.inl ⟨[], rfl, .nil⟩) o.2 f⟩)
        | cons x _ =>
          have := o.1 _ List.mem_cons_self
          rw [x.1] at this
          cases this
    · exact o.elim
  · obtain ⟨v, rfl, rv⟩ := one_vals r rfl
    obtain ⟨a, ws, rfl, t, rw⟩ := of_tup rv
    obtain ⟨o1, o2, o3⟩ := o
    rcases t with ⟨c, _⟩ | ⟨_, ob, d, t⟩
    · rw [keyT_rep rw, o1] at c; cases c
    · obtain ⟨kvs, p1, p2⟩ := pairs_of rw o2
      exact .inr (.inr ⟨a, ws, ob, kvs, rfl, t, d, p1, fol_dict R (.inr ⟨_, rfl, dictOf_rep p2 .nil⟩) o3 f⟩)
  · exact o.elim
end
section
variable {h : ZH} {P : PZ} {us : List Z} {n : Nat}
@[simp] theorem oDict_t : oDict [.tup us] h P = (keyT us = false ∧ (∀ u ∈ us, pairOk u) ∧ P (.ref h.length) (h ++ [.dict (dictOf us)])) := noRfl rfl
@[simp] theorem oDict_r : oDict [.ref n] h P = (match h[n]? with
    | some (.dict kvs) => (∀ p ∈ kvs, isT p.1 = false) ∧ P (.ref h.length) (h ++ [.dict kvs])
    | _ => False) := noRfl rfl
end
end ZL

/-! ### the order of keys -/
namespace ZK
open PySem PySem.Spec PyProof.Rows L2 ZL
def ltk1 : Key → Key → Bool
  | .inl i, .inl j => decide (i < j)
  | .inl _, .inr _ => true
  | .inr _, .inl _ => false
  | .inr x, .inr y => decide (x.cps.toList < y.cps.toList)
def ltKs : List Key → List Key → Bool
  | [], [] => false
  | [], _ :: _ => true
  | _ :: _, [] => false
  | a :: as, b :: bs => if a = b then ltKs as bs else ltk1 a b
theorem ltk1_irr : ∀ a : Key, ltk1 a a = false
  | .inl i => by simp [ltk1]
  | .inr x => by simp [ltk1]
theorem ltk1_tri : ∀ a b : Key, ltk1 a b = true ∨ a = b ∨ ltk1 b a = true
  | .inl i, .inl j => by
    rcases Int.lt_trichotomy i j with h | h | h
    · exact .inl (by simp [ltk1, h])
    · exact .inr (.inl (by rw [h]))
    · exact .inr (.inr (by simp [ltk1, h]))
  | .inl _, .inr _ => .inl rfl
  | .inr _, .inl _ => .inr (.inr rfl)
  | .inr x, .inr y => by
    by_cases h1 : x.cps.toList < y.cps.toList
    · exact .inl (by simp [ltk1, h1])
    · by_cases h2 : y.cps.toList < x.cps.toList
      · exact .inr (.inr (by simp [ltk1, h2]))
      · have e : x.cps.toList = y.cps.toList := List.le_antisymm (List.not_lt.mp h2) (List.not_lt.mp h1)
        refine .inr (.inl ?_)
        have : x.cps = y.cps := Array.toList_inj.mp e
        cases x; cases y
        simp only at this
        rw [this]
theorem ltk1_tr : ∀ {a b c : Key}, ltk1 a b = true → ltk1 b c = true → ltk1 a c = true
  | .inl i, .inl j, .inl k, h1, h2 => by simp only [ltk1, decide_eq_true_eq] at h1 h2 ⊢; omega
  | .inl _, .inl _, .inr _, _, _ => rfl
  | .inl _, .inr _, .inl _, _, h2 => by cases h2
  | .inl _, .inr _, .inr _, _, _ => rfl
  | .inr _, .inl _, _, h1, _ => by cases h1
  | .inr _, .inr _, .inl _, _, h2 => by cases h2
  | .inr x, .inr y, .inr z, h1, h2 => by
    simp only [ltk1, decide_eq_true_eq] at h1 h2 ⊢
    exact List.lt_trans h1 h2
theorem ltKs_irr : ∀ q : List Key, ltKs q q = false
  | [] => rfl
  | a :: q => by simp [ltKs, ltKs_irr q]
theorem ltKs_tri : ∀ p q : List Key, ltKs p q = true ∨ p = q ∨ ltKs q p = true
  | [], [] => .inr (.inl rfl)
  | [], _ :: _ => .inl rfl
  | _ :: _, [] => .inr (.inr rfl)
  | a :: p, b :: q => by
    by_cases e : a = b
    · subst e
      rcases ltKs_tri p q with h | h | h
      · exact .inl (by simp [ltKs, h])
      · exact .inr (.inl (by rw [h]))
      · exact .inr (.inr (by simp [ltKs, h]))
    · rcases ltk1_tri a b with h | h | h
      · exact .inl (by simp [ltKs, e, h])
      · exact absurd h e
      · exact .inr (.inr (by simp [ltKs, Ne.symm e, h]))
theorem ltKs_tr : ∀ {p q r : List Key}, ltKs p q = true → ltKs q r = true → ltKs p r = true
  | [], _, [], h1, h2 => by
    rename_i q
    cases q <;> simp [ltKs] at h1 h2
  | [], _, _ :: _, _, _ => rfl
  | _ :: _, [], _, h1, _ => by cases h1
  | _ :: _, _ :: _, [], _, h2 => by cases h2
  | a :: p, b :: q, c :: r, h1, h2 => by
    unfold ltKs at h1 h2 ⊢
    by_cases e1 : a = b
    · subst e1
      rw [if_pos rfl] at h1
      by_cases e2 : a = c
      · rw [if_pos e2] at h2 ⊢; exact ltKs_tr h1 h2
      · rw [if_neg e2] at h2 ⊢; exact h2
    · rw [if_neg e1] at h1
      by_cases e2 : b = c
      · subst e2
        rw [if_neg e1]; exact h1
      · rw [if_neg e2] at h2
        have h3 := ltk1_tr h1 h2
        by_cases e3 : a = c
        · subst e3
          rw [ltk1_irr] at h3; cases h3
        · rw [if_neg e3]; exact h3
theorem swo_keys {α : Type} (k : α → List Key) : SrtO.Swo fun x y => ltKs (k x) (k y) where
  asym := fun x y h => by
    cases h2 : ltKs (k y) (k x) with
    | false => rfl
    | true => have := ltKs_tr h h2; rw [ltKs_irr] at this; cases this
  tr := fun x y z h1 h2 => by
    cases h3 : ltKs (k z) (k x) with
    | false => rfl
    | true =>
      rcases ltKs_tri (k x) (k y) with h | h | h
      · rw [ltKs_tr h3 h] at h2; cases h2
      · rw [← h, h3] at h2; cases h2
      · rw [h1] at h; cases h
/-- what order gives of a key -/
def ordP : Key → PyData
  | .inl i => .tuple [.int 0, .int i]
  | .inr x => .tuple [.int 1, .str x]
def ordD (q : List Key) : PyData := .tuple (q.map ordP)
theorem eqv_ord (a b : Key) : PyData.eqv (ordP a) (ordP b) = decide (a = b) := by
  cases a <;> cases b <;> simp [ordP, PyData.eqv, PyData.eqvAll] <;> exact Bool.eq_iff_iff.mpr (by simp)
theorem ltD_ord {a b : Key} (h : a ≠ b) : ltD (ordP a) (ordP b) = some (ltk1 a b) := by
  cases a <;> cases b <;> simp [ordP, ltD, ltDs, PyData.eqv, ltk1] at h ⊢ <;> simp [h]
theorem ltDs_ord : ∀ p q : List Key, ltDs (p.map ordP) (q.map ordP) = some (ltKs p q)
  | [], [] => by simp [ltDs, ltKs]
  | [], _ :: _ => by simp [ltDs, ltKs]
  | _ :: _, [] => by simp [ltDs, ltKs]
  | a :: p, b :: q => by
    rw [List.map_cons, List.map_cons]
    unfold ltDs ltKs
    rw [eqv_ord]
    by_cases e : a = b
    · rw [if_pos (by simpa using e), if_pos e]; exact ltDs_ord p q
    · rw [if_neg (by simpa using e), if_neg e]; exact ltD_ord e
/-- its texts can be laid -/
def LayK (q : List Key) : Prop := PyData.canLayAll0 (q.map ordP) = true
theorem LayK.uncons {a : Key} {q : List Key} (h : LayK (a :: q)) : (ordP a).canLay0 = true ∧ LayK q := by
  unfold LayK at h ⊢
  rw [List.map_cons] at h
  simpa [PyData.canLayAll0] using h
theorem dep_ord : ∀ q : List Key, PyData.depthAll (q.map ordP) ≤ 3
  | [] => by simp [PyData.depthAll]
  | a :: q => by
    rw [List.map_cons]
    have := dep_ord q
    cases a <;> simp [PyData.depthAll, PyData.depth, ordP] <;> omega
section
variable {prog : Program} {w : World} {A : Around} {s : Shared}
theorem kat_keys : ∀ (p q : List Key) (vs us : List Value) (as bs : List Addr) (i : Nat) (Q : Bool → Shared → Prop), ReadsAll s.heap vs (p.map ordP) as → ReadsAll s.heap us (q.map ordP) bs → LayK p → LayK q → A.units + 10 < cLine → Q (ltKs p q) s →
    PySem.W.KatLex prog w A false (decide (vs.length < us.length)) Q (vs.zip us) i s
  | [], [], _, _, _, _, i, Q, r1, r2, _, _, _, h => by
    cases r1; cases r2
    exact PySem.W.kat_nil (by simpa [ltKs] using h)
  | [], b :: q, _, _, _, _, i, Q, r1, r2, _, _, _, h => by
    cases r1; cases r2
    exact PySem.W.kat_nil (by simpa [ltKs] using h)
  | a :: p, [], _, _, _, _, i, Q, r1, r2, _, _, _, h => by
    cases r1; cases r2
    exact PySem.W.kat_nil (by simpa [ltKs] using h)
  | a :: p, b :: q, _, _, _, _, i, Q, r1, r2, c1, c2, hu, h => by
    cases r1 with
    | @cons v vs d ds as bs x1 x2 =>
    cases r2 with
    | @cons v' vs' d' ds' as' bs' y1 y2 =>
    rw [List.zip_cons_cons]
    obtain ⟨l1, c1⟩ := c1.uncons
    obtain ⟨l2, c2⟩ := c2.uncons
    have d1 := dep_ord [a]
    have d2 := dep_ord [b]
    simp only [List.map_cons, List.map_nil, PyData.depthAll] at d1 d2
    have eq := SeqAt.eqAt_reads (ordP a) (ordP b) A s v v' as as' x1 y1 l1 l2 (by omega)
    refine PySem.W.kat_cons (eq prog w _ _ ?_)
    rw [eqv_ord]
    unfold ltKs at h
    by_cases e : a = b
    · rw [if_pos e] at h
      rw [decide_eq_true e]
      refine PySem.W.kat_yes ?_
      have := kat_keys p q vs vs' bs bs' (i + 1) Q x2 y2 c1 c2 hu h
      simpa using this
    · rw [if_neg e] at h
      rw [decide_eq_false e]
      refine PySem.W.kat_no ?_
      have lt := rcLtD 3 (ordP a) (ordP b) A s v v' as as' (ltk1 a b) (by omega) x1 y1 l1 l2 (ltD_ord e) (by omega)
      have z := PySem.W.kat_one (prog := prog) (w := w) (A := A) (s := s) (Q := Q) (E := fun _ _ => False) v v' (lt prog w _ _ h)
      simpa using z
/-- v reads as the order of q -/
def IsOrd (h : Heap) (v : Value) (q : List Key) : Prop := LayK q ∧ ∃ as, Reads h v (ordD q) as
theorem cmp_keys {ks : List Value} {k : Value → List Key} (hk : ∀ v ∈ ks, IsOrd s.heap v (k v)) (hu : A.units + 10 < cLine) : SrtO.Cmp prog w A s (tuples' false) (fun p => p.1 ∈ ks) (fun p q => ltKs (k p.1) (k q.1)) := by
  intro p q hp hq
  obtain ⟨c1, a1, r1⟩ := hk _ hp
  obtain ⟨c2, a2, r2⟩ := hk _ hq
  show wpAny (model prog w) A (keyLt' (tuples' false) p.1 q.1) (fun r s' => s' = s ∧ r = ltKs (k p.1) (k q.1)) (fun _ _ => False) s
  generalize p.1 = x at r1 c1 ⊢
  generalize q.1 = y at r2 c2 ⊢
  unfold ordD at r1 r2
  generalize k x = kx at r1 c1 ⊢
  generalize k y = ky at r2 c2 ⊢
  cases r1 with
  | @tuple l o vs m _ as₁ h1 h2 h3 h4 =>
    cases r2 with
    | @tuple l' o' ws m' _ bs₁ k1 k2 k3 k4 =>
      refine PySem.W.kat_lt h1 h3 k1 k3 ?_
      have := kat_keys (prog := prog) (w := w) (A := A) (s := s) kx ky vs.toList ws.toList _ _ 0 (fun r s' => s' = s ∧ r = ltKs kx ky) h4 k4 c1 c2 hu ⟨rfl, rfl⟩
      simpa using this
theorem tups_of : ∀ {ks : List Value} {k : Value → List Key}, (∀ v ∈ ks, IsOrd s.heap v (k v) ∧ k v ≠ []) → ∃ fs, PySem.W.KatTups s.heap ks fs ∧ fs.length = ks.length ∧ ∀ f ∈ fs, ∃ (b : Addr) (o : Obj), f = .ref b ∧ s.heap.get? b = some o ∧ o.cls = .type "tuple"
  | [], _, _ => ⟨[], PySem.W.KatTups.nil, rfl, by simp⟩
  | v :: ks, k, h => by
    obtain ⟨fs, h1, h2, h3⟩ := tups_of (ks := ks) fun x m => h x (List.mem_cons_of_mem _ m)
    obtain ⟨⟨_, a1, r1⟩, hn⟩ := h v List.mem_cons_self
    unfold ordD at r1
    cases e : k v with
    | nil => exact absurd e hn
    | cons a q =>
      rw [e] at r1
      cases r1 with
      | @tuple l o vs m _ as₁ g1 g2 g3 g4 =>
        rw [List.map_cons] at g4
        generalize ev : vs.toList = vl at g4
        cases g4 with
        | @cons f fl _ _ _ _ x1 x2 =>
          refine ⟨f :: fs, PySem.W.KatTups.cons g1 g2 g3 (by rw [← Array.getElem?_toList, ev]; rfl) h1, by simp [h2], fun y m => ?_⟩
          rcases List.mem_cons.mp m with rfl | m
          · cases a with
            | inl i => cases x1 with | tuple z1 z2 _ _ => exact ⟨_, _, rfl, z1, z2⟩
            | inr i => cases x1 with | tuple z1 z2 _ _ => exact ⟨_, _, rfl, z1, z2⟩
          · exact h3 y m
end
end ZK

namespace ZK
open PySem PySem.Spec PyProof.Rows L2 ZL
section
variable {prog : Program} {w : World} {A : Around} {s : Shared} {E : Value → Shared → Prop}
abbrev ltP (k : Value → List Key) : Keyed → Keyed → Bool := fun p q => ltKs (k p.1) (k q.1)
theorem tail_keys {a kS : Addr} {keys : List Value} {e e1 : Nat} {st : SortSt} {P : PySem.Fin → Shared → Prop} (ek : s.heap.get? kS = some (seqObj "list" keys.toArray e)) (ea : s.heap.get? a = some (seqObj "list" #[] e1)) (ne : kS ≠ a)
    (hz : keys.length ≤ sizeLine) (hst : (arrOf st).size = keys.length) (hf : failedOf st = none)
    (h : ∀ h' c, (∀ b o, b ≠ kS → b ≠ a → s.heap.get? b = some o → h'.get? b = some o) → h'.get? a = some (seqObj "list" ((arrOf st).map (·.2)) c) → P (.done (.ret .none)) { s with heap := h' }) :
    wpAny (model prog w) A (ksk_tail a false e1 (.ref kS) st) P E s := by
  have q1 := Heap.SameBut.update s.heap kS (Obj.mapSeq fun _ => (#[] : Array Value))
  have na := (q1.2 a (Ne.symm ne)).trans ea
  have q2 := Heap.SameBut.update (s.heap.update kS (Obj.mapSeq fun _ => (#[] : Array Value))) a (Obj.mapSeq fun _ => (arrOf st).map (·.2))
  unfold ksk_tail
  try dsimp only
  refine wpAny_bind (listUpdate_at ek rfl ?_ (by rw [List.size_toArray]; omega) (Nat.zero_le _))
  refine wpAny_bind (wpAny_letGo ?_)
  refine wpAny_bind (seqEpoch_at na rfl ?_)
  refine wpAny_bind (listUpdate_at na rfl ?_ (Nat.zero_le _) (by simp only [Bool.false_eq_true, if_false, Array.size_map]; omega))
  rw [hf]
  simp only [bne_self_eq_false, Bool.false_eq_true, if_false]
  exact wpAny_pure (h _ _ (fun b o n1 n2 eb => (q2.2 b n2).trans ((q1.2 b n1).trans eb)) (get?_update_seq na _))
theorem zip_arr (keys vs : List Value) : (keys.toArray.zip vs.toArray).toList = keys.zip vs := by simp
theorem end_keys {a kS : Addr} {keys vs : List Value} {e e1 : Nat} {k : Value → List Key} {P : PySem.Fin → Shared → Prop} (hk : ∀ v ∈ keys, IsOrd s.heap v (k v) ∧ k v ≠ []) (hu : A.units + 10 < cLine) (ek : s.heap.get? kS = some (seqObj "list" keys.toArray e))
    (ea : s.heap.get? a = some (seqObj "list" #[] e1)) (ne : kS ≠ a) (hl : keys.length = vs.length) (hz : vs.length ≤ sizeLine)
    (h : ∀ h' (out : List Keyed) c, SrtO.Srtd (ltP k) out → out.Perm (keys.zip vs) → (∀ b o, b ≠ kS → b ≠ a → s.heap.get? b = some o → h'.get? b = some o) → h'.get? a = some (seqObj "list" (out.map (·.2)).toArray c) → P (.done (.ret .none)) { s with heap := h' }) :
    wpAny (model prog w) A (ksk_end a false vs.toArray e1 (.ref kS) keys.toArray) P E s := by
  have fin : ∀ st : SortSt, failedOf st = none → SrtO.Srtd (ltP k) (arrOf st).toList → (arrOf st).toList.Perm (keys.zip vs) → wpAny (model prog w) A (ksk_tail a false e1 (.ref kS) st) P E s := fun st hf h1 h2 => by
    have hsz : (arrOf st).size = keys.length := by
      have := h2.length_eq
      rw [Array.length_toList, List.length_zip] at this
      omega
    refine tail_keys ek ea ne (by omega) hsz hf fun h' c k1 k2 => h h' (arrOf st).toList c h1 h2 k1 ?_
    rw [k2]
    have e : (arrOf st).map (·.2) = ((arrOf st).toList.map (·.2)).toArray := by rw [← Array.toList_map, Array.toArray_toList]
    rw [e]
  unfold ksk_end
  try dsimp only
  simp only [Bool.false_eq_true, if_false]
  by_cases h2 : vs.toArray.size < 2
  · rw [if_pos h2, if_pos h2]
    refine wpAny_bind (wpAny_pure ?_)
    rw [StateT.run_pure]
    refine wpAny_bind (wpAny_pure ?_)
    refine fin (SortSt.mk' general' (keys.toArray.zip vs.toArray) #[] 7 none) rfl ?_ ?_
    · have el : (arrOf (SortSt.mk' general' (keys.toArray.zip vs.toArray) #[] 7 none)).toList = keys.zip vs := zip_arr keys vs
      rw [el]
      rw [List.size_toArray] at h2
      have : (keys.zip vs).length < 2 := by rw [List.length_zip]; omega
      match keys.zip vs, this with
      | [], _ => exact List.Pairwise.nil
      | [x], _ => exact List.pairwise_singleton _ _
      | x :: y :: r, z => simp at z; omega
    · show List.Perm (keys.toArray.zip vs.toArray).toList _
      rw [zip_arr]
  · rw [if_neg h2, if_neg h2]
    rw [List.size_toArray] at h2
    obtain ⟨fs, t1, t2, t3⟩ := tups_of (s := s) hk
    refine wpAny_bind (PySem.W.kat_kind (T := .type "tuple") t1 (by omega) (fun f hm => ?_) (by rfl) ?_)
    · obtain ⟨b, o, rfl, x1, x2⟩ := t3 f hm
      exact fun A' Q' E' s' kk q => wpAny_typeOf_ref (kk _ _ x1) (by rw [x2]; exact q)
    · have et : (Value.type "tuple" != Value.type "tuple") = false := by first | decide +kernel | rfl | decide
      rw [et]
      have hall : SrtO.AllL (fun p : Keyed => p.1 ∈ keys) (keys.toArray.zip vs.toArray).toList := fun p hm => by
        rw [zip_arr] at hm
        obtain ⟨x, y⟩ := p
        exact (List.of_mem_zip hm).1
      have run := SrtO.wpS_sortO (E := E) (st0 := SortSt.mk' (tuples' false) (keys.toArray.zip vs.toArray) #[] 7 none)
        (Q := fun _ st => failedOf st = none ∧ SrtO.Srtd (ltP k) (arrOf st).toList ∧ (arrOf st).toList.Perm (keys.zip vs)) (swo_keys fun p : Keyed => k p.1) (cmp_keys (prog := prog) (w := w) (fun v m => (hk v m).1) hu) rfl hall rfl rfl
        fun st a1 a2 a3 => ⟨a3, a1, by have z := a2.perm; rwa [show (arrOf (SortSt.mk' (tuples' false) (keys.toArray.zip vs.toArray) #[] 7 none)).toList = keys.zip vs from zip_arr keys vs] at z⟩
      refine wpAny_bind (wpAny_mono run ?_ fun _ _ x => x)
      rintro ⟨⟨⟩, st⟩ s' ⟨rfl, q1, q2, q3⟩
      exact fin st q1 q2 q3
end
end ZK

namespace ZK
open PySem PySem.Spec PyProof.Rows L2 ZL
/-- called of each, one behind the other -/
def callsV (sp : V → Hp → VK → Prop) : List V → Hp → (List V → Hp → Prop) → Prop
  | [], H, Q => Q [] H
  | x :: r, H, Q => sp x H fun v H1 => callsV sp r H1 fun vs H2 => Q (v :: vs) H2
section
variable {X : Cx} {pins : List (Addr × Obj)} {σ : L2.St} {H : Hp} {s : Shared}
theorem FpOk.mv {H H' : Hp} {b : Addr} (f : FpOk X pins H b) (h : H' b = none) : FpOk X pins H' b := ⟨h, f.2⟩
theorem FpOk.pin {b : Addr} {o : Obj} (f : FpOk X pins H b) (e : s.heap.get? b = some o) (d : ∀ v, o.data ≠ .cell v) : s.heap.get? b = some o ∧ H b = none ∧ b ≠ X.env.locals ∧ b ∉ X.fs ∧ ∀ v, o.data ≠ .cell v :=
  ⟨e, f.1, f.2.1, f.2.2.1, d⟩
theorem Inv.tn {h' : Heap} {t' : Nat} {b : Addr} (I : Inv X pins σ H s) (f : FpOk X pins H b) (k : ∀ c o, c ≠ b → s.heap.get? c = some o → h'.get? c = some o) : Inv X pins σ H { s with heap := h', toks := t' } :=
  I.turned k f.1 f.2.1 f.2.2.2.1 f.2.2.2.2.1 f.2.2.2.2.2
/-- an object of ours, untracked so far, is tracked -/
theorem Inv.adopt {a : Addr} {o : HO} (I : Inv X pins σ H s) (f : FpOk X pins H a) (new : ObjOk X.prog X.w (upd H a o) s.heap a o) : Inv X pins σ (upd H a o) s := by
  have nb : ∀ b u, X.s_0.heap.get? b = some u → b ∉ X.ex → b ≠ a := fun b u e hx z => by
    rcases f.2.2.2.1 with q | q
    · exact hx (by rw [z]; exact q)
    · exact absurd (Nat.lt_of_lt_of_le (Heap.lt_size e) (by rw [z]; exact q)) (Nat.lt_irrefl _)
  have nt : ∀ b u, H b = some u → b ≠ a := fun b u e z => by rw [z, f.1] at e; cases e
  refine ⟨I.ok, I.os, I.bare, ⟨I.base.keep, I.base.slot, fun b u e n hx => ?_, I.base.there, fun b xs e => ?_, fun b ob u e => ?_, fun b ps e => ?_⟩, I.loc, I.cell, ?_, fun x c e => ?_, fun p hp => ?_, I.hok.laidN (fun _ _ e => e) f.1 new, I.len⟩
  · rw [upd_ne (nb b u e hx)]; exact I.base.free b u e n hx
  · have := I.base.tups b xs e
    rw [upd_ne (nt _ _ this)]; exact this
  · have := I.base.frzs b ob u e
    rw [upd_ne (nt _ _ this)]; exact this
  · obtain ⟨m, h⟩ := I.base.tbls b ps e
    exact ⟨m, by rw [upd_ne (nt _ _ h)]; exact h⟩
  · rw [upd_ne (Ne.symm f.2.1)]; exact I.free
  · rw [upd_ne (f.2.2.2.2.1 x c e)]; exact I.freeC x c e
  · obtain ⟨h1, h2, h3, h4, h5⟩ := I.pin p hp
    exact ⟨h1, by rw [upd_ne (f.2.2.2.2.2 p hp)]; exact h2, h3, h4, h5⟩
theorem Vals.snoc' {xs : List V} {us : List Value} {v : V} {u : Value} (r : Vals xs us) (h : RelV v u) : Vals (xs ++ [v]) (us ++ [u]) := by
  induction r with
  | nil => exact .cons h .nil
  | cons a _ ih => exact .cons a ih
theorem Vals.at' {xs : List V} {us : List Value} {u : Value} (r : Vals xs us) : ∀ {j : Nat}, us[j]? = some u → ∃ x, xs[j]? = some x ∧ RelV x u := by
  induction r with
  | nil => intro j e; simp at e
  | cons a _ ih =>
    intro j e
    cases j with
    | zero => simp at e; subst e; exact ⟨_, rfl, a⟩
    | succ j => exact ih (by simpa using e)
abbrev sp1 (sp : Sp) : V → Hp → VK → Prop := fun x H Q => sp [x] H Q fun _ _ _ => False
theorem rest_keys {k0 : Nat} {f : Addr} {fd : FuncData} {ps : List Str} {sp : Sp} {xs : List V} {vs : List Value} {a kS : Addr} {e1 : Nat} {P : PySem.Fin → Shared → Prop} {E : Value → Shared → Prop} {Q : List V → Hp → Prop}
    (F : FnG X.prog X.w X.K X.mg X.base (L2N.CX X.prog X.w) k0 f fd ps sp) (hr : RoomG k0 X.A.in1.in1) (hb : Binds X.K fd ps []) (I : Inv X pins σ H s) (fa : FpOk X pins H a) (fk : FpOk X pins H kS)
    (ea : s.heap.get? a = some (seqObj "list" #[] e1)) (ek : s.heap.get? kS = some (seqObj "list" #[] 0)) (ne : kS ≠ a) (r : Vals xs vs) (hz : vs.length ≤ sizeLine) (q : callsV (sp1 sp) xs H Q)
    (done : ∀ s' H' (ks : List Value) (ws : List V) e, Inv X pins σ H' s' → FpOk X pins H' a → FpOk X pins H' kS → s'.heap.get? a = some (seqObj "list" #[] e1) → s'.heap.get? kS = some (seqObj "list" ks.toArray e) → Vals ws ks → ws.length = xs.length → Q ws H' →
      wpAny (model X.prog X.w) X.A.in1.in1 (ksk_end a false vs.toArray e1 (.ref kS) ks.toArray) P E s') :
    wpAny (model X.prog X.w) X.A.in1.in1 (ksk_rest a (.ref f) false vs.toArray e1 (.ref kS)) P E s := by
  have lx : xs.length = vs.length := r.length
  unfold ksk_rest
  refine wpAny_bind (wpAny_rule ?_)
  rw [List.forIn_toArray]
  refine wpAny_bind (ksk_fold (fun i s' => ∃ H' ks ws e, Inv X pins σ H' s' ∧ FpOk X pins H' a ∧ FpOk X pins H' kS ∧ s'.heap.get? a = some (seqObj "list" #[] e1) ∧ s'.heap.get? kS = some (seqObj "list" (ks : List Value).toArray e) ∧ Vals ws ks ∧ ws.length = i ∧
    callsV (sp1 sp) (xs.drop i) H' fun rest H2 => Q (ws ++ rest) H2) vs 0 s ⟨H, [], [], 0, I, fa, fk, ea, ek, .nil, rfl, by simpa using q⟩ ?_ ?_)
  · rintro j x s' hx ⟨H', ks, ws, e, I', fa', fk', ea', ek', rw', lw, q'⟩
    simp only [Nat.zero_add] at lw q' ⊢
    obtain ⟨y, hy, ry⟩ := Vals.at' r hx
    have hj : j < xs.length := (List.getElem?_eq_some_iff.mp hy).1
    have ed : xs.drop j = y :: xs.drop (j + 1) := by
      rw [List.drop_eq_getElem_cons hj]
      congr 1
      exact Option.some.inj ((List.getElem?_eq_getElem hj).symm.trans hy)
    rw [ed] at q'
    have q' : sp [y] H' (fun v H1 => callsV (sp1 sp) (xs.drop (j + 1)) H1 fun vs H2 => Q (ws ++ (v :: vs)) H2) fun _ _ _ => False := q'
    have Ip : Inv X ((kS, seqObj "list" ks.toArray e) :: (a, seqObj "list" #[] e1) :: pins) σ H' s' := I'.pins_of fun p hp => by
      rcases List.mem_cons.mp hp with rfl | hp
      · exact FpOk.pin fk' ek' (fun v z => nomatch z)
      · rcases List.mem_cons.mp hp with rfl | hp
        · exact FpOk.pin fa' ea' (fun v z => nomatch z)
        · exact I'.pin p (List.mem_append_right _ hp)
    have b := hb s' [x] I'.kIn (by rw [List.append_nil]; exact F.len _ _ _ _ q')
    rw [List.append_nil] at b
    have run : wpAny (model X.prog X.w) X.A.in1.in1 (call (.ref f) [x]) (EP X ((kS, seqObj "list" ks.toArray e) :: (a, seqObj "list" #[] e1) :: pins) σ fun v H1 => callsV (sp1 sp) (xs.drop (j + 1)) H1 fun vs H2 => Q (ws ++ (v :: vs)) H2) (fun _ _ => False) s' := by
      refine wpAny_call (codeAny_mono (F.run X.A.in1.in1 X.stack s' H' ⟨[x], []⟩ [x] [y] _ _ hr I'.env0.in1.in1 b (.cons ry .nil) q') fun r' s'' hq => ?_)
      match r', hq with
      | .error er, hq =>
        obtain ⟨_, _, _, _, _, _, _, _, _, _, _, _, z⟩ := hq
        exact z.elim
      | .ok (.ret u), hq => exact Ip.after hq
    refine wpAny_bind (wpAny_attempt (wpAny_mono run (fun u s2 z => ?_) fun _ _ z => z.elim))
    obtain ⟨v, H2, I2, ru, q2⟩ := z
    obtain ⟨k1, k2, _⟩ := I2.pin (kS, seqObj "list" ks.toArray e) (List.mem_append_right _ List.mem_cons_self)
    obtain ⟨a1, a2, _⟩ := I2.pin (a, seqObj "list" #[] e1) (List.mem_append_right _ (List.mem_cons_of_mem _ List.mem_cons_self))
    have k1 : s2.heap.get? kS = some (seqObj "list" ks.toArray e) := k1
    have a1 : s2.heap.get? a = some (seqObj "list" #[] e1) := a1
    have I3 : Inv X pins σ H2 s2 := I2.pins_of fun p hp => I2.pin p (List.mem_append_right _ (List.mem_cons_of_mem _ (List.mem_cons_of_mem _ hp)))
    have fk2 := FpOk.mv fk' k2
    have fa2 := FpOk.mv fa' a2
    have sb := Heap.SameBut.update s2.heap kS (Obj.mapSeq (·.push u))
    have lk : ks.length = ws.length := rw'.length.symm
    refine wpAny_bind (listUpdate_at k1 rfl ?_ (by rw [List.size_toArray]; omega) (by rw [Array.size_push, List.size_toArray]; omega))
    obtain ⟨c2, hc2⟩ : ∃ c, (s2.heap.update kS (Obj.mapSeq (·.push u))).get? kS = some (seqObj "list" (ks ++ [u]).toArray c) := by
      rw [show (ks ++ [u]).toArray = ks.toArray.push u by simp]
      exact ⟨_, get?_update_seq k1 (·.push u)⟩
    exact wpAny_pure ⟨rfl, H2, ks ++ [u], ws ++ [v], c2, Inv.tn (t' := s2.toks) I3 fk2 fun c o n e => (sb.2 c n).trans e, fa2, fk2, (sb.2 a (Ne.symm ne)).trans a1, hc2, Vals.snoc' rw' ru, by simp [lw], by simpa using q2⟩
  · rintro s' ⟨H', ks, ws, e, I', fa', fk', ea', ek', rw', lw, q'⟩
    rw [Nat.zero_add] at lw q'
    have el : xs.drop vs.length = [] := by rw [← lx]; simp
    rw [el] at q'
    have q' : Q (ws ++ []) H' := q'
    rw [List.append_nil] at q'
    refine wpAny_bind (listItems_at ek' rfl ?_)
    exact done s' H' ks ws e I' fa' fk' ea' ek' rw' (by omega) q'
end
end ZK

namespace ZK
open PySem PySem.Spec PyProof.Rows L2 ZL PySem.Calls
def unordP : PyData → Key
  | .tuple [_, .int i] => .inl i
  | .tuple [_, .str x] => .inr x
  | _ => .inl 0
def unord : PyData → List Key
  | .tuple ds => ds.map unordP
  | _ => []
theorem unord_ord (q : List Key) : unord (ordD q) = q := by
  show (q.map ordP).map unordP = q
  rw [List.map_map]
  have : (unordP ∘ ordP) = id := by
    funext k
    cases k <;> rfl
  rw [this, List.map_id]
theorem lay_ordD {q : List Key} (h : LayK q) : (ordD q).canLay0 = true := by
  unfold ordD
  unfold LayK at h
  simpa [PyData.canLay0] using h
def addrV : Value → Addr
  | .ref a => a
  | _ => 0
theorem zip_unpair (f : Value → List Key) : ∀ (kv : List Value) (bs : List Addr), (kv.zip (bs.map Value.ref)).map (fun p => (f p.1, addrV p.2)) = (kv.map f).zip bs
  | [], _ => by simp
  | _ :: _, [] => by simp
  | v :: kv, b :: bs => by
    rw [List.map_cons, List.map_cons, List.zip_cons_cons, List.zip_cons_cons, List.map_cons, zip_unpair f kv bs]
    rfl
def rSortK (K : PySem.W.Frag) (sp : Sp) (f : Addr) : List V → List V → Hp → VK → Prop := fun xs zs H Q => ∃ (d : Addr) (kvs : List (List Key × V)), xs = [.ref d] ∧ zs = [.ref f] ∧ Rd H d (.dT kvs) ∧
  ∀ bs : List Addr, IsKeys H kvs bs → callsV (sp1 sp) (bs.map V.ref) H fun ws H2 => ∃ qs : List (List Key), Paired (fun w q => LayK q ∧ q ≠ [] ∧ Dp K H2 w (ordD q)) ws qs ∧
    ∀ out : List (List Key × Addr), out.Pairwise (fun x y => ltKs y.1 x.1 = false) → out.Perm (qs.zip bs) → ∀ p, H2 p = none → Q (.ref p) (upd H2 p (.lst (out.map fun x => V.ref x.2)))
section
variable {X : Cx} {pins : List (Addr × Obj)} {σ : L2.St} {H : Hp} {s : Shared}
/-- what the keys read as -/
theorem keys_read (I : Inv X pins σ H s) : ∀ {ws : List V} {qs : List (List Key)} {ks : List Value}, Paired (fun w q => LayK q ∧ q ≠ [] ∧ Dp X.K H w (ordD q)) ws qs → Vals ws ks →
    ks.map (fun v => unord (SeqAt.readOf s.heap v)) = qs ∧ ∀ v ∈ ks, IsOrd s.heap v (unord (SeqAt.readOf s.heap v)) ∧ unord (SeqAt.readOf s.heap v) ≠ [] := by
  intro ws qs ks p r
  induction p generalizing ks with
  | nil => cases r; exact ⟨rfl, fun v m => nomatch m⟩
  | @cons w q l m hq t ih =>
    cases r with
    | @cons _ u _ us r1 r2 =>
      obtain ⟨h1, h2⟩ := ih r2
      obtain ⟨c, n, d⟩ := hq
      obtain ⟨as, rd⟩ := Dp.reads I _ _ _ d r1
      have e : SeqAt.readOf s.heap u = ordD q := SeqAt.readOf_eq (lay_ordD c) rd
      have eu : unord (SeqAt.readOf s.heap u) = q := by rw [e, unord_ord]
      refine ⟨by rw [List.map_cons, h1, eu], fun v hv => ?_⟩
      rcases List.mem_cons.mp hv with rfl | hv
      · rw [eu]; exact ⟨⟨c, as, rd⟩, n⟩
      · exact h2 v hv
theorem collect_keys {es : Array DictEntry} {ks : List (List Key × Addr × Value)} {acc : Array Value} {P : Program} {w : World} (he : es.toList = ks.map (entryOfKey (tupleKind (mixKind P w))))
    (it : ItemsOf (fun i v => ∃ en : DictEntry, es[i]? = some en ∧ v = en.key) acc es.size) : acc.toList = (ks.map fun x => x.2.1).map Value.ref := by
  have l1 : es.size = ks.length := size_of_entries he
  have hl : acc.toList.length = ks.length := by rw [Array.length_toList, it.1]; exact l1
  apply List.ext_getElem?
  intro j
  rw [List.map_map, List.getElem?_map]
  by_cases hj : j < ks.length
  · have ha : acc.toList[j]? = some (acc.toList[j]'(by omega)) := List.getElem?_eq_getElem _
    obtain ⟨en, hen, hv⟩ := it.2 j _ (by rw [← Array.getElem?_toList]; exact ha)
    have qe := entry_at he j
    rw [hen, List.getElem?_eq_getElem hj] at qe
    have e2 : en = entryOfKey (tupleKind (mixKind P w)) ks[j] := Option.some.inj qe
    rw [ha, hv, e2, List.getElem?_eq_getElem hj]
    rfl
  · rw [List.getElem?_eq_none (by omega), List.getElem?_eq_none (by omega)]
    rfl
theorem cr_sortedK {k0 : Nat} {f : Addr} {fd : FuncData} {ps : List Str} {sp : Sp} (hc : X.calm = true) (hu : X.A.units + 65 < cLine) (F : FnG X.prog X.w X.K X.mg X.base (L2N.CX X.prog X.w) k0 f fd ps sp) (hr : RoomG k0 X.A.in1.in1) (hb : Binds X.K fd ps []) :
    CallRK X (.builtin "sorted") [Str.ofString "key"] (rSortK X.K sp f) := by
  intro pins s σ H xs zs us ws Q I r rz h
  obtain ⟨d, kvs, rfl, rfl, hd, q⟩ := h
  obtain ⟨u, rfl, rx⟩ := r.one
  cases rx
  obtain ⟨w1, rfl, e1⟩ := vals1 rz
  obtain rfl : w1 = Value.ref f := e1
  obtain ⟨z, hs, ks, pr, o, es, ep, ho, hx, hdt, he, hn⟩ := (show ObjOk X.prog X.w H s.heap d (.dT kvs) from hd.ok I.hok)
  have l1 : es.size = ks.length := size_of_entries he
  have l2 : kvs.length = ks.length := Paired.length pr
  have q1 := q _ (isKeys_of pr)
  have lb : (ks.map fun x => x.2.1).length = ks.length := List.length_map ..
  show wpAny _ _ (call (.builtin "sorted") [.ref d] [(Str.ofString "key", Value.ref f)]) _ _ s
  refine call_function_entry_kw kind_sorted plain_sorted entry_sorted (ksk_s1 _ _) ?_
  unfold Builtin.«sorted»
  refine wpAny_bind (m := checkCount "sorted" 1 1 _) (wpAny_pure ?_)
  refine wpAny_bind (PySem.W.kdu_collect (A := X.A.in1) (kdl_raw hs hx hdt) (I.ok.hd hc) ho (by omega) fun h' tk acc kp it => ?_)
  rw [collect_keys he it]
  generalize (ks.map fun x => x.2.1) = bs at q1 lb ⊢
  have I1 : Inv X pins σ H { s with heap := h', toks := tk } := I.kept kp
  have lv : (bs.map Value.ref).length = ks.length := by rw [List.length_map]; exact lb
  refine wpAny_bind (wpAny_newList ?_ (by omega))
  have hoL : (h'.push (seqObj "list" (bs.map Value.ref).toArray 0)).get? h'.objs.size = some (seqObj "list" (bs.map Value.ref).toArray 0) := Heap.get?_push_size _ rfl
  have fL : FpOk X pins H h'.objs.size := I1.fpOk (Nat.le_refl _) (I1.hok.fresh (Nat.le_refl _))
  have I2 : Inv X pins σ H { s with heap := h'.push (seqObj "list" (bs.map Value.ref).toArray 0), toks := tk } := I1.kept (t' := tk) fun _ _ e => Heap.get?_push_of_some _ e
  have szL : (h'.push (seqObj "list" (bs.map Value.ref).toArray 0)).objs.size = h'.objs.size + 1 := size_push' ..
  generalize hg : h'.objs.size = L at *
  generalize (h'.push (seqObj "list" (bs.map Value.ref).toArray 0)) = g at *
  show wpAny _ _ _ _ _ { s with heap := g, toks := tk }
  refine wpAny_bind (wpAny_holding (wpAny_call_entry_kw slot_list_sort ⟨_, hoL, rfl⟩ entry_list_sort ?_ (ksk_l1 _ _)))
  rw [ksk_t1]
  unfold ksk_tree
  have sb := Heap.SameBut.update g L (Obj.mapSeq fun _ => (#[] : Array Value))
  obtain ⟨e1, ho1⟩ : ∃ e1, (g.update L (Obj.mapSeq fun _ => (#[] : Array Value))).get? L = some (seqObj "list" #[] e1) := ⟨_, get?_update_seq hoL fun _ => #[]⟩
  have I3 : Inv X pins σ H { s with heap := g.update L (Obj.mapSeq fun _ => (#[] : Array Value)), toks := tk } := Inv.tn (s := { s with heap := g, toks := tk }) (t' := tk) I2 fL fun c o n e => (sb.2 c n).trans e
  have sz3 : (g.update L (Obj.mapSeq fun _ => (#[] : Array Value))).objs.size = L + 1 := by rw [Heap.size_update]; exact szL
  refine wpAny_bind (listItems_at hoL rfl ?_)
  refine wpAny_bind (listUpdate_at hoL rfl ?_ (by rw [List.size_toArray]; omega) (Nat.zero_le _))
  refine wpAny_bind (seqEpoch_at ho1 rfl ?_)
  generalize (g.update L (Obj.mapSeq fun _ => (#[] : Array Value))) = g1 at *
  refine wpAny_bind (wpAny_newTuple ?_ (by show (bs.map Value.ref).length ≤ _; omega))
  have I4 : Inv X pins σ H { s with heap := g1.push (seqObj "tuple" (bs.map Value.ref).toArray 0), toks := tk } := I3.kept (t' := tk) fun _ _ e => Heap.get?_push_of_some _ e
  have ho2 : (g1.push (seqObj "tuple" (bs.map Value.ref).toArray 0)).get? L = some (seqObj "list" #[] e1) := Heap.get?_push_of_some _ ho1
  have sz4 : (g1.push (seqObj "tuple" (bs.map Value.ref).toArray 0)).objs.size = L + 2 := by rw [size_push', sz3]
  show wpAny _ _ _ _ _ { s with heap := g1.push (seqObj "tuple" (bs.map Value.ref).toArray 0), toks := tk }
  generalize (g1.push (seqObj "tuple" (bs.map Value.ref).toArray 0)) = g2 at *
  have neK : g2.objs.size ≠ L := Nat.ne_of_gt (by rw [sz4]; exact Nat.lt_add_of_pos_right (by decide))
  refine wpAny_bind (wpAny_newList ?_ (Nat.zero_le _))
  refine wpAny_holding ?_
  have hoK : (g2.push (seqObj "list" #[] 0)).get? g2.objs.size = some (seqObj "list" #[] 0) := Heap.get?_push_size _ rfl
  have fK : FpOk X pins H g2.objs.size := I4.fpOk (Nat.le_refl _) (I4.hok.fresh (Nat.le_refl _))
  have I5 : Inv X pins σ H { s with heap := g2.push (seqObj "list" #[] 0), toks := tk } := I4.kept (t' := tk) fun _ _ e => Heap.get?_push_of_some _ e
  have ho3 : (g2.push (seqObj "list" #[] 0)).get? L = some (seqObj "list" #[] e1) := Heap.get?_push_of_some _ ho2
  refine rest_keys (s := { s with heap := g2.push (seqObj "list" #[] 0), toks := tk }) (kS := g2.objs.size) F hr hb I5 fL fK ho3 hoK neK (vals_refs bs) (by omega) q1 fun s' H' kv ws e I' fa fk ea ek rw' lw q' => ?_
  obtain ⟨qs, pq, q'⟩ := q'
  obtain ⟨er, hk⟩ := keys_read I' pq rw'
  have lk : kv.length = (bs.map Value.ref).length := by rw [← rw'.length, lw, List.length_map, List.length_map]
  refine end_keys (k := fun v => unord (SeqAt.readOf s'.heap v)) hk (by show X.A.units + 1 + 1 + 10 < cLine; omega) ek ea neK lk (by omega) fun h2 out c hs hp kp2 hl => ⟨_, rfl, ?_⟩
  have gk : ∀ b ob, b ≠ g2.objs.size → b ≠ L → s'.heap.get? b = some ob → h2.get? b = some ob := kp2
  have I6 : Inv X pins σ H' { s' with heap := h2 } := by
    refine I'.turnedL (ch := [g2.objs.size, L]) (t' := s'.toks) (fun b o hb e => kp2 b o (fun z => hb (by simp [z])) (fun z => hb (by simp [z])) e) fun b hb => ?_
    rcases List.mem_cons.mp hb with rfl | hb
    · exact fk
    · rw [List.mem_singleton.mp hb]; exact fa
  have hmem : ∀ p ∈ out, ∃ b, p.2 = Value.ref b := fun p m => by
    have m1 := hp.mem_iff.mp m
    obtain ⟨x, y⟩ := p
    obtain ⟨b, _, e⟩ := List.mem_map.mp (List.of_mem_zip m1).2
    exact ⟨b, e.symm⟩
  have eo : out.map (·.2) = (out.map fun p => addrV p.2).map Value.ref := by
    rw [List.map_map]
    refine List.map_congr_left fun p m => ?_
    obtain ⟨b, e⟩ := hmem p m
    simp [e, addrV]
  have hlen : out.length = ks.length := by
    rw [hp.length_eq, List.length_zip, lk, lv]; omega
  refine wpAny_pure ⟨_, rfl, .ref L, _, Inv.adopt I6 fa (o := .lst ((out.map fun p => addrV p.2).map V.ref)) ⟨by rw [List.length_map, List.length_map]; omega, (out.map fun p => addrV p.2).map Value.ref, c, vals_refs _, by rw [← eo]; exact hl⟩, rfl, ?_⟩
  have := q' (out.map fun p => (unord (SeqAt.readOf s'.heap p.1), addrV p.2)) ?_ ?_ L fa.1
  · rw [List.map_map] at this ⊢
    exact this
  · rw [List.pairwise_map]
    exact hs
  · refine (hp.map fun p => (unord (SeqAt.readOf s'.heap p.1), addrV p.2)).trans (.of_eq ?_)
    rw [← er]
    exact zip_unpair (fun v => unord (SeqAt.readOf s'.heap v)) kv bs
end
end ZK

namespace ZK
open PySem PySem.Spec PyProof.Rows L2 ZL
section
variable {X : Cx}
/-- of the empty dict -/
def rSortE (f : Addr) : List V → List V → Hp → VK → Prop := fun xs zs H Q => ∃ d : Addr, xs = [.ref d] ∧ zs = [.ref f] ∧ H d = some (.dK []) ∧ ∀ p, H p = none → Q (.ref p) (upd H p (.lst []))
theorem cr_sortedE {k0 : Nat} {f : Addr} {fd : FuncData} {ps : List Str} {sp : Sp} (hc : X.calm = true) (hu : X.A.units + 65 < cLine) (F : FnG X.prog X.w X.K X.mg X.base (L2N.CX X.prog X.w) k0 f fd ps sp) (hr : RoomG k0 X.A.in1.in1) (hb : Binds X.K fd ps []) :
    CallRK X (.builtin "sorted") [Str.ofString "key"] (rSortE f) := by
  intro pins s σ H xs zs us ws Q I r rz h
  obtain ⟨d, rfl, rfl, hd, q⟩ := h
  refine wpAny_mono (cr_sortedK hc hu F hr hb pins s σ (upd H d (.dT [])) [.ref d] [.ref f] us ws (fun v H2 => ∃ p, p ≠ d ∧ v = V.ref p ∧ H p = none ∧ H2 = upd (upd H d (.dT [])) p (.lst [])) (ZL.Inv.kt I hd) r rz
    ⟨d, [], rfl, rfl, .inl upd_same, fun bs ik => ?_⟩) (fun u s' z => ?_) fun _ _ e => e
  · unfold IsKeys at ik
    cases ik
    refine ⟨[], .nil, fun out _ hp p hn => ?_⟩
    have e : out = [] := List.Perm.eq_nil hp
    subst e
    have n : p ≠ d := fun z => by rw [z, upd_same] at hn; cases hn
    exact ⟨p, n, rfl, by rw [upd_ne n] at hn; exact hn, rfl⟩
  · obtain ⟨v, H', I', rv, p, n, ev, hn, e2⟩ := z
    rw [e2] at I'
    have k : upd (upd H d (.dT [])) p (.lst []) d = some (.dT []) := by rw [upd_ne (Ne.symm n)]; exact upd_same
    have I2 := ZL.Inv.tk I' k
    rw [upd_turn hd n] at I2
    exact ⟨v, _, I2, rv, by rw [ev]; exact q p hn⟩
end
end ZK
namespace ZL
open PySem PySem.Spec PyProof.Rows L2 ZK
/-! ### sorted(d, key=f) -/
def ordZ1 : Z → Z
  | .int i => .tup [.int 0, .int i]
  | .str x => .tup [.int 1, .str x]
  | z => z
def ordZ : Z → Z
  | .tup ks => .tup (ks.map ordZ1)
  | z => z
def kyOf : Z → Key
  | .int i => .inl i
  | .str x => .inr x
  | _ => .inl 0
def keysOf : Z → List Key
  | .tup zs => zs.map kyOf
  | _ => []
/-- the order of keys -/
def ltZ (a b : Z) : Bool := ltKs (keysOf a) (keysOf b)
def callsZ (wf : WF) : List Z → ZH → (List Z → ZH → Prop) → Prop
  | [], h, P => P [] h
  | z :: r, h, P => wf [z] h (fun v h1 => callsZ wf r h1 fun vs h2 => P (v :: vs) h2) fun _ _ => False
/-- a key that can be sorted -/
def keyS (k : Z) : Prop := isT k = true ∧ keyOk k = true ∧ keysOf k ≠ [] ∧ (Z.toD k).canLay0 = true
def sortKZ (wf : WF) (kvs : List (Z × Z)) (h : ZH) (P : PZ) : Prop := (∀ p ∈ kvs, keyS p.1) ∧ callsZ wf (kvs.map (·.1)) h fun vs h2 => vs = kvs.map (fun p => ordZ p.1) ∧
  ∀ out : List Z, out.Perm (kvs.map (·.1)) → out.Pairwise (fun a b => ltZ b a = false) → P (.ref h2.length) (h2 ++ [.lst out])
def sortD (wf : WF) (P : PZ) : PZ := fun z h => match z with
  | .ref n => (match h[n]? with
    | some (.dict kvs) => sortKZ wf kvs h P
    | _ => False)
  | _ => False
def wSortK (wf : WF) (wd : WE) : WE := fun env h P E => wd env h (sortD wf P) E
theorem keysOf_key (q : List Key) : keysOf (.tup (q.map keyZ)) = q := by
  show (q.map keyZ).map kyOf = q
  rw [List.map_map]
  have : (kyOf ∘ keyZ) = id := by
    funext k
    cases k <;> rfl
  rw [this, List.map_id]
theorem ordZ_key (q : List Key) : (ordZ (.tup (q.map keyZ))).toD = ordD q := by
  show Z.toD (.tup ((q.map keyZ).map ordZ1)) = _
  unfold Z.toD ordD
  rw [toDs_map, List.map_map, List.map_map]
  congr 1
  apply List.map_congr_left
  intro k _
  cases k <;> simp [ordZ1, keyZ, ordP, Z.toD, Z.toDs]
theorem lay_key {q : List Key} (h0 : (Z.toD (.tup (q.map keyZ))).canLay0 = true) : LayK q := by
  unfold Z.toD at h0
  rw [toDs_map] at h0
  have h : PyData.canLayAll0 ((q.map keyZ).map Z.toD) = true := by simpa [PyData.canLay0] using h0
  clear h0
  unfold LayK
  induction q with
  | nil => simp [PyData.canLayAll0]
  | cons k q ih =>
    simp only [List.map_cons, PyData.canLayAll0, Bool.and_eq_true] at h ⊢
    refine ⟨?_, ih h.2⟩
    cases k with
    | inl i => simp [ordP, PyData.canLay0, PyData.canLayAll0]
    | inr x => simpa [ordP, PyData.canLay0, PyData.canLayAll0, keyZ, Z.toD] using h.1
theorem keyS_key {k : Z} (h : keyS k) : ∃ q : List Key, k = .tup (q.map keyZ) ∧ LayK q ∧ q ≠ [] ∧ keyOk (.tup (q.map keyZ)) = true := by
  obtain ⟨h1, h2, h3, h4⟩ := h
  cases k with
  | tup zs =>
    obtain ⟨ok1, _⟩ := Bool.and_eq_true_iff.mp (show ((ksOf zs).isSome && keyN zs.length (zs.all textZ)) = true from h2)
    obtain ⟨q, e⟩ := Option.isSome_iff_exists.mp ok1
    have e := ksOf_iff.mp e
    subst e
    rw [keysOf_key] at h3
    exact ⟨q, rfl, lay_key h4, h3, h2⟩
  | _ => cases h1
section
variable {X : Cx}
theorem calls_rep {wf : WF} : ∀ {ks : List Z} {μ : List Addr} {h : ZH} {H : Hp} {vs : List V} {P : List Z → ZH → Prop} {Q : List V → Hp → Prop}, RelH X.K X.mg μ H h → RepVs X.K μ H ks vs → callsZ wf ks h P →
    (∀ zs h2 μ2 H2 ws, P zs h2 → Ext μ H μ2 H2 → RelH X.K X.mg μ2 H2 h2 → RepVs X.K μ2 H2 zs ws → Q ws H2) → callsV (sp1 (spZ X.K X.mg 1 wf)) vs H Q
  | [], μ, h, H, vs, P, Q, R, r, c, f => by
    unfold RepVs at r; subst r
    exact f [] h μ H [] c (Ext.refl _ _) R .nil
  | k :: ks, μ, h, H, _, P, Q, R, r, c, f => by
    unfold RepVs at r
    obtain ⟨v, vs, rfl, r1, r2⟩ := r
    refine ⟨rfl, μ, [k], h, _, fun _ _ => False, R, .cons r1 .nil, c, fun z h1 μ1 H1 u p1 e1 R1 ru => ?_, fun _ _ _ _ _ _ z => z.elim⟩
    exact calls_rep R1 (r2.mono e1) p1 fun zs h2 μ2 H2 ws p2 e2 R2 rz => f (z :: zs) h2 μ2 H2 (u :: ws) p2 (e1.trans e2) R2 (.cons (ru.mono e2) rz)
theorem keys_ord {K : PySem.W.Frag} {μ : List Addr} {H : Hp} : ∀ {kvs : List (Z × Z)} {l : List (List Key × V)} {ws : List V} {F : Z × Z → List Key × V → Prop}, Paired F kvs l → (∀ p q, F p q → p.1 = .tup (q.1.map keyZ)) → (∀ p ∈ kvs, keyS p.1) →
    RepVs K μ H (kvs.map fun p => ordZ p.1) ws → Paired (fun w q => LayK q ∧ q ≠ [] ∧ Dp K H w (ordD q)) ws (l.map (·.1)) := by
  intro kvs l ws F p hF hk r
  induction p generalizing ws with
  | nil => unfold RepVs at r; rw [show ws = [] from r]; exact .nil
  | @cons x y l m a _ ih =>
    rw [List.map_cons] at r
    unfold RepVs at r
    obtain ⟨w, wr, rfl, r1, r2⟩ := r
    obtain ⟨q, e, hl, hn, _⟩ := keyS_key (hk x List.mem_cons_self)
    have e2 := hF _ _ a
    rw [e] at e2
    have e3 := (tupKey_inj _ _).mp e2
    obtain ⟨y1, y2⟩ := y
    have e3 : q = y1 := e3
    subst e3
    refine .cons ⟨hl, hn, ?_⟩ (ih (fun p m => hk p (List.mem_cons_of_mem _ m)) r2)
    rw [e] at r1
    have d := dp_of (by rw [ordZ_key]; exact lay_ordD hl) r1
    rw [ordZ_key] at d
    exact d
theorem map_keys {kvs : List (Z × Z)} {l : List (List Key × V)} {K : PySem.W.Frag} {μ : List Addr} {H : Hp} (p : Paired (TR K μ H) kvs l) : kvs.map (·.1) = l.map fun q => Z.tup (q.1.map keyZ) := by
  induction p with
  | nil => rfl
  | cons a _ ih => rw [List.map_cons, List.map_cons, ih, a.1]
theorem zip_keys {H : Hp} : ∀ {l : List (List Key × V)} {bs : List Addr}, IsKeys H l bs → (((l.map (·.1)).zip bs).map fun x => Z.tup (x.1.map keyZ)) = (l.map fun q => Z.tup (q.1.map keyZ)) ∧ ∀ x ∈ (l.map (·.1)).zip bs, H x.2 = some (.tup (x.1.map kV)) := by
  intro l bs ik
  unfold IsKeys at ik
  induction ik with
  | nil => exact ⟨rfl, fun x m => nomatch m⟩
  | cons a _ ih =>
    refine ⟨by simp only [List.map_cons, List.zip_cons_cons, ih.1], fun x m => ?_⟩
    rw [List.map_cons, List.zip_cons_cons] at m
    rcases List.mem_cons.mp m with rfl | m
    · exact a
    · exact ih.2 x m
theorem out_rep {K : PySem.W.Frag} {μ : List Addr} {H : Hp} : ∀ {out : List (List Key × Addr)}, (∀ x ∈ out, H x.2 = some (.tup (x.1.map kV)) ∧ keyOk (.tup (x.1.map keyZ)) = true) → RepVs K μ H (out.map fun x => Z.tup (x.1.map keyZ)) (out.map fun x => V.ref x.2)
  | [], _ => .nil
  | x :: out, h => by
    rw [List.map_cons, List.map_cons]
    obtain ⟨h1, h2⟩ := h x List.mem_cons_self
    refine .cons ?_ (out_rep fun y m => h y (List.mem_cons_of_mem _ m))
    unfold RepV
    exact ⟨_, _, rfl, .inl ⟨keyV_of h2, h1⟩, keys_repV _⟩
theorem ze_sortK {k : Nat} {wf : WF} {f : Addr} {e : Expr} {we : WE} {g : Str} {p p2 kp pos : Pos} (hc : X.calm = true) (hu : X.A.units + 65 < cLine) (F : FnZ X.prog X.w X.K X.mg X.base k 1 wf f) (hr : RoomG k X.A.in1.in1) (hg : Gl X "sorted") (hm : X.mg "sorted" = none)
    (hg2 : Gl X g) (hm2 : X.mg g = some (.ref f)) (he : ZE X e we) (hd : (g == ("__debug__" : Str)) = false := by decide)
    (hst : starEach [e] X.env = (false, eval e X.env) :: starEach [] X.env := by rfl) (hst2 : backTo pos (starEach [e] X.env) = (false, eval e X.env) :: backTo pos (starEach [] X.env) := by rfl) (hpl : (backTo pos (starEach [e] X.env)).any (·.1) = false := by rfl) :
    ZE X (.Call (.Name "sorted" p) [e] [⟨some "key", .Name g p2, kp⟩] pos) (wSortK wf we) := by
  obtain ⟨fd, ps, hp, ok, kpf, hb⟩ := F.ex
  refine ⟨fun B E tk => pe_imp (pe_callBK (r := fun xs zs H Q => rSortK X.K (spZ X.K X.mg 1 wf) f xs zs H Q ∨ rSortE f xs zs H Q) (fun pins s σ H xs zs us ws Q I r rz h => h.elim (cr_sortedK hc hu ok hr hb pins s σ H xs zs us ws Q I r rz) (cr_sortedE hc hu ok hr hb pins s σ H xs zs us ws Q I r rz))
    hg hm (by rfl) (pa_cons (he.run B E tk) pa_nil hst) (pk_cons (pe_glob hg2 hm2 (v := V.ref f) rfl hd) pk_nil) (by decide) (by decide) hst2 hpl) fun σ H Q ⟨μ, env, h, P, R, q, fl⟩ => ?_⟩
  refine ⟨μ, env, h, _, R, q, fun z h1 μ1 H1 v p1 e1 R1 r1 => ?_⟩
  show rSortK X.K (spZ X.K X.mg 1 wf) f [v] [V.ref f] H1 Q ∨ rSortE f [v] [V.ref f] H1 Q
  unfold sortD at p1
  split at p1
  · split at p1
    · rename_i n kvs e2
      obtain ⟨hk, c⟩ := p1
      obtain ⟨a, ho, rfl, _, hH, d⟩ := dict_of R1 e2 r1
      rcases d with ⟨l, rfl, pr⟩ | ⟨l, rfl, pr⟩
      · cases pr with
        | nil =>
          obtain ⟨_, c⟩ := c
          exact .inr ⟨a, rfl, rfl, hH, fol_lst R1 .nil (c [] (List.Perm.refl _) .nil) (fl.ext e1)⟩
        | cons x _ =>
          have := (hk _ List.mem_cons_self).1
          rw [x.1, isT_key] at this
          cases this
      · refine .inl ⟨a, l, rfl, rfl, .inl hH, fun bs ik => ?_⟩
        refine calls_rep R1 (keysT_rep pr ik fun p m => (hk p m).2.1) c fun zs h2 μ2 H2 ws ⟨ez, c2⟩ e3 R2 rz => ?_
        subst ez
        refine ⟨l.map (·.1), keys_ord pr (fun p q x => x.1) hk rz, fun out hs hp => ?_⟩
        obtain ⟨z1, z2⟩ := zip_keys ik
        have hmem : ∀ x ∈ out, H2 x.2 = some (.tup (x.1.map kV)) ∧ keyOk (.tup (x.1.map keyZ)) = true := fun x m => by
          have m1 := hp.mem_iff.mp m
          refine ⟨e3.tup _ _ (z2 x m1), ?_⟩
          have m2 : Z.tup (x.1.map keyZ) ∈ kvs.map (·.1) := by
            rw [map_keys pr, ← z1]
            exact List.mem_map.mpr ⟨x, m1, rfl⟩
          obtain ⟨y, my, ey⟩ := List.mem_map.mp m2
          rw [← ey]
          exact (hk y my).2.1
        refine fol_lst R2 (out_rep hmem) (c2 (out.map fun x => Z.tup (x.1.map keyZ)) ?_ ?_) ((fl.ext e1).ext e3)
        · rw [map_keys pr, ← z1]
          exact hp.map _
        · rw [List.pairwise_map]
          refine hs.imp fun {x y} h => ?_
          unfold ltZ
          rw [keysOf_key, keysOf_key]
          exact h
    · exact p1.elim
  · exact p1.elim
end
section
variable {env : Env} {h : ZH} {P : PZ} {E : EZ} {wd : WE} {wf : WF} {n : Nat}
@[simp] theorem m_sortK : wSortK wf wd env h P E = wd env h (sortD wf P) E := noRfl rfl
@[simp] theorem m_sortD : sortD wf P (.ref n) h = (match h[n]? with
    | some (.dict kvs) => sortKZ wf kvs h P
    | _ => False) := noRfl rfl
end
end ZL

namespace ZL
open PySem PySem.Spec PyProof.Rows L2
/-! ### isinstance(o, C), C an own class -/
/-- which own classes are of the class at the value cv -/
def IsC (K : PySem.W.Frag) (mg : Str → Option Value) (t : List (Str × Bool)) (D : Addr) : Prop := ∀ c b, t.lookup c = some b → ∀ C, mg c = some (.ref C) → Cls K C ∧ PySem.W.findIn K (.ref C) "__class__" = some (some (.builtin "object.__class__")) ∧
  PySem.W.specialIn K (.builtin "object.__class__") "__get__" = some (some (.builtin "getset_descriptor.__get__")) ∧ PySem.W.takesIn K (.builtin "object.__class__") = some true ∧ PySem.W.mroIn K C (.type "object") = some true ∧ PySem.W.kitOne K (.ref C) (.ref D) = some b
def isCZ (t : List (Str × Bool)) (h : ZH) (z : Z) (Q : Bool → Prop) : Prop := match z with
  | .ref n => (match h[n]? with
    | some (.ins c _) => (match t.lookup c with
      | some b => Q b
      | none => False)
    | _ => False)
  | _ => False
def kIsC (t : List (Str × Bool)) (P : PZ) : PZ := fun z h => isCZ t h z fun b => P (.bl b) h
def wIsC (t : List (Str × Bool)) (w : WE) : WE := fun env h P E => w env h (kIsC t P) E
section
variable {X : Cx}
theorem ze_isC {t : List (Str × Bool)} {w : WE} {e : Expr} {y : Str} {D : Addr} {p p2 pos : Pos} (hn : IsC X.K X.mg t D) (hg : Gl X "isinstance") (hm : X.mg "isinstance" = none) (hg2 : Gl X y) (hm2 : X.mg y = some (.ref D)) (he : ZE X e w) (hd : (y == ("__debug__" : Str)) = false := by decide)
    (hs : starEach [e, .Name y p2] X.env = (false, eval e X.env) :: starEach [.Name y p2] X.env := by rfl) (hpl : (backTo pos (starEach [.Name y p2] X.env)).any (·.1) = false := by rfl) (hs2 : starEach [.Name y p2] X.env = [(false, eval (.Name y p2) X.env)] := by rfl) :
    ZE X (.Call (.Name "isinstance" p) [e, .Name y p2] [] pos) (wIsC t w) := by
  have pT : PE X (.Name y p2) (tC (.ref D)) := pe_glob hg2 hm2 rfl hd
  refine ⟨fun B E tk => pe_imp (pe_callB (X := X) (x := "isinstance") (id := "isinstance") call_isi hg hm rfl (pa_cons (he.run B E tk) (pa_cons pT pa_nil hs2) hs) (by decide) (by decide) hs hpl) fun σ H Q ⟨μ, env, h, P, R, q, f⟩ => ⟨μ, env, h, _, R, q, fun z h1 μ1 H1 v p1 e1 R1 r1 => ?_⟩⟩
  have f1 := f.ext e1
  unfold kIsC isCZ at p1
  split at p1
  · split at p1
    · rename_i n c fs e2
      obtain ⟨a, C, dx, vs, rfl, ha, m, hH, pp⟩ := ins_of R1 e2 r1
      split at p1
      · rename_i b hb
        obtain ⟨h1, h2, h3, h4, h5, h6⟩ := hn c b hb C m
        exact ⟨_, .ref D, _, .ref D, b, rfl, .own D, .base (.ins hH h1 h2 h3 h4 h5), h6, f1.here R1 p1 rep_bl⟩
      · exact p1.elim
    · exact p1.elim
  · exact p1.elim
end
theorem isc_nil {K : PySem.W.Frag} {mg : Str → Option Value} {D : Addr} : IsC K mg [] D := fun c b h => by cases h
theorem isc_cons {K : PySem.W.Frag} {mg : Str → Option Value} {D C : Addr} {c : Str} {b : Bool} {t : List (Str × Bool)} (g : mg c = some (.ref C)) (cl : Cls K C) (o : PySem.W.findIn K (.ref C) "__class__" = some (some (.builtin "object.__class__")) ∧ PySem.W.specialIn K (.builtin "object.__class__") "__get__" = some (some (.builtin "getset_descriptor.__get__")) ∧
    PySem.W.takesIn K (.builtin "object.__class__") = some true ∧ PySem.W.mroIn K C (.type "object") = some true) (k : PySem.W.kitOne K (.ref C) (.ref D) = some b) (r : IsC K mg t D) : IsC K mg ((c, b) :: t) D := by
  intro c' b' h C' m
  rw [List.lookup_cons] at h
  cases e : c' == c with
  | true =>
    rw [e] at h
    cases h
    have e := eq_of_beq e
    subst e
    rw [g] at m
    cases m
    exact ⟨cl, o.1, o.2.1, o.2.2.1, o.2.2.2, k⟩
  | false =>
    rw [e] at h
    exact r c' b' h C' m
theorem RoomG.in2 {k : Nat} {A : Around} (x : RoomG (k + 1) A) : RoomG k A.in1.in1 := ⟨⟨x.r.hd, by have := x.r.dp; show A.depth + 3 * k + 5 < _; omega, by have := x.r.un; show A.units + 1 + 1 + 16 * k + 200 < _; omega⟩, x.g⟩
section
variable {env : Env} {h : ZH} {P : PZ} {E : EZ} {w : WE} {t : List (Str × Bool)} {n : Nat} {Q : Bool → Prop}
@[simp] theorem m_isC : wIsC t w env h P E = w env h (kIsC t P) E := noRfl rfl
@[simp] theorem m_kIsC : kIsC t P (.ref n) h = (match h[n]? with
    | some (.ins c _) => (match t.lookup c with
      | some b => P (.bl b) h
      | none => False)
    | _ => False) := noRfl (by unfold kIsC isCZ; rfl)
end
end ZL

/-! ### sorted(d), d a dict of ints of any length -/
namespace L2
open PySem PySem.Spec PyProof.Rows
section
variable {X : Cx}
def rSortedDN : List V → Hp → VK → Prop := fun xs H Q => ∃ (a : Addr) (kvs : List (Key × V)) (ks : List Int), xs = [.ref a] ∧ H a = some (.dK kvs) ∧ kvs.map (·.1) = ks.map Sum.inl ∧
    ∀ (ys : List Int) (p : Addr), ys.Perm ks → ys.Pairwise (· ≤ ·) → H p = none → Q (.ref p) (upd H p (.lst (ys.map V.int)))
/-- what was drawn from a dict whose keys are ints -/
theorem drawn_ints {ks : List Int} {es : List (Key × Value)} (hk : es.map (·.1) = ks.map Sum.inl) {got : Array Value} (hn : got.size = es.length) (at_ : ∀ (j : Nat) (u : Value), got[j]? = some u → ∃ k y, es[j]? = some (k, y) ∧ keyIs k u = true) :
    got.toList.length = ks.length ∧ IntsAre got.toList ks := by
  have n : got.toList.length = ks.length := by simpa [hn] using congrArg List.length hk
  refine ⟨n, ints_each n fun j u m => ?_⟩
  obtain ⟨k, y, m1, m2⟩ := at_ j u (by simpa using m)
  have m3 : (ks.map (Sum.inl (β := Str)))[j]? = some k := by rw [← hk]; simp [m1]
  obtain ⟨i, m4, rfl⟩ : ∃ i, ks[j]? = some i ∧ Sum.inl i = k := by simpa using m3
  rcases keyIs_shape m2 with ⟨i2, t, a, b⟩ | ⟨z, t, a, b⟩ <;> cases a
  exact ⟨i, t, m4, b⟩
theorem cr_sortedDN (calm : X.calm = true) : CallR X (.builtin "sorted") rSortedDN := by
  intro pins s σ H xs us Q I rep req
  obtain ⟨d, kvs, ks, rfl, hd, hks, post⟩ := req
  obtain ⟨u, rfl, one⟩ := vals1 rep
  cases one
  obtain ⟨room, nosys, es, rel, dict⟩ := dk_of I.hok hd
  obtain ⟨ep, dat⟩ := dict.dictAt
  have keys := rel.keys.symm.trans hks
  have many : ks.length ≤ sizeLine ∧ es.length = ks.length := by
    have n1 := congrArg List.length keys
    have n2 := congrArg List.length hks
    simp only [List.length_map] at n1 n2
    exact ⟨n2 ▸ room, n1⟩
  refine Calls.call_function_entry kind_sorted plain_sorted entry_sorted (args_sorted1 _) ?_
  unfold Builtin.«sorted»
  refine wpAny_bind (m := checkCount "sorted" 1 1 _) (wpAny_pure ?_)
  refine wpAny_bind (PySem.W.kdu_collect (A := X.A.in1) (PySem.W.kdl_dict (knd := mixKind X.prog X.w) (kvs := es) (ep := ep) nosys) (I.ok.hd calm) dat (many.2.symm ▸ many.1) fun g tk got keep drew => ?_)
  obtain ⟨n, isI⟩ := drawn_ints keys drew.1 drew.2
  have fits : got.toList.length ≤ sizeLine := n.symm ▸ many.1
  have J : Inv X pins σ H { s with heap := g, toks := tk } := I.kept keep
  refine wpAny_bind (wpAny_newList ?_ fits)
  have laid : (g.push (seqObj "list" got.toList.toArray 0)).get? g.objs.size = some (seqObj "list" got.toList.toArray 0) := Heap.get?_push_size _ rfl
  have old : ∀ b o, g.get? b = some o → (g.push (seqObj "list" got.toList.toArray 0)).get? b = some o ∧ b ≠ g.objs.size ∧ b < (g.push (seqObj "list" got.toList.toArray 0)).objs.size := fun b o e => by
    have lt := Heap.lt_size e
    exact ⟨Heap.get?_push_of_some _ e, Nat.ne_of_lt lt, by rw [size_push']; exact Nat.lt_succ_of_lt lt⟩
  show wpAny _ _ _ _ _ { s with heap := g.push (seqObj "list" got.toList.toArray 0), toks := tk }
  generalize hg2 : g.push (seqObj "list" got.toList.toArray 0) = g2 at *
  refine wpAny_bind (wpAny_holding (wpAny_call_entry slot_list_sort ⟨_, laid, rfl⟩ entry_list_sort (SrtO.list_sort_ord (s := { s with heap := g2, toks := tk }) SrtO.swo_int laid fits (fun two => SrtO.ints_sortable isI two) fun out asc stb => ⟨_, rfl, ?_⟩) (args_list_sort _)))
  obtain ⟨q1, q2, q3⟩ := SrtO.ints_out isI asc stb
  obtain ⟨e2, at2⟩ := sortedHeap_at (vs := got.toList) (out := out.toArray) laid
  refine wpAny_pure ⟨_, rfl, .ref g.objs.size, upd H g.objs.size (.lst ((out.map SrtO.iv).map V.int)), J.laid (t' := tk) (fun b o e => ?_) (Nat.le_refl _) ⟨?_, out, e2, vals_of_ints q1, at2⟩, rfl, post _ _ q2 q3 (J.hok.fresh (Nat.le_refl _))⟩
  · obtain ⟨o1, o2, o3⟩ := old b o e
    rw [sortedHeap_old o2 o3]
    exact o1
  · rw [List.length_map, q2.length_eq]
    exact many.1
theorem cr_sortedDE (hc : X.calm = true) : CallR X (.builtin "sorted") (fun xs H Q => ∃ a : Addr, xs = [.ref a] ∧ H a = some (.dT []) ∧ ∀ p, H p = none → Q (.ref p) (upd H p (.lst []))) := by
  intro pins s σ H xs us Q I r q
  obtain ⟨a, ex, hd, q⟩ := q
  refine wpAny_mono (cr_sortedDN hc pins s σ (upd H a (.dK [])) xs us (fun v H2 => ∃ p, p ≠ a ∧ v = V.ref p ∧ H p = none ∧ H2 = upd (upd H a (.dK [])) p (.lst [])) (ZL.Inv.tk I hd) r ⟨a, [], [], ex, upd_same, rfl, fun ys p hp _ hn => ?_⟩) (fun u s' z => ?_) fun _ _ e => e
  · have n : p ≠ a := fun z => by rw [z, upd_same] at hn; cases hn
    cases List.Perm.eq_nil hp
    exact ⟨p, n, rfl, by rw [upd_ne n] at hn; exact hn, rfl⟩
  · obtain ⟨v, H', I', rv, p, n, ev, hn, e2⟩ := z
    rw [e2] at I'
    have k : upd (upd H a (.dK [])) p (.lst []) a = some (.dK []) := by rw [upd_ne (Ne.symm n)]; exact upd_same
    have I2 := ZL.Inv.kt I' k
    rw [upd_turn hd n] at I2
    exact ⟨v, _, I2, rv, by rw [ev]; exact q p hn⟩
end
end L2
namespace ZL
open PySem PySem.Spec PyProof.Rows L2
def oSortedD : Z3 := fun zs h P => match zs with
  | [.tup us] => ∃ ns, intsZ us = some ns ∧ ∀ ns' : List Int, ns'.Perm ns → ns'.Pairwise (· ≤ ·) → P (.ref h.length) (h ++ [.lst (ns'.map Z.int)])
  | [.ref n] => (match h[n]? with
    | some (.lst us) => ∃ ns, intsZ us = some ns ∧ ∀ ns' : List Int, ns'.Perm ns → ns'.Pairwise (· ≤ ·) → P (.ref h.length) (h ++ [.lst (ns'.map Z.int)])
    | some (.dict kvs) => ∃ ns, intsZ (kvs.map (·.1)) = some ns ∧ ∀ ns' : List Int, ns'.Perm ns → ns'.Pairwise (· ≤ ·) → P (.ref h.length) (h ++ [.lst (ns'.map Z.int)])
    | _ => False)
  | _ => False
section
variable {X : Cx}
theorem kr_ints {K : PySem.W.Frag} {μ : List Addr} {H : Hp} : ∀ {kvs : List (Z × Z)} {l : List (Key × V)} {ns : List Int}, Paired (KR K μ H) kvs l → kvs.map (·.1) = ns.map Z.int → l.map (·.1) = ns.map Sum.inl
  | [], [], [], _, _ => rfl
  | [], [], _ :: _, _, e => by cases e
  | p :: kvs, q :: l, [], _, e => by cases e
  | p :: kvs, q :: l, n :: ns, .cons a r, e => by
    simp only [List.map_cons, List.cons.injEq] at e ⊢
    refine ⟨?_, kr_ints r e.2⟩
    have k : p.1 = keyZ q.1 := a.1
    rw [e.1] at k
    cases hq : q.1 with
    | inl i => rw [hq] at k; unfold keyZ at k; cases k; rfl
    | inr x => rw [hq] at k; unfold keyZ at k; cases k
theorem call_sortedDZ (hc : X.calm = true) : CallZ X (.builtin "sorted") oSortedD := by
  refine ⟨_, (cr_sortedI.or cr_sortedTI).or ((cr_sortedDN hc).or (cr_sortedDE hc)), fun μ H h zs vs P Q R r o f => ?_⟩
  unfold oSortedD at o
  split at o
  · obtain ⟨v, rfl, rv⟩ := one_vals r rfl
    obtain ⟨a, ws, rfl, t, rw⟩ := of_tup rv
    obtain ⟨ns, e2, q⟩ := o
    cases intsZ_some e2
    cases all_ints rw
    exact .inl (.inr ⟨a, ns, rfl, t.sq, fun ns' p h1 h2 hn => fol_lst R (RepVs.ints ns') (q ns' h1 h2) f p hn⟩)
  · split at o
    · rename_i us e1
      obtain ⟨v, rfl, rv⟩ := one_vals r rfl
      obtain ⟨a, ws, rfl, _, hp, rw⟩ := of_lst R e1 rv
      obtain ⟨ns, e2, q⟩ := o
      cases intsZ_some e2
      cases all_ints rw
      exact .inl (.inl ⟨a, ns, rfl, SqL.of hp, fun ns' p h1 h2 hn => fol_lst R (RepVs.ints ns') (q ns' h1 h2) f p hn⟩)
    · rename_i kvs e1
      obtain ⟨v, rfl, rv⟩ := one_vals r rfl
      obtain ⟨a, ho, rfl, _, hp, d⟩ := dict_of R e1 rv
      obtain ⟨ns, e2, q⟩ := o
      have e3 := intsZ_some e2
      rcases d with ⟨l, rfl, pr⟩ | ⟨l, rfl, pr⟩
      · exact .inr (.inl ⟨a, l, ns, rfl, hp, kr_ints pr e3, fun ns' p h1 h2 hn => fol_lst R (RepVs.ints ns') (q ns' h1 h2) f p hn⟩)
      · cases pr with
        | nil =>
          have e4 : ns = [] := by cases ns with
            | nil => rfl
            | cons _ _ => cases e3
          cases e4
          exact .inr (.inr ⟨a, rfl, hp, fun p hn => fol_lst R (RepVs.ints []) (q [] (List.Perm.refl _) .nil) f p hn⟩)
        | cons x _ =>
          cases ns with
          | nil => cases e3
          | cons n ns =>
            have e5 := x.1
            simp only [List.map_cons, List.cons.injEq] at e3
            rw [e3.1] at e5
            cases e5
    · exact o.elim
  · exact o.elim
end
section
variable {h : ZH} {P : PZ} {us : List Z} {n : Nat}
@[simp] theorem oSortedD_t : oSortedD [.tup us] h P = (∃ ns, intsZ us = some ns ∧ ∀ ns' : List Int, ns'.Perm ns → ns'.Pairwise (· ≤ ·) → P (.ref h.length) (h ++ [.lst (ns'.map Z.int)])) := noRfl rfl
@[simp] theorem oSortedD_r : oSortedD [.ref n] h P = (match h[n]? with
    | some (.lst us) => ∃ ns, intsZ us = some ns ∧ ∀ ns' : List Int, ns'.Perm ns → ns'.Pairwise (· ≤ ·) → P (.ref h.length) (h ++ [.lst (ns'.map Z.int)])
    | some (.dict kvs) => ∃ ns, intsZ (kvs.map (·.1)) = some ns ∧ ∀ ns' : List Int, ns'.Perm ns → ns'.Pairwise (· ≤ ·) → P (.ref h.length) (h ++ [.lst (ns'.map Z.int)])
    | _ => False) := noRfl rfl
end
end ZL

namespace ZL
open PySem PySem.Spec PyProof.Rows L2
/-! ### zip of two tuples whose parts are leaves -/
def zipP (xs ys : List Z) : List Z := List.zipWith (fun x y => .tup [x, y]) xs ys
def zipZ (zs : List Z) (h : ZH) (Q : List Z → (ZH → Prop) → Prop) : Prop := match zs with
  | [.tup xs, .tup ys] => (keyN 2 true = true ∧ keyN 2 false = true) ∧ (∀ z ∈ xs, leafZ z = true) ∧ (∀ z ∈ ys, leafZ z = true) ∧ Q (zipP xs ys) (fun _ => True)
  | _ => False
def iZipW (w : WA) : WI := fun env h P E => w env h (fun zs h1 => zipZ zs h1 fun l c => P l c h1) E
theorem zip_at {xs ys : List Z} {i : Nat} {z : Z} (e : (zipP xs ys)[i]? = some z) : ∃ x y, xs[i]? = some x ∧ ys[i]? = some y ∧ z = .tup [x, y] := by
  unfold zipP at e
  rw [List.getElem?_zipWith] at e
  cases q1 : xs[i]? with
  | none => rw [q1] at e; simp at e
  | some x =>
    cases q2 : ys[i]? with
    | none => rw [q1, q2] at e; simp at e
    | some y => rw [q1, q2] at e; simp at e; exact ⟨x, y, rfl, rfl, e.symm⟩
theorem zip_len {xs ys : List Z} : xs.length ≤ (zipP xs ys).length ∨ ys.length ≤ (zipP xs ys).length := by
  unfold zipP
  rw [List.length_zipWith]
  omega
section
variable {X : Cx} {K : PySem.W.Frag} {mg : Str → Option Value}
theorem pair_leaf {μ : List Addr} {H : Hp} {h : ZH} {T : Addr} {x y : Z} {v u : V} (hk : keyN 2 true = true ∧ keyN 2 false = true) (lx : leafZ x = true) (ly : leafZ y = true) (R : RelH K mg μ H h) (hT : H T = none) (rx : RepV K μ H x v) (ry : RepV K μ H y u) :
    Ext μ H μ (upd H T (.tup [v, u])) ∧ RelH K mg μ (upd H T (.tup [v, u])) h ∧ RepV K μ (upd H T (.tup [v, u])) (.tup [x, y]) (.ref T) := by
  have ex : Ext μ H μ (upd H T (.tup [v, u])) := ext_new hT
  refine ⟨ex, R.tup hT, ?_⟩
  have kv : keyV [v, u] = true := by
    unfold keyV
    have a1 := (leaf_rep rx).1
    have a2 := (leaf_rep ry).1
    have a3 : [v, u].all leafK = true := by rw [List.all_cons, List.all_cons, List.all_nil, a1, a2, lx, ly]; rfl
    have a4 : ∀ b, keyN 2 b = true := fun b => by
      cases b
      · exact hk.2
      · exact hk.1
    rw [a3, Bool.true_and]
    exact a4 _
  unfold RepV
  exact ⟨T, _, rfl, .inl ⟨kv, upd_same⟩, .cons (rx.mono ex) (.cons (ry.mono ex) .nil)⟩
theorem itr_zipT {a b : Addr} {xs ys : List Z} {vs us : List V} {μ0 : List Addr} {H0 : Hp} (hk : keyN 2 true = true ∧ keyN 2 false = true) (lx : ∀ z ∈ xs, leafZ z = true) (ly : ∀ z ∈ ys, leafZ z = true) (ta : TupA K H0 a vs) (ra : RepVs K μ0 H0 xs vs) (tb : TupA K H0 b us) (rb : RepVs K μ0 H0 ys us) : ItR K mg (RZ.ItzT K a b) (zipP xs ys) (fun _ => True) μ0 H0 := by
  refine ⟨fun i z μ H h e R c hz => ?_, fun μ H h e R c => ?_⟩
  · obtain ⟨x, y, ex, ey, rfl⟩ := zip_at hz
    obtain ⟨v, hv, rv⟩ := (ra.mono e).get ex
    obtain ⟨u, hu, ru⟩ := (rb.mono e).get ey
    refine ⟨⟨vs, us, v, u, (e.tupA ta).sq, (e.tupA tb).sq, hv, hu⟩, fun w H' y => ?_⟩
    obtain ⟨T, x', y', rfl, hT, rfl, y1, y2⟩ := y
    rw [y1 _ (e.tupA ta).sq] at hv; cases hv
    rw [y2 _ (e.tupA tb).sq] at hu; cases hu
    obtain ⟨k1, k2, k3⟩ := pair_leaf hk (lx _ (List.mem_of_getElem? ex)) (ly _ (List.mem_of_getElem? ey)) R hT rv ru
    exact ⟨μ, k1, k2, k3⟩
  · refine ⟨vs, us, (e.tupA ta).sq, (e.tupA tb).sq, ?_⟩
    rw [← ra.length, ← rb.length]
    exact zip_len
theorem zi_zip {e e2 : Expr} {w : WA} {p pos tpos : Pos} {elts : List Expr} {kk : Nat} (hg : Gl X "zip") (hm : X.mg "zip" = none) (ha : ZA X [e, e2] w)
    (hs : starEach [e, e2] X.env = (false, eval e X.env) :: starEach [e2] X.env := by rfl) (hpl : (backTo pos (starEach [e2] X.env)).any (·.1) = false := by rfl) :
    ZI X (.Tuple elts kk tpos) (.Call (.Name "zip" p) [e, e2] [] pos) (iZipW w) :=
  ⟨fun B E tk => pi_imp (RZ.pi_zipA hg hm (ha.run B E tk) hs hpl) fun σ H Q ⟨μ, env, h, P, R, q, f⟩ => ⟨μ, env, h, _, R, q, fun zs h1 μ1 H1 vs p1 e1 R1 r1 => by
    unfold zipZ at p1
    split at p1
    · obtain ⟨hk, lx, ly, p1⟩ := p1
      obtain ⟨v, u, rfl, ra, rb⟩ := two_vals r1 rfl
      obtain ⟨a, ws, rfl, ta, r⟩ := of_tup ra
      obtain ⟨b, us, rfl, tb, r'⟩ := of_tup rb
      exact ⟨a, b, ws, us, rfl, .inr ⟨ta.sq, tb.sq, f _ _ _ _ _ _ p1 e1 R1 (itr_zipT hk lx ly ta r tb r')⟩⟩
    · exact p1.elim⟩⟩
end
section
variable {env : Env} {h : ZH} {E : EZ} {r : WA} {PI : List Z → (ZH → Prop) → ZH → Prop} {xs ys : List Z}
def kZip (P : List Z → (ZH → Prop) → ZH → Prop) : List Z → ZH → Prop := fun zs h => zipZ zs h fun l c => P l c h
@[simp] theorem m_iZip : iZipW r env h PI E = r env h (kZip PI) E := noRfl rfl
@[simp] theorem m_kZip : kZip PI [.tup xs, .tup ys] h = ((keyN 2 true = true ∧ keyN 2 false = true) ∧ (∀ z ∈ xs, leafZ z = true) ∧ (∀ z ∈ ys, leafZ z = true) ∧ PI (zipP xs ys) Always h) := noRfl rfl
end
end ZL

namespace ZL
open PySem PySem.Spec PyProof.Rows L2
/-! ### a, b = x, y: both sides plain pairs -/
section
variable {X : Cx}
def kPar (i j : Nat) (P : Env → ZH → Prop) (env : Env) : List Z → ZH → Prop := fun zs h => match zs with
  | [a, b] => P ((env.set i (some a)).set j (some b)) h
  | _ => False
def wsPar (i j : Nat) (r : WA) : WS := fun D env h E => r env h (kPar i j D.nx env) E
theorem zs_par {i j : Nat} {x y : Str} {a b : Expr} {w : WA} {px py pt pos : Pos} {kt k2 pt2} (hc : X.calm = true) (hN : X.N.Nodup) (hi : X.N[i]? = some x) (hj : X.N[j]? = some y) (hij : i ≠ j)
    (hx : X.env.scope.names.lookup x = some .local) (hy : X.env.scope.names.lookup y = some .local) (ha : ZA X [a, b] w)
    (hw : swappedStores [.Tuple [.Name x px, .Name y py] kt pt] (.Tuple [a, b] k2 pt2) X.env = pure (some [x, y]) := by rfl)
    (hs : swapsWithSole [.Tuple [.Name x px, .Name y py] kt pt] (.Tuple [a, b] k2 pt2) pos.line X.env = pure false := by rfl) : ZS X (.Assign [.Tuple [.Name x px, .Name y py] kt pt] (.Tuple [a, b] k2 pt2) pos) (wsPar i j w) :=
  ⟨fun B E tk => ps_imp (ps_par hc hN hi hj hij hx hy (ha.run B E tk) hw hs) fun D' σ H ⟨μ, env, h, D, R, q, d⟩ => ⟨μ, env, h, _, R, q, fun zs h1 μ1 H1 vs p1 e1 R1 r1 => by
    unfold kPar at p1
    split at p1
    · rename_i za zb
      obtain ⟨v, u, rfl, ra, rb⟩ := two_vals r1 rfl
      exact ⟨v, u, rfl, d.nx _ _ _ _ _ (((R.step e1 R1).put ra i).put rb j) p1⟩
    · exact p1.elim⟩⟩
end
section
variable {D : ZEnds} {env : Env} {h : ZH} {E : EZ} {r : WA} {i j : Nat} {P : Env → ZH → Prop} {a b : Z}
@[simp] theorem m_par : wsPar i j r D env h E = r env h (kPar i j D.nx env) E := noRfl rfl
@[simp] theorem m_kPar : kPar i j P env [a, b] h = P ((env.set i (some a)).set j (some b)) h := noRfl rfl
end
end ZL

namespace ZL
open PySem PySem.Spec PyProof.Rows L2
section
variable {X : Cx} {e : Expr} {es : List Expr} {ta : TA} {p pos : Pos}
/-- a new error with fields whose context is None -/
theorem pmk_oexN {cx : CXT} {x : Str} {C fI : Addr} {k : Nat} {fd : FuncData} {ps : List Str} {sp : Sp} {ds : List Value} {dvs : List V} (T : OexC X.K C) (iC : PySem.W.findIn X.K (.ref C) "__init__" = some (some (.ref fI)))
    (tI : PySem.W.typeIn X.K (.ref fI) = some (.type "function")) (F1 : FnOk X.prog X.w X.K X.mg X.base cx k fI fd ps sp) (hr : Room (k + 1) X.A) (hb : Binds X.K fd ps ds) (hd : Vals dvs ds) (hx : Passes cx X (fun _ _ _ => False)) (hg : Gl X x) (hm : X.mg x = some (.ref C)) (ha : PA X (e :: es) ta)
    (hdb : (x == ("__debug__" : Str)) = false := by decide) (he : starEach (e :: es) X.env = (false, eval e X.env) :: starEach es X.env := by rfl) (hpl : (backTo pos (starEach es X.env)).any (·.1) = false := by rfl) : L2N.PMk X (.Call (.Name x p) (e :: es) [] pos) (tMkO C sp dvs ta) := by
  intro pins s σ H Q I h0
  obtain ⟨_, _, _, _, bm, _, _, _, _, _, _, _, _, _, _, hC, hbm⟩ := T.cls
  refine wpAny_Call_Name_kw (ld_glob I hg hm (PySem.W.callWith_K (h₀ := X.base) I.ok.mod.kin T.kC (thn (ha.run pos pins s σ H _ I h0) fun us s1 ⟨vs, H1, I1, r1, hz, q1⟩ => ⟨I1.kIn, ?_⟩) he hpl) hdb)
  obtain ⟨hp, g, dr, tk, os⟩ := s1
  have le1 : hp.objs.size ≤ hp.objs.size + 1 := Nat.le_succ _
  have sp1 := q1 (hp.objs.size + 1) (I1.hok.fresh le1)
  have grow : ∀ b o, hp.get? b = some o → ((hp.push (PySem.W.kdv_tup us)).push (PySem.HandSPX.excO C hp.objs.size)).get? b = some o :=
    fun _ _ z => Heap.get?_push_of_some _ (Heap.get?_push_of_some _ z)
  have at1 : ((hp.push (PySem.W.kdv_tup us)).push (PySem.HandSPX.excO C hp.objs.size)).get? (hp.objs.size + 1) = some (PySem.HandSPX.excO C hp.objs.size) := by heap_get
  have J := I1.laid (t' := tk) (a := hp.objs.size + 1) (o := exo (hp.objs.size + 1) C none) (h' := (hp.push (PySem.W.kdv_tup us)).push (PySem.HandSPX.excO C hp.objs.size)) grow le1 (exo_ok at1)
  have both : Vals (V.ref (hp.objs.size + 1) :: (vs ++ dvs)) (Value.ref (hp.objs.size + 1) :: (us ++ ds)) := Paired.cons rfl (r1.append hd)
  have ln : (Value.ref (hp.objs.size + 1) :: us ++ ds).length = ps.length := (both.length.symm.trans (F1.len _ _ _ _ sp1))
  have lu : us.length ≤ sizeLine := by have := Paired.length r1; rw [sizeLine_eq]; omega
  have run := F1.run _ X.stack _ _ ⟨Value.ref (hp.objs.size + 1) :: us, []⟩ (Value.ref (hp.objs.size + 1) :: (us ++ ds)) _ _ (fun _ _ _ => False) (hr.make C us []) (J.env0.make C us []) (hb _ (Value.ref (hp.objs.size + 1) :: us) J.kIn ln) both sp1
  refine wpAny_call (PySem.HandSPX.call_own F.excBase_ValueError (fun Y => PySem.HandSPX.refsVE_contains Y bm hbm) (I1.kIn _ _ hC) (PySem.W.looks_findIn I1.kIn iC) (fun self => PySem.W.bind_fn I1.kIn self tI) lu (codeAny_mono run fun r s' z => ?_))
  match r, z with
  | .error er, z => exact hx pins σ _ _ er s' J z
  | .ok (.ret u), z =>
    obtain ⟨_, H2, os2, bare2, un2, hok2, rv, rfl, d, fs, ea, ed, hd1, q2⟩ := z
    obtain ⟨h2, g2, d2, t2, os'⟩ := s'
    obtain ⟨t0, G, JG, kG, ge, oe, na⟩ := mk_end0 (d2 := d2) (t2 := t2) I1 le1 grow un2 hok2 os2 bare2 ea ed hd1
    exact ⟨rv, ⟨_, _, _, ⟨G, g2, d2, t2, os'⟩, _, .ref C, some d, rfl, JG, kG, ge, oe, ⟨rfl, rfl, fun vs e => by cases e; rfl⟩, rfl, rfl, na, rfl, bare2, raises_own T.exC T.tyC, q2⟩⟩
  | .ok .next, z => exact z.elim
  | .ok .brk, z => exact z.elim
  | .ok .cont, z => exact z.elim
end
end ZL

namespace ZL
open PySem PySem.Spec PyProof.Rows L2
/-! ### C(x): an own exception whose __init__ says super().__init__(..); self.fld = x -/
/-- what its __init__ keeps -/
def spI (K : PySem.W.Frag) (C : Addr) (fld : Str) : Sp := fun vs H Q _ => ∃ (a : Addr) (v : V), vs = [.ref a, v] ∧ H a = some (exo a C none) ∧ ∀ dx, H dx = none → dx ≠ a → Q .non (upd (upd H dx (exd dx [(fld, v)])) a (exo a C (some dx)))
section
variable {CX : CXT} {P : Program} {w : World} {K : PySem.W.Frag} {mg : Str → Option Value} {base : Heap} {qual : Str} {scope : Scope} {f cc C : Addr} {n1 n2 fld : Str}
  {k : Nat} {name : Str} {params : Arguments} {dV kV doc pm ct oc : Value} {an od : Option Addr} {osl : Array (Option Value)} {cda : Addr} {txt : Str} {ck : Nat} {pc p0 p1 p2 p3 p4 q1 q2 q3 q4 : Pos} {ar : Arg} {ccl : Value} {cdd : Option Addr} {vs0 : Array Value} {ccs : Array (Option Value)} {file : Str} {tf : Tok}
  {cl : Value} {cld : Option Addr} {csl : Array (Option Value)}
abbrev ibody (txt n1 n2 fld : Str) (ck : Nat) (pc p0 p1 p2 p3 p4 q1 q2 q3 q4 : Pos) : List Stmt :=
  [.Expr (.Call (.Attribute (.Call (.Name "super" p0) [] [] p1) "__init__" p2) [.Constant (.str txt) ck pc] [] p3) p4, .Assign [.Attribute (.Name n1 q1) fld q2] (.Name n2 q3) q4]
theorem fn_init (SC : SupC K C C) (nof : PySem.W.findIn K (.ref C) fld = some none) (lk : K.lookup f = some ⟨oc, od, .func (PySem.W.fnX name qual params (ibody txt n1 n2 fld ck pc p0 p1 p2 p3 p4 q1 q2 q3 q4) scope [("__class__", cc)] dV kV doc pm an (.ref cda) ct), osl⟩)
    (hcd : PySem.W.codeIn K (.ref cda) qual = true) (hcode : K.lookup cda = some ⟨ccl, cdd, .fields vs0, ccs⟩) (hvs : vs0[2]? = some (.str file tf)) (hfile : ((P.main.file : Str) == file) = true) (htop : (P.main.scope.names.lookup ("super" : Str)).isSome = false)
    (hcell : K.lookup cc = some ⟨cl, cld, .cell (some (.ref C)), csl⟩) (hp : (params.posonlyargs ++ params.args).head? = some ar) (har : ar.arg = n1) (S : SupS scope n1 n2) (hsuper : mg "super" = none)
    (d1 : (n1 == ("__debug__" : Str)) = false) (d2 : (n2 == ("__debug__" : Str)) = false) (d3 : (n1 == ("__classdict__" : Str)) = false) (d4 : (n2 == ("__classdict__" : Str)) = false)
    (pl : Addr → Sem Bool) (hev : ∀ L : Addr, eval (.Call (.Attribute (.Call (.Name "super" p0) [] [] p1) "__init__" p2) [.Constant (.str txt) ck pc] [] p3) (PySem.W.ksEnv qual scope L f (.ref cda) cc) = (do
      let ov ← attributeBase (.Call (.Name "super" p0) [] [] p1) "__init__" (PySem.W.ksEnv qual scope L f (.ref cda) cc) (eval (.Call (.Name "super" p0) [] [] p1) (PySem.W.ksEnv qual scope L f (.ref cda) cc))
      standAt p2.atName
      let (g, first) ← holding [ov] (getMethod ov "__init__" (pl L))
      callWith p3 g first (backTo p3 (starEach [.Constant (.str txt) ck pc] (PySem.W.ksEnv qual scope L f (.ref cda) cc))) []))
    (hsw : ∀ env, swapsWith (.Name n2 q3) (some (.Attribute (.Name n1 q1) fld q2)) q4.line env = pure false) :
    FnOk P w K mg base CX (k + 1) f (PySem.W.fnX name qual params (ibody txt n1 n2 fld ck pc p0 p1 p2 p3 p4 q1 q2 q3 q4) scope [("__class__", cc)] dV kV doc pm an (.ref cda) ct) [n1, n2] (spI K C fld) := by
  refine fn_sup lk hcd hcode hvs hfile htop hcell SC.cd hp har S hsuper pl hev (fun vs H Q E ⟨a, v, e, _⟩ => by rw [e]; rfl) fun A outer s H vs Q E hr hs => ?_
  obtain ⟨a, v, rfl, ea, hq⟩ := hs
  refine ⟨a, C, v, rfl, SC, ea, _, _, pa_cons pe_str pa_nil rfl, pss_one (ps_ost (pe_var (i := 0) rfl (.inl S.v1) d1 d3) (pe_var (i := 1) rfl (.inl S.v2) d2 d4) (hsw _)), ?_⟩
  exact ⟨by simp, ea, v, rfl, .ref a, rfl, a, C, rfl, SC.ox, nof, .inl ⟨ea, hq⟩⟩
end
/-- raise C(e) -/
def wsRaiseF (c fld : Str) (w : WA) : WS := fun D env h E => w env h (fun zs h1 => ∃ z, zs = [z] ∧ E ⟨c, [(fld, z)]⟩ env h1) E
section
variable {X : Cx}
theorem zs_raiseF {x fld : Str} {e : Expr} {w : WE} {C fI : Addr} {fd : FuncData} {ps : List Str} {k : Nat} {p pos pos2 : Pos} (hc : X.calm = true) (T : OexC X.K C) (iC : PySem.W.findIn X.K (.ref C) "__init__" = some (some (.ref fI))) (tI : PySem.W.typeIn X.K (.ref fI) = some (.type "function"))
    (F1 : FnOk X.prog X.w X.K X.mg X.base CX0 k fI fd ps (spI X.K C fld)) (hr : Room (k + 1) X.A) (hb : Binds X.K fd ps []) (hx : Passes CX0 X (fun _ _ _ => False)) (gC : X.mg x = some (.ref C)) (hg : Gl X x) (he : ZE X e w)
    (hdb : (x == ("__debug__" : Str)) = false := by decide) (hs : starEach [e] X.env = (false, eval e X.env) :: starEach [] X.env := by rfl) (hpl : (backTo pos (starEach [] X.env)).any (·.1) = false := by rfl) (hs1 : starEach [e] X.env = [(false, eval e X.env)] := by rfl) :
    ZS X (.Raise (some (.Call (.Name x p) [e] [] pos)) none pos2) (wsRaiseF x fld (w1 w)) :=
  ⟨fun B E tk => ps_imp (L2N.ps_raise hc tk (pmk_oexN (ds := []) (dvs := []) T iC tI F1 hr hb .nil hx hg gC ((za1 he hs1).run B E tk) hdb hs hpl)) fun D' σ H ⟨μ, env, h, D, R, q, d⟩ =>
    ⟨μ, env, h, _, R, q, fun zs h1 μ1 H1 vs p1 e1 R1 r1 => by
      obtain ⟨z, rfl, p1⟩ := p1
      obtain ⟨v, vs2, rfl, rv, rn⟩ : ∃ v vs2, vs = v :: vs2 ∧ RepV X.K μ1 H1 z v ∧ RepVs X.K μ1 H1 [] vs2 := by
        have r2 := r1
        unfold RepVs at r2
        exact r2
      obtain rfl : vs2 = [] := by have := rn.length; exact List.eq_nil_of_length_eq_zero this.symm
      refine ⟨by simp, fun a na => ⟨a, v, rfl, upd_same, fun dx ndx dne => ⟨rfl, dx, [(fld, v)], upd_same, by rw [upd_ne dne, upd_same], by rw [upd_ne dne] at ndx; exact ndx, ?_⟩⟩⟩
      rw [upd_ne dne] at ndx
      have eH : upd (del (upd (upd (upd H1 a (exo a C none)) dx (exd dx [(fld, v)])) a (exo a C (some dx))) a) dx (.xd [(fld, v)]) = upd H1 dx (.xd [(fld, v)]) := by
        funext b
        by_cases hb : b = dx
        · rw [hb, upd_same, upd_same]
        · rw [upd_ne hb, upd_ne hb]
          by_cases ha : b = a
          · rw [ha, del_same, na]
          · rw [del_ne ha, upd_ne ha, upd_ne hb, upd_ne ha]
      rw [eH]
      have x2 : Ext μ1 H1 μ1 (upd H1 dx (.xd [(fld, v)])) := ext_new ndx
      have R2 : RelH X.K X.mg μ1 (upd H1 dx (.xd [(fld, v)])) h1 := R1.tup ndx
      have nm : dx ∉ μ1 := fun hm => by
        obtain ⟨n, hn, e⟩ := List.mem_iff_getElem.mp hm
        have hh : n < h1.length := by rw [← R1.len]; exact hn
        obtain ⟨u, eu, _⟩ := (R1.obj n dx h1[n] (by simp [hn, e]) (by simp [hh])).some
        rw [ndx] at eu; cases eu
      have nb : NewX B (some dx) := NewX.back (B' := (μ1, H1)) (R.ext.trans e1) fun d3 e3 => by cases e3; exact ⟨nm, ndx⟩
      exact ⟨⟨x, [(fld, z)]⟩, μ1, env, h1, R.step (e1.trans x2) R2, ⟨C, gC, rfl, .inr ⟨dx, [(fld, v)], by simp, rfl, upd_same, nm, .cons ⟨rfl, rv.mono x2⟩ .nil⟩⟩, nb, p1⟩⟩⟩
end
end ZL
namespace ZL
open PySem PySem.Spec PyProof.Rows L2
/-- a raise, from the text's facts -/
theorem zs_raiseE {X : Cx} {u : SupD} {e : Expr} {w : WE} {ps : List Str} {p pos pos2 : Pos} (hc : X.calm = true) (S : SupOk X.K u) (G : ∃ fd, FnOk X.prog X.w X.K X.mg X.base CX0 1 (He.fAd X.K u.at_) fd ps (spI X.K (He.ga X.K u.x) u.fld) ∧ Binds X.K fd ps []) (hr : Room 2 X.A)
    (gC : X.mg u.x = some (.ref (He.ga X.K u.x))) (hg : Gl X u.x) (he : ZE X e w)
    (hdb : (u.x == ("__debug__" : Str)) = false := by decide) (hs : starEach [e] X.env = (false, eval e X.env) :: starEach [] X.env := by rfl) (hpl : (backTo pos (starEach [] X.env)).any (·.1) = false := by rfl) (hs1 : starEach [e] X.env = [(false, eval e X.env)] := by rfl) :
    ZS X (.Raise (some (.Call (.Name u.x p) [e] [] pos)) none pos2) (wsRaiseF u.x u.fld (w1 w)) := by
  obtain ⟨fd, F, b⟩ := G
  exact zs_raiseF hc S.sc.ox S.iC S.tI F hr b (fun _ _ _ _ _ _ _ h => h.elim) gC hg he hdb hs hpl hs1
section
variable {env : Env} {h : ZH} {D : ZEnds} {E : EZ} {c f : Str} {r : WA} {zs : List Z} {z : Z}
def kRaiseF (c f : Str) (env : Env) (E : EZ) : List Z → ZH → Prop := fun zs h => ∃ z, zs = [z] ∧ E ⟨c, [(f, z)]⟩ env h
@[simp] theorem m_raiseF : wsRaiseF c f r D env h E = r env h (kRaiseF c f env E) E := noRfl rfl
@[simp] theorem m_kRaiseF : kRaiseF c f env E [z] h = E ⟨c, [(f, z)]⟩ env h := by
  unfold kRaiseF
  simp
end
end ZL

namespace PySem.W
open PySem PySem.Spec PySem.Calls PyProof.Rows
section
variable {prog : Program} {w : World} {A : Around} {E : Value → Shared → Prop} {K : Frag} {e C : Addr} {oe : Obj} {od : Option Obj}
/-- the class of an own error, asked through its attribute -/
theorem err_class {s : Shared} {Q : Option Value → Shared → Prop} (T : L2.ExcC K C) (XK : K.In s.heap) (J : InstAt s.heap e oe C od) (q : Q (some (.ref C)) { s with toks := s.toks + 1 }) : wpAny (model prog w) A (getAttr? (.ref e) "__class__") Q E s := by
  obtain ⟨hp, gs, dr, tk, os⟩ := s
  have ec : (clsIn K C).isSome = true := by obtain ⟨c1, c2, _⟩ := any_some T.hd; rw [c2]; rfl
  have eo : findObj K C od "__class__" = some (.bind (.builtin "getset_descriptor.__get__") (.builtin "object.__class__")) := by
    obtain ⟨c1, c2⟩ := Option.isSome_iff_exists.mp ec
    unfold findObj
    rw [c2, Option.bind_some, T.ha, Option.bind_some]
    simp [T.hn, T.ht]
  have ty := J.type (M := model prog w)
  have b1 : (Value.builtin "BaseException.__getattribute__" == Value.builtin "object.__getattribute__") = false := by decide +kernel
  have b2 : (onTheHeap (Value.ref C) && Value.builtin "BaseException.__getattribute__" == Value.builtin "object.__getattribute__") = false := by rw [b1]; rfl
  have b3 : (false && onTheHeap (Value.builtin "BaseException.__getattribute__")) = false := rfl
  unfold getAttr? getAttrBy? getAttrBy
  refine wpAny_bind (wpAny_mkText (wpAny_bind (wpAny_attempt (wpAny_holding (wpAny_bind (ty.at (wpAny_bind ((looks_findIn (M := model prog w) XK T.hg).at ?_))))))))
  show wpAny _ _ (if (onTheHeap (Value.ref C) && Value.builtin "BaseException.__getattribute__" == Value.builtin "object.__getattribute__") = true then _ else _) _ _ _
  rw [b2, if_neg Bool.false_ne_true]
  unfold getAttrByItsOwn hookBefore
  refine wpAny_bind ?_
  rw [if_pos (show onTheHeap (Value.ref C) = true from rfl)]
  refine (looks_findIn (M := model prog w) XK T.hk).at (wpAny_bind (wpAny_attempt (wpAny_holding ?_)))
  unfold callGetattribute
  rw [b3, if_neg Bool.false_ne_true]
  unfold boundAndCalled
  rw [PySem.F.excAttr_ValueError.ga.bind (.ref e)]
  refine wpAny_bind (wpAny_pure ?_)
  show wpAny _ _ (call (.builtin "BaseException.__getattribute__") [.ref e, .str "__class__" tk]) _ _ _
  refine wpAny_call (codeAny_call_builtin PySem.F.excAttr_ValueError.ga.plain PySem.F.entry_bexc_ga (@check_slot (model prog w) _ _ ⟨hp, gs, dr, tk + 1, os⟩ "BaseException.__getattribute__" "BaseException" "__getattribute__" (.ref e) [.str "__class__" tk] [] _ (by decide +kernel) (by decide +kernel) (ty.andThen (looks_subIn XK T.hs)) (PySem.F.args_bexc_ga (.ref e) (.str "__class__" tk)) ?_))
  unfold Builtin.«object.__getattribute__»
  refine wpAny_bind (wpAny_of_eq (a := ((Value.ref e : Value), [Value.str "__class__" tk])) (by first | rfl | (simp only [slotArgs]; rfl)) ?_)
  refine wpAny_bind (wpAny_pure (wpAny_bind (ty.at (wpAny_bind ((looks_find (M := model prog w) XK J eo).at ?_)))))
  show wpAny _ _ (holding [Value.builtin "object.__class__"] (call (.builtin "getset_descriptor.__get__") [.builtin "object.__class__", .ref e, .ref C]) >>= ret) _ _ _
  refine wpAny_bind (wpAny_holding (wpAny_call (class_get (s := ⟨hp, gs, dr, tk + 1, os⟩) (ox := oe) (od := od) XK J T.hm (wpAny_pure ?_))))
  show wpAny _ _ (handedOut (.ref C)) _ _ _
  rw [handedOut_of (v := .ref C) rfl]
  first
    | exact wpAny_pure (wpAny_pure q)
    | exact wpAny_pure q
    | exact wpAny_pure (wpAny_bind (wpAny_pure (wpAny_pure q)))
theorem err_kit (T : L2.ExcC K C) : KitX K (.ref e) (.ref C) (fun h => InstAt h e oe C od) := by
  obtain ⟨c1, c2, _⟩ := any_some T.hd
  obtain ⟨ob, o1, o2⟩ : ∃ ob, K.lookup C = some ob ∧ ob.data = .cls c1 := by
    unfold clsIn at c2
    split at c2
    · rename_i ho
      cases c2
      exact ⟨_, ho, rfl⟩
    · cases c2
  refine ⟨fun _ _ _ J => J.type, fun _ _ XK _ A' Q' E' s' k q => ?_, fun h tp dd its n sl XK htp => ?_, fun XK J k => err_class T XK J k⟩
  · unfold isType loadHead
    refine wpAny_bind (wpAny_loadPart (k _ _ (XK _ _ o1)) ?_)
    rw [o2]
    exact wpAny_pure q
  · refine Bool.eq_false_iff.mpr fun q => ?_
    have z : C = tp := Value.ref.inj (beq_iff_eq.mp q)
    subst z
    have y := (XK _ _ o1).symm.trans htp
    cases y
    cases o2
end
end PySem.W
namespace ZL
open PySem PySem.Spec PyProof.Rows L2
section
variable {X : Cx}
theorem call_isX {a C : Addr} {oe : Obj} {d : Option Addr} {pn : List (Addr × Obj)} (hz : Zc (.ref C) d oe) (hf : ∃ vs, oe.data = .fields vs) : CallR (X.suite a ((a, oe) :: pn)) (.builtin "isinstance") (fun xs H Q => (∀ dd, d = some dd → ∃ vs, H dd = some (.xd vs)) ∧ ExcC X.K C ∧ rIsE X.K C a xs H Q) := by
  intro pins s σ H xs us Q I r h
  obtain ⟨hx, ec, h⟩ := h
  cases d with
  | none => exact call_isE ec hz hf pins s σ H xs us Q I r h
  | some dd =>
    obtain ⟨fs, ea⟩ := hx dd rfl
    obtain ⟨c, cv, b, rfl, hcv, e, q⟩ := h
    obtain ⟨u2, rfl, rt⟩ : ∃ u2, us = [.ref a, u2] ∧ RelV c u2 := by
      cases r with
      | cons r1 r2 => cases r2 with
        | cons r2 r3 =>
          cases r3
          cases r1
          exact ⟨_, rfl, r2⟩
    have e2 := hcv _ rt
    subst e2
    obtain ⟨ha, _⟩ := I.pin (a, oe) (List.mem_append.mpr (.inl List.mem_cons_self))
    obtain ⟨vs, hd⟩ := hf
    have hx2 : ObjOk X.prog X.w H s.heap dd (.xd fs) := I.hok dd _ ea
    obtain ⟨mA, hns, _⟩ := hx2
    obtain ⟨od, ho, _⟩ := lookIn_ns hns
    have J : PySem.W.InstAt s.heap a oe C (some od) := ⟨ha, hz.1, by unfold PySem.W.notCls; rw [hd] <;> rfl, by rw [hz.2]; exact ho⟩
    exact PySem.W.kia_one (PySem.W.err_kit ec) I.kIn J e (fun z => nomatch z) fun tk => ⟨.bl b, H, I.kept (t' := tk) fun _ _ z => z, rfl, q⟩
/-- the fields of a caught error stand -/
def XdAt (d : Option Addr) (h : ZH) : Prop := ∀ dd, d = some dd → ∃ (n : Nat) (fs : List (Str × Z)), h[n]? = some (.exd dd fs)
def wIsX (a : Addr) (d : Option Addr) (x : XZ) (t : Tab) (w : WE) : WE := fun env h P E => w env h (fun z h1 => XdAt d h1 ∧ z = .err a ∧ ∃ b, t.lookup x.cls = some b ∧ P (.bl b) h1) E
theorem ze_isX {a C : Addr} {oe : Obj} {d : Option Addr} {pn : List (Addr × Obj)} {x : XZ} {t : Tab} {c : V} {cv : Value} {e ce : Expr} {w : WE} {p pos : Pos} (ht : KtT X.K X.mg t cv) (g : X.mg x.cls = some (.ref C)) (hz : Zc (.ref C) d oe) (hf : ∃ vs, oe.data = .fields vs)
    (hcv : ∀ u, RelV c u → u = cv) (hg : Gl (X.suite a ((a, oe) :: pn)) "isinstance") (hm : X.mg "isinstance" = none) (he : ZE (X.suite a ((a, oe) :: pn)) e w) (hce : PE (X.suite a ((a, oe) :: pn)) ce (tC c))
    (hs : starEach [e, ce] X.env = (false, eval e X.env) :: starEach [ce] X.env := by rfl) (hpl : (backTo pos (starEach [ce] X.env)).any (·.1) = false := by rfl) (hs2 : starEach [ce] X.env = [(false, eval ce X.env)] := by rfl) :
    ZE (X.suite a ((a, oe) :: pn)) (.Call (.Name "isinstance" p) [e, ce] [] pos) (wIsX a d x t w) :=
  ⟨fun B E tk => pe_imp (pe_callB (X := X.suite a ((a, oe) :: pn)) (x := "isinstance") (id := "isinstance") (call_isX hz hf) hg hm rfl (pa_cons (he.run B E tk) (pa_cons hce pa_nil hs2) hs) (by decide) (by decide) hs hpl) fun σ H Q ⟨μ, env, h, P, R, q, f⟩ =>
    ⟨μ, env, h, _, R, q, fun z h1 μ1 H1 v p1 e1 R1 r1 => by
      obtain ⟨hn, rfl, b, hb, p1⟩ := p1
      unfold RepV at r1
      subst r1
      obtain ⟨ec, ek⟩ := ht _ _ _ hb g
      refine ⟨fun dd ed => ?_, ec, c, cv, b, rfl, hcv, ek, f _ _ _ _ _ p1 e1 R1 rep_bl⟩
      obtain ⟨n, fs, en⟩ := hn dd ed
      obtain ⟨a2, _, e3, vs, e4, _⟩ := R1.at en
      rw [e3] at e4
      exact ⟨vs, e4⟩⟩⟩
/-- classes whose errors have a field, and no attribute of that name -/
def XfT (K : PySem.W.Frag) (mg : Str → Option Value) (cs : List Str) (f : Str) : Prop := ∀ c ∈ cs, ∀ C, mg c = some (.ref C) → ExcC K C ∧ PySem.W.findIn K (.ref C) f = some none
theorem xft_nil {K : PySem.W.Frag} {mg : Str → Option Value} {f : Str} : XfT K mg [] f := fun c h => nomatch h
theorem xft_cons {K : PySem.W.Frag} {mg : Str → Option Value} {f x : Str} {C : Addr} {cs : List Str} (g : mg x = some (.ref C)) (ec : ExcC K C) (no : PySem.W.findIn K (.ref C) f = some none) (r : XfT K mg cs f) : XfT K mg (x :: cs) f := fun c h C2 g2 => by
  rcases List.mem_cons.mp h with rfl | h
  · rw [g] at g2
    cases g2
    exact ⟨ec, no⟩
  · exact r c h C2 g2
theorem paired_lookup {K : PySem.W.Frag} {μ : List Addr} {H : Hp} {f : Str} {z : Z} : ∀ {fs : List (Str × Z)} {vs : List (Str × V)}, Paired (FR K μ H) fs vs → fs.lookup f = some z → ∃ v, vs.lookup f = some v ∧ RepV K μ H z v
  | _, _, .nil, h => by cases h
  | (g, y) :: fs, (g2, v) :: vs, .cons a r, h => by
    obtain ⟨a1, a2⟩ := a
    dsimp only at a1 a2
    subst a1
    rw [List.lookup_cons] at h ⊢
    cases c : (f == g) with
    | true => rw [c] at h; cases h; exact ⟨v, rfl, a2⟩
    | false => rw [c] at h; exact paired_lookup r h
def wXf (a : Addr) (d : Option Addr) (x : XZ) (cs : List Str) (f : Str) (w : WE) : WE := fun env h P E => w env h (fun z h1 => z = .err a ∧ x.cls ∈ cs ∧ ∃ (dd : Addr) (n : Nat) (fs : List (Str × Z)) (y : Z), d = some dd ∧ h1[n]? = some (.exd dd fs) ∧ fs.lookup f = some y ∧ P y h1) E
theorem ze_xf {a C : Addr} {oe : Obj} {d : Option Addr} {pn : List (Addr × Obj)} {x : XZ} {cs : List Str} {f : Str} {e : Expr} {w : WE} {pos : Pos} (ht : XfT X.K X.mg cs f) (g : X.mg x.cls = some (.ref C)) (hz : Zc (.ref C) d oe) (hf : ∃ vs, oe.data = .fields vs) (he : ZE (X.suite a ((a, oe) :: pn)) e w)
    (hb : attributeBase e f X.env (eval e X.env) = eval e X.env := by rfl) : ZE (X.suite a ((a, oe) :: pn)) (.Attribute e f pos) (wXf a d x cs f w) := by
  refine ⟨fun B E tk => ?_⟩
  by_cases hm : x.cls ∈ cs
  · exact pe_imp (pe_xf (n := f) ⟨(ht _ hm _ g).1.hg, (ht _ hm _ g).1.hk, (ht _ hm _ g).1.hs, (ht _ hm _ g).1.hd⟩ (ht _ hm _ g).2 hz hf (he.run B E tk) hb) fun σ H Q ⟨μ, env, h, P, R, q, f'⟩ =>
      ⟨μ, env, h, _, R, q, fun z h1 μ1 H1 v p1 e1 R1 r1 => by
        obtain ⟨rfl, _, dd, n, fs, y, ed, en, el, p1⟩ := p1
        unfold RepV at r1
        subst r1
        obtain ⟨a2, _, e3, vs, e4, pr⟩ := R1.at en
        rw [e3] at e4
        obtain ⟨v, lv, rv⟩ := paired_lookup pr el
        exact ⟨rfl, rfl, dd, vs, v, ed, e4, lv, f' _ _ _ _ _ p1 e1 R1 rv⟩⟩
  · refine ⟨fun pins s σ H Q I ⟨μ, env, h, P, R, q, f'⟩ => attr_of hb (thn ((he.run B E tk).run pins s σ H (fun _ _ => False) I ⟨μ, env, h, _, R, q, fun z h1 μ1 H1 v p1 e1 R1 r1 => hm p1.2.1⟩) fun u s1 hh => ?_)⟩
    obtain ⟨_, _, _, _, hh⟩ := hh
    exact hh.elim
end
section
variable {env : Env} {h : ZH} {P : PZ} {E : EZ} {z : Z} {w : WE} {a : Addr} {x : XZ} {t : Tab} {d : Option Addr} {cs : List Str} {f : Str}
def kIsX (a : Addr) (d : Option Addr) (x : XZ) (t : Tab) (P : PZ) : PZ := fun z h1 => XdAt d h1 ∧ z = .err a ∧ ∃ b, t.lookup x.cls = some b ∧ P (.bl b) h1
@[simp] theorem m_isX : wIsX a d x t w env h P E = w env h (kIsX a d x t P) E := noRfl rfl
@[simp] theorem m_kIsX : kIsX a d x t P z h = (XdAt d h ∧ z = .err a ∧ ∃ b, t.lookup x.cls = some b ∧ P (.bl b) h) := noRfl rfl
@[simp] theorem xd_none : XdAt none h = True := eq_true fun dd e => by cases e
def kXf (a : Addr) (d : Option Addr) (x : XZ) (cs : List Str) (f : Str) (P : PZ) : PZ := fun z h1 => z = .err a ∧ x.cls ∈ cs ∧ ∃ (dd : Addr) (n : Nat) (fs : List (Str × Z)) (y : Z), d = some dd ∧ h1[n]? = some (.exd dd fs) ∧ fs.lookup f = some y ∧ P y h1
@[simp] theorem m_xf : wXf a d x cs f w env h P E = w env h (kXf a d x cs f P) E := noRfl rfl
@[simp] theorem m_kXf : kXf a d x cs f P z h = (z = .err a ∧ x.cls ∈ cs ∧ ∃ (dd : Addr) (n : Nat) (fs : List (Str × Z)) (y : Z), d = some dd ∧ h[n]? = some (.exd dd fs) ∧ fs.lookup f = some y ∧ P y h) := noRfl rfl
end
end ZL

namespace ZL
open PySem PySem.Spec PyProof.Rows L2
/-! ### d.clear(), d.pop(k): keys that are no tuples -/
def dropZ (kvs : List (Z × Z)) (k : Z) : List (Z × Z) := kvs.filter fun p => !decide (p.1 = k)
def oDClear : ZM := fun a zs h P => match a, zs with
  | .ref n, [] => (match h[n]? with
    | some (.dict kvs) => kvs ≠ [] ∧ (∀ p ∈ kvs, isT p.1 = false) ∧ P .non (h.set n (.dict []))
    | _ => False)
  | _, _ => False
def oDPop : ZM := fun a zs h P => match a, zs with
  | .ref n, [k] => (match h[n]? with
    | some (.dict kvs) => isT k = false ∧ dkey kvs k ∧ ∃ v, dget kvs k = some v ∧ P v (h.set n (.dict (dropZ kvs k)))
    | _ => False)
  | _, _ => False
section
variable {X : Cx}
def rDPop : V → List V → Hp → VK → Prop := fun x vs H Q => ∃ (a : Addr) (kvs : List (Key × V)) (k : Key) (v : V), x = .ref a ∧ vs = [kV k] ∧ H a = some (.dK kvs) ∧ valV kvs k = some v ∧ Q v (upd H a (.dK (dropK kvs k)))
theorem mtd_pop : MtR X "dict.pop" rDPop := by
  intro pins s σ H x vs v us Q I rx rv h
  obtain ⟨a, kvs, k, y, rfl, rfl, e, l, q⟩ := h
  cases rx
  obtain ⟨u, rfl, ru⟩ := vals1 rv
  exact d_pop I e ru l (.inl rfl) fun w' s' I' r => ⟨y, _, I', r, q⟩
theorem kr_drop {μ : List Addr} {H : Hp} {kvs : List (Z × Z)} {l : List (Key × V)} (r : Paired (KR X.K μ H) kvs l) (k : Key) : Paired (KR X.K μ H) (dropZ kvs (keyZ k)) (dropK l k) := by
  induction r with
  | nil => exact .nil
  | @cons p q kvs l h t ih =>
    have h1 : p.1 = keyZ q.1 := h.1
    unfold dropZ dropK at ih ⊢
    rw [List.filter_cons, List.filter_cons]
    by_cases e : q.1 = k
    · have e2 : p.1 = keyZ k := by rw [h1, e]
      rw [if_neg (by simp [e2]), if_neg (by simp [e])]
      exact ih
    · have e2 : ¬ p.1 = keyZ k := fun z => e (keyZ_inj.mp (h1.symm.trans z))
      rw [if_pos (by simp [e2]), if_pos (by simp [e])]
      exact .cons h ih
theorem m_dclear : MthZ X "dict.clear" oDClear := by
  refine ⟨_, mtd_clear, fun μ H h a zs x vs P Q R ra rz o f => ?_⟩
  unfold oDClear at o
  split at o
  · split at o
    · rename_i kvs e1
      obtain ⟨p, ho, rfl, ha, hp, d⟩ := dict_of R e1 ra
      obtain ⟨ne, nt, q⟩ := o
      unfold RepVs at rz
      subst rz
      rcases d with ⟨l, rfl, d⟩ | ⟨l, rfl, d⟩
      · obtain ⟨R2, ex⟩ := fin_set (o := .dict []) (u := .dK []) R ha ⟨_, hp, by simp, by simp⟩ fun ex => ⟨_, upd_same, .inl ⟨[], rfl, .nil⟩⟩
        exact ⟨p, l, rfl, rfl, hp, f _ _ _ _ _ q ex R2 rep_non⟩
      · cases d with
        | nil => exact absurd rfl ne
        | @cons a b _ _ h1 _ =>
          have := nt _ List.mem_cons_self
          rw [h1.1] at this
          cases this
    · exact o.elim
  · exact o.elim
theorem m_dpop : MthZ X "dict.pop" oDPop := by
  refine ⟨_, mtd_pop, fun μ H h a zs x vs P Q R ra rz o f => ?_⟩
  unfold oDPop at o
  split at o
  · rename_i n k
    split at o
    · rename_i kvs e1
      obtain ⟨p, ho, rfl, ha, hp, d⟩ := dict_of R e1 ra
      obtain ⟨y, rfl, ry⟩ := one_vals rz rfl
      obtain ⟨nt, ok, v, gv, q⟩ := o
      rcases key_cases ok.1 ry with ⟨_, q', rfl, rfl⟩ | ⟨t, _⟩
      · rcases d with ⟨l, rfl, d⟩ | ⟨l, rfl, d⟩
        · rcases pr_get (F := keyZ) (G := RepV X.K μ H) (fun a b => keyZ_inj) d q' with ⟨e, _⟩ | ⟨z, u, e2, e3, rz⟩
          · rw [e] at gv; cases gv
          · rw [e2] at gv
            cases gv
            obtain ⟨R2, ex⟩ := fin_set (o := .dict (dropZ kvs (keyZ q'))) (u := .dK (dropK l q')) R ha ⟨_, hp, by simp, by simp⟩ fun ex => ⟨_, upd_same, .inl ⟨_, rfl, paired_mono (fun p q x => ⟨x.1, x.2.mono ex⟩) (kr_drop d q')⟩⟩
            exact ⟨p, l, q', u, rfl, rfl, hp, e3, f _ _ _ _ _ q ex R2 (rz.mono ex)⟩
        · have kk := dget_ne gv
          cases d with
          | nil => exact absurd rfl kk
          | @cons a b _ _ h1 _ =>
            have := ok.2 _ List.mem_cons_self
            rw [h1.1, nt] at this
            cases this
      · rw [nt] at t; cases t
    · exact o.elim
  · exact o.elim
end
section
variable {h : ZH} {P : PZ} {n : Nat} {k : Z}
@[simp] theorem oDClear_r : oDClear (.ref n) [] h P = (match h[n]? with
    | some (.dict kvs) => kvs ≠ [] ∧ (∀ p ∈ kvs, isT p.1 = false) ∧ P .non (h.set n (.dict []))
    | _ => False) := noRfl rfl
@[simp] theorem oDPop_r : oDPop (.ref n) [k] h P = (match h[n]? with
    | some (.dict kvs) => isT k = false ∧ dkey kvs k ∧ ∃ v, dget kvs k = some v ∧ P v (h.set n (.dict (dropZ kvs k)))
    | _ => False) := noRfl rfl
end
end ZL

namespace ZL
open PySem PySem.Spec PyProof.Rows L2
/-! ### a statement that walks over a dict: the dict is locked meanwhile -/
def wsLock (s : WS) : WS := fun D env h E => ∃ n kvs, h[n]? = some (.dict kvs) ∧ s ⟨fun env' h' => h'[n]? = some (.dictL kvs) ∧ D.nx env' (h'.set n (.dict kvs)), fun z h' => h'[n]? = some (.dictL kvs) ∧ D.rt z (h'.set n (.dict kvs)),
  fun env' h' => h'[n]? = some (.dictL kvs) ∧ D.bk env' (h'.set n (.dict kvs)), fun env' h' => h'[n]? = some (.dictL kvs) ∧ D.ct env' (h'.set n (.dict kvs))⟩ env (h.set n (.dictL kvs)) E
def kKeys (P : List Z → (ZH → Prop) → ZH → Prop) : PZ := fun z h => match z with
  | .ref n => (match h[n]? with
    | some (.dictL kvs) => (∀ p ∈ kvs, keyOk p.1 = true) ∧ P (kvs.map (·.1)) (fun _ => True) h
    | _ => False)
  | _ => False
def iKeysZ (w : WE) : WI := fun env h P E => w env h (kKeys P) E
section
variable {K : PySem.W.Frag} {mg : Str → Option Value} {μ μ0 : List Addr} {H H0 : Hp} {h : ZH} {a : Addr} {ob : Obj} {kvs : List (Z × Z)}
theorem itr_keysK {l : List (Key × V)} (e : H0 a = some (.frz ob (.dK l))) (r : Paired (KR K μ0 H0) kvs l) : ItR K mg (Itk a ob l) (kvs.map (·.1)) (fun _ => True) μ0 H0 := by
  have ll : kvs.length = l.length := paired_len r
  refine ⟨fun i z μ H h ex R c hz => ?_, fun μ H h ex R c => ⟨ex.lck _ _ _ (.inl ⟨_, rfl⟩) e, by rw [List.length_map]; omega⟩⟩
  rw [List.getElem?_map] at hz
  cases q : kvs[i]? with
  | none => rw [q] at hz; cases hz
  | some p =>
    rw [q] at hz
    cases hz
    obtain ⟨b, hb, g⟩ := L2.paired_get r q
    have hi : i < l.length := (List.getElem?_eq_some_iff.mp hb).1
    refine ⟨⟨ex.lck _ _ _ (.inl ⟨_, rfl⟩) e, hi⟩, fun x H' y => ?_⟩
    obtain ⟨rfl, k, v, e1, rfl⟩ := y
    rw [hb] at e1
    cases e1
    refine ⟨μ, Ext.refl _ _, R, ?_⟩
    show RepV K μ H' p.1 (kV k)
    rw [show p.1 = keyZ k from g.1]
    cases k with
    | inl i => exact rep_int
    | inr x => exact rep_str
theorem itr_keysT {l : List (List Key × V)} (e : H0 a = some (.frz ob (.dT l))) (r : Paired (TR K μ0 H0) kvs l) (ok : ∀ p ∈ kvs, keyOk p.1 = true) : ItR K mg (Itkt a ob l) (kvs.map (·.1)) (fun _ => True) μ0 H0 := by
  have ll : kvs.length = l.length := paired_len r
  refine ⟨fun i z μ H h ex R c hz => ?_, fun μ H h ex R c => ⟨ex.lck _ _ _ (.inr ⟨_, rfl⟩) e, by rw [List.length_map]; omega⟩⟩
  rw [List.getElem?_map] at hz
  cases q : kvs[i]? with
  | none => rw [q] at hz; cases hz
  | some p =>
    rw [q] at hz
    cases hz
    obtain ⟨b, hb, g⟩ := L2.paired_get r q
    have hi : i < l.length := (List.getElem?_eq_some_iff.mp hb).1
    refine ⟨⟨ex.lck _ _ _ (.inr ⟨_, rfl⟩) e, hi⟩, fun x H' y => ?_⟩
    obtain ⟨rfl, k, v, q', e1, rfl, e2⟩ := y
    rw [hb] at e1
    cases e1
    have o1 := ok p (List.mem_of_getElem? q)
    refine ⟨μ, Ext.refl _ _, R, ?_⟩
    show RepV K μ H' p.1 (.ref q')
    rw [show p.1 = Z.tup (k.map keyZ) from g.1] at o1 ⊢
    unfold RepV
    exact ⟨_, _, rfl, .inl ⟨keyV_of o1, e2⟩, keys_repV _⟩
end
section
variable {X : Cx}
theorem zi_keys {tg e : Expr} {w : WE} (he : ZE X e w) : ZI X tg e (iKeysZ w) :=
  ⟨fun B E tk => pi_imp (pi_keys (he.run B E tk)) fun σ H Q ⟨μ, env, h, P, R, q, f⟩ => ⟨μ, env, h, _, R, q, fun z h1 μ1 H1 x p1 e1 R1 r1 => by
    unfold kKeys at p1
    split at p1
    · split at p1
      · rename_i n kvs en
        obtain ⟨a, ob, o, rfl, _, hp, d⟩ := dictL_of R1 en r1
        obtain ⟨ok, p1⟩ := p1
        rcases d with ⟨l, rfl, d⟩ | ⟨l, rfl, d⟩
        · exact ⟨a, ob, rfl, .inl ⟨l, hp, f _ _ _ _ _ _ p1 e1 R1 (itr_keysK hp d)⟩⟩
        · exact ⟨a, ob, rfl, .inr ⟨l, hp, f _ _ _ _ _ _ p1 e1 R1 (itr_keysT hp d ok)⟩⟩
      · exact p1.elim
    · exact p1.elim⟩⟩
theorem ps_any {s : Stmt} {w : WS} {B : List Addr × Hp} {E : EZ} (hb : ZS X s w) (tk : ZTk X B E) : PS X s (fun D σ H => ∃ B' : List Addr × Hp, Ext B.1 B.2 B'.1 B'.2 ∧ TZs X.K X.mg B' w E D σ H) :=
  ⟨fun pins s σ H D I ⟨B', e, q⟩ => (hb.run B' E (tk.rebase e)).run pins s σ H D I q⟩
/-- the lock is taken off -/
theorem off_lock {K : PySem.W.Frag} {mg : Str → Option Value} {μ μ2 : List Addr} {H H2 : Hp} {h2 : ZH} {a : Addr} {n : Nat} {ob : Obj} {o : HO} {kvs : List (Z × Z)} {B : List Addr × Hp} (eB : Ext B.1 B.2 μ H) (ha : μ[n]? = some a) (eo : H a = some o) (dc : dct o)
    (ex : Ext μ (upd H a (.frz ob o)) μ2 H2) (R2 : RelH K mg μ2 H2 h2) (en : h2[n]? = some (.dictL kvs)) : H2 a = some (.frz ob o) ∧ RelH K mg μ2 (upd H2 a o) (h2.set n (.dict kvs)) ∧ Ext0 μ2 H2 μ2 (upd H2 a o) ∧ Ext B.1 B.2 μ2 (upd H2 a o) := by
  have e2 : H2 a = some (.frz ob o) := ex.lck _ _ _ dc upd_same
  have ha2 : μ2[n]? = some a := ex.get ha
  have x0 : Ext0 μ2 H2 μ2 (upd H2 a o) := by
    refine ⟨⟨[], by simp⟩, fun b xs e => ?_, fun b ob' xs c e => ?_⟩
    · rw [upd_ne (fun z => by rw [z, e2] at e; cases e)]; exact e
    · rw [upd_ne (fun z => by
        rw [z, e2] at e
        cases e
        rcases dc with ⟨l, rfl⟩ | ⟨l, rfl⟩ <;> rcases c with ⟨_, c⟩ | ⟨_, c⟩ <;> cases c)]; exact e
  refine ⟨e2, ⟨by simp [R2.len], R2.nd, fun m b o' e1 e3 => ?_⟩, x0, ?_⟩
  · by_cases hm : m = n
    · subst hm
      rw [ha2] at e1; cases e1
      have hl : m < h2.length := (List.getElem?_eq_some_iff.mp en).1
      rw [List.getElem?_set_self hl] at e3
      cases e3
      obtain ⟨ob', o', e4, d⟩ := R2.obj m a _ ha2 en
      rw [e2] at e4
      cases e4
      exact ⟨o, upd_same, DictR.mono0 x0 d⟩
    · rw [List.getElem?_set_ne (Ne.symm hm)] at e3
      have r := R2.obj m b o' e1 e3
      refine r.keep0 x0 (upd_ne fun z => ?_)
      subst z
      obtain ⟨i1, j1⟩ := List.getElem?_eq_some_iff.mp e1
      obtain ⟨i2, j2⟩ := List.getElem?_eq_some_iff.mp ha2
      exact hm ((List.getElem_inj R2.nd).mp (j1.trans j2.symm))
  · have up : Ext μ H μ (upd H a (.frz ob o)) := ext_at (List.mem_of_getElem? ha) ⟨o, eo, by rcases dc with ⟨l, rfl⟩ | ⟨l, rfl⟩ <;> simp, by rcases dc with ⟨l, rfl⟩ | ⟨l, rfl⟩ <;> simp⟩
    have e3 := (eB.trans up).trans ex
    have no : ∀ xs, o ≠ .tup xs := by rcases dc with ⟨l, rfl⟩ | ⟨l, rfl⟩ <;> simp
    have nf : ∀ ob v, o ≠ .frz ob v := by rcases dc with ⟨l, rfl⟩ | ⟨l, rfl⟩ <;> simp
    refine ⟨⟨e3.pre, fun b xs q => ?_, fun b ob' u c q => ?_⟩, fun b u q nb => ?_, fun b ob' u c q => ?_⟩
    · rw [upd_ne (fun z => by rw [z] at q; have := eB.tup a xs q; rw [eo] at this; exact no xs (Option.some.inj this))]; exact e3.tup b xs q
    · rw [upd_ne (fun z => by rw [z] at q; have := eB.frz a ob' u c q; rw [eo] at this; exact nf _ _ (Option.some.inj this))]; exact e3.frz b ob' u c q
    · rw [upd_ne (fun z => by rw [z] at q nb; exact (eB.off a u q nb).2 (List.mem_of_getElem? ha))]; exact e3.off b u q nb
    · rw [upd_ne (fun z => by rw [z] at q; have := eB.lck a ob' u c q; rw [eo] at this; exact nf _ _ (Option.some.inj this))]; exact e3.lck b ob' u c q
theorem zs_lock {s : Stmt} {w : WS} (hs : ZS X s w) : ZS X s (wsLock w) :=
  ⟨fun B E tk => ps_imp (ps_lock (ps_any hs tk)) fun D' σ H ⟨μ, env, h, D, R, q, d⟩ => by
    obtain ⟨n, kvs, en, q⟩ := q
    obtain ⟨a, ha, o, eo, dd⟩ := R.heap.at en
    have dc : dct o := dd.elim (fun ⟨l, e, _⟩ => .inl ⟨l, e⟩) fun ⟨l, e, _⟩ => .inr ⟨l, e⟩
    have mu : Mut (some o) := by rcases dc with ⟨l, rfl⟩ | ⟨l, rfl⟩ <;> trivial
    refine ⟨a, o, eo, mu, fun od => ?_⟩
    have hw : ∃ w, H a = some w ∧ (∀ xs, w ≠ .tup xs) ∧ ∀ ob v, w ≠ .frz ob v := ⟨o, eo, by rcases dc with ⟨l, rfl⟩ | ⟨l, rfl⟩ <;> simp, by rcases dc with ⟨l, rfl⟩ | ⟨l, rfl⟩ <;> simp⟩
    obtain ⟨R1, x1⟩ := fin_set (o := .dictL kvs) (u := .frz od o) R.heap ha hw fun ex => ⟨od, o, upd_same, dd.mono ex⟩
    have RL := R.step x1 R1
    refine ⟨(μ, upd H a (.frz od o)), RL.ext, μ, env, h.set n (.dictL kvs), _, RL.based, q, ?_⟩
    have go : ∀ μ2 env2 h2 σ2 H2, Rel X.K X.mg (μ, upd H a (.frz od o)) μ2 env2 h2 σ2 H2 → h2[n]? = some (.dictL kvs) → H2 a = some (.frz od o) ∧ Rel X.K X.mg B μ2 env2 (h2.set n (.dict kvs)) σ2 (upd H2 a o) := fun μ2 env2 h2 σ2 H2 R2 e2 => by
      obtain ⟨g1, g2, g3, g4⟩ := off_lock R.ext ha eo dc R2.ext R2.heap e2
      exact ⟨g1, g4, g2, R2.len, fun i z q => let ⟨v, e1, e2⟩ := R2.env i z q; ⟨v, e1, e2.mono0 g3⟩⟩
    refine ⟨fun μ2 env2 h2 σ2 H2 R2 q => ?_, fun μ2 env2 h2 σ2 H2 R2 q => ?_, fun μ2 env2 h2 σ2 H2 R2 q => ?_, fun μ2 z h2 v H2 x2 R2 r2 q => ?_⟩
    · obtain ⟨g1, g2⟩ := go _ _ _ _ _ R2 q.1
      exact ⟨g1, d.nx _ _ _ _ _ g2 q.2⟩
    · obtain ⟨g1, g2⟩ := go _ _ _ _ _ R2 q.1
      exact ⟨g1, d.bk _ _ _ _ _ g2 q.2⟩
    · obtain ⟨g1, g2⟩ := go _ _ _ _ _ R2 q.1
      exact ⟨g1, d.ct _ _ _ _ _ g2 q.2⟩
    · obtain ⟨g1, g2, g3, g4⟩ := off_lock R.ext ha eo dc x2 R2 q.1
      exact ⟨g1, d.rt _ _ _ _ _ g4 g2 (r2.mono0 g3) q.2⟩⟩
end
section
variable {env : Env} {h : ZH} {D : ZEnds} {E : EZ} {s : WS} {w : WE} {n : Nat} {PI : List Z → (ZH → Prop) → ZH → Prop}
@[simp] theorem m_iKeys : iKeysZ w env h PI E = w env h (kKeys PI) E := noRfl rfl
@[simp] theorem m_kKeys : kKeys PI (.ref n) h = (match h[n]? with
    | some (.dictL kvs) => (∀ p ∈ kvs, keyOk p.1 = true) ∧ PI (kvs.map (·.1)) (fun _ => True) h
    | _ => False) := noRfl rfl
/-- a dict is locked for a statement -/
theorem lock_at {kvs : List (Z × Z)} (e : h[n]? = some (.dict kvs)) (q : s ⟨fun env' h' => h'[n]? = some (.dictL kvs) ∧ D.nx env' (h'.set n (.dict kvs)), fun z h' => h'[n]? = some (.dictL kvs) ∧ D.rt z (h'.set n (.dict kvs)),
    fun env' h' => h'[n]? = some (.dictL kvs) ∧ D.bk env' (h'.set n (.dict kvs)), fun env' h' => h'[n]? = some (.dictL kvs) ∧ D.ct env' (h'.set n (.dict kvs))⟩ env (h.set n (.dictL kvs)) E) : wsLock s D env h E := ⟨n, kvs, e, q⟩
end
end ZL

namespace ZL
open PySem PySem.Spec PyProof.Rows L2
/-! ### [elt for t in range(b)] where an exception is handled -/
/-- an iterator over lo .. lo + n - 1 has come -/
def RgAt (X : Cx) (pins : List (Addr × Obj)) (σ : L2.St) (R : Int → Nat → Hp → Prop) (u : Value) (s : Shared) : Prop :=
  ∃ (it : Addr) (lo : Int) (n : Nat) (H : Hp), u = .ref it ∧ Inv X pins σ H s ∧ IsRangeIter s.heap it lo n 1 ∧ FpOk X pins H it ∧ R lo n H
section
variable {X : Cx} {tg b : Expr} {ta : TA} {p p2 : Pos}
theorem iter_raw {pins : List (Addr × Obj)} {σ : L2.St} {H : Hp} {s : Shared} {R : Int → Nat → Hp → Prop} {E : Value → Shared → Prop} {j : Int} {t u v : Tok} {tk : Nat} (I : Inv X pins σ H s) (j1 : -(2 ^ 62) ≤ j) (j2 : j < 2 ^ 62) (q : R 0 j.toNat H) :
    wpAny (model X.prog X.w) X.A (pyIter (.ref s.heap.objs.size)) (RgAt X pins σ R) E { s with heap := s.heap.push { cls := .type "range", data := .fields #[.int 0 t, .int j u, .int 1 v] }, toks := tk } := by
  refine wpAny_pyIter_range (IsRange.new ..) (small_one (by decide) (by decide) j1 j2) ?_
  have J := I.kept (t' := tk) (h' := s.heap.push { cls := .type "range", data := .fields #[.int 0 t, .int j u, .int 1 v] }) fun _ _ e => Heap.get?_push_of_some _ e
  refine ⟨_, 0, j.toNat, H, rfl, J.kept (t' := tk) fun _ _ e => Heap.get?_push_of_some _ e, ?_, J.fpOk (Nat.le_refl _) (J.hok.fresh (Nat.le_refl _)), q⟩
  have e2 : ((j.toNat : Nat) : Int) = Builtin.Range.rangeSize 0 j 1 := by rw [rangeSize_one]; split <;> omega
  rw [e2]
  exact Heap.get?_push_size _ rfl
theorem range_raw (hgr : Gl X "range") (hmr : X.mg "range" = none) (ha : PA X [b] ta) (hs : starEach [b] X.env = [(false, eval b X.env)]) {pins : List (Addr × Obj)} {s : Shared} {σ : L2.St} {H : Hp} {R : Int → Nat → Hp → Prop} (I : Inv X pins σ H s)
    (q : ta σ H fun vs H1 => ∃ j : Int, vs = [.int j] ∧ -(2 ^ 62) ≤ j ∧ j < 2 ^ 62 ∧ R 0 j.toNat H1) :
    wpAny (model X.prog X.w) X.A (eval (.Call (.Name "range" p) [b] [] p2) X.env) (fun v s1 => wpAny (model X.prog X.w) X.A (pyIter v) (RgAt X pins σ R) X.xe s1) X.xe s := by
  refine Call_ (ld_blt I hgr hmr boot_range (PyProof.Rows.callWith_type1 (thn (ha.run p2 pins s σ H _ I q) fun us s1 ⟨vs, H1, I1, r1, j, ev, j1, j2, k⟩ => ?_) hs rfl))
  rw [ev] at r1
  cases r1 with
  | cons hv hn =>
    cases hn
    obtain ⟨t, rfl⟩ := hv
    exact call_range_1 (iter_raw I1 j1 j2 k)
/-- what is asked of the turns -/
def lcJ (J : It) (g : TG) (te : TE) (vs : List Nat) (σ : L2.St) (H1 : Hp) (Q : VK) : Prop :=
  ∀ D, H1 D = none → ∃ W : Nat → Nat → Hp → Prop, (∃ m, W 0 m (upd H1 D (.lst []))) ∧ ∀ i m H, W i m H → (J.stop i H ∧ Q (.ref D) H) ∨ (J.go i H ∧ ∃ Nx : Hp → Prop, (∀ H', Nx H' → ∃ m', m' < m ∧ W (i + 1) m' H') ∧
    ∀ x H', J.yld i H x H' → g x (wipe σ vs) H' fun σ2 H2 => wipe σ2 vs = wipe σ vs ∧ tYes σ2 H2 fun b H3 => if b = true then te σ2 H3 fun y H4 => ∃ acc, H4 D = some (.lst acc) ∧ acc.length < sizeLine ∧ Nx (upd H4 D (.lst (acc ++ [y]))) else Nx H3)
/-- in a list: the loop's end in the code's own context -/
theorem pe_lcH {elt : Expr} {scope : Scope} {own : List (Str × Nat)} {pos : Pos} {g : TG} {te : TE} (hot : L2H.HotC X) (nd : X.N.Nodup) (hgr : Gl X "range") (hmr : X.mg "range" = none) (ha : PA X [b] ta) (ok : BlkOk X.N X.env.scope scope own)
    (pg : ∀ (s : Shared) (H : Hp) (C : Addr) (cl : List (Str × Addr)) (fp : List Addr), PG (X.blk s H scope (compEnvC scope cl C X.env) fp) tg g) (pe : ∀ (s : Shared) (H : Hp) (C : Addr) (cl : List (Str × Addr)) (fp : List Addr), PE (X.blk s H scope (compEnvC scope cl C X.env) fp) elt te)
    (hs : starEach [b] X.env = [(false, eval b X.env)] := by rfl) (hfs : ∀ x, foldedSetIterable (.Call (.Name "range" p) [b] [] p2) X.env x = pure x := by intro _; rfl) :
    PE X (.ListComp elt [⟨tg, .Call (.Name "range" p) [b] [] p2, [], 0⟩] scope pos) (tLc (iRng1 ta) g tYes te (own.map (·.2))) := by
  constructor
  intro pins s σ H Q I h
  rw [eval_ListComp]
  have cap : ∀ y ∈ scope.names, y.2 = .free → ∃ c, X.env.cells.lookup y.1 = some c := fun y m e => (ok.free y m e).elim (fun k => I.ok.has _ (.inl k)) fun k => I.ok.has _ (.inr k)
  refine wpAny_comprehension_free rfl hfs (closure_ok cap) ok.kind (fun y m e => by rw [ok.uniq y m, e]) (thn (range_raw (R := fun lo n H1 => lcJ (Itr lo n) g te (List.map Prod.snd own) σ H1 Q) hgr hmr ha hs I h) fun _ s1 hx => thn hx fun _ s2 y2 => ?_)
  obtain ⟨it, lo, n, H2, rfl, I2, st2, f2, q⟩ := y2
  obtain ⟨pp, ⟨hd, vs, d1, d2⟩, mp⟩ := hot
  have P2 := I2.pin pp (List.mem_append_left _ mp)
  have ltp := Heap.lt_size P2.1
  have lti : it < s2.heap.objs.size := Heap.lt_size st2
  have npi : pp.1 ≠ it := fun e => f2.2.2.2.2.2 pp (List.mem_append_left _ mp) e
  refine wpAny_newObj_type (newEnv_comp ?_) (by show 0 ≤ sizeLine; decide)
  have dn : H2 s2.heap.objs.size = none := I2.hok.fresh (Nat.le_refl _)
  obtain ⟨W, ⟨m0, w0⟩, turn⟩ := q s2.heap.objs.size dn
  generalize hD : s2.heap.objs.size = D at *
  obtain ⟨s3, es3⟩ : ∃ s3 : Shared, s3 = { s2 with heap := s2.heap.push { cls := .type "list", data := .seq ([] : List Value).toArray } } := ⟨_, rfl⟩
  rw [← es3]
  have hp3 : s3.heap = s2.heap.push { cls := .type "list", data := .seq ([] : List Value).toArray } := by rw [es3]
  have up3 : ∀ b o, s2.heap.get? b = some o → s3.heap.get? b = some o := fun _ _ e => by rw [hp3]; exact Heap.get?_push_of_some _ e
  have I3 : Inv X pins σ (upd H2 D (.lst [])) s3 := by
    subst es3
    refine I2.laid (t' := s2.toks) up3 (Nat.le_of_eq hD) ⟨Nat.zero_le _, [], 0, .nil, ?_⟩
    subst hD
    exact Heap.get?_push_size _ rfl
  have sz3 : s3.heap.objs.size = D + 1 := by rw [hp3, Heap.size_push, hD]
  have ndi : it ≠ D := Nat.ne_of_lt lti
  have ndp : pp.1 ≠ D := Nat.ne_of_lt ltp
  have f3 : FpOk X pins (upd H2 D (.lst [])) it := ⟨by rw [upd_ne ndi]; exact f2.1, f2.2⟩
  have f3' : ∀ c ∈ [it], FpOk X pins (upd H2 D (.lst [])) c ∧ c < s3.heap.objs.size := fun c m => by rw [List.mem_singleton.mp m]; exact ⟨f3, by rw [sz3]; exact Nat.lt_succ_of_lt lti⟩
  have I4 := block_start I3 ok nd f3'
  have pg3 := pg s3 (upd H2 D (.lst [])) s3.heap.objs.size (cellsFrom (s3.heap.objs.size + 1) scope.names (cloFrom X.env.cells scope.names [])) [it]
  have pe3 := pe s3 (upd H2 D (.lst [])) s3.heap.objs.size (cellsFrom (s3.heap.objs.size + 1) scope.names (cloFrom X.env.cells scope.names [])) [it]
  generalize hce : compEnvC scope (cellsFrom (s3.heap.objs.size + 1) scope.names (cloFrom X.env.cells scope.names [])) s3.heap.objs.size X.env = ce at I4 pg3 pe3
  have cL : ce.locals = s3.heap.objs.size := by rw [← hce]; rfl
  obtain ⟨s4, es4⟩ : ∃ s4 : Shared, s4 = { s3 with heap := pushCells (s3.heap.push { cls := .type "dict", data := .dict #[] }) scope.names } := ⟨_, rfl⟩
  rw [← es4] at I4
  have up4 : ∀ b o, s3.heap.get? b = some o → s4.heap.get? b = some o := fun _ _ e => by rw [es4]; exact pushCells_keeps _ _ _ _ (Heap.get?_push_of_some _ e)
  have st4 : IsRangeIter s4.heap it lo n 1 := up4 _ _ (up3 _ _ st2)
  generalize hH3 : upd H2 D (.lst []) = H3 at *
  have n3 : H3 pp.1 = none := by rw [← hH3, upd_ne ndp]; exact P2.2.1
  have q4 : Inv (X.blk s3 H3 scope ce [it]) [pp] (wipe σ (own.map (·.2))) H3 s4 := I4.pins_of fun r m => by
    rw [List.mem_singleton.mp m]
    refine ⟨up4 _ _ (up3 _ _ P2.1), n3, ?_, fun hm => (List.mem_cons.mp (I3.stkSub pp.1 hm)).elim P2.2.2.1 P2.2.2.2.1, P2.2.2.2.2⟩
    show pp.1 ≠ ce.locals
    rw [cL, sz3]
    exact Nat.ne_of_lt (Nat.lt_succ_of_lt ltp)
  show codeAny _ _ (.compStart (.ListComp elt [⟨tg, .Call (.Name "range" p) [b] [] p2, [], 0⟩] scope pos) 0 (.ref it) (.ref D) (compEnvC scope (cellsFrom (s3.heap.objs.size + 1) scope.names (cloFrom X.env.cells scope.names [])) s3.heap.objs.size X.env)) _ { s3 with heap := pushCells (s3.heap.push { cls := .type "dict", data := .dict #[] }) scope.names }
  rw [hce, ← es4]
  -- the iterator's own object may turn
  have own1 : ∀ {H' : Hp}, H' it = none → FpOk (X.blk s3 H3 scope ce [it]) [pp] H' it := fun {H'} z =>
    ⟨z, (I4.ok.exf it List.mem_cons_self).1, I4.ok.exfs it List.mem_cons_self, .inl List.mem_cons_self, fun x c e => (I4.ok.exf it List.mem_cons_self).2 x c e, fun r m => by
      have : r = pp := by simpa using (show r ∈ ([] : List (Addr × Obj)) ++ [pp] from m)
      rw [this]; exact npi⟩
  have loop : codeAny (model X.prog X.w) X.A (.compLoop (.ListComp elt [⟨tg, .Call (.Name "range" p) [b] [] p2, [], 0⟩] scope pos) 0 (.ref it) (.ref D) ce) (compPost (model X.prog X.w) X.A X.xe none (EP X pins σ Q) (.ref D) s3.heap.objs.size) s4 := by
    refine compLoop_any (fun n5 s' => ∃ i H', Inv (X.blk s3 H3 scope ce [it]) [pp] (wipe σ (own.map (·.2))) H' s' ∧ IsRangeIter s'.heap it (lo + (i : Nat)) ((n : Int) - (i : Nat)) 1 ∧ H' it = none ∧ W i n5 H') ?_ m0 ⟨0, H3, q4, ?_, f3.1, w0⟩
    rotate_left
    · have e1 : lo + ((0 : Nat) : Int) = lo := by simp
      have e2 : (n : Int) - ((0 : Nat) : Int) = n := by simp
      rw [e1, e2]
      exact st4
    rintro n5 s5 ⟨i, H5, I5, st5, z5, w5⟩
    have P5 := I5.pin pp (List.mem_append_right _ List.mem_cons_self)
    rcases turn i n5 H5 w5 with ⟨stop, fin⟩ | ⟨go, Nx, hNx, step⟩
    · have le : n ≤ i := stop
      refine HotX.pyNext_range_end_hot ⟨hd, pp.2, vs, P5.1, d1, d2⟩ st5 (by omega) fun h6 k6 => ?_
      have I6 := I5.kept (t' := s5.toks) k6
      have I7 : Inv X pins σ H5 { s5 with heap := h6 } := I3.call' (ch := [it]) I6.os I6.base I6.hok I6.bare fun c m => by
        rw [List.mem_singleton.mp m]
        exact ⟨f3.2.2.2.1, f3.2.1, f3.2.2.2.2.1, f3.2.2.2.2.2⟩
      have fr : H5 ce.locals = none := I6.free
      obtain ⟨mA, ns, _⟩ := I6.loc
      have ns : Heap.Ns h6 ce.locals mA := ns
      rw [cL] at fr ns
      obtain ⟨g0, g1, g2, g3, g4, g5⟩ := I3.fpOk (Nat.le_refl _) fr
      exact ⟨mA, ns, fun h7 sb => ⟨.ref D, H5, I7.turned (t' := s5.toks) (fun c o hc e => (sb.2 c hc).trans e) g0 g1 g3 g4 g5, rfl, fin⟩⟩
    · have lt : i < n := go
      refine wpAny_pyNext_range_item st5 (by omega) fun h6 st6 sb6 => ?_
      obtain ⟨o0, o1, o2, o3, o4, o5⟩ := own1 z5
      have I6 : Inv (X.blk s3 H3 scope ce [it]) [pp] (wipe σ (own.map (·.2))) H5 { s5 with heap := h6, toks := s5.toks + 1 } := I5.turned (fun c o hc e => (sb6.2 c hc).trans e) o0 o1 o3 o4 o5
      refine go_of (s := { s5 with heap := h6, toks := s5.toks + 1 }) (n := "range_iterator") st6 rfl rfl (by decide) ?_
      obtain ⟨oi, eoi⟩ : ∃ oi, h6.get? it = some oi := ⟨_, st6⟩
      have noc : ∀ v, oi.data ≠ .cell v := fun v z => by
        have e := (show h6.get? it = some _ from st6).symm.trans eoi
        cases e
        cases z
      have I8 : Inv (X.blk s3 H3 scope ce [it]) [pp, (it, oi)] (wipe σ (own.map (·.2))) H5 { s5 with heap := h6, toks := s5.toks + 1 } := I6.pins_of fun r m => by
        rcases List.mem_cons.mp m with rfl | m
        · exact I6.pin r (List.mem_append_right _ List.mem_cons_self)
        · rw [List.mem_singleton.mp m]
          exact ⟨eoi, o0, o1, o2, noc⟩
      have up : ∀ {sx : Shared} {Hx : Hp} {σx : L2.St}, Inv (X.blk s3 H3 scope ce [it]) [pp, (it, oi)] σx Hx sx → wipe σx (own.map (·.2)) = wipe σ (own.map (·.2)) → Nx Hx → ∃ m, m < n5 ∧ ∃ i H', Inv (X.blk s3 H3 scope ce [it]) [pp] (wipe σ (own.map (·.2))) H' sx ∧ IsRangeIter sx.heap it (lo + (i : Nat)) ((n : Int) - (i : Nat)) 1 ∧ H' it = none ∧ W i m H' := fun {sx Hx σx} Ix ew nx => by
        obtain ⟨m', hm, w'⟩ := hNx Hx nx
        have Pi := Ix.pin (it, oi) (List.mem_append_right _ (List.mem_cons_of_mem _ List.mem_cons_self))
        have Pp := Ix.pin pp (List.mem_append_right _ List.mem_cons_self)
        refine ⟨m', hm, i + 1, Hx, ?_, ?_, Pi.2.1, w'⟩
        · refine (Ix.pins_of fun r m => ?_).weak (by rw [← ew, wipe_length]) fun j v e => ?_
          · rw [List.mem_singleton.mp m]
            exact Pp
          · rw [← ew] at e
            exact (wipe_some e).1
        · have e1 : lo + ((i + 1 : Nat) : Int) = lo + ((i : Nat) : Int) + 1 := by omega
          have e2 : (n : Int) - ((i + 1 : Nat) : Int) = (n : Int) - ((i : Nat) : Int) - 1 := by omega
          rw [e1, e2]
          show sx.heap.get? it = some _
          rw [Pi.1, ← eoi]
          exact st6
      refine thnF (pg3.run _ _ _ H5 (.int (lo + i)) _ _ I8 ⟨s5.toks, rfl⟩ (step _ H5 ⟨rfl, rfl⟩)) fun _ s8 ⟨σ8, H8, I9, ew, q8⟩ => ?_
      refine wpAny_tests_nil ?_
      simp only [if_true]
      have q8 : te σ8 H8 fun y H4 => ∃ acc, H4 D = some (.lst acc) ∧ acc.length < sizeLine ∧ Nx (upd H4 D (.lst (acc ++ [y]))) := q8
      refine thnF (pe3.run _ s8 σ8 H8 _ I9 q8) fun v s10 ⟨yv, H10, I10, r10, acc, hD10, hz10, nx⟩ => ?_
      exact app_ok (X := X.blk s3 H3 scope ce [it]) I10 hD10 hz10 r10 fun s11 I11 => up I11 ew nx
  exact codeAny_compStart_list loop (wpAny_pyIter_rangeiter st4 loop)
end
end ZL

namespace ZL
open PySem PySem.Spec PyProof.Rows L2
theorem tLc_map {wi wi' : TI} {g : TG} {tt tt' : TT} {te : TE} {vs : List Nat} (h1 : ∀ σ H (R R' : It → Hp → Prop), (∀ J H1, R' J H1 → R J H1) → wi' σ H R' → wi σ H R) (h2 : ∀ σ H Q, tt' σ H Q → tt σ H Q) (h3 : ∀ v σ H (Q Q' : L2.St → Hp → Prop), (∀ σ H, Q' σ H → Q σ H) → g v σ H Q' → g v σ H Q)
    {σ : L2.St} {H : Hp} {Q : VK} (q : tLc wi' g tt' te vs σ H Q) : tLc wi g tt te vs σ H Q :=
  h1 _ _ _ _ (fun J H1 q D hD => let ⟨W, m0, t⟩ := q D hD; ⟨W, m0, fun i m H w => (t i m H w).imp id fun ⟨go, Nx, hn, st⟩ => ⟨go, Nx, hn, fun x H' y => h3 _ _ _ _ _ (fun σ H ⟨e, z⟩ => ⟨e, h2 _ _ _ z⟩) (st x H' y)⟩⟩) q
section
variable {X : Cx}
theorem ze_lcH {elt tg b : Expr} {scope : Scope} {own : List (Str × Nat)} {pos p1 p2 : Pos} {w : WA} {p : Pat} {we : WE} (hot : L2H.HotC X) (hN : X.N.Nodup) (hgr : Gl X "range") (hmr : X.mg "range" = none) (ha : ZA X [b] w) (ok : BlkOk X.N X.env.scope scope own)
    (hg : AtBlk X scope fun X => ZP X tg p) (he : AtBlk X scope fun X => ZE X elt we) (hsl : (p.slots.all fun i => (own.map (·.2)).contains i) = true := by rfl) (hs1 : starEach [b] X.env = [(false, eval b X.env)] := by rfl)
    (hs : ∀ x, foldedSetIterable (.Call (.Name "range" p1) [b] [] p2) X.env x = pure x := by intro _; rfl) :
    ZE X (.ListComp elt [⟨tg, .Call (.Name "range" p1) [b] [] p2, [], 0⟩] scope pos) (wLc (iR1 w) p wYes we (own.map (·.2))) :=
  ⟨fun B E tk => pe_imp (pe_lcH hot hN hgr hmr (ha.run B E tk) ok (fun s H C cl fp => (hg s H C cl fp).run)
    (fun s H C cl fp => ⟨fun pins s' σ H' Q I ⟨B', q⟩ => ((he s H C cl fp).run B' E0 takes0).run pins s' σ H' Q I q⟩) hs1 hs) fun σ H Q q =>
    tLc_map (fun σ H R R' k ⟨μ, env, h, P, R0, q, f⟩ => ⟨μ, env, h, _, R0, q, fun zs h1 μ1 H1 vs p1 e1 R1 r1 => by
      unfold rng1 at p1
      split at p1
      · obtain ⟨v, rfl, r⟩ := one_vals r1 rfl
        cases of_int r
        exact ⟨_, rfl, p1.1.1, p1.1.2, k _ _ (f _ _ _ _ _ _ p1.2 e1 R1 itr_rng)⟩
      · exact p1.elim⟩) (fun σ H Q ⟨B', μ, env, h, P, R, q, f⟩ => f true h μ H q (Ext.refl _ _) R.heap) (fun v σ H Q Q' k ⟨σ', pv, z⟩ => ⟨σ', pv, k _ _ z⟩) (lc_core (tg := tg) (iter := .Call (.Name "range" p1) [b] [] p2) (elt := elt) (ifs := []) (scope := scope) (zi_range1 (p := p1) (pos := p2) (tg := tg) hgr hmr ha hs1) hsl σ H Q q)⟩
end
end ZL

namespace ZL
open PySem PySem.Spec PyProof.Rows L2
/-! ### isinstance of a pinned error -/
section
variable {X : Cx}
theorem call_isP {a C : Addr} {oe : Obj} {d : Option Addr} (hm : (a, oe) ∈ X.pn) (hz : Zc (.ref C) d oe) (hf : ∃ vs, oe.data = .fields vs) : CallR X (.builtin "isinstance") (fun xs H Q => (∀ dd, d = some dd → ∃ vs, H dd = some (.xd vs)) ∧ ExcC X.K C ∧ rIsE X.K C a xs H Q) := by
  intro pins s σ H xs us Q I r h
  obtain ⟨hx, ec, c, cv, b, rfl, hcv, e, q⟩ := h
  obtain ⟨u2, rfl, rt⟩ : ∃ u2, us = [.ref a, u2] ∧ RelV c u2 := by
    cases r with
    | cons r1 r2 => cases r2 with
      | cons r2 r3 =>
        cases r3
        cases r1
        exact ⟨_, rfl, r2⟩
  have e2 := hcv _ rt
  subst e2
  obtain ⟨ha, _⟩ := I.pin (a, oe) (List.mem_append_left _ hm)
  obtain ⟨vs, hd⟩ := hf
  obtain ⟨od, J⟩ : ∃ od, PySem.W.InstAt s.heap a oe C od := by
    cases d with
    | none =>
      obtain ⟨oc, odd, oda, osl⟩ := oe
      obtain ⟨h1, h2⟩ := hz
      dsimp only at h1 h2 hd
      subst h1 h2 hd
      exact ⟨none, ha, rfl, rfl, trivial⟩
    | some dd =>
      obtain ⟨fs, ea⟩ := hx dd rfl
      have hx2 : ObjOk X.prog X.w H s.heap dd (.xd fs) := I.hok dd _ ea
      obtain ⟨mA, hns, _⟩ := hx2
      obtain ⟨od, ho, _⟩ := lookIn_ns hns
      exact ⟨some od, ha, hz.1, by unfold PySem.W.notCls; rw [hd] <;> rfl, by rw [hz.2]; exact ho⟩
  exact PySem.W.kia_one (PySem.W.err_kit ec) I.kIn J e (fun z => nomatch z) fun tk => ⟨.bl b, H, I.kept (t' := tk) fun _ _ z => z, rfl, q⟩
theorem ze_isP {a C : Addr} {oe : Obj} {d : Option Addr} {x : XZ} {t : Tab} {c : V} {cv : Value} {e ce : Expr} {w : WE} {p pos : Pos} (pm : (a, oe) ∈ X.pn) (ht : KtT X.K X.mg t cv) (g : X.mg x.cls = some (.ref C)) (hz : L2N.Zn (.ref C) d oe) (hf : ∃ vs, oe.data = .fields vs)
    (hcv : ∀ u, RelV c u → u = cv) (hg : Gl X "isinstance") (hm : X.mg "isinstance" = none) (he : ZE X e w) (hce : PE X ce (tC c))
    (hs : starEach [e, ce] X.env = (false, eval e X.env) :: starEach [ce] X.env := by rfl) (hpl : (backTo pos (starEach [ce] X.env)).any (·.1) = false := by rfl) (hs2 : starEach [ce] X.env = [(false, eval ce X.env)] := by rfl) :
    ZE X (.Call (.Name "isinstance" p) [e, ce] [] pos) (wIsX a d x t w) :=
  ⟨fun B E tk => pe_imp (pe_callB (x := "isinstance") (id := "isinstance") (call_isP pm hz.zc hf) hg hm rfl (pa_cons (he.run B E tk) (pa_cons hce pa_nil hs2) hs) (by decide) (by decide) hs hpl) fun σ H Q ⟨μ, env, h, P, R, q, f⟩ =>
    ⟨μ, env, h, _, R, q, fun z h1 μ1 H1 v p1 e1 R1 r1 => by
      obtain ⟨hn, rfl, b, hb, p1⟩ := p1
      unfold RepV at r1
      subst r1
      obtain ⟨ec, ek⟩ := ht _ _ _ hb g
      refine ⟨fun dd ed => ?_, ec, c, cv, b, rfl, hcv, ek, f _ _ _ _ _ p1 e1 R1 rep_bl⟩
      obtain ⟨n, fs, en⟩ := hn dd ed
      obtain ⟨a2, _, e3, vs, e4, _⟩ := R1.at en
      rw [e3] at e4
      exact ⟨vs, e4⟩⟩⟩
end
/-! ### a def that is handed the error that is handled -/
/-- what a def does with the error x that lies at a, its fields at d -/
abbrev WFX := Addr → Option Addr → XZ → WF
structure FnX (P : Program) (w : World) (K : PySem.W.Frag) (mg : Str → Option Value) (base : Heap) (k n : Nat) (wf : WFX) (f : Addr) : Prop where
  ex : ∃ (fd : FuncData) (ps : List Str), ps.length = n ∧ PySem.W.keepIn K (.ref f) = true ∧ Binds K fd ps [] ∧
    ∀ (a C : Addr) (oe : Obj) (d : Option Addr) (x : XZ), mg x.cls = some (.ref C) → L2N.Zn (.ref C) d oe → (∃ vs, oe.data = .fields vs) → ∀ (A : Around) (outer : List PySem.Env) (s : Shared) (H : Hp) (args : Args) (us : List Value) (vs : List V) (Q : VK) (E : XK),
      L2H.RoomH k A → L2H.PinOk outer H s (a, oe) → Env0 P w K mg base A outer s H → BindsTo s fd args (ps.zip us) → Vals vs us → spZ K mg n (wf a d x) vs H Q E → codeAny (model P w) A (.call (.ref f) args) (CR (L2N.CX P w) outer P w H s Q E) s
section
variable {P : Program} {w : World} {K : PySem.W.Frag} {mg : Str → Option Value} {base : Heap} {x qual : Str} {params : Arguments} {body : List Stmt} {scope : Scope} {f : Addr} {fd : FuncData}
/-- in every context of such a body -/
abbrev InDefX (P : Program) (w : World) (K : PySem.W.Frag) (mg : Str → Option Value) (base : Heap) (N : List Str) (qual : Str) (scope : Scope) (f : Addr) (C0 : Addr → Addr → Obj → Option Addr → XZ → Cx → Prop) : Prop :=
  ∀ (cdv : Value) (A : Around) (outer : List PySem.Env) (s : Shared) (H : Hp) (E : XK) (a C : Addr) (oe : Obj) (d : Option Addr) (x : XZ), mg x.cls = some (.ref C) → L2N.Zn (.ref C) d oe → (∃ vs, oe.data = .fields vs) → C0 a C oe d x (L2H.cxH (L2N.CX P w) P w K mg base N qual scope f cdv A outer s H E (a, oe))
theorem fnx_of {N ps : List Str} {n : Nat} {ws : Addr → Option Addr → XZ → WS} (F : FunD K x qual params body scope [] [] f fd) (S : FnScope N ps scope) (hb : Binds K fd ps []) (hn : ps.length = n) (hbody : InDefX P w K mg base N qual scope f fun a C oe d x X => ZSs X body (ws a d x)) :
    FnX P w K mg base 1 n (fun a d x => wfOf N.length (ws a d x)) f := by
  refine ⟨fd, ps, hn, F.kp, hb, fun a C oe d xz g hz hf A outer s H args us vs Q E hr pin e0 bd r hsp => ?_⟩
  obtain ⟨_, _, _, _, _, _, _, cdv, _, _, rfl, lk, hcd, _, _⟩ := F.ex
  have old : ∀ b o, base.get? b = some o → s.heap.get? b = some o := fun b o e => (e0.bs b o e).1
  have kinds : ∀ y ∈ ps.zip us, scope.names.lookup y.1 = some .local ∨ (scope.names.lookup y.1 = some .cell ∧ ((cellsFrom (s.heap.objs.size + 1) scope.names []).lookup y.1).isSome = true) := by
    rintro ⟨n, v⟩ hy
    exact (S.par n (List.of_mem_zip hy).1).elim .inl fun q => .inr ⟨q, PySem.W.cellsFrom_some _ _ _ (.inl q)⟩
  refine codeAny_call_function hr.depth (e0.mod.kin.keeps old _ _ lk) rfl S.co S.gen rfl (PySem.W.codeRec_of (e0.mod.kin.keeps old) hcd) (bd _ _ _ _ ?_)
  refine wpAny_newFunctionEnv_cells S.kind kinds fun env he s1 y => ?_
  subst he
  refine ⟨(e0.mod.nolimit.keeps old).keeps y.toInCall.keep, codeAny_func ?_⟩
  obtain ⟨hl, μ, zs, h, P', EX, R, rv, q, fl, fx⟩ := hsp
  have I : Inv (L2H.cxH (L2N.CX P w) P w K mg base N qual scope f cdv A outer s H E (a, oe)) [] (L2.start N vs) H s1 := L2H.inv_startH S pin e0 (by rw [hl, hn]) r y
  have tk : ZTk (L2H.cxH (L2N.CX P w) P w K mg base N qual scope f cdv A outer s H E (a, oe)) (μ, H) (fun x _ h1 => EX x h1) :=
    L2N.Takes.imp (L2N.takes_of rfl rfl rfl rfl) fun c d σ H' ⟨z, μ', env, h', RR, rx, nx, e⟩ => fx z h' μ' H' c d e RR.ext RR.heap rx nx
  have run := (hbody cdv A outer s H E a C oe d xz g hz hf).run (μ, H) _ tk
  have q2 : TZs K mg (μ, H) (ws a d xz) (fun x _ h1 => EX x h1) { nx := fun _ H' => Q .non H', rt := Q } (L2.start N vs) H :=
    ⟨μ, _, h, _, rel_start (N := N) R rv, q, ⟨fun μ' env h' σ H' RR p => fl _ _ _ _ _ p RR.ext RR.heap rep_non, fun _ _ _ _ _ _ p => p.elim, fun _ _ _ _ _ _ p => p.elim, fun μ' z h' v H' ex RR rr p => fl _ _ _ _ _ p ex RR rr⟩⟩
  refine wpAny_mono (run.run [] s1 (L2.start N vs) H _ I q2) (fun fl s' hs => ?_) fun e s' z => z
  have fin : ∀ {σ' : L2.St} {H' : Hp} {v : V} {u : Value}, Inv (L2H.cxH (L2N.CX P w) P w K mg base N qual scope f cdv A outer s H E (a, oe)) [] σ' H' s' → RelV v u → Q v H' → CE outer P w H s Q u s' := fun {σ' H' v u} J rv q => ⟨v, H', J.os, J.bare, J.base, J.hok, rv, q⟩
  cases fl with
  | ret u => obtain ⟨v, σ', H', J, rv, q⟩ := hs; exact fin J rv q
  | next => obtain ⟨σ', H', J, q⟩ := hs; exact fin (v := V.non) (u := Value.none) J rfl q
  | brk => obtain ⟨_, _, _, q⟩ := hs; exact q.elim
  | cont => obtain ⟨_, _, _, q⟩ := hs; exact q.elim
end
section
variable {X : Cx}
/-- in a suite the error is the one that is handled -/
theorem hotS {a C : Addr} {oe : Obj} {d : Option Addr} {pn : List (Addr × Obj)} (hz : L2N.Zn (.ref C) d oe) (hf : ∃ vs, oe.data = .fields vs) : L2H.HotC (X.suite a ((a, oe) :: pn)) := by
  obtain ⟨vs, e⟩ := hf
  exact ⟨(a, oe), ⟨rfl, vs, e, hz.2.2 vs e⟩, List.mem_cons_self⟩
def wCallX (n : Nat) (wf : WF) (wa : WA) : WE := wCall n wf wa
theorem roomH_mark {k j : Nat} {A : Around} {hd : Option Value} (r : RoomG k A) (h : j ≤ k) : L2H.RoomH j (A.mark hd) := ⟨(r.r.mono h).dp, (r.r.mono h).un⟩
theorem ze_callX {k n : Nat} {wf : WFX} {f C a : Addr} {oe : Obj} {d : Option Addr} {xz : XZ} {x : Str} {e : Expr} {es : List Expr} {wa : WA} {p pos : Pos} (F : FnX X.prog X.w X.K X.mg X.base k n wf f) (pm : (a, oe) ∈ X.pn) (g : X.mg xz.cls = some (.ref C)) (hz : L2N.Zn (.ref C) d oe) (hf : ∃ vs, oe.data = .fields vs)
    (hr : L2H.RoomH k X.A) (hg : Gl X x) (hm : X.mg x = some (.ref f)) (ha : ZA X (e :: es) wa)
    (hdb : (x == ("__debug__" : Str)) = false := by decide) (he : starEach (e :: es) X.env = (false, eval e X.env) :: starEach es X.env := by rfl) (hpl : (backTo pos (starEach es X.env)).any (·.1) = false := by rfl) :
    ZE X (.Call (.Name x p) (e :: es) [] pos) (wCall n (wf a d xz) wa) := by
  obtain ⟨fd, ps, hp, kp, hb, run⟩ := F.ex
  refine ⟨fun B E tk => ⟨fun pins s σ H Q I ⟨μ, env, h, P, R, q, f'⟩ => ?_⟩⟩
  refine wpAny_Call_Name_kw (ld_glob I hg hm (PySem.W.callWith_K (h₀ := X.base) I.ok.mod.kin kp (thn ((ha.run B E tk).run pos pins s σ H (fun vs H1 => spZ X.K X.mg n (wf a d xz) vs H1 Q (L2.WE (WZ X.K X.mg B E) σ)) I
    ⟨μ, env, h, _, R, q, fun zs h1 μ1 H1 vs ⟨l, p1⟩ e1 R1 r1 => sp_of (R.step e1 R1) r1 (by rw [← r1.length]; exact l) p1 (f'.ext e1)⟩) fun us s1 ⟨vs, H1, I1, r, hsp⟩ => ⟨I1.kIn, ?_⟩) he hpl) hdb)
  have P1 := I1.pin (a, oe) (List.mem_append_left _ pm)
  have pin : L2H.PinOk X.stack H1 s1 (a, oe) := ⟨P1.1, P1.2.1, fun hm => (List.mem_cons.mp (I1.stkSub a hm)).elim P1.2.2.1 P1.2.2.2.1, P1.2.2.2.2⟩
  have hl : us.length = ps.length := by rw [← r.length, hsp.1, hp]
  have b := hb s1 us I1.kIn (by rw [List.append_nil]; exact hl)
  rw [List.append_nil] at b
  refine wpAny_call (codeAny_mono (run a C oe d xz g hz hf X.A X.stack s1 H1 ⟨us, []⟩ us vs Q (L2.WE (WZ X.K X.mg B E) σ) hr pin I1.env0 b r hsp) fun r' s' hq => ?_)
  match r', hq with
  | .error e, hq => exact L2N.passAt tk σ pins H1 s1 e s' I1 hq
  | .ok (.ret u), hq => exact I1.after hq
end
end ZL

namespace ZL
open PySem PySem.Spec PyProof.Rows L2

/-! ### the draws of a law -/
def wDraw : WS := (wsSeq (wsIf (wNot (wTru (wVar 0))) (wsRet (w2 oMod (w2 oMul (wVar 1) (wC (.int 5))) (wC (.int 7)))) wsNext) (wsSeq (wsSet 2 (wCB oInt (wCons (w2 oIx (wVar 0) (w2 oMod (wVar 1) (wCB oLen (wCons (wVar 0) wNil)))) wNil))) (wsSeq (wsSet 3 (w2 oFdiv (wVar 1) (wCB oLen (wCons (wVar 0) wNil)))) (wsSeq (wsIf (wB (w2 oGe (wVar 2) (wC (.int 1000000000000000000)))) (wsSeq (wsFor (iR1 (wCons (wCB oMin (wCons (wVar 3) (wCons (wC (.int 60)) wNil))) wNil)) (wgName 4) (wsSet 2 (w2 oFdiv (wVar 2) (wC (.int 100003))))) (wsRet (w2 oMod (wVar 2) (wC (.int 100003))))) wsNext) (wsRet (w2 oMod (w2 oMul (w2 oMod (w2 oAdd (w2 oAdd (w2 oMul (wVar 2) (wC (.int 48271))) (w2 oMul (wVar 1) (wC (.int 69621)))) (wC (.int 13))) (wC (.int 2147483647))) (wC (.int 16807))) (wC (.int 2147483629))))))))
def fDraw : WF := wfOf 5 wDraw
def divs : Nat → Int → Int
  | 0, c => c
  | n + 1, c => divs n (c / 100003)
/-- the k-th draw -/
def draw (ns : List Int) (k : Nat) : Int :=
  if ns.length = 0 then (k : Int) * 5 % 7 else
    if 1000000000000000000 ≤ ns.getD (k % ns.length) 0 then divs (min (k / ns.length) 60) (ns.getD (k % ns.length) 0) % 100003
    else ((ns.getD (k % ns.length) 0 * 48271 + (k : Int) * 69621 + 13) % 2147483647 * 16807) % 2147483629
theorem draw_nonneg (ns : List Int) (k : Nat) : 0 ≤ draw ns k := by
  unfold draw
  split
  · omega
  · split <;> omega
theorem draw_lt (ns : List Int) (k : Nat) : draw ns k < 2147483629 := by
  unfold draw
  split
  · omega
  · split <;> omega
theorem cmul_r {i j : Int} (h : -(2 ^ 64) < j) (h' : j < 2 ^ 64) : CMul i j := .inr ⟨h, h'⟩
theorem len_scr (ns : List Int) (hn : ns.length ≤ 63) : (0 : Int) ≤ ns.length ∧ (ns.length : Int) ≤ 63 := ⟨by omega, by omega⟩
theorem atI_nat {α : Type} {xs : List α} {k : Nat} (h : k < xs.length) : L2.atI xs (k : Int) = some xs[k] := by
  unfold L2.atI L2.ixN
  rw [if_pos (by omega), if_pos (by omega)]
  simp [h]
theorem fDraw_ok {ns : List Int} (hn : ns.length ≤ 63) {k : Nat} (hk : k < 2 ^ 40) {h : ZH} {P : PZ} {E : XZ → ZH → Prop} (q : P (.int (draw ns k)) h) : fDraw [.scr ns, .int (k : Int)] h P E := by
  unfold draw at q
  unfold fDraw wfOf wDraw
  simp
  cases ns with
  | nil =>
    simp
    exact ⟨cmul_r (by omega) (by omega), by simpa using q⟩
  | cons n0 ns =>
    have hl : (n0 :: ns).length = ns.length + 1 := rfl
    rw [if_neg (by simp)] at q
    generalize hns : (n0 :: ns) = l at *
    have hp : 0 < l.length := by omega
    have hm : k % l.length < l.length := Nat.mod_lt _ hp
    have hne : l.isEmpty = false := by rw [← hns] <;> rfl
    simp [hne]
    refine ⟨by omega, l[k % l.length], ?_, ⟨by omega, by omega⟩, ?_⟩
    · rw [← Int.natCast_emod, atI_nat hm]
    have eg : l.getD (k % l.length) 0 = l[k % l.length] := by simp [List.getD, hm]
    rw [eg] at q
    by_cases hc : 1000000000000000000 ≤ l[k % l.length]
    · rw [if_pos hc] at q
      simp [hc]
      have e1 : (if (60 : Int) < (k : Int) / (l.length : Int) then (60 : Int) else (k : Int) / (l.length : Int)) = ((min (k / l.length) 60 : Nat) : Int) := by
        rw [← Int.natCast_ediv]
        split <;> omega
      rw [e1]
      have ht : min (k / l.length) 60 ≤ 60 := by omega
      generalize min (k / l.length) 60 = t at q ht ⊢
      refine ⟨⟨by omega, by omega⟩, ?_⟩
      refine forZ_ind (fun zs env h' => h' = h ∧ ∃ (c : Int) (v : Option Z), env = [some (.scr l), some (.int k), some (.int c), some (.int ((k : Int) / (l.length : Int))), v] ∧ divs zs.length c = divs t l[k % l.length]) ?_ ?_ _ _ _ ⟨rfl, _, _, rfl, by simp [rngZ]⟩
      · rintro env h' ⟨rfl, c, v, rfl, e⟩
        have e : c = divs t l[k % l.length] := e
        subst e
        simp [Always]
        exact q
      · rintro z zs env h' N hN ⟨rfl, c, v, rfl, e⟩
        simp [Always]
        exact ⟨⟨by omega, by omega⟩, hN _ _ ⟨rfl, _, _, rfl, e⟩⟩
    · rw [if_neg hc] at q
      simp [hc]
      exact ⟨cmul_r (by omega) (by omega), cmul_r (by omega) (by omega), cmul_r (by omega) (by omega), q⟩
end ZL
namespace ZL
theorem draw_i {ns : List Int} (hn : ns.length ≤ 63) {k : Int} (h0 : 0 ≤ k) (hk : k < 2 ^ 40) {h : ZH} {P : PZ} {E : XZ → ZH → Prop} (q : ∀ d : Int, d = draw ns k.toNat → 0 ≤ d → d < 2147483629 → P (.int d) h) : fDraw [.scr ns, .int k] h P E := by
  obtain ⟨n, rfl⟩ := Int.eq_ofNat_of_zero_le h0
  exact fDraw_ok hn (by omega) (q _ (by simp) (draw_nonneg _ _) (draw_lt _ _))
end ZL

namespace ZL
open PySem PySem.Spec PyProof.Rows L2

/-! ### plain values as data -/
mutual
def okZ : Z → Bool
  | .non => true
  | .bl _ => true
  | .int _ => true
  | .str x => PyData.strOk x
  | .tup zs => okZs zs
  | .scr _ => false
  | .ref _ => false
  | .err _ => false
def okZs : List Z → Bool
  | [] => true
  | z :: zs => okZ z && okZs zs
end
mutual
def depZ : Z → Nat
  | .tup zs => depZs zs + 1
  | _ => 0
def depZs : List Z → Nat
  | [] => 0
  | z :: zs => max (depZ z) (depZs zs)
end
mutual
theorem lay_of : ∀ {z : Z}, okZ z = true → z.toD.canLay0 = true ∧ z.toD.depth = depZ z
  | .non, _ => ⟨rfl, rfl⟩
  | .bl _, _ => ⟨rfl, rfl⟩
  | .int _, _ => ⟨rfl, rfl⟩
  | .str x, h => ⟨h, rfl⟩
  | .tup zs, h => by
    unfold okZ at h
    obtain ⟨h1, h2⟩ := lays_of h
    unfold Z.toD depZ PyData.canLay0 PyData.depth
    exact ⟨h1, by rw [h2]⟩
  | .scr _, h => by cases h
  | .ref _, h => by cases h
  | .err _, h => by cases h
theorem lays_of : ∀ {zs : List Z}, okZs zs = true → PyData.canLayAll0 (Z.toDs zs) = true ∧ PyData.depthAll (Z.toDs zs) = depZs zs
  | [], _ => ⟨rfl, rfl⟩
  | z :: zs, h => by
    unfold okZs at h
    obtain ⟨a, b⟩ := Bool.and_eq_true_iff.mp h
    obtain ⟨h1, h2⟩ := lay_of a
    obtain ⟨h3, h4⟩ := lays_of b
    unfold Z.toDs depZs PyData.canLayAll0 PyData.depthAll
    rw [h1, h2, h3, h4]
    exact ⟨rfl, rfl⟩
end
theorem okZs_all : ∀ {zs : List Z}, okZs zs = true ↔ ∀ z ∈ zs, okZ z = true
  | [] => by simp [okZs]
  | z :: zs => by unfold okZs; rw [Bool.and_eq_true, okZs_all]; simp
theorem depZs_le : ∀ {zs : List Z} {n : Nat}, (∀ z ∈ zs, depZ z ≤ n) → depZs zs ≤ n
  | [], n, _ => Nat.zero_le n
  | z :: zs, n, h => by
    unfold depZs
    exact Nat.max_le.mpr ⟨h z List.mem_cons_self, depZs_le fun y hy => h y (List.mem_cons_of_mem _ hy)⟩
theorem dOf_tup {h : ZH} {zs : List Z} : dOf h (.tup zs) = .tuple (zs.map Z.toD) := by
  show Z.toD (.tup zs) = _
  unfold Z.toD
  rw [toDs_map]
theorem dOf_ok {h : ZH} {z : Z} (o : okZ z = true) : dOf h z = z.toD := by
  cases z with
  | ref n => cases o
  | err n => cases o
  | _ => rfl
theorem okD_of {h : ZH} {z : Z} (o : okZ z = true) (d : depZ z ≤ 64) : okD h z := by
  obtain ⟨h1, h2⟩ := lay_of o
  show SeqAt.shaped (dOf h z) = true
  rw [dOf_ok o]
  unfold SeqAt.shaped
  rw [h1, h2]
  simpa using d
theorem strOk_app {x y : Str} (hx : PyData.strOk x = true) (hy : PyData.strOk y = true) : PyData.strOk (x ++ y) = true := by
  show (x.cps ++ y.cps).all _ = true
  unfold PyData.strOk at hx hy
  rw [Array.all_append, hx, hy]
  rfl
theorem strOk_rep {x : Str} (hx : PyData.strOk x = true) (n : Nat) : PyData.strOk (strRep x n) = true := by
  unfold PyData.strOk strRep at *
  rw [List.all_toArray] at *
  simp only [List.all_flatten]
  rw [List.all_eq_true]
  intro l hl
  have := List.eq_of_mem_replicate hl
  subst this
  exact hx
theorem len_app {x y : Str} : (x ++ y).length = x.length + y.length := by
  show (x.cps ++ y.cps).size = _
  rw [Array.size_append]
  rfl
theorem len_rep {x : Str} {n : Nat} : (strRep x n).length = x.length * n := by
  show (List.replicate n x.cps.toList).flatten.toArray.size = _
  simp [Str.length]
  rw [Nat.mul_comm]
theorem eqv_tup {xs ys : List Z} : PyData.eqv (.tuple (xs.map Z.toD)) (.tuple (ys.map Z.toD)) = PyData.eqvAll (xs.map Z.toD) (ys.map Z.toD) := by
  conv => lhs; unfold PyData.eqv
theorem big_line : 16777216 = sizeLine := by rw [sizeLine_eq]
/-- a list's items, by the place -/
theorem atI_mem {α : Type} {xs : List α} {i : Int} (h0 : 0 ≤ i) (h : i < xs.length) : ∃ x, L2.atI xs i = some x ∧ x ∈ xs := by
  obtain ⟨k, rfl⟩ := Int.eq_ofNat_of_zero_le h0
  have hk : k < xs.length := by omega
  exact ⟨xs[k], atI_nat hk, List.getElem_mem hk⟩
end ZL
namespace ZL
open PySem PySem.Spec PyProof.Rows L2
theorem kIf_via {a b : WS} {D : ZEnds} {env : Env} {E : EZ} {k : Bool} {h : ZH} (R : Env → ZH → Prop) (h1 : ∀ N : Env → ZH → Prop, (∀ env h, R env h → N env h) → k = true → a ⟨N, D.rt, D.bk, D.ct⟩ env h E)
    (h2 : ∀ N : Env → ZH → Prop, (∀ env h, R env h → N env h) → k = false → b ⟨N, D.rt, D.bk, D.ct⟩ env h E) (hr : ∀ env h, R env h → D.nx env h) : kIf a b D env E k h := by
  cases k with
  | true => exact h1 _ hr rfl
  | false => exact h2 _ hr rfl
theorem seq_via {a b : WS} {D : ZEnds} {env : Env} {E : EZ} {h : ZH} (R : Env → ZH → Prop) (h1 : ∀ N : Env → ZH → Prop, (∀ env h, R env h → N env h) → a ⟨N, D.rt, D.bk, D.ct⟩ env h E) (h2 : ∀ env h, R env h → b D env h E) : wsSeq a b D env h E := h1 _ h2
theorem kIf_of {a b : WS} {D : ZEnds} {env : Env} {E : EZ} {k : Bool} {h : ZH} (h1 : k = true → a D env h E) (h2 : k = false → b D env h E) : kIf a b D env E k h := by
  cases k with
  | true => exact h1 rfl
  | false => exact h2 rfl
theorem kIfE_of {a b : WE} {env : Env} {P : PZ} {E : EZ} {k : Bool} {h : ZH} (h1 : k = true → a env h P E) (h2 : k = false → b env h P E) : kIfE a b env P E k h := by
  cases k with
  | true => exact h1 rfl
  | false => exact h2 rfl
theorem kAnd_of {t : WT} {env : Env} {P : Bool → ZH → Prop} {E : EZ} {k : Bool} {h : ZH} (h1 : k = true → t env h P E) (h2 : k = false → P false h) : kAnd t env P E k h := by
  cases k with
  | true => exact h1 rfl
  | false => exact h2 rfl
theorem kOr_of {t : WT} {env : Env} {P : Bool → ZH → Prop} {E : EZ} {k : Bool} {h : ZH} (h1 : k = true → P true h) (h2 : k = false → t env h P E) : kOr t env P E k h := by
  cases k with
  | true => exact h1 rfl
  | false => exact h2 rfl
end ZL
namespace ZL
theorem pick {α : Type} {xs : List α} {i : Int} {Q : α → Prop} (h0 : 0 ≤ i) (h : i < xs.length) (q : ∀ z ∈ xs, Q z) : ∃ z, L2.atI xs i = some z ∧ Q z :=
  let ⟨z, e, m⟩ := atI_mem h0 h
  ⟨z, e, q z m⟩
end ZL
namespace ZL
open PySem PySem.Spec PyProof.Rows L2
section
variable {xs ys : List Z} {h : ZH} {P : PZ}
theorem oLt_t : oLt (.tup xs) (.tup ys) h P = (okD h (.tup xs) ∧ okD h (.tup ys) ∧ ∃ k, ltDs (xs.map Z.toD) (ys.map Z.toD) = some k ∧ P (.bl k) h) := by
  have e : ∀ xs ys : List PyData, ltD (.tuple xs) (.tuple ys) = ltDs xs ys := fun xs ys => by conv => lhs; unfold ltD
  rw [← e, ← dOf_tup (h := h), ← dOf_tup (h := h)]
  rfl
theorem oEq_t : oEq (.tup xs) (.tup ys) h P = (okD h (.tup xs) ∧ okD h (.tup ys) ∧ P (.bl (PyData.eqvAll (xs.map Z.toD) (ys.map Z.toD))) h) := by
  rw [← eqv_tup, ← dOf_tup (h := h), ← dOf_tup (h := h)]
  rfl
theorem oNe_t : oNe (.tup xs) (.tup ys) h P = (okD h (.tup xs) ∧ okD h (.tup ys) ∧ P (.bl (!PyData.eqvAll (xs.map Z.toD) (ys.map Z.toD))) h) := by
  rw [← eqv_tup, ← dOf_tup (h := h), ← dOf_tup (h := h)]
  rfl
theorem okD_tup {n : Nat} (o : ∀ z ∈ xs, okZ z = true) (d : ∀ z ∈ xs, depZ z ≤ n) (hn : n < 64) : okD h (.tup xs) := by
  refine okD_of ?_ ?_
  · unfold okZ; exact okZs_all.mpr o
  · unfold depZ
    have := depZs_le d
    omega
end
end ZL

namespace ZL
open PySem PySem.Spec PyProof.Rows L2

/-! ### is_within -/
def wWithinI (cs : List Str) : WS := (wsSeq (wsSet 2 (wLst (wCons (wTup (wCons (wVar 0) (wCons (wC (.int 0)) wNil))) wNil))) (wsSeq (wsWhile (wTru (wVar 2)) (wsSeq (wsAsg (wBM isLst oPop (wVar 2) wNil) (wgTup 2 (wgCons (wgName 3) (wgCons (wgName 4) wgNil)))) (wsIf (wTru (wIsi .tuple cs (wVar 3))) (wsSeq (wsIf (wB (w2 oGe (wVar 4) (wVar 1))) (wsRet (wC (.bl false))) wsNext) (wsExpr (wBM isLst oExtend (wVar 2) (wCons (wLc (iVal (wVar 3)) (.nm 5) wYes (wTup (wCons (wVar 5) (wCons (w2 oAdd (wVar 4) (wC (.int 1))) wNil))) [5]) wNil)))) (wsIf (wTru (wIsi .int cs (wVar 3))) (wsIf (wB (w2 oGe (wCB oAbs (wCons (wVar 3) wNil)) (wC (.int 1000000000000000000000000000000000000000000000000000000000000)))) (wsRet (wC (.bl false))) wsNext) (wsIf (wAnd (wB (w2 oNotN (wVar 3) (wC .non))) (wNot (wTru (wIsi .str cs (wVar 3))))) (wsRet (wC (.bl false))) wsNext))))) (wsRet (wC (.bl true)))))
def fWithinI (cs : List Str) : WF := wfOf 6 (wWithinI cs)
abbrev fWithin : WF := fWithinI []
@[simp] theorem oPop_0 {n : Nat} {h : ZH} {P : PZ} : oPop (.ref n) [] h P = (match h[n]? with
    | some (.lst xs) => ∃ y, xs[xs.length - 1]? = some y ∧ P y (h.set n (.lst xs.dropLast))
    | _ => False) := noRfl rfl
mutual
/-- plain, in at most d tuples -/
def plainB : Nat → Z → Bool
  | 0, .tup _ => false
  | d + 1, .tup zs => plainBs d zs
  | _, .int i => decide (i.natAbs < 1000000000000000000000000000000000000000000000000000000000000)
  | _, .bl _ => true
  | _, .non => true
  | _, .str _ => true
  | _, .scr _ => false
  | _, .ref _ => false
  | _, .err _ => false
def plainBs : Nat → List Z → Bool
  | _, [] => true
  | d, z :: zs => plainB d z && plainBs d zs
end
theorem pl_non (d : Nat) : plainB d .non = true := by cases d <;> rfl
theorem pl_bl (d : Nat) (b : Bool) : plainB d (.bl b) = true := by cases d <;> rfl
theorem pl_str (d : Nat) (x : Str) : plainB d (.str x) = true := by cases d <;> rfl
theorem pl_scr (d : Nat) (ns : List Int) : plainB d (.scr ns) = false := by cases d <;> rfl
theorem pl_ref (d : Nat) (n : Nat) : plainB d (.ref n) = false := by cases d <;> rfl
theorem pl_int (d : Nat) (i : Int) : plainB d (.int i) = decide (i.natAbs < 1000000000000000000000000000000000000000000000000000000000000) := by cases d <;> rfl
theorem pl_tup0 (zs : List Z) : plainB 0 (.tup zs) = false := rfl
theorem plainBs_all : ∀ {d : Nat} {zs : List Z}, plainBs d zs = zs.all (plainB d)
  | d, [] => by unfold plainBs; rfl
  | d, z :: zs => by unfold plainBs; rw [plainBs_all]; rfl
mutual
def sizeZ : Z → Nat
  | .tup zs => sizeZs zs + 1
  | _ => 1
def sizeZs : List Z → Nat
  | [] => 0
  | z :: zs => sizeZ z + sizeZs zs
end
theorem sizeZs_app : ∀ {xs ys : List Z}, sizeZs (xs ++ ys) = sizeZs xs + sizeZs ys
  | [], ys => by simp [sizeZs]
  | x :: xs, ys => by simp only [List.cons_append, sizeZs]; rw [sizeZs_app]; omega
theorem sizeZ_pos (z : Z) : 0 < sizeZ z := by
  cases z <;> simp [sizeZ]
theorem len_sizeZs : ∀ zs : List Z, zs.length ≤ sizeZs zs
  | [] => Nat.zero_le _
  | z :: zs => by
    unfold sizeZs
    have := len_sizeZs zs
    have := sizeZ_pos z
    rw [List.length_cons]
    omega
mutual
/-- the objects that a value names are lists or dicts -/
def refsI (cs : List Str) (h : ZH) : Z → Prop
  | .ref n => (∃ zs, h[n]? = some (.lst zs)) ∨ (∃ kvs, h[n]? = some (.dict kvs)) ∨ ∃ c fs, h[n]? = some (.ins c fs) ∧ c ∈ cs
  | .tup zs => refsIs cs h zs
  | .err _ => False
  | _ => True
def refsIs (cs : List Str) (h : ZH) : List Z → Prop
  | [] => True
  | z :: zs => refsI cs h z ∧ refsIs cs h zs
end
abbrev refsOk (h : ZH) (z : Z) (cs : List Str := []) : Prop := refsI cs h z
abbrev refsOks (h : ZH) (zs : List Z) (cs : List Str := []) : Prop := refsIs cs h zs
section
variable {cs : List Str}
theorem refsOks_all {h : ZH} : ∀ {zs : List Z}, refsOks h zs cs ↔ ∀ z ∈ zs, refsOk h z cs
  | [] => by simp [refsIs]
  | z :: zs => by show (refsI cs h z ∧ refsOks h zs cs) ↔ _; rw [refsOks_all]; simp
abbrev Item := Z × Nat
def itZ (p : Item) : Z := .tup [p.1, .int p.2]
theorem sizes_last {items : List Item} {p : Item} : sizeZs ((items ++ [p]).map (·.1)) = sizeZs (items.map (·.1)) + sizeZ p.1 := by
  rw [List.map_append, sizeZs_app]
  simp [sizeZs]
theorem last_of {items : List Item} (h : items ≠ []) : ∃ r p, items = r ++ [p] := ⟨items.dropLast, items.getLast h, (List.dropLast_concat_getLast h).symm⟩
mutual
theorem refsOk_pre {h h' : ZH} (p : Pre h h') : ∀ {z : Z}, refsOk h z cs → refsOk h' z cs
  | .ref n, r => by
    unfold refsOk refsI at r ⊢
    rcases r with ⟨zs, e⟩ | ⟨kvs, e⟩ | ⟨c, fs, e, m⟩
    · exact .inl ⟨zs, p.get e⟩
    · exact .inr (.inl ⟨kvs, p.get e⟩)
    · exact .inr (.inr ⟨c, fs, p.get e, m⟩)
  | .tup zs, r => by
    unfold refsOk refsI at r ⊢
    exact refsOks_pre p r
  | .non, _ => by unfold refsOk refsI; trivial
  | .bl _, _ => by unfold refsOk refsI; trivial
  | .int _, _ => by unfold refsOk refsI; trivial
  | .str _, _ => by unfold refsOk refsI; trivial
  | .scr _, _ => by unfold refsOk refsI; trivial
  | .err _, r => by unfold refsOk refsI at r; exact r.elim
theorem refsOks_pre {h h' : ZH} (p : Pre h h') : ∀ {zs : List Z}, refsOks h zs cs → refsOks h' zs cs
  | [], _ => by unfold refsOks refsIs; trivial
  | z :: zs, r => by
    unfold refsOks refsIs at r ⊢
    exact ⟨refsOk_pre p r.1, refsOks_pre p r.2⟩
end
theorem within_ok {v : Z} {m : Nat} {h : ZH} (hv : sizeZ v ≤ 1000000) (hr : refsOk h v cs) {P : PZ} {E : XZ → ZH → Prop} (q : ∀ h', Pre h h' → P (.bl (plainB m v)) h') : fWithinI cs [v, .int (m : Int)] h P E := by
  unfold fWithinI wfOf wWithinI
  have bl := big_line
  simp
  refine ⟨by omega, by omega, ?_⟩
  refine whileZ_ind (fun k env h' => ∃ (items : List Item) (a b c : Option Z), env = [some v, some (.int m), some (.ref h.length), a, b, c] ∧ h'[h.length]? = some (.lst (items.map itZ)) ∧ Pre h h' ∧ k = sizeZs (items.map (·.1)) ∧ k ≤ 1000000 ∧
    (items.all fun p => plainB (m - p.2) p.1) = plainB m v ∧ ∀ p ∈ items, p.2 ≤ m ∧ refsOk h p.1 cs) ?_ (m := sizeZ v) ⟨[(v, 0)], none, none, none, rfl, by simp [itZ], .app _ _, by simp [sizeZs], hv, by simp, by simp [hr]⟩
  rintro k env h' N hN ⟨items, a, b, c, rfl, hs, pr, hk, hk6, hall, hit⟩
  cases items with
  | nil =>
    simp [hs]
    simp [truK, hs]
    have e : plainB m v = true := by rw [← hall]; rfl
    rw [e] at q
    exact q _ pr
  | cons p0 ps =>
    have et : truK h' (.ref h.length) = some true := by simp [truK, hs]
    simp [et]
    obtain ⟨r, p, er⟩ := last_of (items := p0 :: ps) (by simp)
    rw [er] at hs hall hk hit
    clear er
    obtain ⟨z, d⟩ := p
    obtain ⟨hd, hz⟩ := hit (z, d) (by simp)
    have hit' : ∀ p ∈ r, p.2 ≤ m ∧ refsOk h p.1 cs := fun p hp => hit p (by simp [hp])
    have lt : h.length < h'.length := (List.getElem?_eq_some_iff.mp hs).1
    have hs1 : (h'.set h.length (.lst (r.map itZ)))[h.length]? = some (.lst (r.map itZ)) := by rw [List.getElem?_set_self lt]
    have pr1 : Pre h (h'.set h.length (.lst (r.map itZ))) := pr.set (Nat.le_refl _) _
    rw [sizes_last] at hk
    simp only at hk
    have hkr : sizeZs (r.map (·.1)) < k := by have := sizeZ_pos z; omega
    simp [hs]
    simp [itZ]
    have hall2 : (r.all fun p => plainB (m - p.2) p.1) = true → plainB (m - d) z = plainB m v := fun e => by
      rw [List.all_append, e] at hall
      simpa using hall
    have hall3 : plainB (m - d) z = true → (r.all fun p => plainB (m - p.2) p.1) = plainB m v := fun e => by
      rw [List.all_append] at hall
      simp [e] at hall
      exact hall
    have hall4 : plainB (m - d) z = false → plainB m v = false := fun e => by
      rw [List.all_append] at hall
      simp [e] at hall
      exact hall.symm ▸ rfl
    -- on with the rest
    have go : ∀ (x y c : Option Z), plainB (m - d) z = true → N [some v, some (.int m), some (.ref h.length), x, y, c] (h'.set h.length (.lst (r.map itZ))) := fun x y c e => hN _ _ _ hkr ⟨r, x, y, c, rfl, hs1, pr1, rfl, by omega, hall3 e, hit'⟩
    have stop : plainB (m - d) z = false → P (.bl false) (h'.set h.length (.lst (r.map itZ))) := fun e => by
      have := q _ pr1
      rw [hall4 e] at this
      exact this
    generalize hg : h'.set h.length (.lst (r.map itZ)) = g at hs1 pr1 go stop ⊢
    cases z with
    | non =>
      simp [zNone]
      exact go _ _ _ (pl_non _)
    | bl x =>
      cases x
      · simp
        exact go _ _ _ (pl_bl _ _)
      · simp
        exact go _ _ _ (pl_bl _ _)
    | str x =>
      simp [zNone]
      exact go _ _ _ (pl_str _ _)
    | scr ns =>
      simp [zNone]
      exact stop (pl_scr _ _)
    | err a => unfold refsOk refsI at hz; exact hz.elim
    | int i =>
      simp
      refine kIf_of (fun e => ?_) (fun e => ?_)
      · simp
        refine stop ?_
        have e := of_decide_eq_true e
        rw [pl_int, decide_eq_false_iff_not]
        split at e <;> omega
      · simp
        refine go _ _ _ ?_
        have e := of_decide_eq_false e
        rw [pl_int, decide_eq_true_eq]
        split at e <;> omega
    | ref n =>
      have rn := refsOk_pre pr1 hz
      unfold refsOk refsI at rn
      rcases rn with ⟨zs, e⟩ | ⟨kvs, e⟩ | ⟨c, fs, e, m⟩
      · simp [e, zNone]
        exact stop (pl_ref _ _)
      · simp [e, zNone]
        exact stop (pl_ref _ _)
      · simp [e, zNone, m]
        exact stop (pl_ref _ _)
    | tup zs =>
      simp
      have hzs : ∀ y ∈ zs, refsOk h y cs := refsOks_all.mp (by have := hz; unfold refsOk refsI at this; exact this)
      have hsz : sizeZ (.tup zs) = sizeZs zs + 1 := by simp [sizeZ]
      by_cases hdm : m ≤ d
      · simp [hdm]
        have e : m - d = 0 := by omega
        exact stop (by rw [e]; exact pl_tup0 _)
      · simp [hdm, hs1]
        have hl2 := len_sizeZs zs
        refine lcZ_map (f := fun y => itZ (y, d + 1)) (S := fun _ => True) (C := fun _ => True) (fun _ _ _ _ => trivial) (fun _ _ => trivial) (by simp; omega) trivial (fun _ _ => trivial) (fun y _ => ⟨_, rfl, fun h1 K _ hK => ?_⟩) fun h2 p2 => ?_
        · simp [wipeE]
          exact ⟨by omega, hK _ (.refl _)⟩
        · have e2 := p2.get hs1
          have lt2 : h.length < h2.length := (List.getElem?_eq_some_iff.mp e2).1
          have e3 : (h2 ++ [ZO.lst (zs.map fun y => itZ (y, d + 1))])[h.length]? = some (.lst (r.map itZ)) := (Pre.app h2 _).get e2
          simp [e3]
          have hlr := len_sizeZs (r.map (·.1))
          rw [List.length_map] at hlr
          refine ⟨by omega, ?_⟩
          have hsz2 : sizeZs ((r ++ zs.map fun y => (y, d + 1)).map (·.1)) = sizeZs (r.map (·.1)) + sizeZs zs := by
            rw [List.map_append, sizeZs_app, List.map_map]
            congr 2
            exact List.map_id' zs
          refine hN _ _ _ ?_ ⟨r ++ zs.map fun y => (y, d + 1), _, _, _, rfl, ?_, ?_, rfl, ?_, ?_, ?_⟩
          · rw [hsz2]; omega
          · rw [List.getElem?_set_self (by simp; omega), List.map_append, List.map_map]
            rfl
          · exact ((pr1.trans p2).more _).set (Nat.le_refl _) _
          · rw [hsz2]; omega
          · have e4 : m - d = (m - (d + 1)) + 1 := by omega
            have e5 : plainB (m - d) (.tup zs) = zs.all (plainB (m - (d + 1))) := by
              rw [e4]
              show plainBs (m - (d + 1)) zs = _
              rw [plainBs_all]
            rw [List.all_append] at hall ⊢
            simp only [List.all_cons, List.all_nil, Bool.and_true, List.all_map] at hall ⊢
            rw [e5] at hall
            exact hall
          · intro p hp
            rcases List.mem_append.mp hp with hp | hp
            · exact hit' p hp
            · obtain ⟨y, hy, rfl⟩ := List.mem_map.mp hp
              exact ⟨by simp; omega, hzs y hy⟩
end
end ZL

namespace ZL
open PySem PySem.Spec PyProof.Rows L2
mutual
/-- all texts are of real signs, and not long -/
def okS : Z → Bool
  | .str x => PyData.strOk x && decide (x.length ≤ 1000)
  | .tup zs => okSs zs
  | _ => true
def okSs : List Z → Bool
  | [] => true
  | z :: zs => okS z && okSs zs
end
theorem okSs_all : ∀ {zs : List Z}, okSs zs = zs.all okS
  | [] => by unfold okSs; rfl
  | z :: zs => by unfold okSs; rw [okSs_all]; rfl
mutual
theorem plain_ok : ∀ {d : Nat} {z : Z}, plainB d z = true → okS z = true → okZ z = true ∧ depZ z ≤ d
  | d, .non, _, _ => ⟨rfl, Nat.zero_le _⟩
  | d, .bl _, _, _ => ⟨rfl, Nat.zero_le _⟩
  | d, .int _, _, _ => ⟨rfl, Nat.zero_le _⟩
  | d, .str x, _, h => ⟨(Bool.and_eq_true_iff.mp h).1, Nat.zero_le _⟩
  | d, .scr _, h, _ => by rw [pl_scr] at h; cases h
  | d, .ref _, h, _ => by rw [pl_ref] at h; cases h
  | d, .err _, h, _ => by cases d <;> cases h
  | 0, .tup zs, h, _ => by cases h
  | d + 1, .tup zs, h, s => by
    unfold plainB at h
    unfold okS at s
    obtain ⟨a, b⟩ := plains_ok h s
    unfold okZ depZ
    exact ⟨a, Nat.succ_le_succ b⟩
theorem plains_ok : ∀ {d : Nat} {zs : List Z}, plainBs d zs = true → okSs zs = true → okZs zs = true ∧ depZs zs ≤ d
  | d, [], _, _ => ⟨rfl, Nat.zero_le _⟩
  | d, z :: zs, h, s => by
    unfold plainBs at h
    unfold okSs at s
    obtain ⟨h1, h2⟩ := Bool.and_eq_true_iff.mp h
    obtain ⟨s1, s2⟩ := Bool.and_eq_true_iff.mp s
    obtain ⟨a1, a2⟩ := plain_ok h1 s1
    obtain ⟨b1, b2⟩ := plains_ok h2 s2
    unfold okZs depZs
    rw [a1, b1]
    exact ⟨rfl, Nat.max_le.mpr ⟨a2, b2⟩⟩
end
/-- what is_within may be asked for -/
structure Fit (n : Nat) (h : ZH) (z : Z) (cs : List Str := []) : Prop where
  sz : sizeZ z ≤ n
  rf : refsOk h z cs
  st : okS z = true
section
variable {cs : List Str}
mutual
theorem refsOk_mono {h h' : ZH} (H : ∀ n, refsOk h (.ref n) cs → refsOk h' (.ref n) cs) : ∀ {z : Z}, refsOk h z cs → refsOk h' z cs
  | .ref n, r => H n r
  | .tup zs, r => by
    unfold refsOk refsI at r ⊢
    exact refsOks_mono H r
  | .non, _ => by unfold refsOk refsI; trivial
  | .bl _, _ => by unfold refsOk refsI; trivial
  | .int _, _ => by unfold refsOk refsI; trivial
  | .str _, _ => by unfold refsOk refsI; trivial
  | .scr _, _ => by unfold refsOk refsI; trivial
  | .err _, r => by unfold refsOk refsI at r; exact r.elim
theorem refsOks_mono {h h' : ZH} (H : ∀ n, refsOk h (.ref n) cs → refsOk h' (.ref n) cs) : ∀ {zs : List Z}, refsOks h zs cs → refsOks h' zs cs
  | [], _ => by unfold refsOks refsIs; trivial
  | z :: zs, r => by
    unfold refsOks refsIs at r ⊢
    exact ⟨refsOk_mono H r.1, refsOks_mono H r.2⟩
end
theorem Fit.setL {m n : Nat} {h : ZH} {z : Z} (f : Fit m h z cs) (ys : List Z) : Fit m (h.set n (.lst ys)) z cs := ⟨f.sz, refsOk_mono (fun i r => by
  unfold refsOk refsI at r ⊢
  by_cases e : n = i
  · subst e
    have l : n < h.length := by
      rcases r with ⟨zs, e⟩ | ⟨kvs, e⟩ | ⟨c, fs, e, m⟩
      · exact (List.getElem?_eq_some_iff.mp e).1
      · exact (List.getElem?_eq_some_iff.mp e).1
      · exact (List.getElem?_eq_some_iff.mp e).1
    exact .inl ⟨ys, List.getElem?_set_self l⟩
  · rw [List.getElem?_set_ne e]
    exact r) f.rf, f.st⟩
theorem Fit.pre {n : Nat} {h h' : ZH} {z : Z} (f : Fit n h z cs) (p : Pre h h') : Fit n h' z cs := ⟨f.sz, refsOk_pre p f.rf, f.st⟩
theorem Fit.le {n m : Nat} {h : ZH} {z : Z} (f : Fit n h z cs) (l : n ≤ m) : Fit m h z cs := ⟨Nat.le_trans f.sz l, f.rf, f.st⟩
theorem Fit.tup {n : Nat} {h : ZH} : ∀ {zs : List Z}, (∀ z ∈ zs, Fit n h z cs) → Fit (n * zs.length + 1) h (.tup zs) cs := fun {zs} hz => by
  have key : ∀ zs : List Z, (∀ z ∈ zs, Fit n h z cs) → sizeZs zs ≤ n * zs.length := by
    intro zs
    induction zs with
    | nil => intro _; exact Nat.le_refl _
    | cons z zs ih =>
      intro hz
      have a := (hz z List.mem_cons_self).sz
      have b := ih fun y hy => hz y (List.mem_cons_of_mem _ hy)
      unfold sizeZs
      rw [List.length_cons, Nat.mul_succ]
      omega
  refine ⟨?_, ?_, ?_⟩
  · unfold sizeZ
    exact Nat.succ_le_succ (key zs hz)
  · unfold refsOk refsI
    exact refsOks_all.mpr fun z m => (hz z m).rf
  · unfold okS
    rw [okSs_all, List.all_eq_true]
    exact fun z m => (hz z m).st
theorem fit_int {h : ZH} {i : Int} : Fit 1 h (.int i) cs := ⟨Nat.le_refl _, by unfold refsOk refsI; trivial, rfl⟩
theorem fit_bl {h : ZH} {i : Bool} : Fit 1 h (.bl i) cs := ⟨Nat.le_refl _, by unfold refsOk refsI; trivial, rfl⟩
theorem fit_non {h : ZH} : Fit 1 h .non cs := ⟨Nat.le_refl _, by unfold refsOk refsI; trivial, rfl⟩
theorem okS_str {x : Str} (o : PyData.strOk x = true) (l : x.length ≤ 1000) : okS (.str x) = true := Bool.and_eq_true_iff.mpr ⟨o, decide_eq_true l⟩
theorem fit_str {h : ZH} {x : Str} (o : PyData.strOk x = true) (l : x.length ≤ 1000) : Fit 1 h (.str x) cs := ⟨Nat.le_refl _, by unfold refsOk refsI; trivial, okS_str o l⟩
theorem okS_mem {zs : List Z} (o : okS (.tup zs) = true) {z : Z} (m : z ∈ zs) : okS z = true := by
  unfold okS at o
  rw [okSs_all, List.all_eq_true] at o
  exact o z m
theorem fit_lst {h : ZH} {n : Nat} {zs : List Z} (e : h[n]? = some (.lst zs)) : Fit 1 h (.ref n) cs := ⟨Nat.le_refl _, by unfold refsOk refsI; exact .inl ⟨_, e⟩, rfl⟩
theorem fit_dict {h : ZH} {n : Nat} {zs : List (Z × Z)} (e : h[n]? = some (.dict zs)) : Fit 1 h (.ref n) cs := ⟨Nat.le_refl _, by unfold refsOk refsI; exact .inr (.inl ⟨_, e⟩), rfl⟩
theorem fit_ins {h : ZH} {n : Nat} {c : Str} {fs : List (Str × Z)} (e : h[n]? = some (.ins c fs)) (m : c ∈ cs) : Fit 1 h (.ref n) cs := ⟨Nat.le_refl _, by unfold refsOk refsI; exact .inr (.inr ⟨_, _, e, m⟩), rfl⟩
theorem okD_plain {h : ZH} {z : Z} {d : Nat} (p : plainB d z = true) (s : okS z = true) (hd : d ≤ 64) : okD h z := okD_of (plain_ok p s).1 (Nat.le_trans (plain_ok p s).2 hd)
end
end ZL

namespace ZL
open PySem PySem.Spec PyProof.Rows L2
/-! ### heaps that change at some places alone -/
structure Keep (h h' : ZH) (D : List Nat) : Prop where
  le : h.length ≤ h'.length
  at_ : ∀ n, n < h.length → n ∉ D → h'[n]? = h[n]?
theorem Keep.refl (h : ZH) (D : List Nat) : Keep h h D := ⟨Nat.le_refl _, fun _ _ _ => rfl⟩
theorem Keep.get {h h' : ZH} {D : List Nat} (k : Keep h h' D) {n : Nat} {o : ZO} (e : h[n]? = some o) (hn : n ∉ D) : h'[n]? = some o := by
  rw [k.at_ n (List.getElem?_eq_some_iff.mp e).1 hn]
  exact e
theorem Keep.trans {a b c : ZH} {D : List Nat} (x : Keep a b D) (y : Keep b c D) : Keep a c D := ⟨Nat.le_trans x.le y.le, fun n hn hd => by rw [y.at_ n (Nat.lt_of_lt_of_le hn x.le) hd, x.at_ n hn hd]⟩
theorem Keep.mono {a b : ZH} {D D' : List Nat} (x : Keep a b D) (s : ∀ n, n < a.length → n ∈ D → n ∈ D') : Keep a b D' := ⟨x.le, fun n hn hd => x.at_ n hn fun m => hd (s n hn m)⟩
theorem Keep.of_pre {a b : ZH} {D : List Nat} (p : Pre a b) : Keep a b D := ⟨p.le, fun n hn _ => by
  obtain ⟨g, rfl⟩ := p
  rw [List.getElem?_append_left hn]⟩
theorem Keep.app {a b : ZH} {D : List Nat} (x : Keep a b D) (g : ZH) : Keep a (b ++ g) D := ⟨by have := x.le; simp; omega, fun n hn hd => by rw [List.getElem?_append_left (Nat.lt_of_lt_of_le hn x.le)]; exact x.at_ n hn hd⟩
theorem Keep.set {a b : ZH} {D : List Nat} (x : Keep a b D) {n : Nat} (o : ZO) (hn : n < a.length → n ∈ D) : Keep a (b.set n o) D := ⟨by have := x.le; simp; exact this, fun m hm hd => by
  rw [List.getElem?_set_ne (fun e => by subst e; exact hd (hn hm))]
  exact x.at_ m hm hd⟩
theorem lt_of_get {h : ZH} {n : Nat} {o : ZO} (e : h[n]? = some o) : n < h.length := (List.getElem?_eq_some_iff.mp e).1
theorem get_set {h : ZH} {n : Nat} {o x : ZO} (e : h[n]? = some o) : (h.set n x)[n]? = some x := List.getElem?_set_self (lt_of_get e)
theorem get_app {h g : ZH} {n : Nat} {o : ZO} (e : h[n]? = some o) : (h ++ g)[n]? = some o := by rw [List.getElem?_append_left (lt_of_get e)]; exact e
theorem ne_of_get {h : ZH} {n m : Nat} {o x : ZO} (e : h[n]? = some o) (f : h[m]? = some x) (d : o ≠ x) : n ≠ m := fun z => by subst z; rw [e] at f; exact d (Option.some.inj f)
end ZL
namespace ZL
open PySem PySem.Spec PyProof.Rows L2
section
variable {env : Env} {h : ZH} {PS : Env → ZH → Prop} {E : EZ} {D : ZEnds} {wo we : WE} {sg : Bool} {cs : List Str} {f : Str} {n : Nat} {x y : Z}
def kFA2 (sg : Bool) (f c : Str) (n : Nat) (x : Z) (P : Env → ZH → Prop) (env : Env) : PZ := fun y h2 => match x, y with
        | .int i, .int j => (match h2[n]? with
          | some (.ins c2 fs2) => c2 = c ∧ fs2.length < 1000 ∧ P env (h2.set n (.ins c2 (zput f (.int (if sg = true then i + j else i - j)) fs2)))
          | _ => False)
        | _, _ => False
def kFA1 (sg : Bool) (cs : List Str) (f : Str) (we : WE) (P : Env → ZH → Prop) (env : Env) (E : EZ) : PZ := fun o h1 => match o with
  | .ref n => (match h1[n]? with
    | some (.ins c fs) => c ∈ cs ∧ (match fs.lookup f with
      | some x => we env h1 (kFA2 sg f c n x P env) E
      | none => False)
    | _ => False)
  | _ => False
@[simp] theorem m_fldAug : wsFldAug sg cs f wo we D env h E = wo env h (kFA1 sg cs f we D.nx env E) E := noRfl rfl
@[simp] theorem m_kFA1 : kFA1 sg cs f we PS env E (.ref n) h = (match h[n]? with
    | some (.ins c fs) => c ∈ cs ∧ (match fs.lookup f with
      | some x => we env h (kFA2 sg f c n x PS env) E
      | none => False)
    | _ => False) := noRfl rfl
@[simp] theorem m_kFA2 {c : Str} {i j : Int} : kFA2 sg f c n (.int i) PS env (.int j) h = (match h[n]? with
          | some (.ins c2 fs2) => c2 = c ∧ fs2.length < 1000 ∧ PS env (h.set n (.ins c2 (zput f (.int (if sg = true then i + j else i - j)) fs2)))
          | _ => False) := noRfl rfl
end
end ZL

namespace ZL
open PySem PySem.Spec PyProof.Rows L2
/-! ### items at known places -/
section
variable {α : Type} {a b c d e f : α} {r : List α}
@[simp] theorem at_0 : L2.atI (a :: r) 0 = some a := atI_nat (k := 0) (xs := a :: r) (by simp)
@[simp] theorem at_1 : L2.atI (a :: b :: r) 1 = some b := atI_nat (k := 1) (xs := a :: b :: r) (by simp)
@[simp] theorem at_2 : L2.atI (a :: b :: c :: r) 2 = some c := atI_nat (k := 2) (xs := a :: b :: c :: r) (by simp)
@[simp] theorem at_3 : L2.atI (a :: b :: c :: d :: r) 3 = some d := atI_nat (k := 3) (xs := a :: b :: c :: d :: r) (by simp)
@[simp] theorem at_4 : L2.atI (a :: b :: c :: d :: e :: r) 4 = some e := atI_nat (k := 4) (xs := a :: b :: c :: d :: e :: r) (by simp)
@[simp] theorem at_5 : L2.atI (a :: b :: c :: d :: e :: f :: r) 5 = some f := atI_nat (k := 5) (xs := a :: b :: c :: d :: e :: f :: r) (by simp)
@[simp] theorem ix_0 {n : Nat} : L2.ixN (n + 1) 0 = some 0 := by unfold L2.ixN; rw [if_pos (by omega), if_pos (by omega)]; rfl
@[simp] theorem ix_1 {n : Nat} : L2.ixN (n + 1 + 1) 1 = some 1 := by unfold L2.ixN; rw [if_pos (by omega), if_pos (by omega)]; rfl
@[simp] theorem ix_2 {n : Nat} : L2.ixN (n + 1 + 1 + 1) 2 = some 2 := by unfold L2.ixN; rw [if_pos (by omega), if_pos (by omega)]; rfl
@[simp] theorem ix_3 {n : Nat} : L2.ixN (n + 1 + 1 + 1 + 1) 3 = some 3 := by unfold L2.ixN; rw [if_pos (by omega), if_pos (by omega)]; rfl
end
/-! ### lists compared -/
theorem dL_ok {d : Z → PyData} {h : ZH} {z : Z} (o : okZ z = true) : dL d h z = z.toD := by
  cases z with
  | ref n => cases o
  | err n => cases o
  | _ => rfl
def OkL (zs : List Z) : Prop := ∀ z ∈ zs, okZ z = true ∧ depZ z ≤ 60
theorem dOf_lst {h : ZH} {n : Nat} {zs : List Z} (e : h[n]? = some (.lst zs)) (o : OkL zs) : dOf h (.ref n) = .list (zs.map Z.toD) := by
  rw [dOf, dL_lst e]
  congr 1
  exact List.map_congr_left fun z hz => dL_ok (o z hz).1
theorem okL_all {zs : List Z} (o : OkL zs) : okZs zs = true ∧ depZs zs ≤ 60 := ⟨okZs_all.mpr fun z hz => (o z hz).1, depZs_le fun z hz => (o z hz).2⟩
theorem okD_lst {h : ZH} {n : Nat} {zs : List Z} (e : h[n]? = some (.lst zs)) (o : OkL zs) : okD h (.ref n) := by
  show SeqAt.shaped (dOf h (.ref n)) = true
  rw [dOf_lst e o]
  obtain ⟨a, b⟩ := okL_all o
  obtain ⟨c, d⟩ := lays_of a
  rw [toDs_map] at c d
  unfold SeqAt.shaped PyData.canLay0 PyData.depth
  rw [c, d]
  simp
  omega
theorem eqv_lst {xs ys : List PyData} : PyData.eqv (.list xs) (.list ys) = PyData.eqvAll xs ys := by conv => lhs; unfold PyData.eqv
theorem ne_lists {h : ZH} {n m : Nat} {xs ys : List Z} (e1 : h[n]? = some (.lst xs)) (e2 : h[m]? = some (.lst ys)) (o1 : OkL xs) (o2 : OkL ys) {P : PZ} (q : P (.bl (!PyData.eqvAll (xs.map Z.toD) (ys.map Z.toD))) h) : oNe (.ref n) (.ref m) h P := by
  refine ⟨okD_lst e1 o1, okD_lst e2 o2, ?_⟩
  show P (.bl (!PyData.eqv (dOf h (.ref n)) (dOf h (.ref m)))) h
  rw [dOf_lst e1 o1, dOf_lst e2 o2, eqv_lst]
  exact q
theorem eq_lists {h : ZH} {n m : Nat} {xs ys : List Z} (e1 : h[n]? = some (.lst xs)) (e2 : h[m]? = some (.lst ys)) (o1 : OkL xs) (o2 : OkL ys) {P : PZ} (q : P (.bl (PyData.eqvAll (xs.map Z.toD) (ys.map Z.toD))) h) : oEq (.ref n) (.ref m) h P := by
  refine ⟨okD_lst e1 o1, okD_lst e2 o2, ?_⟩
  show P (.bl (PyData.eqv (dOf h (.ref n)) (dOf h (.ref m)))) h
  rw [dOf_lst e1 o1, dOf_lst e2 o2, eqv_lst]
  exact q
theorem eqvAll_nil {xs : List PyData} : PyData.eqvAll xs [] = xs.isEmpty := by cases xs <;> rfl
theorem ne_same {h : ZH} {n m : Nat} {xs : List Z} (e1 : h[n]? = some (.lst xs)) (e2 : h[m]? = some (.lst xs)) (o : OkL xs) {P : PZ} (q : P (.bl false) h) : oNe (.ref n) (.ref m) h P := by
  refine ne_lists e1 e2 o o ?_
  obtain ⟨a, b⟩ := okL_all o
  obtain ⟨c, d⟩ := lays_of a
  rw [toDs_map] at c
  rw [SeqAt.eqvAll_refl _ c]
  exact q
theorem okL_ints (ns : List Int) : OkL (ns.map Z.int) := by
  intro z hz
  obtain ⟨i, _, rfl⟩ := List.mem_map.mp hz
  exact ⟨rfl, Nat.zero_le _⟩
theorem okL_nil : OkL [] := fun z hz => by cases hz
theorem okL_app {xs ys : List Z} (a : OkL xs) (b : OkL ys) : OkL (xs ++ ys) := fun z hz => (List.mem_append.mp hz).elim (a z) (b z)
theorem okL_take {xs : List Z} (a : OkL xs) {l u : Option Int} : OkL (cutZ xs l u) := fun z hz => a z (by
  unfold cutZ at hz
  exact List.mem_of_mem_drop (List.mem_of_mem_take hz))
theorem okL_filter {xs : List Z} (a : OkL xs) {p : Z → Bool} : OkL (xs.filter p) := fun z hz => a z (List.mem_filter.mp hz |>.1)
/-- `[..] == []` of a list that has just been made -/
theorem eq_nil {h : ZH} {n : Nat} {xs : List Z} (e : h[n]? = some (.lst xs)) (o : OkL xs) {m : Nat} (e2 : h[m]? = some (.lst [])) {P : PZ} (q : P (.bl xs.isEmpty) h) : oEq (.ref n) (.ref m) h P := by
  refine eq_lists e e2 o okL_nil ?_
  rw [List.map_nil, eqvAll_nil]
  cases xs <;> exact q
/-! ### a comprehension that picks -/
theorem lcZ_filter {i : Nat} {tt : WT} {chk : ZH → Prop} {env : Env} {P : PZ} (p : Z → Bool) (S : Z → Prop) (C : ZH → Prop) (hC : ∀ h h', C h → Pre h h' → C h') (hchk : ∀ h, C h → chk h) {zs acc : List Z} {h : ZH} (hl : acc.length + zs.length ≤ sizeLine) (c : C h) (hS : ∀ z ∈ zs, S z) (hi : i < env.length)
    (ht : ∀ z, S z → ∀ h (K : Bool → ZH → Prop), C h → (∀ h', Pre h h' → K (p z) h') → tt (env.set i (some z)) h K E0) (hP : ∀ h', Pre h h' → P (.ref h'.length) (h' ++ [.lst (acc ++ zs.filter p)])) : lcZ (.nm i) tt (wVar i) chk env P zs acc h := by
  refine lcZ_ind (fun zs' acc' h' => Pre h h' ∧ C h' ∧ acc' ++ zs'.filter p = acc ++ zs.filter p ∧ acc'.length + zs'.length ≤ sizeLine ∧ ∀ z ∈ zs', S z) ?_ ?_ zs acc h ⟨.refl h, c, rfl, hl, hS⟩
  · rintro acc' h' ⟨p', c', e, _, _⟩
    refine ⟨hchk _ c', ?_⟩
    have := hP h' p'
    rw [← e] at this
    simpa using this
  · rintro z zs' acc' h' N hN ⟨p', c', e, l, s⟩
    rw [List.length_cons] at l
    refine ⟨hchk _ c', env.set i (some z), rfl, ht z (s z List.mem_cons_self) h' _ c' fun h'' p'' => ?_⟩
    have s' : ∀ y ∈ zs', S y := fun y hy => s y (List.mem_cons_of_mem _ hy)
    cases hp : p z with
    | true =>
      simp [List.getElem?_set_self hi]
      refine ⟨by omega, hN _ _ ⟨p'.trans p'', hC _ _ c' p'', ?_, ?_, s'⟩⟩
      · rw [← e, List.filter_cons, if_pos hp, List.append_assoc]; rfl
      · simp; omega
    | false =>
      simp
      refine hN _ _ ⟨p'.trans p'', hC _ _ c' p'', ?_, by omega, s'⟩
      rw [← e, List.filter_cons, if_neg (by simp [hp])]
/-! ### the two ways of a truth -/
theorem kNot_of {P : Bool → ZH → Prop} {k : Bool} {h : ZH} (q : P (!k) h) : kNot P k h := q
theorem kAndV_of {w : WE} {env : Env} {P : PZ} {E : EZ} {k : Bool} {h : ZH} (h1 : k = true → w env h P E) (h2 : k = false → P (.bl false) h) : kAndV w env P E (.bl k) h := by
  cases k with
  | true => exact h1 rfl
  | false => exact h2 rfl
theorem kOrV_of {w : WE} {env : Env} {P : PZ} {E : EZ} {k : Bool} {h : ZH} (h1 : k = true → P (.bl true) h) (h2 : k = false → w env h P E) : kOrV w env P E (.bl k) h := by
  cases k with
  | true => exact h1 rfl
  | false => exact h2 rfl
theorem kChC_of {o : Z2} {wc : WE} {b : Z} {env : Env} {P : PZ} {E : EZ} {k : Bool} {h : ZH} (h1 : k = true → wc env h (kChD o b P) E) (h2 : k = false → P (.bl false) h) : kChC o wc b env P E (.bl k) h := by
  cases k with
  | true => exact h1 rfl
  | false => exact h2 rfl
theorem kAndIf_via {t : WT} {a b : WS} {D : ZEnds} {env : Env} {E : EZ} {k : Bool} {h : ZH} (R : Env → ZH → Prop) (h1 : ∀ N : Env → ZH → Prop, (∀ env h, R env h → N env h) → k = true → t env h (kIf a b ⟨N, D.rt, D.bk, D.ct⟩ env E) E)
    (h2 : ∀ N : Env → ZH → Prop, (∀ env h, R env h → N env h) → k = false → kIf a b ⟨N, D.rt, D.bk, D.ct⟩ env E false h) (hr : ∀ env h, R env h → D.nx env h) : kAnd t env (kIf a b D env E) E k h := by
  cases k with
  | true => exact h1 _ hr rfl
  | false => exact h2 _ hr rfl
theorem filter_none {zs : List Z} {p : Z → Bool} : (zs.filter fun z => !p z).isEmpty = zs.all p := by
  induction zs with
  | nil => rfl
  | cons z zs ih =>
    rw [List.filter_cons, List.all_cons]
    cases hp : p z with
    | true => simpa using ih
    | false => simp
end ZL

namespace ZS
open PySem PySem.Spec
/-! ### what repr shows tells the value -/
def niceC (c : Nat) : Bool := (decide (32 ≤ c) && decide (c ≤ 126)) || c == 10 || c == 13 || c == 9
mutual
def niceD : PyData → Bool
  | .none => true
  | .bool _ => true
  | .int _ => true
  | .str x => x.cps.toList.all niceC
  | .tuple xs => niceDs xs
  | .list _ => false
  | .dict _ => false
def niceDs : List PyData → Bool
  | [] => true
  | x :: xs => niceD x && niceDs xs
end
abbrev code (d : PyData) : List Nat := d.shown.cps.toList
/-- what may follow -/
def Stop (s : List Nat) : Prop := ∀ c r, s = c :: r → c = 44 ∨ c = 41
theorem stop_nil : Stop [] := fun c r h => by cases h
theorem stop_44 (r : List Nat) : Stop (44 :: r) := fun c r' h => by cases h; exact .inl rfl
theorem stop_41 (r : List Nat) : Stop (41 :: r) := fun c r' h => by cases h; exact .inr rfl
/-! numbers -/
def digs (n : Nat) : List Nat := (Nat.toDigits 10 n).map Char.toNat
theorem char_inj {a b : Char} (h : a.toNat = b.toNat) : a = b := Char.ext (UInt32.toNat_inj.mp h)
theorem map_char_inj : ∀ {a b : List Char}, a.map Char.toNat = b.map Char.toNat → a = b
  | [], [], _ => rfl
  | [], _ :: _, h => by cases h
  | _ :: _, [], h => by cases h
  | x :: xs, y :: ys, h => by
    simp only [List.map_cons, List.cons.injEq] at h
    rw [char_inj h.1, map_char_inj h.2]
theorem digs_inj {n m : Nat} (h : digs n = digs m) : n = m := by
  have e := map_char_inj h
  have := congrArg (fun l => Nat.ofDigitChars 10 l 0) e
  simpa using this
theorem digs_digit {n c : Nat} (h : c ∈ digs n) : 48 ≤ c ∧ c ≤ 57 := by
  unfold digs at h
  obtain ⟨d, hd, rfl⟩ := List.mem_map.mp h
  have := Nat.isDigit_of_mem_toDigits (by decide) (by decide) hd
  simp only [Char.isDigit, Bool.and_eq_true, decide_eq_true_eq, ge_iff_le] at this
  obtain ⟨a, b⟩ := this
  exact ⟨UInt32.le_iff_toNat_le.mp a, UInt32.le_iff_toNat_le.mp b⟩
theorem digs_ne (n : Nat) : digs n ≠ [] := by
  unfold digs
  simp [Nat.toDigits_ne_nil]
/-- a run of digits ends where none stands -/
theorem run_inj : ∀ {a b s t : List Nat}, (∀ c ∈ a, 48 ≤ c ∧ c ≤ 57) → (∀ c ∈ b, 48 ≤ c ∧ c ≤ 57) → Stop s → Stop t → a ++ s = b ++ t → a = b ∧ s = t
  | [], [], _, _, _, _, _, _, h => ⟨rfl, h⟩
  | [], y :: ys, s, t, _, hb, hs, _, h => by
    have := hb y List.mem_cons_self
    have := hs y (ys ++ t) h
    omega
  | x :: xs, [], s, t, ha, _, _, ht, h => by
    have := ha x List.mem_cons_self
    have := ht x (xs ++ s) h.symm
    omega
  | x :: xs, y :: ys, s, t, ha, hb, hs, ht, h => by
    simp only [List.cons_append, List.cons.injEq] at h
    obtain ⟨rfl, h⟩ := h
    obtain ⟨e1, e2⟩ := run_inj (fun c m => ha c (List.mem_cons_of_mem _ m)) (fun c m => hb c (List.mem_cons_of_mem _ m)) hs ht h
    exact ⟨by rw [e1], e2⟩
theorem ofString_list (s : String) : (Str.ofString s).cps.toList = s.toList.map Char.toNat := by
  exact PyProof.Rows.signs_ofString s
theorem code_nat (n : Nat) : code (.int n) = digs n := by
  show (PyData.shown (.int (n : Int))).cps.toList = _
  rw [PyData.shown_int]
  show (Str.ofString (toString (n : Int))).cps.toList = _
  rw [ofString_list]
  show ((toString n).toList).map Char.toNat = _
  rw [Nat.toString_eq_ofList_toDigits]
  simp [digs]
theorem code_neg (n : Nat) : code (.int (Int.negSucc n)) = 45 :: digs (n + 1) := by
  show (PyData.shown (.int (Int.negSucc n))).cps.toList = _
  rw [PyData.shown_int]
  show (Str.ofString (toString (Int.negSucc n))).cps.toList = _
  rw [ofString_list]
  show (("-" ++ (Nat.succ n).repr : String).toList).map Char.toNat = _
  rw [String.toList_append, Nat.toList_repr]
  simp [digs]
theorem int_inj {i j : Int} {s t : List Nat} (hs : Stop s) (ht : Stop t) (h : code (.int i) ++ s = code (.int j) ++ t) : i = j ∧ s = t := by
  cases i with
  | ofNat n =>
    rw [show Int.ofNat n = (n : Int) from rfl, code_nat] at h
    cases j with
    | ofNat m =>
      rw [show Int.ofNat m = (m : Int) from rfl, code_nat] at h
      obtain ⟨e1, e2⟩ := run_inj (fun c => digs_digit) (fun c => digs_digit) hs ht h
      exact ⟨by rw [digs_inj e1], e2⟩
    | negSucc m =>
      rw [code_neg] at h
      cases hd : digs n with
      | nil => exact absurd hd (digs_ne n)
      | cons x xs =>
        rw [hd] at h
        have e := (List.cons.inj h).1
        have := digs_digit (n := n) (c := x) (by rw [hd]; exact List.mem_cons_self)
        omega
  | negSucc n =>
    rw [code_neg] at h
    cases j with
    | ofNat m =>
      rw [show Int.ofNat m = (m : Int) from rfl, code_nat] at h
      cases hd : digs m with
      | nil => exact absurd hd (digs_ne m)
      | cons x xs =>
        rw [hd] at h
        have e := (List.cons.inj h).1
        have := digs_digit (n := m) (c := x) (by rw [hd]; exact List.mem_cons_self)
        omega
    | negSucc m =>
      rw [code_neg] at h
      obtain ⟨e1, e2⟩ := run_inj (fun c => digs_digit) (fun c => digs_digit) hs ht (List.cons.inj h).2
      have := digs_inj e1
      exact ⟨by congr 1; omega, e2⟩
theorem int_len {i : Int} {k : Nat} (hk : 0 < k) (h : i.natAbs < 10 ^ k) : (PyData.shown (.int i)).length ≤ k + 1 := by
  show (PyData.shown (.int i)).cps.size ≤ _
  rw [← Array.length_toList]
  show (code (.int i)).length ≤ _
  have key : ∀ n, n < 10 ^ k → (digs n).length ≤ k := fun n hn => by
    unfold digs
    rw [List.length_map]
    exact (Nat.length_toDigits_le_iff (by decide) hk).mpr hn
  cases i with
  | ofNat n =>
    rw [show Int.ofNat n = (n : Int) from rfl, code_nat]
    have := key n h
    omega
  | negSucc n =>
    rw [code_neg, List.length_cons]
    have := key (n + 1) h
    omega
/-! texts -/
def sign (q c : Nat) : List Nat := if c == q || c == 92 then [92, c] else if c == 10 then [92, 110] else if c == 13 then [92, 114] else if c == 9 then [92, 116] else [c]
theorem print_all : ∀ c, c < 127 → 32 ≤ c → Unicode.isPrintable c = true := by decide +kernel
theorem sign_eq {q c : Nat} (h : niceC c = true) : Builtin.Str.reprChar q c = sign q c := by
  unfold Builtin.Str.reprChar sign
  unfold niceC at h
  simp only [Bool.or_eq_true, Bool.and_eq_true, decide_eq_true_eq, beq_iff_eq] at h
  have hp : c ≠ 10 → c ≠ 13 → c ≠ 9 → Unicode.isPrintable c = true := fun a b d => print_all c (by omega) (by omega)
  by_cases h1 : (c == q || c == 92) = true
  · simp only [h1, if_true]
  · simp only [h1]
    by_cases h2 : c = 10
    · subst h2; rfl
    by_cases h3 : c = 13
    · subst h3; rfl
    by_cases h4 : c = 9
    · subst h4; rfl
    have e := hp h2 h3 h4
    simp [h2, h3, h4, e]
def signs (q : Nat) : List Nat → List Nat
  | [] => []
  | c :: r => sign q c ++ signs q r
theorem fold_signs {q : Nat} : ∀ (l : List Nat) (acc : Array Nat), (∀ c ∈ l, niceC c = true) → (l.foldl (fun out c => out ++ (Builtin.Str.reprChar q c).toArray) acc).toList = acc.toList ++ signs q l
  | [], acc, _ => by simp [signs]
  | c :: r, acc, h => by
    rw [List.foldl_cons, fold_signs r _ (fun d m => h d (List.mem_cons_of_mem _ m)), sign_eq (h c List.mem_cons_self)]
    simp [signs]
theorem code_str {x : Str} (h : niceD (.str x) = true) : code (.str x) = reprQuote x :: (signs (reprQuote x) x.cps.toList ++ [reprQuote x]) := by
  unfold niceD at h
  rw [List.all_eq_true] at h
  show (PyData.shown (.str x)).cps.toList = _
  rw [PyData.shown_str]
  unfold reprText
  rw [Array.toList_push, ← Array.foldl_toList, fold_signs _ _ h]
  simp
theorem quote_is (x : Str) : reprQuote x = 34 ∨ reprQuote x = 39 := by
  unfold reprQuote
  split
  · exact .inl rfl
  · exact .inr rfl
theorem sign_head {q : Nat} (hq : q = 34 ∨ q = 39) {c : Nat} (hc : niceC c = true) : ∃ a r, sign q c = a :: r ∧ a ≠ q := by
  unfold sign
  split
  · exact ⟨_, _, rfl, by omega⟩
  · rename_i h
    simp at h
    split
    · exact ⟨_, _, rfl, by omega⟩
    · split
      · exact ⟨_, _, rfl, by omega⟩
      · split
        · exact ⟨_, _, rfl, by omega⟩
        · exact ⟨_, _, rfl, by omega⟩
theorem sign_inj {q : Nat} (hq : q = 34 ∨ q = 39) {c d : Nat} {s t : List Nat} (h : sign q c ++ s = sign q d ++ t) : c = d ∧ s = t := by
  unfold sign at h
  simp only [Bool.or_eq_true, beq_iff_eq] at h
  repeat' split at h
  all_goals
    simp only [List.cons_append, List.nil_append, List.cons.injEq] at h
    first
    | (exfalso; omega)
    | exact ⟨by omega, h.2.2⟩
    | exact ⟨h.1, h.2⟩
theorem signs_inj {q : Nat} (hq : q = 34 ∨ q = 39) : ∀ {x y s t : List Nat}, x.all niceC = true → y.all niceC = true → signs q x ++ (q :: s) = signs q y ++ (q :: t) → x = y ∧ s = t
  | [], [], s, t, _, _, h => ⟨rfl, (List.cons.inj h).2⟩
  | [], d :: y, s, t, _, hy, h => by
    rw [List.all_cons, Bool.and_eq_true] at hy
    obtain ⟨a, r, e, n⟩ := sign_head hq hy.1
    unfold signs at h
    rw [e] at h
    exact absurd (List.cons.inj h).1.symm n
  | c :: x, [], s, t, hx, _, h => by
    rw [List.all_cons, Bool.and_eq_true] at hx
    obtain ⟨a, r, e, n⟩ := sign_head hq hx.1
    have h : sign q c ++ signs q x ++ (q :: s) = q :: t := h
    rw [e] at h
    exact absurd (List.cons.inj h).1 n
  | c :: x, d :: y, s, t, hx, hy, h => by
    rw [List.all_cons, Bool.and_eq_true] at hx hy
    have h : sign q c ++ signs q x ++ (q :: s) = sign q d ++ signs q y ++ (q :: t) := h
    rw [List.append_assoc, List.append_assoc] at h
    obtain ⟨e1, h2⟩ := sign_inj hq h
    subst e1
    obtain ⟨rfl, e⟩ := signs_inj hq hx.2 hy.2 h2
    exact ⟨rfl, e⟩
theorem str_inj {x y : Str} {s t : List Nat} (hx : niceD (.str x) = true) (hy : niceD (.str y) = true) (h : code (.str x) ++ s = code (.str y) ++ t) : x = y ∧ s = t := by
  rw [code_str hx, code_str hy] at h
  have e := (List.cons.inj h).1
  have h : (signs (reprQuote x) x.cps.toList ++ [reprQuote x]) ++ s = (signs (reprQuote y) y.cps.toList ++ [reprQuote y]) ++ t := (List.cons.inj h).2
  rw [← e] at h
  rw [List.append_assoc, List.append_assoc] at h
  unfold niceD at hx hy
  obtain ⟨a, b⟩ := signs_inj (quote_is x) hx hy h
  obtain ⟨⟨x⟩⟩ := x
  obtain ⟨⟨y⟩⟩ := y
  simp at a
  subst a
  exact ⟨rfl, b⟩
/-! tuples -/
def rest : List PyData → List Nat
  | [] => [41]
  | x :: r => 44 :: 32 :: (code x ++ rest r)
theorem stop_rest : ∀ (xs : List PyData) (s : List Nat), Stop (rest xs ++ s)
  | [], s => stop_41 s
  | x :: r, s => stop_44 _
theorem join_code : ∀ (x : PyData) (r : List PyData), (Str.join ", " (PyData.shownAll (x :: r))).cps.toList ++ [41] = code x ++ rest r
  | x, [] => rfl
  | x, y :: r => by
    show (x.shown ++ Str.ofString ", " ++ Str.join ", " (PyData.shownAll (y :: r))).cps.toList ++ [41] = _
    rw [show (x.shown ++ Str.ofString ", " ++ Str.join ", " (PyData.shownAll (y :: r))).cps = x.shown.cps ++ (Str.ofString ", ").cps ++ (Str.join ", " (PyData.shownAll (y :: r))).cps from rfl]
    rw [Array.toList_append, Array.toList_append, List.append_assoc, join_code y r]
    show x.shown.cps.toList ++ [44, 32] ++ _ = _
    rw [List.append_assoc]
    rfl
theorem code_tup0 : code (.tuple []) = [40, 41] := by
  show (PyData.shown (.tuple [])).cps.toList = _
  simp only [PyData.shown, PyData.shownAll]
  rfl
theorem code_tup1 (x : PyData) : code (.tuple [x]) = 40 :: (code x ++ [44, 41]) := by
  show (PyData.shown (.tuple [x])).cps.toList = _
  simp only [PyData.shown, PyData.shownAll]
  show ((Str.ofString "(" ++ x.shown) ++ Str.ofString ",)").cps.toList = _
  rw [show ((Str.ofString "(" ++ x.shown) ++ Str.ofString ",)").cps = (Str.ofString "(").cps ++ x.shown.cps ++ (Str.ofString ",)").cps from rfl]
  rw [Array.toList_append, Array.toList_append]
  rfl
theorem code_tup2 (x y : PyData) (r : List PyData) : code (.tuple (x :: y :: r)) = 40 :: (code x ++ rest (y :: r)) := by
  show (PyData.shown (.tuple (x :: y :: r))).cps.toList = _
  rw [← join_code]
  rw [show PyData.shown (.tuple (x :: y :: r)) = tupleText (PyData.shownAll (x :: y :: r)) by simp only [PyData.shown]]
  unfold tupleText
  have e : ((PyData.shownAll (x :: y :: r)).length == 1) = false := by
    simp only [PyData.shownAll, List.length_cons]
    simp
  rw [e]
  show (("(" : Str) ++ Str.join ", " (PyData.shownAll (x :: y :: r)) ++ (")" : Str)).cps.toList = _
  rw [show (("(" : Str) ++ Str.join ", " (PyData.shownAll (x :: y :: r)) ++ (")" : Str)).cps = (Str.ofString "(").cps ++ (Str.join ", " (PyData.shownAll (x :: y :: r))).cps ++ (Str.ofString ")").cps from rfl]
  rw [Array.toList_append, Array.toList_append]
  rfl
/-! what a value begins with -/
def kind : PyData → Nat
  | .none => 0
  | .bool true => 1
  | .bool false => 2
  | .int _ => 3
  | .str _ => 4
  | .tuple _ => 5
  | _ => 6
def kindC (c : Nat) : Nat := if c = 78 then 0 else if c = 84 then 1 else if c = 70 then 2 else if c = 45 ∨ (48 ≤ c ∧ c ≤ 57) then 3 else if c = 34 ∨ c = 39 then 4 else if c = 40 then 5 else 7
theorem code_none : code .none = [78, 111, 110, 101] := by
  show (PyData.shown .none).cps.toList = _
  rw [PyData.shown_none]; rfl
theorem code_true : code (.bool true) = [84, 114, 117, 101] := by
  show (PyData.shown (.bool true)).cps.toList = _
  simp only [PyData.shown]; rfl
theorem code_false : code (.bool false) = [70, 97, 108, 115, 101] := by
  show (PyData.shown (.bool false)).cps.toList = _
  simp only [PyData.shown]; rfl
theorem head_kind : ∀ {x : PyData}, niceD x = true → ∃ c r, code x = c :: r ∧ kindC c = kind x
  | .none, _ => ⟨_, _, code_none, rfl⟩
  | .bool true, _ => ⟨_, _, code_true, rfl⟩
  | .bool false, _ => ⟨_, _, code_false, rfl⟩
  | .int (.ofNat n), _ => by
    rw [show Int.ofNat n = (n : Int) from rfl, code_nat]
    cases hd : digs n with
    | nil => exact absurd hd (digs_ne n)
    | cons x xs =>
      have := digs_digit (n := n) (c := x) (by rw [hd]; exact List.mem_cons_self)
      refine ⟨_, _, rfl, ?_⟩
      unfold kindC kind
      rw [if_neg (by omega), if_neg (by omega), if_neg (by omega), if_pos (by omega)]
  | .int (.negSucc n), _ => ⟨_, _, code_neg n, rfl⟩
  | .str x, h => by
    refine ⟨_, _, code_str h, ?_⟩
    rcases quote_is x with e | e <;> rw [e] <;> rfl
  | .tuple [], _ => ⟨_, _, code_tup0, rfl⟩
  | .tuple [x], _ => ⟨_, _, code_tup1 x, rfl⟩
  | .tuple (x :: y :: r), _ => ⟨_, _, code_tup2 x y r, rfl⟩
  | .list _, h => by unfold niceD at h; cases h
  | .dict _, h => by unfold niceD at h; cases h
theorem kind_eq {x y : PyData} {s t : List Nat} (hx : niceD x = true) (hy : niceD y = true) (h : code x ++ s = code y ++ t) : kind x = kind y := by
  obtain ⟨c, r, e1, k1⟩ := head_kind hx
  obtain ⟨d, u, e2, k2⟩ := head_kind hy
  rw [e1, e2] at h
  have := (List.cons.inj h).1
  rw [← k1, ← k2, this]
theorem not_41 {y : PyData} (hy : niceD y = true) {s t : List Nat} : 41 :: s ≠ code y ++ t := fun h => by
  obtain ⟨d, u, e2, k2⟩ := head_kind hy
  rw [e2] at h
  have e := (List.cons.inj h).1
  rw [← e] at k2
  have : kindC 41 = 7 := rfl
  rw [this] at k2
  cases y with
  | bool b => cases b <;> cases k2
  | _ => cases k2
mutual
theorem code_inj : ∀ {x y : PyData} {s t : List Nat}, niceD x = true → niceD y = true → Stop s → Stop t → code x ++ s = code y ++ t → x = y ∧ s = t
  | .none, y, s, t, hx, hy, hs, ht, h => by
    have k := kind_eq hx hy h
    cases y with
    | none => exact ⟨rfl, List.append_cancel_left h⟩
    | bool b => cases b <;> cases k
    | _ => cases k
  | .bool true, y, s, t, hx, hy, hs, ht, h => by
    have k := kind_eq hx hy h
    cases y with
    | bool b =>
      cases b with
      | true => exact ⟨rfl, List.append_cancel_left h⟩
      | false => cases k
    | _ => cases k
  | .bool false, y, s, t, hx, hy, hs, ht, h => by
    have k := kind_eq hx hy h
    cases y with
    | bool b =>
      cases b with
      | false => exact ⟨rfl, List.append_cancel_left h⟩
      | true => cases k
    | _ => cases k
  | .int i, y, s, t, hx, hy, hs, ht, h => by
    have k := kind_eq hx hy h
    cases y with
    | int j =>
      obtain ⟨e, e2⟩ := int_inj hs ht h
      exact ⟨by rw [e], e2⟩
    | bool b => cases b <;> cases k
    | _ => cases k
  | .str x, y, s, t, hx, hy, hs, ht, h => by
    have k := kind_eq hx hy h
    cases y with
    | str j =>
      obtain ⟨e, e2⟩ := str_inj hx hy h
      exact ⟨by rw [e], e2⟩
    | bool b => cases b <;> cases k
    | _ => cases k
  | .tuple xs, y, s, t, hx, hy, hs, ht, h => by
    have k := kind_eq hx hy h
    cases y with
    | tuple ys =>
      unfold niceD at hx hy
      match xs, ys with
      | [], [] => exact ⟨rfl, List.append_cancel_left h⟩
      | [], y :: ys =>
        unfold niceDs at hy
        rw [Bool.and_eq_true] at hy
        rw [code_tup0] at h
        cases ys with
        | nil =>
          rw [code_tup1] at h
          have h : 41 :: s = (code y ++ [44, 41]) ++ t := (List.cons.inj h).2
          rw [List.append_assoc] at h
          exact absurd h (not_41 hy.1)
        | cons z ys =>
          rw [code_tup2] at h
          have h : 41 :: s = (code y ++ rest (z :: ys)) ++ t := (List.cons.inj h).2
          rw [List.append_assoc] at h
          exact absurd h (not_41 hy.1)
      | x :: xs, [] =>
        unfold niceDs at hx
        rw [Bool.and_eq_true] at hx
        rw [code_tup0] at h
        cases xs with
        | nil =>
          rw [code_tup1] at h
          have h : (code x ++ [44, 41]) ++ s = 41 :: t := (List.cons.inj h).2
          rw [List.append_assoc] at h
          exact absurd h.symm (not_41 hx.1)
        | cons z ys =>
          rw [code_tup2] at h
          have h : (code x ++ rest (z :: ys)) ++ s = 41 :: t := (List.cons.inj h).2
          rw [List.append_assoc] at h
          exact absurd h.symm (not_41 hx.1)
      | [x], [y] =>
        unfold niceDs at hx hy
        rw [Bool.and_eq_true] at hx hy
        rw [code_tup1, code_tup1] at h
        have h : (code x ++ [44, 41]) ++ s = (code y ++ [44, 41]) ++ t := (List.cons.inj h).2
        rw [List.append_assoc, List.append_assoc] at h
        obtain ⟨rfl, e⟩ := code_inj hx.1 hy.1 (stop_44 _) (stop_44 _) h
        exact ⟨rfl, (List.cons.inj (List.cons.inj e).2).2⟩
      | [x], y :: z :: ys =>
        unfold niceDs at hx hy
        rw [Bool.and_eq_true] at hx hy
        rw [code_tup1, code_tup2] at h
        have h : (code x ++ [44, 41]) ++ s = (code y ++ rest (z :: ys)) ++ t := (List.cons.inj h).2
        rw [List.append_assoc, List.append_assoc] at h
        obtain ⟨rfl, e⟩ := code_inj hx.1 hy.1 (stop_44 _) (stop_rest _ _) h
        exact absurd (List.cons.inj (List.cons.inj e).2).1 (by decide)
      | x :: z :: xs, [y] =>
        unfold niceDs at hx hy
        rw [Bool.and_eq_true] at hx hy
        rw [code_tup2, code_tup1] at h
        have h : (code x ++ rest (z :: xs)) ++ s = (code y ++ [44, 41]) ++ t := (List.cons.inj h).2
        rw [List.append_assoc, List.append_assoc] at h
        obtain ⟨rfl, e⟩ := code_inj hx.1 hy.1 (stop_rest _ _) (stop_44 _) h
        exact absurd (List.cons.inj (List.cons.inj e).2).1 (by decide)
      | x :: z :: xs, y :: z' :: ys =>
        unfold niceDs at hx hy
        rw [Bool.and_eq_true] at hx hy
        rw [code_tup2, code_tup2] at h
        have h : (code x ++ rest (z :: xs)) ++ s = (code y ++ rest (z' :: ys)) ++ t := (List.cons.inj h).2
        rw [List.append_assoc, List.append_assoc] at h
        obtain ⟨rfl, e⟩ := code_inj hx.1 hy.1 (stop_rest _ _) (stop_rest _ _) h
        obtain ⟨e1, e2⟩ := rest_inj hx.2 hy.2 e
        exact ⟨by rw [e1], e2⟩
    | bool b => cases b <;> cases k
    | _ => cases k
  | .list _, _, _, _, h, _, _, _, _ => by unfold niceD at h; cases h
  | .dict _, _, _, _, h, _, _, _, _ => by unfold niceD at h; cases h
theorem rest_inj : ∀ {xs ys : List PyData} {s t : List Nat}, niceDs xs = true → niceDs ys = true → rest xs ++ s = rest ys ++ t → xs = ys ∧ s = t
  | [], [], s, t, _, _, h => ⟨rfl, (List.cons.inj h).2⟩
  | [], y :: ys, s, t, _, _, h => absurd (List.cons.inj h).1 (by decide)
  | x :: xs, [], s, t, _, _, h => absurd (List.cons.inj h).1 (by decide)
  | x :: xs, y :: ys, s, t, hx, hy, h => by
    unfold niceDs at hx hy
    rw [Bool.and_eq_true] at hx hy
    have h : 44 :: 32 :: (code x ++ rest xs) ++ s = 44 :: 32 :: (code y ++ rest ys) ++ t := h
    have h := (List.cons.inj (List.cons.inj h).2).2
    have h : (code x ++ rest xs) ++ s = (code y ++ rest ys) ++ t := h
    rw [List.append_assoc, List.append_assoc] at h
    obtain ⟨rfl, e⟩ := code_inj hx.1 hy.1 (stop_rest _ _) (stop_rest _ _) h
    obtain ⟨e1, e2⟩ := rest_inj hx.2 hy.2 e
    exact ⟨by rw [e1], e2⟩
end
theorem shown_inj {x y : PyData} (hx : niceD x = true) (hy : niceD y = true) : x.shown = y.shown ↔ x = y := by
  constructor
  · intro h
    exact (code_inj (s := []) (t := []) hx hy stop_nil stop_nil (by rw [show code x = code y from by unfold code; rw [h]])).1
  · rintro rfl; rfl
end ZS

namespace ZL
open PySem PySem.Spec PyProof.Rows L2
/-! ### repr of a value -/
theorem shw_int {i : Int} (h : i.natAbs < 1000000000000000000000000000000000000000000000000000000000000) : (PyData.int i).showable = true ∧ (PyData.int i).shown.length ≤ 62 := by
  constructor
  · unfold PyData.showable
    have : i.natAbs.log2 < 1920 := by
      rcases Nat.eq_zero_or_pos i.natAbs with e | e
      · rw [e]; decide
      · exact (Nat.log2_lt (by omega)).mpr (Nat.lt_trans h (by decide +kernel))
    simpa using this
  · exact Nat.le_trans (ZS.int_len (k := 60) (by decide) (Nat.lt_of_lt_of_le h (by decide +kernel))) (by decide)
mutual
/-- no text of repr is longer -/
def tlenZ : Z → Nat
  | .non => 4
  | .bl _ => 5
  | .int _ => 62
  | .str x => 10 * x.length + 2
  | .tup zs => tlenZs zs + 3
  | _ => 0
def tlenZs : List Z → Nat
  | [] => 0
  | z :: zs => tlenZ z + 2 + tlenZs zs
end
mutual
theorem shown_plain : ∀ {d : Nat} {z : Z}, plainB d z = true → okS z = true → z.toD.showable = true ∧ z.toD.shown.length ≤ tlenZ z
  | d, .non, _, _ => ⟨rfl, by decide +kernel⟩
  | d, .bl b, _, _ => ⟨rfl, by cases b <;> decide +kernel⟩
  | d, .int i, p, _ => by
    rw [pl_int] at p
    exact shw_int (of_decide_eq_true p)
  | d, .str x, _, s => by
    unfold okS at s
    have s := (Bool.and_eq_true_iff.mp s).1
    refine ⟨rfl, ?_⟩
    show (PyData.str x).shown.length ≤ 10 * x.length + 2
    rw [PyData.shown_str]
    refine StrLaws.reprText_len x fun c hc => ?_
    unfold PyData.strOk at s
    rw [Array.all_eq_true_iff_forall_mem] at s
    have := s c (by simpa using hc)
    simp only [decide_eq_true_eq] at this
    omega
  | d, .scr _, p, _ => by rw [pl_scr] at p; cases p
  | d, .ref _, p, _ => by rw [pl_ref] at p; cases p
  | d, .err _, p, _ => by cases d <;> cases p
  | 0, .tup zs, p, _ => by cases p
  | d + 1, .tup zs, p, s => by
    unfold plainB at p
    unfold okS at s
    obtain ⟨a, b⟩ := showns_plain p s
    show PyData.showable (.tuple (Z.toDs zs)) = true ∧ (PyData.tuple (Z.toDs zs)).shown.length ≤ tlenZs zs + 3
    refine ⟨by unfold PyData.showable; exact a, ?_⟩
    unfold PyData.shown
    have := tupleText_len_le (PyData.shownAll (Z.toDs zs))
    have e := PyData.shownAll_length (Z.toDs zs)
    omega
theorem showns_plain : ∀ {d : Nat} {zs : List Z}, plainBs d zs = true → okSs zs = true → PyData.showableAll (Z.toDs zs) = true ∧ ((PyData.shownAll (Z.toDs zs)).map (·.length)).sum + 2 * (Z.toDs zs).length ≤ tlenZs zs
  | d, [], _, _ => ⟨rfl, by simp [Z.toDs, PyData.shownAll, tlenZs]⟩
  | d, z :: zs, p, s => by
    unfold plainBs at p
    unfold okSs at s
    obtain ⟨p1, p2⟩ := Bool.and_eq_true_iff.mp p
    obtain ⟨s1, s2⟩ := Bool.and_eq_true_iff.mp s
    obtain ⟨a1, b1⟩ := shown_plain p1 s1
    obtain ⟨a2, b2⟩ := showns_plain p2 s2
    unfold Z.toDs PyData.showableAll PyData.shownAll tlenZs
    rw [a1, a2]
    refine ⟨rfl, ?_⟩
    simp only [List.map_cons, List.sum_cons, List.length_cons]
    omega
end
/-- the text of repr -/
def shw (z : Z) : Str := z.toD.shown
theorem repr_plain {d : Nat} {z : Z} {h : ZH} (p : plainB d z = true) (s : okS z = true) (hd : d ≤ 60) (l : tlenZ z ≤ 16777216) {P : PZ} (q : P (.str (shw z)) h) : oRepr [z] h P := by
  obtain ⟨a, b⟩ := plain_ok p s
  obtain ⟨c, e⟩ := shown_plain p s
  have f := dOf_ok (h := h) a
  refine ⟨okD_of a (by omega), ?_⟩
  rw [f]
  refine ⟨c, PyData.hasDict_of_canLay _ (lay_of a).1, ?_, q⟩
  rw [sizeLine_eq]; omega
/-- .. of a list of such -/
theorem repr_lst {d n : Nat} {zs : List Z} {h : ZH} (e : h[n]? = some (.lst zs)) (p : zs.all (plainB d) = true) (s : zs.all okS = true) (hd : d ≤ 60) (l : tlenZs zs + 3 ≤ 16777216) {P : PZ} (q : P (.str (PyData.shown (.list (zs.map Z.toD)))) h) : oRepr [.ref n] h P := by
  have o : OkL zs := fun z hz => by
    rw [List.all_eq_true] at p s
    obtain ⟨a, b⟩ := plain_ok (p z hz) (s z hz)
    exact ⟨a, by omega⟩
  rw [← plainBs_all] at p
  rw [← okSs_all] at s
  obtain ⟨a, b⟩ := showns_plain p s
  have f := dOf_lst e o
  refine ⟨okD_lst e o, ?_⟩
  rw [f]
  obtain ⟨o1, _⟩ := okL_all o
  obtain ⟨c, _⟩ := lays_of o1
  rw [toDs_map] at a b c
  refine ⟨by unfold PyData.showable; exact a, ?_, ?_, q⟩
  · unfold PyData.hasDict
    exact PyData.hasDictAll_of_canLayAll _ c
  · unfold PyData.shown
    have := listText_len_le (PyData.shownAll (zs.map Z.toD))
    have e := PyData.shownAll_length (zs.map Z.toD)
    rw [sizeLine_eq]
    omega
/-! ### repr tells apart -/
mutual
def niceZ : Z → Bool
  | .non => true
  | .bl _ => true
  | .int _ => true
  | .str x => x.cps.toList.all ZS.niceC
  | .tup zs => niceZs zs
  | _ => false
def niceZs : List Z → Bool
  | [] => true
  | z :: zs => niceZ z && niceZs zs
end
theorem niceZs_all : ∀ {zs : List Z}, niceZs zs = zs.all niceZ
  | [] => by unfold niceZs; rfl
  | z :: zs => by unfold niceZs; rw [niceZs_all]; rfl
mutual
theorem nice_toD : ∀ {z : Z}, niceZ z = true → ZS.niceD z.toD = true
  | .non, _ => by unfold Z.toD ZS.niceD; rfl
  | .bl _, _ => by unfold Z.toD ZS.niceD; rfl
  | .int _, _ => by unfold Z.toD ZS.niceD; rfl
  | .str x, h => by unfold Z.toD ZS.niceD; unfold niceZ at h; exact h
  | .tup zs, h => by
    unfold Z.toD ZS.niceD
    unfold niceZ at h
    exact nices_toD h
  | .scr _, h => by unfold niceZ at h; cases h
  | .ref _, h => by unfold niceZ at h; cases h
  | .err _, h => by unfold niceZ at h; cases h
theorem nices_toD : ∀ {zs : List Z}, niceZs zs = true → ZS.niceDs (Z.toDs zs) = true
  | [], _ => by unfold Z.toDs ZS.niceDs; rfl
  | z :: zs, h => by
    unfold Z.toDs ZS.niceDs
    unfold niceZs at h
    obtain ⟨a, b⟩ := Bool.and_eq_true_iff.mp h
    rw [nice_toD a, nices_toD b]
    rfl
end
mutual
theorem toD_inj : ∀ {x y : Z}, niceZ x = true → niceZ y = true → x.toD = y.toD → x = y
  | .non, y, _, hy, h => by cases y <;> unfold Z.toD at h <;> first | rfl | cases h | (unfold niceZ at hy; cases hy)
  | .bl _, y, _, hy, h => by cases y <;> unfold Z.toD at h <;> first | (cases h; rfl) | cases h | (unfold niceZ at hy; cases hy)
  | .int _, y, _, hy, h => by cases y <;> unfold Z.toD at h <;> first | (cases h; rfl) | cases h | (unfold niceZ at hy; cases hy)
  | .str _, y, _, hy, h => by cases y <;> unfold Z.toD at h <;> first | (cases h; rfl) | cases h | (unfold niceZ at hy; cases hy)
  | .tup xs, y, hx, hy, h => by
    cases y with
    | tup ys =>
      unfold Z.toD at h
      unfold niceZ at hx hy
      rw [toDs_inj hx hy (PyData.tuple.inj h)]
    | scr _ => unfold niceZ at hy; cases hy
    | ref _ => unfold niceZ at hy; cases hy
    | err _ => unfold niceZ at hy; cases hy
    | _ => unfold Z.toD at h; cases h
  | .scr _, _, h, _, _ => by unfold niceZ at h; cases h
  | .ref _, _, h, _, _ => by unfold niceZ at h; cases h
  | .err _, _, h, _, _ => by unfold niceZ at h; cases h
theorem toDs_inj : ∀ {xs ys : List Z}, niceZs xs = true → niceZs ys = true → Z.toDs xs = Z.toDs ys → xs = ys
  | [], [], _, _, _ => rfl
  | [], _ :: _, _, _, h => by unfold Z.toDs at h; cases h
  | _ :: _, [], _, _, h => by unfold Z.toDs at h; cases h
  | x :: xs, y :: ys, hx, hy, h => by
    unfold Z.toDs at h
    unfold niceZs at hx hy
    obtain ⟨a1, a2⟩ := Bool.and_eq_true_iff.mp hx
    obtain ⟨b1, b2⟩ := Bool.and_eq_true_iff.mp hy
    obtain ⟨e1, e2⟩ := List.cons.inj h
    rw [toD_inj a1 b1 e1, toDs_inj a2 b2 e2]
end
theorem shw_inj {x y : Z} (hx : niceZ x = true) (hy : niceZ y = true) : shw x = shw y ↔ x = y := by
  constructor
  · intro h
    exact toD_inj hx hy ((ZS.shown_inj (nice_toD hx) (nice_toD hy)).mp h)
  · rintro rfl; rfl
end ZL

namespace ZL
open PySem PySem.Spec PyProof.Rows L2
/-! ### repr of a dict of plain keys and values -/
mutual
def flatD : PyData → Bool
  | .none => true
  | .bool _ => true
  | .int _ => true
  | .str _ => true
  | .tuple xs => flatDs xs
  | _ => false
def flatDs : List PyData → Bool
  | [] => true
  | x :: xs => flatD x && flatDs xs
end
mutual
theorem reads_flat {h : Heap} : ∀ {d : PyData} {u : Value} {as : List Addr}, flatD d = true → Reads h u d as → as = []
  | .none, _, _, _, r => by cases r; rfl
  | .bool _, _, _, _, r => by cases r; rfl
  | .int _, _, _, _, r => by cases r; rfl
  | .str _, _, _, _, r => by cases r; rfl
  | .tuple xs, _, _, f, r => by
    cases r with
    | tuple h1 h2 h3 h4 =>
      unfold flatD at f
      exact readsAll_flat f h4
  | .list xs, _, _, f, _ => by unfold flatD at f; cases f
  | .dict xs, _, _, f, _ => by unfold flatD at f; cases f
theorem readsAll_flat {h : Heap} : ∀ {ds : List PyData} {us : List Value} {as : List Addr}, flatDs ds = true → ReadsAll h us ds as → as = []
  | [], _, _, _, r => by cases r; rfl
  | d :: ds, _, _, f, r => by
    cases r with
    | cons r1 r2 =>
      unfold flatDs at f
      obtain ⟨f1, f2⟩ := Bool.and_eq_true_iff.mp f
      rw [reads_flat f1 r1, readsAll_flat f2 r2]
      rfl
end
mutual
theorem flat_nice : ∀ {z : Z}, niceZ z = true → flatD z.toD = true
  | .non, _ => by unfold Z.toD flatD; rfl
  | .bl _, _ => by unfold Z.toD flatD; rfl
  | .int _, _ => by unfold Z.toD flatD; rfl
  | .str _, _ => by unfold Z.toD flatD; rfl
  | .tup zs, h => by
    unfold Z.toD flatD
    unfold niceZ at h
    exact flats_nice h
  | .scr _, h => by unfold niceZ at h; cases h
  | .ref _, h => by unfold niceZ at h; cases h
  | .err _, h => by unfold niceZ at h; cases h
theorem flats_nice : ∀ {zs : List Z}, niceZs zs = true → flatDs (Z.toDs zs) = true
  | [], _ => by unfold Z.toDs flatDs; rfl
  | z :: zs, h => by
    unfold Z.toDs flatDs
    unfold niceZs at h
    obtain ⟨a, b⟩ := Bool.and_eq_true_iff.mp h
    rw [flat_nice a, flats_nice b]
    rfl
end
/-- a key or a value of such a dict -/
structure DvOk (z : Z) : Prop where
  n : niceZ z = true
  o : okZ z = true
  d : depZ z ≤ 60
  s : z.toD.showable = true
def dictD (kvs : List (Z × Z)) : List (PyData × PyData) := kvs.map fun p => (p.1.toD, p.2.toD)
def shwD (kvs : List (Z × Z)) : Str := PyData.shown (.dict (dictD kvs))
section
variable {X : Cx} {pins : List (Addr × Obj)} {σ : L2.St} {H : Hp} {s : Shared} {μ : List Addr}
theorem reads_z (I : Inv X pins σ H s) {z : Z} {v : V} {u : Value} (ok : DvOk z) (r : RepV X.K μ H z v) (rv : RelV v u) : Reads s.heap u z.toD [] := by
  obtain ⟨as, h⟩ := Dp.reads I z.toD v u (dp_of (lay_of ok.o).1 r) rv
  have := reads_flat (flat_nice ok.n) h
  subst this
  exact h
theorem reads_key {h : Heap} {k : Key} {u : Value} (e : keyIs k u = true) : Reads h u (keyZ k).toD [] := by
  rcases keyIs_shape e with ⟨i, t, rfl, rfl⟩ | ⟨x, t, rfl, rfl⟩
  · unfold keyZ Z.toD; exact .int i t
  · unfold keyZ Z.toD; exact .str x t
theorem kr_reads (I : Inv X pins σ H s) : ∀ {kvs : List (Z × Z)} {l : List (Key × V)} {vs : List (Key × Value)} {es : List DictEntry}, Paired (KR X.K μ H) kvs l → KV l vs → Pairs (mixKind X.prog X.w) es vs → (∀ p ∈ kvs, DvOk p.1 ∧ DvOk p.2) →
    ReadsAll s.heap (es.map (·.key)) ((dictD kvs).map (·.1)) [] ∧ ReadsAll s.heap (es.map (·.val)) ((dictD kvs).map (·.2)) []
  | [], [], vs, es, .nil, kv, ps, _ => by
    cases kv
    cases ps
    exact ⟨.nil, .nil⟩
  | p :: kvs, q :: l, vs, es, .cons h1 h2, kv, ps, ok => by
    cases kv with
    | cons k1 k2 =>
      cases ps with
      | cons e1 e2 e3 =>
        obtain ⟨r1, r2⟩ := kr_reads I h2 k2 e3 fun y m => ok y (List.mem_cons_of_mem _ m)
        obtain ⟨o1, o2⟩ := ok p List.mem_cons_self
        refine ⟨.cons (as := []) (bs := []) ?_ r1, .cons (as := []) (bs := []) ?_ r2⟩
        · rw [← k1.1] at e1
          show Reads s.heap _ p.1.toD []
          rw [show p.1 = keyZ q.1 from h1.1]
          exact reads_key e1
        · have := reads_z I o2 h1.2 k1.2
          rw [← e2] at this
          exact this
theorem tr_reads (I : Inv X pins σ H s) : ∀ {kvs : List (Z × Z)} {l : List (List Key × V)} {xs : List (List Key × Addr × Value)}, Paired (TR X.K μ H) kvs l → KT H l xs → (∀ p ∈ kvs, DvOk p.1 ∧ DvOk p.2) →
    ReadsAll s.heap ((xs.map (entryOfKey (tupleKind (mixKind X.prog X.w)))).map (·.key)) ((dictD kvs).map (·.1)) [] ∧ ReadsAll s.heap ((xs.map (entryOfKey (tupleKind (mixKind X.prog X.w)))).map (·.val)) ((dictD kvs).map (·.2)) []
  | [], [], xs, .nil, kt, _ => by
    cases kt
    exact ⟨.nil, .nil⟩
  | p :: kvs, q :: l, xs, .cons h1 h2, kt, ok => by
    cases kt with
    | @cons _ y _ _ k1 k2 =>
      obtain ⟨r1, r2⟩ := tr_reads I h2 k2 fun y m => ok y (List.mem_cons_of_mem _ m)
      obtain ⟨o1, o2⟩ := ok p List.mem_cons_self
      refine ⟨.cons (as := []) (bs := []) ?_ r1, .cons (as := []) (bs := []) ?_ r2⟩
      · have hb := k1.2.1
        have da : ∀ ks : List Key, DpAll X.K H (ks.map kV) (Z.toDs (ks.map keyZ)) := by
          intro ks
          induction ks with
          | nil => exact .nil
          | cons k ks ih =>
            rw [List.map_cons, List.map_cons]
            unfold Z.toDs
            refine .cons ?_ ih
            cases k with
            | inl i => exact .int i
            | inr x => exact .str x
        have e : p.1.toD = .tuple (Z.toDs (q.1.map keyZ)) := by rw [show p.1 = .tup (q.1.map keyZ) from h1.1]; unfold Z.toD; rfl
        show Reads s.heap (.ref y.2.1) p.1.toD []
        obtain ⟨as, rd⟩ := Dp.reads I (.tuple (Z.toDs (q.1.map keyZ))) (.ref y.2.1) (.ref y.2.1) (.tup (.inl (.inl hb)) (da q.1)) rfl
        rw [← e] at rd
        have := reads_flat (flat_nice o1.n) rd
        subst this
        exact rd
      · exact reads_z I o2 h1.2 k1.2.2
end
theorem depthKv_le {kvs : List (Z × Z)} (ok : ∀ p ∈ kvs, DvOk p.1 ∧ DvOk p.2) : PyData.depthKv (dictD kvs) ≤ 60 := by
  induction kvs with
  | nil => show PyData.depthKv [] ≤ 60; unfold PyData.depthKv; omega
  | cons p kvs ih =>
    obtain ⟨o1, o2⟩ := ok p List.mem_cons_self
    have h := ih fun y m => ok y (List.mem_cons_of_mem _ m)
    have h1 := (lay_of o1.o).2
    have h2 := (lay_of o2.o).2
    have d1 := o1.d
    have d2 := o2.d
    show PyData.depthKv ((p.1.toD, p.2.toD) :: dictD kvs) ≤ 60
    unfold PyData.depthKv
    omega
theorem showKv_ok {kvs : List (Z × Z)} (ok : ∀ p ∈ kvs, DvOk p.1 ∧ DvOk p.2) : PyData.showableKv (dictD kvs) = true := by
  induction kvs with
  | nil => show PyData.showableKv [] = true; unfold PyData.showableKv; rfl
  | cons p kvs ih =>
    obtain ⟨o1, o2⟩ := ok p List.mem_cons_self
    have h := ih fun y m => ok y (List.mem_cons_of_mem _ m)
    show PyData.showableKv ((p.1.toD, p.2.toD) :: dictD kvs) = true
    unfold PyData.showableKv
    rw [o1.s, o2.s, h]
    rfl
section
variable {X : Cx}
theorem call_reprD (hg : X.A.guards = some []) (hu : X.A.units + 66 < cLine) : CallR X (.builtin "repr") (fun xs H Q => ∃ μ a o kvs, xs = [.ref a] ∧ H a = some o ∧ DictR X.K μ H kvs o ∧ (∀ p ∈ kvs, DvOk p.1 ∧ DvOk p.2) ∧ (shwD kvs).length ≤ sizeLine ∧ Q (.str (shwD kvs)) H) := by
  intro pins s σ H xs us Q I rv h
  obtain ⟨μ, a, o, kvs, rfl, ha, d, ok, hz, q⟩ := h
  obtain ⟨u, rfl, rx⟩ := vals1 rv
  cases rx
  have go : ∀ {as : List Addr}, Reads s.heap (.ref a) (.dict (dictD kvs)) as → sysModules ∉ as → wpAny (model X.prog X.w) X.A (call (.builtin "repr") [.ref a]) (EP X pins σ Q) X.xe s := fun {as} rd hm => by
    have dp := depthKv_le ok
    refine repr_of_reads' rd (by unfold PyData.showable; exact showKv_ok ok) (fun _ => hm) hg (by simp only [PyData.depth]; omega) (fun _ _ e => e) (fun h' u tk hk => ⟨.str (shwD kvs), H, I.kept hk, ⟨_, rfl⟩, q⟩) hz
  rcases d with ⟨l, rfl, pr⟩ | ⟨l, rfl, pr⟩
  · obtain ⟨_, hs, vs, kv, o, es, ep, e1, e2, e3, _, e5, _⟩ := dk_of I.hok ha
    obtain ⟨r1, r2⟩ := kr_reads I pr kv e5 ok
    exact go (.dict e1 e2.1 e3 r1 r2) (by simpa using fun e => by rw [← e] at hs; simp at hs)
  · obtain ⟨_, hs, xs, kt, o, es, ep, e1, e2, e3, e4, _⟩ := dt_of I.hok ha
    obtain ⟨r1, r2⟩ := tr_reads I pr kt ok
    rw [← e4] at r1 r2
    exact go (.dict e1 e2.1 e3 r1 r2) (by simpa using fun e => by rw [← e] at hs; simp at hs)
def oReprD : Z3 := fun zs h P => match zs with
  | [.ref n] => (match h[n]? with
    | some (.dict kvs) => (∀ p ∈ kvs, DvOk p.1 ∧ DvOk p.2) ∧ (shwD kvs).length ≤ sizeLine ∧ P (.str (shwD kvs)) h
    | _ => False)
  | _ => False
theorem call_reprDZ (hg : X.A.guards = some []) (hu : X.A.units + 66 < cLine) : CallZ X (.builtin "repr") oReprD := by
  refine ⟨_, call_reprD hg hu, fun μ H h zs vs P Q R r o f => ?_⟩
  unfold oReprD at o
  split at o
  · split at o
    · rename_i kvs e1
      obtain ⟨v, rfl, rv⟩ := one_vals r rfl
      obtain ⟨a, ho, rfl, _, hp, d⟩ := dict_of R e1 rv
      obtain ⟨o1, o2, p⟩ := o
      exact ⟨μ, a, ho, kvs, rfl, hp, d, o1, o2, f.here R p rep_str⟩
    · exact o.elim
  · exact o.elim
end
@[simp] theorem oReprD_1 {n : Nat} {h : ZH} {P : PZ} : oReprD [.ref n] h P = (match h[n]? with
    | some (.dict kvs) => (∀ p ∈ kvs, DvOk p.1 ∧ DvOk p.2) ∧ (shwD kvs).length ≤ sizeLine ∧ P (.str (shwD kvs)) h
    | _ => False) := noRfl rfl
/-! the length of the text -/
theorem kv_le : ∀ {kvs : List (Z × Z)}, (∀ p ∈ kvs, (p.1.toD).shown.length ≤ tlenZ p.1 ∧ (p.2.toD).shown.length ≤ tlenZ p.2) → ((PyData.shownKv (dictD kvs)).map (·.length)).sum + 2 * kvs.length ≤ (kvs.map fun p => tlenZ p.1 + tlenZ p.2 + 4).sum
  | [], _ => by simp [dictD, PyData.shownKv]
  | p :: kvs, h => by
    have h1 := h p List.mem_cons_self
    have h2 := kv_le (kvs := kvs) fun y m => h y (List.mem_cons_of_mem _ m)
    have l2 : (": " : Str).length = 2 := by decide +kernel
    show ((PyData.shownKv ((p.1.toD, p.2.toD) :: dictD kvs)).map (·.length)).sum + _ ≤ _
    unfold PyData.shownKv
    simp only [List.map_cons, List.sum_cons, List.length_cons, strLen_append, l2]
    omega
theorem shwD_len {kvs : List (Z × Z)} (h : ∀ p ∈ kvs, (p.1.toD).shown.length ≤ tlenZ p.1 ∧ (p.2.toD).shown.length ≤ tlenZ p.2) : (shwD kvs).length ≤ (kvs.map fun p => tlenZ p.1 + tlenZ p.2 + 4).sum + 2 := by
  have h1 := kv_le h
  have h2 := StrLaws.join_length_le ", " (PyData.shownKv (dictD kvs))
  have h3 : (PyData.shownKv (dictD kvs)).length = kvs.length := by
    clear h h1 h2
    induction kvs with
    | nil => rfl
    | cons p kvs ih =>
      show (PyData.shownKv ((p.1.toD, p.2.toD) :: dictD kvs)).length = _
      unfold PyData.shownKv
      rw [List.length_cons, List.length_cons, ih]
  have l2 : (", " : Str).length = 2 := by decide +kernel
  have e : (shwD kvs).length = 1 + (Str.join ", " (PyData.shownKv (dictD kvs))).length + 1 := by
    unfold shwD PyData.shown dictText
    rw [strLen_append, strLen_append]
    rfl
  rw [l2] at h2
  omega
end ZL

namespace K29
open PySem PySem.Spec PyProof.Rows L2 ZL
def top (i : Nat) : Stmt := PySem.Challenge.pw_trothbase_k29_errors.main.body.getD i (.Pass ⟨0, 0, 0, 0⟩)
abbrev s__law_draw : Stmt := top 11
abbrev s__law_raise : Stmt := top 15
abbrev s__law_classes : Stmt := top 14
abbrev s__law_caught : Stmt := top 16
abbrev s__law_text : Stmt := top 12
abbrev s__law_problem : Stmt := top 13
abbrev s_law : Stmt := top 17
/-! ### what the defs do -/
def w__law_draw : WS := (wsSeq (wsIf (wNot (wTru (wVar 0))) (wsRet (w2 oMod (w2 oMul (wVar 1) (wC (.int 5))) (wC (.int 7)))) wsNext) (wsSeq (wsSet 2 (wCB oInt (wCons (w2 oIx (wVar 0) (w2 oMod (wVar 1) (wCB oLen (wCons (wVar 0) wNil)))) wNil))) (wsSeq (wsSet 3 (w2 oFdiv (wVar 1) (wCB oLen (wCons (wVar 0) wNil)))) (wsSeq (wsIf (wB (w2 oGe (wVar 2) (wC (.int 1000000000000000000)))) (wsSeq (wsFor (iR1 (wCons (wCB oMin (wCons (wVar 3) (wCons (wC (.int 60)) wNil))) wNil)) (wgName 4) (wsSet 2 (w2 oFdiv (wVar 2) (wC (.int 100003))))) (wsRet (w2 oMod (wVar 2) (wC (.int 100003))))) wsNext) (wsRet (w2 oMod (w2 oMul (w2 oMod (w2 oAdd (w2 oAdd (w2 oMul (wVar 2) (wC (.int 48271))) (w2 oMul (wVar 1) (wC (.int 69621)))) (wC (.int 13))) (wC (.int 2147483647))) (wC (.int 16807))) (wC (.int 2147483629))))))))
def f__law_draw : WF := wfOf 5 w__law_draw
def w__law_raise : WS := (wsSeq (wsIf (wB (w2 oEq (wVar 0) (wC (.int 0)))) (wsRaiseF "Refused" "problem" (w1 (wVar 2))) wsNext) (wsSeq (wsIf (wB (w2 oEq (wVar 0) (wC (.int 1)))) (wsRaise "InvalidArgument" (w1 (wVar 1))) wsNext) (wsSeq (wsIf (wB (w2 oEq (wVar 0) (wC (.int 2)))) (wsRaise "PowerOff" (w1 (wVar 1))) wsNext) (wsSeq (wsIf (wB (w2 oEq (wVar 0) (wC (.int 3)))) (wsRaise "HouseClosed" (w1 (wVar 1))) wsNext) (wsSeq (wsIf (wB (w2 oEq (wVar 0) (wC (.int 4)))) (wsRaise "MissingPage" (w1 (wVar 1))) wsNext) (wsSeq (wsIf (wB (w2 oEq (wVar 0) (wC (.int 5)))) (wsRaise "NoTransaction" (w1 (wVar 1))) wsNext) (wsSeq (wsIf (wB (w2 oEq (wVar 0) (wC (.int 6)))) (wsRaise "TransactionOpen" (w1 (wVar 1))) wsNext) (wsRaise "StillWaiting" (w1 (wVar 1))))))))))
def f__law_raise : WF := wfOf 3 w__law_raise
def w__law_classes (a : Addr) (d : Option Addr) (x : XZ) : WS := (wsSeq (wsSet 1 (wLst (wCons (wIsX a d x [("TrothError", false), ("Refused", true), ("InvalidArgument", false), ("PowerOff", false), ("HouseClosed", false), ("MissingPage", false), ("NoTransaction", false), ("TransactionOpen", false), ("StillWaiting", false)] (wVar 0)) (wCons (wIsX a d x [("TrothError", false), ("Refused", false), ("InvalidArgument", true), ("PowerOff", false), ("HouseClosed", false), ("MissingPage", false), ("NoTransaction", false), ("TransactionOpen", false), ("StillWaiting", false)] (wVar 0)) (wCons (wIsX a d x [("TrothError", false), ("Refused", false), ("InvalidArgument", false), ("PowerOff", true), ("HouseClosed", false), ("MissingPage", false), ("NoTransaction", false), ("TransactionOpen", false), ("StillWaiting", false)] (wVar 0)) wNil))))) (wsSeq (wsSet 2 (wLst (wCons (wIsX a d x [("TrothError", false), ("Refused", false), ("InvalidArgument", false), ("PowerOff", false), ("HouseClosed", true), ("MissingPage", false), ("NoTransaction", false), ("TransactionOpen", false), ("StillWaiting", false)] (wVar 0)) (wCons (wIsX a d x [("TrothError", false), ("Refused", false), ("InvalidArgument", false), ("PowerOff", false), ("HouseClosed", false), ("MissingPage", true), ("NoTransaction", false), ("TransactionOpen", false), ("StillWaiting", false)] (wVar 0)) (wCons (wIsX a d x [("TrothError", false), ("Refused", false), ("InvalidArgument", false), ("PowerOff", false), ("HouseClosed", false), ("MissingPage", false), ("NoTransaction", true), ("TransactionOpen", false), ("StillWaiting", false)] (wVar 0)) wNil))))) (wsRet (w2 oAdd (w2 oAdd (wVar 1) (wVar 2)) (wLst (wCons (wIsX a d x [("TrothError", false), ("Refused", false), ("InvalidArgument", false), ("PowerOff", false), ("HouseClosed", false), ("MissingPage", false), ("NoTransaction", false), ("TransactionOpen", true), ("StillWaiting", false)] (wVar 0)) (wCons (wIsX a d x [("TrothError", false), ("Refused", false), ("InvalidArgument", false), ("PowerOff", false), ("HouseClosed", false), ("MissingPage", false), ("NoTransaction", false), ("TransactionOpen", false), ("StillWaiting", true)] (wVar 0)) wNil)))))))
def f__law_classes : WFX := fun a d x => wfOf 3 (w__law_classes a d x)
def w__law_caught : WS := (wsSeq (wsTry [("TrothError", true), ("Refused", true), ("InvalidArgument", true), ("PowerOff", true), ("HouseClosed", true), ("MissingPage", true), ("NoTransaction", true), ("TransactionOpen", true), ("StillWaiting", true)] (wsExpr (wCall 3 f__law_raise (wCons (wVar 0) (wCons (wVar 1) (wCons (wVar 2) wNil))))) (fun a d x => (wsSeq (wsIf (wAnd (wB (w2 oEq (wVar 0) (wC (.int 0)))) (wB (w2 oNe (wCB oRepr (wCons (wXf a d x ["Refused"] "problem" (wVar 3)) wNil)) (wCB oRepr (wCons (wVar 2) wNil))))) (wsRet (wC (.bl false))) wsNext) (wsRet (wAndV (wIsX a d x [("TrothError", true), ("Refused", true), ("InvalidArgument", true), ("PowerOff", true), ("HouseClosed", true), ("MissingPage", true), ("NoTransaction", true), ("TransactionOpen", true), ("StillWaiting", true)] (wVar 3)) (w2 oEq (wCall 1 (f__law_classes a d x) (wCons (wVar 3) wNil)) (wLc (iR1 (wCons (wC (.int 8)) wNil)) (.nm 4) wYes (w2 oEq (wVar 4) (wVar 0)) [4])))))) (some 3)) (wsRet (wC (.bl false))))
def f__law_caught : WF := wfOf 5 w__law_caught
def w__law_text : WS := (wsSeq (wsSet 1 (wC (.str ""))) (wsSeq (wsFor (iR1 (wCons (w2 oMod (wVar 0) (wC (.int 9))) wNil)) (wgName 2) (wsSet 1 (w2 oAdd (wVar 1) (w2 oIx (wC (.str "ab c()',")) (w2 oMod (w2 oFdiv (wVar 0) (w2 oAdd (wVar 2) (wC (.int 1)))) (wC (.int 8))))))) (wsRet (wVar 1))))
def f__law_text : WF := wfOf 3 w__law_text
def w__law_problem : WS := (wsSeq (wsSet 1 (wLst (wCons (wTup (wCons (wC (.str "no table")) (wCons (wC (.str "t")) wNil))) (wCons (wTup (wCons (wC (.str "sum")) wNil)) (wCons (wTup (wCons (wC (.str "compare")) (wCons (w2 oMod (wVar 0) (wC (.int 7))) wNil))) (wCons (wTup (wCons (wC (.str "width")) (wCons (wC (.str "t")) (wCons (w2 oMod (wVar 0) (wC (.int 5))) (wCons (wC (.int 3)) wNil))))) (wCons (wTup wNil) (wCons (wTup (wCons (wC (.str "kind")) (wCons (wTup (wCons (wC (.int 1)) (wCons (wC (.str "a")) wNil))) wNil))) wNil)))))))) (wsRet (w2 oIx (wVar 1) (w2 oMod (w2 oFdiv (wVar 0) (wC (.int 7))) (wC (.int 6))))))
def f__law_problem : WF := wfOf 2 w__law_problem
def w_law : WS := (wsSeq (wsFor (iR1 (wCons (wC (.int 8)) wNil)) (wgName 1) (wsSeq (wsSet 2 (wCall 2 f__law_draw (wCons (wVar 0) (wCons (wVar 1) wNil)))) (wsIf (wNot (wTru (wCall 3 f__law_caught (wCons (wVar 1) (wCons (wCall 1 f__law_text (wCons (wVar 2) wNil)) (wCons (wCall 1 f__law_problem (wCons (wVar 2) wNil)) wNil)))))) (wsRet (wC (.bl false))) wsNext))) (wsRet (wC (.bl true))))
def f_law : WF := wfOf 3 w_law
/-! ### the facts -/
def d__law_draw : He.DefD := ⟨("_law_draw", none), "_law_draw", "_law_draw", defArgs s__law_draw, defBody s__law_draw, defScope s__law_draw, [], []⟩
def d__law_raise : He.DefD := ⟨("_law_raise", none), "_law_raise", "_law_raise", defArgs s__law_raise, defBody s__law_raise, defScope s__law_raise, [], []⟩
def d__law_classes : He.DefD := ⟨("_law_classes", none), "_law_classes", "_law_classes", defArgs s__law_classes, defBody s__law_classes, defScope s__law_classes, [], []⟩
def d__law_caught : He.DefD := ⟨("_law_caught", none), "_law_caught", "_law_caught", defArgs s__law_caught, defBody s__law_caught, defScope s__law_caught, [], []⟩
def d__law_text : He.DefD := ⟨("_law_text", none), "_law_text", "_law_text", defArgs s__law_text, defBody s__law_text, defScope s__law_text, [], []⟩
def d__law_problem : He.DefD := ⟨("_law_problem", none), "_law_problem", "_law_problem", defArgs s__law_problem, defBody s__law_problem, defScope s__law_problem, [], []⟩
def d_law : He.DefD := ⟨("law", none), "law", "law", defArgs s_law, defBody s_law, defScope s_law, [], []⟩
abbrev s_Refused___init__ : Stmt := inClass (top 2) 0
def u_Refused : SupD := ⟨"Refused", "problem", "__init__", "Refused.__init__", defArgs s_Refused___init__, defBody s_Refused___init__, defScope s_Refused___init__, PySem.Challenge.pw_trothbase_k29_errors.main.file⟩
def fn : List He.DefD := [d__law_draw, d__law_raise, d__law_classes, d__law_caught, d__law_text, d__law_problem, d_law]
def fa : List He.Fa := [.free "range", .glo "_law_draw", .glo "_law_text", .glo "_law_problem", .glo "_law_caught", .free "len", .free "int", .free "min", .glo "_law_raise", .glo "Refused", .noat "Refused" "problem", .free "repr", .glo "StillWaiting", .glo "TransactionOpen", .glo "NoTransaction", .glo "MissingPage", .glo "HouseClosed", .glo "PowerOff", .glo "InvalidArgument", .glo "TrothError", .free "ValueError", .free "isinstance", .glo "_law_classes", .exm "StillWaiting" "TrothError" true, .exm "TransactionOpen" "TrothError" true, .exm "NoTransaction" "TrothError" true, .exm "MissingPage" "TrothError" true, .exm "HouseClosed" "TrothError" true, .exm "PowerOff" "TrothError" true, .exm "InvalidArgument" "TrothError" true, .exm "Refused" "TrothError" true, .exm "TrothError" "TrothError" true, .free "super", .exc "InvalidArgument", .exc "PowerOff", .exc "HouseClosed", .exc "MissingPage", .exc "NoTransaction", .exc "TransactionOpen", .exc "StillWaiting", .glo "law"]
def fb : List Fb := [.ecx "Refused", .ecx "StillWaiting", .isn "StillWaiting" "ValueError" true, .ecx "TransactionOpen", .isn "TransactionOpen" "ValueError" true, .ecx "NoTransaction", .isn "NoTransaction" "ValueError" true, .ecx "MissingPage", .isn "MissingPage" "ValueError" true, .ecx "HouseClosed", .isn "HouseClosed" "ValueError" true, .ecx "PowerOff", .isn "PowerOff" "ValueError" true, .ecx "InvalidArgument", .isn "InvalidArgument" "ValueError" true, .isn "Refused" "ValueError" true, .ecx "TrothError", .isn "TrothError" "ValueError" true, .sup u_Refused, .kit "StillWaiting" "Refused" false, .kit "TransactionOpen" "Refused" false, .kit "NoTransaction" "Refused" false, .kit "MissingPage" "Refused" false, .kit "HouseClosed" "Refused" false, .kit "PowerOff" "Refused" false, .kit "InvalidArgument" "Refused" false, .kit "Refused" "Refused" true, .kit "TrothError" "Refused" false, .kit "StillWaiting" "InvalidArgument" false, .kit "TransactionOpen" "InvalidArgument" false, .kit "NoTransaction" "InvalidArgument" false, .kit "MissingPage" "InvalidArgument" false, .kit "HouseClosed" "InvalidArgument" false, .kit "PowerOff" "InvalidArgument" false, .kit "InvalidArgument" "InvalidArgument" true, .kit "Refused" "InvalidArgument" false, .kit "TrothError" "InvalidArgument" false, .kit "StillWaiting" "PowerOff" false, .kit "TransactionOpen" "PowerOff" false, .kit "NoTransaction" "PowerOff" false, .kit "MissingPage" "PowerOff" false, .kit "HouseClosed" "PowerOff" false, .kit "PowerOff" "PowerOff" true, .kit "InvalidArgument" "PowerOff" false, .kit "Refused" "PowerOff" false, .kit "TrothError" "PowerOff" false, .kit "StillWaiting" "HouseClosed" false, .kit "TransactionOpen" "HouseClosed" false, .kit "NoTransaction" "HouseClosed" false, .kit "MissingPage" "HouseClosed" false, .kit "HouseClosed" "HouseClosed" true, .kit "PowerOff" "HouseClosed" false, .kit "InvalidArgument" "HouseClosed" false, .kit "Refused" "HouseClosed" false, .kit "TrothError" "HouseClosed" false, .kit "StillWaiting" "MissingPage" false, .kit "TransactionOpen" "MissingPage" false, .kit "NoTransaction" "MissingPage" false, .kit "MissingPage" "MissingPage" true, .kit "HouseClosed" "MissingPage" false, .kit "PowerOff" "MissingPage" false, .kit "InvalidArgument" "MissingPage" false, .kit "Refused" "MissingPage" false, .kit "TrothError" "MissingPage" false, .kit "StillWaiting" "NoTransaction" false, .kit "TransactionOpen" "NoTransaction" false, .kit "NoTransaction" "NoTransaction" true, .kit "MissingPage" "NoTransaction" false, .kit "HouseClosed" "NoTransaction" false, .kit "PowerOff" "NoTransaction" false, .kit "InvalidArgument" "NoTransaction" false, .kit "Refused" "NoTransaction" false, .kit "TrothError" "NoTransaction" false, .kit "StillWaiting" "TransactionOpen" false, .kit "TransactionOpen" "TransactionOpen" true, .kit "NoTransaction" "TransactionOpen" false, .kit "MissingPage" "TransactionOpen" false, .kit "HouseClosed" "TransactionOpen" false, .kit "PowerOff" "TransactionOpen" false, .kit "InvalidArgument" "TransactionOpen" false, .kit "Refused" "TransactionOpen" false, .kit "TrothError" "TransactionOpen" false, .kit "StillWaiting" "StillWaiting" true, .kit "TransactionOpen" "StillWaiting" false, .kit "NoTransaction" "StillWaiting" false, .kit "MissingPage" "StillWaiting" false, .kit "HouseClosed" "StillWaiting" false, .kit "PowerOff" "StillWaiting" false, .kit "InvalidArgument" "StillWaiting" false, .kit "Refused" "StillWaiting" false, .kit "TrothError" "StillWaiting" false]
/-! ### the derivations -/
abbrev P : Program := PySem.Challenge.pw_trothbase_k29_errors
section
variable {w : World} {K : PySem.W.Frag} {mg : Str → Option Value} {base : Heap}
theorem U_Refused (T : Txt fa fb fn K mg) : SupOk K u_Refused := T.says.sup 18 rfl
theorem G_Refused (T : Txt fa fb fn K mg) : ∃ fd, FnOk P w K mg base CX0 1 (He.fAd K u_Refused.at_) fd ["self", "problem"] (spI K (He.ga K u_Refused.x) u_Refused.fld) ∧ Binds K fd ["self", "problem"] [] := by
  have S := U_Refused T
  obtain ⟨oc, od, kV, doc, pm, an, cda, ct, osl, cc, ccl, cdd, vs0, ccs, tf, cl, cld, csl, lk, hcd, hcode, hvs, hcell⟩ := S.fn
  exact ⟨_, fn_init (n1 := "self") (n2 := "problem") S.sc S.nof lk hcd hcode hvs (by decide +kernel) (by decide +kernel) hcell rfl rfl ⟨rfl, rfl, rfl, rfl, rfl, rfl, rfl, by decide +kernel, by decide +kernel, by decide⟩ (T.free 32) (by decide) (by decide) (by decide) (by decide) _ (fun L => rfl) (fun env => rfl), Binds.all fun us hl => match us, hl with | [_, _], _ => rfl⟩
theorem sc__law_draw : FnScope ["script", "k", "cell", "turn", "step"] ["script", "k"] (defScope s__law_draw) := ⟨rfl, rfl, rfl, by decide +kernel, rfl, by decide +kernel, by decide +kernel⟩
theorem z__law_draw (T : Txt fa fb fn K mg) {f : Addr} {CX : CXT} : InDef CX P w K mg base ["script", "k", "cell", "turn", "step"] "_law_draw" (defScope s__law_draw) f 0 fun X => ZSs X (defBody s__law_draw) w__law_draw := fun cdv A outer s H E hr =>
  (zss_cons (zs_if (zt_not (zt_tru (zv 0))) (zss_one (zs_ret (ze_op op_modZ (ze_op op_mulZ (zv 1) ze_int) ze_int))) zss_nil) (zss_cons (zs_set (i := 2) sc__law_draw.nd rfl (by first | exact .inl rfl | exact .inr rfl) (ze_callTy call_intZ rfl (by rfl) (T.free 6) (za_cons (ze_ix (ix_z (hu1 hr)) (zv 0) (ze_op op_modZ (zv 1) (ze_callB call_lenZ rfl (by rfl) (T.free 5) (za_cons (zv 0) za_nil)))) za_nil))) (zss_cons (zs_set (i := 3) sc__law_draw.nd rfl (by first | exact .inl rfl | exact .inr rfl) (ze_op op_fdivZ (zv 1) (ze_callB call_lenZ rfl (by rfl) (T.free 5) (za_cons (zv 0) za_nil)))) (zss_cons (zs_if (zt_cmp op_geZ (zv 2) ze_int (by rfl)) (zss_cons (zs_for (passes_of rfl) rfl (zi_range1 (by rfl) (T.free 0) (za_cons (ze_callB (call_minZ rfl) rfl (by rfl) (T.free 7) (za_cons (zv 3) (za_cons ze_int za_nil))) za_nil)) (zg_name (i := 4) sc__law_draw.nd rfl (by first | exact .inl rfl | exact .inr rfl)) (zss_one (zs_set (i := 2) sc__law_draw.nd rfl (by first | exact .inl rfl | exact .inr rfl) (ze_op op_fdivZ (zv 2) ze_int)))) (zss_one (zs_ret (ze_op op_modZ (zv 2) ze_int)))) zss_nil) (zss_one (zs_ret (ze_op op_modZ (ze_op op_mulZ (ze_op op_modZ (ze_op op_addZ (ze_op op_addZ (ze_op op_mulZ (zv 2) ze_int) (ze_op op_mulZ (zv 1) ze_int)) ze_int) ze_int) ze_int) ze_int)))))))
theorem F__law_draw (T : Txt fa fb fn K mg) : FnZ P w K mg base 1 2 f__law_draw (He.fAd K d__law_draw.at_) := by
  obtain ⟨fd, F⟩ := T.def_ 0 (d := d__law_draw) rfl
  exact fnz_of (x := "_law_draw") (N := ["script", "k", "cell", "turn", "step"]) (ps := ["script", "k"]) F sc__law_draw (FunD.bindsN F fun _ _ _ _ _ _ us hl => match us, hl with | [_, _], _ => rfl) rfl (z__law_draw T)
theorem sc__law_raise : FnScope ["kind", "text", "problem"] ["kind", "text", "problem"] (defScope s__law_raise) := ⟨rfl, rfl, rfl, by decide +kernel, rfl, by decide +kernel, by decide +kernel⟩
theorem z__law_raise (T : Txt fa fb fn K mg) {f : Addr} {CX : CXT} : InDef CX P w K mg base ["kind", "text", "problem"] "_law_raise" (defScope s__law_raise) f 2 fun X => ZSs X (defBody s__law_raise) w__law_raise := fun cdv A outer s H E hr =>
  (zss_cons (zs_if (zt_cmp (op_eqZ (hu64 hr)) (zv 0) ze_int (by rfl)) (zss_one (zs_raiseE (u := u_Refused) rfl (U_Refused T) (G_Refused T) (hr.mono (by decide)).r (T.glo 9) rfl (zv 2))) zss_nil) (zss_cons (zs_if (zt_cmp (op_eqZ (hu64 hr)) (zv 0) ze_int (by rfl)) (zss_one (zs_raise rfl (T.exc 33) (T.glo 18) rfl (zv 1))) zss_nil) (zss_cons (zs_if (zt_cmp (op_eqZ (hu64 hr)) (zv 0) ze_int (by rfl)) (zss_one (zs_raise rfl (T.exc 34) (T.glo 17) rfl (zv 1))) zss_nil) (zss_cons (zs_if (zt_cmp (op_eqZ (hu64 hr)) (zv 0) ze_int (by rfl)) (zss_one (zs_raise rfl (T.exc 35) (T.glo 16) rfl (zv 1))) zss_nil) (zss_cons (zs_if (zt_cmp (op_eqZ (hu64 hr)) (zv 0) ze_int (by rfl)) (zss_one (zs_raise rfl (T.exc 36) (T.glo 15) rfl (zv 1))) zss_nil) (zss_cons (zs_if (zt_cmp (op_eqZ (hu64 hr)) (zv 0) ze_int (by rfl)) (zss_one (zs_raise rfl (T.exc 37) (T.glo 14) rfl (zv 1))) zss_nil) (zss_cons (zs_if (zt_cmp (op_eqZ (hu64 hr)) (zv 0) ze_int (by rfl)) (zss_one (zs_raise rfl (T.exc 38) (T.glo 13) rfl (zv 1))) zss_nil) (zss_one (zs_raise rfl (T.exc 39) (T.glo 12) rfl (zv 1))))))))))
theorem F__law_raise (T : Txt fa fb fn K mg) : FnZ P w K mg base 3 3 f__law_raise (He.fAd K d__law_raise.at_) := by
  obtain ⟨fd, F⟩ := T.def_ 1 (d := d__law_raise) rfl
  exact fnz_of (x := "_law_raise") (N := ["kind", "text", "problem"]) (ps := ["kind", "text", "problem"]) F sc__law_raise (FunD.bindsN F fun _ _ _ _ _ _ us hl => match us, hl with | [_, _, _], _ => rfl) rfl (z__law_raise T)
theorem sc__law_classes : FnScope ["error", "first", "second"] ["error"] (defScope s__law_classes) := ⟨rfl, rfl, rfl, by decide +kernel, rfl, by decide +kernel, by decide +kernel⟩
theorem z__law_classes (T : Txt fa fb fn K mg) {f : Addr} : InDefX P w K mg base ["error", "first", "second"] "_law_classes" (defScope s__law_classes) f fun a C oe d x X => ZSs X (defBody s__law_classes) (w__law_classes a d x) := fun cdv A outer s H E a C oe d x g hz hf =>
  (zss_cons (zs_set (i := 1) sc__law_classes.nd rfl (by first | exact .inl rfl | exact .inr rfl) (ze_lst (za_cons (ze_isP (c := .ref (He.ga K "Refused")) List.mem_cons_self (ktt_cons (T.glo 19) (T.ecx 16) (T.kit 27) (ktt_cons (T.glo 9) (T.ecx 0) (T.kit 26) (ktt_cons (T.glo 18) (T.ecx 13) (T.kit 25) (ktt_cons (T.glo 17) (T.ecx 11) (T.kit 24) (ktt_cons (T.glo 16) (T.ecx 9) (T.kit 23) (ktt_cons (T.glo 15) (T.ecx 7) (T.kit 22) (ktt_cons (T.glo 14) (T.ecx 5) (T.kit 21) (ktt_cons (T.glo 13) (T.ecx 3) (T.kit 20) (ktt_cons (T.glo 12) (T.ecx 1) (T.kit 19) ktt_nil))))))))) g hz hf (fun u r => r) rfl (T.free 21) (zv 0) (pe_glob (v := .ref (He.ga K "Refused")) rfl (T.glo 9) rfl)) (za_cons (ze_isP (c := .ref (He.ga K "InvalidArgument")) List.mem_cons_self (ktt_cons (T.glo 19) (T.ecx 16) (T.kit 36) (ktt_cons (T.glo 9) (T.ecx 0) (T.kit 35) (ktt_cons (T.glo 18) (T.ecx 13) (T.kit 34) (ktt_cons (T.glo 17) (T.ecx 11) (T.kit 33) (ktt_cons (T.glo 16) (T.ecx 9) (T.kit 32) (ktt_cons (T.glo 15) (T.ecx 7) (T.kit 31) (ktt_cons (T.glo 14) (T.ecx 5) (T.kit 30) (ktt_cons (T.glo 13) (T.ecx 3) (T.kit 29) (ktt_cons (T.glo 12) (T.ecx 1) (T.kit 28) ktt_nil))))))))) g hz hf (fun u r => r) rfl (T.free 21) (zv 0) (pe_glob (v := .ref (He.ga K "InvalidArgument")) rfl (T.glo 18) rfl)) (za_cons (ze_isP (c := .ref (He.ga K "PowerOff")) List.mem_cons_self (ktt_cons (T.glo 19) (T.ecx 16) (T.kit 45) (ktt_cons (T.glo 9) (T.ecx 0) (T.kit 44) (ktt_cons (T.glo 18) (T.ecx 13) (T.kit 43) (ktt_cons (T.glo 17) (T.ecx 11) (T.kit 42) (ktt_cons (T.glo 16) (T.ecx 9) (T.kit 41) (ktt_cons (T.glo 15) (T.ecx 7) (T.kit 40) (ktt_cons (T.glo 14) (T.ecx 5) (T.kit 39) (ktt_cons (T.glo 13) (T.ecx 3) (T.kit 38) (ktt_cons (T.glo 12) (T.ecx 1) (T.kit 37) ktt_nil))))))))) g hz hf (fun u r => r) rfl (T.free 21) (zv 0) (pe_glob (v := .ref (He.ga K "PowerOff")) rfl (T.glo 17) rfl)) za_nil))))) (zss_cons (zs_set (i := 2) sc__law_classes.nd rfl (by first | exact .inl rfl | exact .inr rfl) (ze_lst (za_cons (ze_isP (c := .ref (He.ga K "HouseClosed")) List.mem_cons_self (ktt_cons (T.glo 19) (T.ecx 16) (T.kit 54) (ktt_cons (T.glo 9) (T.ecx 0) (T.kit 53) (ktt_cons (T.glo 18) (T.ecx 13) (T.kit 52) (ktt_cons (T.glo 17) (T.ecx 11) (T.kit 51) (ktt_cons (T.glo 16) (T.ecx 9) (T.kit 50) (ktt_cons (T.glo 15) (T.ecx 7) (T.kit 49) (ktt_cons (T.glo 14) (T.ecx 5) (T.kit 48) (ktt_cons (T.glo 13) (T.ecx 3) (T.kit 47) (ktt_cons (T.glo 12) (T.ecx 1) (T.kit 46) ktt_nil))))))))) g hz hf (fun u r => r) rfl (T.free 21) (zv 0) (pe_glob (v := .ref (He.ga K "HouseClosed")) rfl (T.glo 16) rfl)) (za_cons (ze_isP (c := .ref (He.ga K "MissingPage")) List.mem_cons_self (ktt_cons (T.glo 19) (T.ecx 16) (T.kit 63) (ktt_cons (T.glo 9) (T.ecx 0) (T.kit 62) (ktt_cons (T.glo 18) (T.ecx 13) (T.kit 61) (ktt_cons (T.glo 17) (T.ecx 11) (T.kit 60) (ktt_cons (T.glo 16) (T.ecx 9) (T.kit 59) (ktt_cons (T.glo 15) (T.ecx 7) (T.kit 58) (ktt_cons (T.glo 14) (T.ecx 5) (T.kit 57) (ktt_cons (T.glo 13) (T.ecx 3) (T.kit 56) (ktt_cons (T.glo 12) (T.ecx 1) (T.kit 55) ktt_nil))))))))) g hz hf (fun u r => r) rfl (T.free 21) (zv 0) (pe_glob (v := .ref (He.ga K "MissingPage")) rfl (T.glo 15) rfl)) (za_cons (ze_isP (c := .ref (He.ga K "NoTransaction")) List.mem_cons_self (ktt_cons (T.glo 19) (T.ecx 16) (T.kit 72) (ktt_cons (T.glo 9) (T.ecx 0) (T.kit 71) (ktt_cons (T.glo 18) (T.ecx 13) (T.kit 70) (ktt_cons (T.glo 17) (T.ecx 11) (T.kit 69) (ktt_cons (T.glo 16) (T.ecx 9) (T.kit 68) (ktt_cons (T.glo 15) (T.ecx 7) (T.kit 67) (ktt_cons (T.glo 14) (T.ecx 5) (T.kit 66) (ktt_cons (T.glo 13) (T.ecx 3) (T.kit 65) (ktt_cons (T.glo 12) (T.ecx 1) (T.kit 64) ktt_nil))))))))) g hz hf (fun u r => r) rfl (T.free 21) (zv 0) (pe_glob (v := .ref (He.ga K "NoTransaction")) rfl (T.glo 14) rfl)) za_nil))))) (zss_one (zs_ret (ze_op op_addZ (ze_op op_addZ (zv 1) (zv 2)) (ze_lst (za_cons (ze_isP (c := .ref (He.ga K "TransactionOpen")) List.mem_cons_self (ktt_cons (T.glo 19) (T.ecx 16) (T.kit 81) (ktt_cons (T.glo 9) (T.ecx 0) (T.kit 80) (ktt_cons (T.glo 18) (T.ecx 13) (T.kit 79) (ktt_cons (T.glo 17) (T.ecx 11) (T.kit 78) (ktt_cons (T.glo 16) (T.ecx 9) (T.kit 77) (ktt_cons (T.glo 15) (T.ecx 7) (T.kit 76) (ktt_cons (T.glo 14) (T.ecx 5) (T.kit 75) (ktt_cons (T.glo 13) (T.ecx 3) (T.kit 74) (ktt_cons (T.glo 12) (T.ecx 1) (T.kit 73) ktt_nil))))))))) g hz hf (fun u r => r) rfl (T.free 21) (zv 0) (pe_glob (v := .ref (He.ga K "TransactionOpen")) rfl (T.glo 13) rfl)) (za_cons (ze_isP (c := .ref (He.ga K "StillWaiting")) List.mem_cons_self (ktt_cons (T.glo 19) (T.ecx 16) (T.kit 90) (ktt_cons (T.glo 9) (T.ecx 0) (T.kit 89) (ktt_cons (T.glo 18) (T.ecx 13) (T.kit 88) (ktt_cons (T.glo 17) (T.ecx 11) (T.kit 87) (ktt_cons (T.glo 16) (T.ecx 9) (T.kit 86) (ktt_cons (T.glo 15) (T.ecx 7) (T.kit 85) (ktt_cons (T.glo 14) (T.ecx 5) (T.kit 84) (ktt_cons (T.glo 13) (T.ecx 3) (T.kit 83) (ktt_cons (T.glo 12) (T.ecx 1) (T.kit 82) ktt_nil))))))))) g hz hf (fun u r => r) rfl (T.free 21) (zv 0) (pe_glob (v := .ref (He.ga K "StillWaiting")) rfl (T.glo 12) rfl)) za_nil))))))))
theorem F__law_classes (T : Txt fa fb fn K mg) : FnX P w K mg base 1 1 f__law_classes (He.fAd K d__law_classes.at_) := by
  obtain ⟨fd, F⟩ := T.def_ 2 (d := d__law_classes) rfl
  exact fnx_of (x := "_law_classes") (N := ["error", "first", "second"]) (ps := ["error"]) F sc__law_classes (FunD.bindsN F fun _ _ _ _ _ _ us hl => match us, hl with | [_], _ => rfl) rfl (z__law_classes T)
theorem sc__law_caught : FnScope ["kind", "text", "problem", "error", "each"] ["kind", "text", "problem"] (defScope s__law_caught) := ⟨rfl, rfl, rfl, by decide +kernel, rfl, by decide +kernel, by decide +kernel⟩
theorem z__law_caught (T : Txt fa fb fn K mg) {f : Addr} {CX : CXT} : InDef CX P w K mg base ["kind", "text", "problem", "error", "each"] "_law_caught" (defScope s__law_caught) f 3 fun X => ZSs X (defBody s__law_caught) w__law_caught := fun cdv A outer s H E hr =>
  (zss_cons (zs_try_as (ext_cons (T.glo 19) (T.exm 31) (ext_cons (T.glo 9) (T.exm 30) (ext_cons (T.glo 18) (T.exm 29) (ext_cons (T.glo 17) (T.exm 28) (ext_cons (T.glo 16) (T.exm 27) (ext_cons (T.glo 15) (T.exm 26) (ext_cons (T.glo 14) (T.exm 25) (ext_cons (T.glo 13) (T.exm 24) (ext_cons (T.glo 12) (T.exm 23) ext_nil))))))))) sc__law_caught.nd (i := 3) rfl rfl ⟨rfl, by decide, .inl (T.glo 19)⟩ (fun pn xe hp => (zss_one (zs_expr (ze_call (F__law_raise T) (hr.mono (by decide)) rfl (T.glo 8) (za_cons (zv 0) (za_cons (zv 1) (za_cons (zv 2) za_nil))))))) (fun a oe C d pn x g hz hf hd => (zss_cons (zs_if (zt_of (zw_and (zt_cmp (op_eqZ (hu64m hr)) (zv 0) ze_int (by rfl)) (zw_and1 (zt_cmp (op_neZ (hu64m hr)) (ze_callB (call_reprZ (gum hr) (hu66m hr)) rfl (by rfl) (T.free 11) (za_cons (ze_xf (xft_cons (T.glo 9) (T.ecx 0) (T.noat 10) xft_nil) g hz.zc hf (zv 3)) za_nil)) (ze_callB (call_reprZ (gum hr) (hu66m hr)) rfl (by rfl) (T.free 11) (za_cons (zv 2) za_nil)) (by rfl))))) (zss_one (zs_ret ze_bl)) zss_nil) (zss_one (zs_ret (ze_and (ze_isP (c := .ty "ValueError") List.mem_cons_self (ktt_cons (T.glo 19) (T.ecx 16) (T.isn 17) (ktt_cons (T.glo 9) (T.ecx 0) (T.isn 15) (ktt_cons (T.glo 18) (T.ecx 13) (T.isn 14) (ktt_cons (T.glo 17) (T.ecx 11) (T.isn 12) (ktt_cons (T.glo 16) (T.ecx 9) (T.isn 10) (ktt_cons (T.glo 15) (T.ecx 7) (T.isn 8) (ktt_cons (T.glo 14) (T.ecx 5) (T.isn 6) (ktt_cons (T.glo 13) (T.ecx 3) (T.isn 4) (ktt_cons (T.glo 12) (T.ecx 1) (T.isn 2) ktt_nil))))))))) g hz hf (fun u r => r) rfl (T.free 21) (zv 3) (pe_bltn (v := .ty "ValueError") rfl (T.free 20) rfl rfl)) (ze_one (ze_cmp (op_eqZ (hu64m hr)) (ze_callX (F__law_classes T) List.mem_cons_self g hz hf (roomH_mark hr (by decide)) rfl (T.glo 22) (za_cons (zv 3) za_nil)) (ze_lcH (own := [(("each" : Str), 4)]) (hotS hz hf) sc__law_caught.nd (by rfl) (T.free 0) (za_cons ze_int za_nil) (blkOk_by (own := [(("each" : Str), 4)]) (by with_unfolding_all rfl)) (fun _ _ _ _ _ => (zp_name (i := 4) sc__law_caught.nd rfl (by first | exact .inl rfl | exact .inr rfl))) (fun _ _ _ _ _ => (ze_cmp (op_eqZ (hu64m hr)) (zv 4) (zv 0) (by rfl)))) (by rfl))))))))) (zss_one (zs_ret ze_bl)))
theorem F__law_caught (T : Txt fa fb fn K mg) : FnZ P w K mg base 4 3 f__law_caught (He.fAd K d__law_caught.at_) := by
  obtain ⟨fd, F⟩ := T.def_ 3 (d := d__law_caught) rfl
  exact fnz_of (x := "_law_caught") (N := ["kind", "text", "problem", "error", "each"]) (ps := ["kind", "text", "problem"]) F sc__law_caught (FunD.bindsN F fun _ _ _ _ _ _ us hl => match us, hl with | [_, _, _], _ => rfl) rfl (z__law_caught T)
theorem sc__law_text : FnScope ["number", "text", "k"] ["number"] (defScope s__law_text) := ⟨rfl, rfl, rfl, by decide +kernel, rfl, by decide +kernel, by decide +kernel⟩
theorem z__law_text (T : Txt fa fb fn K mg) {f : Addr} {CX : CXT} : InDef CX P w K mg base ["number", "text", "k"] "_law_text" (defScope s__law_text) f 0 fun X => ZSs X (defBody s__law_text) w__law_text := fun cdv A outer s H E hr =>
  (zss_cons (zs_set (i := 1) sc__law_text.nd rfl (by first | exact .inl rfl | exact .inr rfl) ze_str) (zss_cons (zs_for (passes_of rfl) rfl (zi_range1 (by rfl) (T.free 0) (za_cons (ze_op op_modZ (zv 0) ze_int) za_nil)) (zg_name (i := 2) sc__law_text.nd rfl (by first | exact .inl rfl | exact .inr rfl)) (zss_one (zs_set (i := 1) sc__law_text.nd rfl (by first | exact .inl rfl | exact .inr rfl) (ze_op op_addZ (zv 1) (ze_ix (ix_z (hu1 hr)) ze_str (ze_op op_modZ (ze_op op_fdivZ (zv 0) (ze_op op_addZ (zv 2) ze_int)) ze_int)))))) (zss_one (zs_ret (zv 1)))))
theorem F__law_text (T : Txt fa fb fn K mg) : FnZ P w K mg base 1 1 f__law_text (He.fAd K d__law_text.at_) := by
  obtain ⟨fd, F⟩ := T.def_ 4 (d := d__law_text) rfl
  exact fnz_of (x := "_law_text") (N := ["number", "text", "k"]) (ps := ["number"]) F sc__law_text (FunD.bindsN F fun _ _ _ _ _ _ us hl => match us, hl with | [_], _ => rfl) rfl (z__law_text T)
theorem sc__law_problem : FnScope ["number", "menu"] ["number"] (defScope s__law_problem) := ⟨rfl, rfl, rfl, by decide +kernel, rfl, by decide +kernel, by decide +kernel⟩
theorem z__law_problem (T : Txt fa fb fn K mg) {f : Addr} {CX : CXT} : InDef CX P w K mg base ["number", "menu"] "_law_problem" (defScope s__law_problem) f 0 fun X => ZSs X (defBody s__law_problem) w__law_problem := fun cdv A outer s H E hr =>
  (zss_cons (zs_set (i := 1) sc__law_problem.nd rfl (by first | exact .inl rfl | exact .inr rfl) (ze_lst (za_cons (ze_tup (za_cons ze_str (za_cons ze_str za_nil))) (za_cons (ze_tup (za_cons ze_str za_nil)) (za_cons (ze_tup (za_cons ze_str (za_cons (ze_op op_modZ (zv 0) ze_int) za_nil))) (za_cons (ze_tup (za_cons ze_str (za_cons ze_str (za_cons (ze_op op_modZ (zv 0) ze_int) (za_cons ze_int za_nil))))) (za_cons (ze_tup za_nil) (za_cons (ze_tup (za_cons ze_str (za_cons (ze_tup (za_cons ze_int (za_cons ze_str za_nil))) za_nil))) za_nil)))))))) (zss_one (zs_ret (ze_ix (ix_z (hu1 hr)) (zv 1) (ze_op op_modZ (ze_op op_fdivZ (zv 0) ze_int) ze_int)))))
theorem F__law_problem (T : Txt fa fb fn K mg) : FnZ P w K mg base 1 1 f__law_problem (He.fAd K d__law_problem.at_) := by
  obtain ⟨fd, F⟩ := T.def_ 5 (d := d__law_problem) rfl
  exact fnz_of (x := "_law_problem") (N := ["number", "menu"]) (ps := ["number"]) F sc__law_problem (FunD.bindsN F fun _ _ _ _ _ _ us hl => match us, hl with | [_], _ => rfl) rfl (z__law_problem T)
theorem sc_law : FnScope ["script", "kind", "number"] ["script"] (defScope s_law) := ⟨rfl, rfl, rfl, by decide +kernel, rfl, by decide +kernel, by decide +kernel⟩
theorem z_law (T : Txt fa fb fn K mg) {f : Addr} {CX : CXT} : InDef CX P w K mg base ["script", "kind", "number"] "law" (defScope s_law) f 4 fun X => ZSs X (defBody s_law) w_law := fun cdv A outer s H E hr =>
  (zss_cons (zs_for (passes_of rfl) rfl (zi_range1 (by rfl) (T.free 0) (za_cons ze_int za_nil)) (zg_name (i := 1) sc_law.nd rfl (by first | exact .inl rfl | exact .inr rfl)) (zss_cons (zs_set (i := 2) sc_law.nd rfl (by first | exact .inl rfl | exact .inr rfl) (ze_call (F__law_draw T) (hr.mono (by decide)) rfl (T.glo 1) (za_cons (zv 0) (za_cons (zv 1) za_nil)))) (zss_one (zs_if (zt_not (zt_tru (ze_call (F__law_caught T) (hr.mono (by decide)) rfl (T.glo 4) (za_cons (zv 1) (za_cons (ze_call (F__law_text T) (hr.mono (by decide)) rfl (T.glo 2) (za_cons (zv 2) za_nil)) (za_cons (ze_call (F__law_problem T) (hr.mono (by decide)) rfl (T.glo 3) (za_cons (zv 2) za_nil)) za_nil)))))) (zss_one (zs_ret ze_bl)) zss_nil)))) (zss_one (zs_ret ze_bl)))
theorem F_law (T : Txt fa fb fn K mg) : FnZ P w K mg base 5 1 f_law (He.fAd K d_law.at_) := by
  obtain ⟨fd, F⟩ := T.def_ 6 (d := d_law) rfl
  exact fnz_of (x := "law") (N := ["script", "kind", "number"]) (ps := ["script"]) F sc_law (FunD.bindsN F fun _ _ _ _ _ _ us hl => match us, hl with | [_], _ => rfl) rfl (z_law T)
end
end K29

namespace ZL
open PySem PySem.Spec PyProof.Rows L2
/-! ### what is plain, by its parts and its depth -/
mutual
def atomB : Z → Bool
  | .int i => decide (i.natAbs < 1000000000000000000000000000000000000000000000000000000000000)
  | .tup zs => atomBs zs
  | .scr _ => false
  | .ref _ => false
  | .err _ => false
  | _ => true
def atomBs : List Z → Bool
  | [] => true
  | z :: zs => atomB z && atomBs zs
end
theorem atomBs_all : ∀ {zs : List Z}, atomBs zs = zs.all atomB
  | [] => by unfold atomBs; rfl
  | z :: zs => by unfold atomBs; rw [atomBs_all]; rfl
mutual
theorem plain_atom : ∀ (d : Nat) (z : Z), plainB d z = (atomB z && decide (depZ z ≤ d))
  | d, .non => by rw [pl_non]; simp [atomB, depZ]
  | d, .bl _ => by rw [pl_bl]; simp [atomB, depZ]
  | d, .str _ => by rw [pl_str]; simp [atomB, depZ]
  | d, .int i => by rw [pl_int]; simp [atomB, depZ]
  | d, .scr _ => by rw [pl_scr]; simp [atomB]
  | d, .ref _ => by rw [pl_ref]; simp [atomB]
  | d, .err _ => by cases d <;> simp [atomB, plainB]
  | 0, .tup zs => by rw [pl_tup0]; simp [depZ]
  | d + 1, .tup zs => by
    show plainBs d zs = _
    rw [plains_atom d zs]
    simp [atomB, depZ]
theorem plains_atom : ∀ (d : Nat) (zs : List Z), plainBs d zs = (atomBs zs && decide (depZs zs ≤ d))
  | d, [] => by simp [plainBs, atomBs, depZs]
  | d, z :: zs => by
    unfold plainBs atomBs depZs
    rw [plain_atom d z, plains_atom d zs]
    rw [show decide (max (depZ z) (depZs zs) ≤ d) = (decide (depZ z ≤ d) && decide (depZs zs ≤ d)) by rw [← Bool.decide_and, decide_eq_decide]; exact Nat.max_le]
    cases atomB z <;> cases atomBs zs <;> cases decide (depZ z ≤ d) <;> rfl
end
theorem depZs_mem : ∀ {zs : List Z} {z : Z}, z ∈ zs → depZ z ≤ depZs zs
  | y :: ys, z, m => by
    unfold depZs
    rcases List.mem_cons.mp m with rfl | m
    · exact Nat.le_max_left _ _
    · exact Nat.le_trans (depZs_mem m) (Nat.le_max_right _ _)
/-! ### the law's own comparison of values, and its depth -/
def wSameL (cs : List Str) (r : WF) : WS := (wsSeq (wsIf (wAnd (wTru (wIsi .tuple cs (wVar 0))) (wTru (wIsi .tuple cs (wVar 1)))) (wsSeq (wsIf (wB (w2 oNe (wCB oLen (wCons (wVar 0) wNil)) (wCB oLen (wCons (wVar 1) wNil)))) (wsRet (wC (.bl false))) wsNext) (wsSeq (wsFor (iR1 (wCons (wCB oLen (wCons (wVar 0) wNil)) wNil)) (wgName 2) (wsIf (wNot (wTru (wCall 2 r (wCons (w2 oIx (wVar 0) (wVar 2)) (wCons (w2 oIx (wVar 1) (wVar 2)) wNil))))) (wsRet (wC (.bl false))) wsNext)) (wsRet (wC (.bl true))))) wsNext) (wsSeq (wsIf (wOr (wTru (wIsi .tuple cs (wVar 0))) (wTru (wIsi .tuple cs (wVar 1)))) (wsRet (wC (.bl false))) wsNext) (wsSeq (wsIf (wOr (wTru (wIsi .bool cs (wVar 0))) (wTru (wIsi .bool cs (wVar 1)))) (wsRet (wAndV (wIsi .bool cs (wVar 0)) (wAndV (wIsi .bool cs (wVar 1)) (w2 oEq (wVar 0) (wVar 1))))) wsNext) (wsRet (w2 oEq (wVar 0) (wVar 1))))))
def fSameL (cs : List Str) : Nat → WF
  | 0 => fun _ _ _ _ => False
  | n + 1 => wfOf 3 (wSameL cs (fSameL cs n))
def wDeepL (cs : List Str) (r : WF) : WS := (wsSeq (wsIf (wNot (wTru (wIsi .tuple cs (wVar 0)))) (wsRet (wC (.int 0))) wsNext) (wsSeq (wsSet 1 (wC (.int 0))) (wsSeq (wsFor (iVal (wVar 0)) (wgName 2) (wsSet 1 (wCB oMax (wCons (wVar 1) (wCons (wCall 1 r (wCons (wVar 2) wNil)) wNil))))) (wsRet (w2 oAdd (wVar 1) (wC (.int 1)))))))
def fDeepL (cs : List Str) : Nat → WF
  | 0 => fun _ _ _ _ => False
  | n + 1 => wfOf 3 (wDeepL cs (fDeepL cs n))
theorem rng_cons {a : Int} {n : Nat} : rngZ a (n + 1) = .int a :: rngZ (a + 1) n := by
  unfold rngZ
  rw [List.range_succ_eq_map, List.map_cons, List.map_map]
  congr 1
  · simp
  · apply List.map_congr_left
    intro i _
    simp
    omega
mutual
theorem nice_ok : ∀ {z : Z}, niceZ z = true → okZ z = true
  | .non, _ => rfl
  | .bl _, _ => rfl
  | .int _, _ => rfl
  | .str x, h => by
    unfold niceZ at h
    show PyData.strOk x = true
    unfold PyData.strOk
    rw [Array.all_eq_true_iff_forall_mem]
    intro c m
    rw [List.all_eq_true] at h
    have := h c (by simpa using m)
    unfold ZS.niceC at this
    simp only [Bool.or_eq_true, Bool.and_eq_true, decide_eq_true_eq, beq_iff_eq] at this
    simp only [decide_eq_true_eq]
    omega
  | .tup zs, h => by
    unfold niceZ at h
    unfold okZ
    exact nices_ok h
  | .scr _, h => by unfold niceZ at h; cases h
  | .ref _, h => by unfold niceZ at h; cases h
  | .err _, h => by unfold niceZ at h; cases h
theorem nices_ok : ∀ {zs : List Z}, niceZs zs = true → okZs zs = true
  | [], _ => rfl
  | z :: zs, h => by
    unfold niceZs at h
    obtain ⟨a, b⟩ := Bool.and_eq_true_iff.mp h
    unfold okZs
    rw [nice_ok a, nices_ok b]
    rfl
end
theorem nice_mem {zs : List Z} (h : niceZ (.tup zs) = true) {z : Z} (m : z ∈ zs) : niceZ z = true := by
  unfold niceZ at h
  rw [niceZs_all, List.all_eq_true] at h
  exact h z m
theorem depZ_tup {zs : List Z} : depZ (.tup zs) = depZs zs + 1 := by unfold depZ; rfl
section
variable {cs : List Str}
theorem deep_ok : ∀ {n : Nat} {z : Z} {h : ZH} {P : PZ} {E : XZ → ZH → Prop}, niceZ z = true → depZ z < n → P (.int (depZ z : Nat)) h → fDeepL cs n [z] h P E
  | 0, _, _, _, _, _, h, _ => absurd h (Nat.not_lt_zero _)
  | n + 1, z, h, P, E, nz, hd, q => by
    show wfOf 3 (wDeepL cs (fDeepL cs n)) [z] h P E
    unfold wfOf wDeepL
    simp
    cases z with
    | ref n => unfold niceZ at nz; cases nz
    | scr n => unfold niceZ at nz; cases nz
    | err n => unfold niceZ at nz; cases nz
    | tup zs =>
      rw [depZ_tup] at q hd
      simp
      refine forZ_ind (fun us env h' => h' = h ∧ ∃ (m : Nat) (a : Option Z), env = [some (.tup zs), some (.int m), a] ∧ max m (depZs us) = depZs zs ∧ ∀ z ∈ us, niceZ z = true ∧ depZ z < n) ?_ ?_ _ _ _ ⟨rfl, 0, none, rfl, by simp, fun z m => ⟨nice_mem nz m, by have := depZs_mem m; omega⟩⟩
      · rintro env h' ⟨rfl, m, a, rfl, e, _⟩
        refine ⟨trivial, ?_⟩
        simp
        have e : m = depZs zs := by simpa [depZs] using e
        rw [e]
        exact q
      · rintro z us env h' N hN ⟨rfl, m, a, rfl, e, hu⟩
        refine ⟨trivial, ?_⟩
        obtain ⟨nz', hz⟩ := hu z List.mem_cons_self
        simp
        refine deep_ok nz' hz ?_
        simp
        refine hN _ _ ⟨rfl, max m (depZ z), some z, ?_, ?_, fun y my => hu y (List.mem_cons_of_mem _ my)⟩
        · have : (if m < depZ z then ((depZ z : Nat) : Int) else (m : Int)) = ((max m (depZ z) : Nat) : Int) := by split <;> omega
          rw [this]
        · rw [← e]
          exact Nat.max_assoc _ _ _
    | _ =>
      simp
      exact q
section
variable {h : ZH} {i : Int} {x : Str}
theorem ze1 : zEqB h .non .non = true := rfl
theorem ze2 : zEqB h .non (.int i) = false := rfl
theorem ze3 : zEqB h .non (.str x) = false := rfl
theorem ze4 : zEqB h (.int i) .non = false := rfl
theorem ze5 : zEqB h (.int i) (.str x) = false := rfl
theorem ze6 : zEqB h (.str x) .non = false := rfl
theorem ze7 : zEqB h (.str x) (.int i) = false := rfl
end
theorem eq_atoms {x y : Z} {h : ZH} {P : PZ} (nx : niceZ x = true) (ny : niceZ y = true) (tx : ∀ zs, x ≠ .tup zs) (ty : ∀ zs, y ≠ .tup zs) (bx : ∀ b, x ≠ .bl b) (by' : ∀ b, y ≠ .bl b) (q : P (.bl (decide (x = y))) h) : oEq x y h P := by
  have ox := nice_ok nx
  have oy := nice_ok ny
  have dx : depZ x = 0 := by cases x <;> first | rfl | exact absurd rfl (tx _)
  have dy : depZ y = 0 := by cases y <;> first | rfl | exact absurd rfl (ty _)
  have kx : okD h x := okD_of ox (by omega)
  have ky : okD h y := okD_of oy (by omega)
  cases x with
  | tup zs => exact absurd rfl (tx _)
  | bl b => exact absurd rfl (bx _)
  | ref n => unfold niceZ at nx; cases nx
  | scr n => unfold niceZ at nx; cases nx
  | err n => unfold niceZ at nx; cases nx
  | non =>
    cases y with
    | tup zs => exact absurd rfl (ty _)
    | bl b => exact absurd rfl (by' _)
    | ref n => unfold niceZ at ny; cases ny
    | scr n => unfold niceZ at ny; cases ny
    | err n => unfold niceZ at ny; cases ny
    | non => exact ⟨kx, ky, by simpa [ze1, ze2, ze3, ze4, ze5, ze6, ze7] using q⟩
    | int j => exact ⟨kx, ky, by simpa [ze1, ze2, ze3, ze4, ze5, ze6, ze7] using q⟩
    | str j => exact ⟨kx, ky, by simpa [ze1, ze2, ze3, ze4, ze5, ze6, ze7] using q⟩
  | int i =>
    cases y with
    | tup zs => exact absurd rfl (ty _)
    | bl b => exact absurd rfl (by' _)
    | ref n => unfold niceZ at ny; cases ny
    | scr n => unfold niceZ at ny; cases ny
    | err n => unfold niceZ at ny; cases ny
    | non => exact ⟨kx, ky, by simpa [ze1, ze2, ze3, ze4, ze5, ze6, ze7] using q⟩
    | int j => simpa using q
    | str j => exact ⟨kx, ky, by simpa [ze1, ze2, ze3, ze4, ze5, ze6, ze7] using q⟩
  | str i =>
    cases y with
    | tup zs => exact absurd rfl (ty _)
    | bl b => exact absurd rfl (by' _)
    | ref n => unfold niceZ at ny; cases ny
    | scr n => unfold niceZ at ny; cases ny
    | err n => unfold niceZ at ny; cases ny
    | non => exact ⟨kx, ky, by simpa [ze1, ze2, ze3, ze4, ze5, ze6, ze7] using q⟩
    | int j => exact ⟨kx, ky, by simpa [ze1, ze2, ze3, ze4, ze5, ze6, ze7] using q⟩
    | str j => simpa using q
theorem size_mem : ∀ {zs : List Z} {z : Z}, z ∈ zs → sizeZ z ≤ sizeZs zs
  | y :: ys, z, m => by
    unfold sizeZs
    rcases List.mem_cons.mp m with rfl | m
    · omega
    · have := size_mem m; omega
theorem same_ok : ∀ {n : Nat} {x y : Z} {h : ZH} {P : PZ} {E : XZ → ZH → Prop}, niceZ x = true → niceZ y = true → depZ x < n → sizeZ x ≤ 1000000 → P (.bl (decide (x = y))) h → fSameL cs n [x, y] h P E
  | 0, _, _, _, _, _, _, _, h, _, _ => absurd h (Nat.not_lt_zero _)
  | n + 1, x, y, h, P, E, nx, ny, hd, hs, q => by
    show wfOf 3 (wSameL cs (fSameL cs n)) [x, y] h P E
    unfold wfOf wSameL
    simp
    cases x with
    | ref n => unfold niceZ at nx; cases nx
    | scr n => unfold niceZ at nx; cases nx
    | err n => unfold niceZ at nx; cases nx
    | tup xs =>
      cases y with
      | ref n => unfold niceZ at ny; cases ny
      | scr n => unfold niceZ at ny; cases ny
      | err n => unfold niceZ at ny; cases ny
      | tup ys =>
        rw [depZ_tup] at hd
        simp
        by_cases hl : xs.length = ys.length
        · have hl' : (xs.length : Int) = ys.length := by omega
          have hs : sizeZs xs + 1 ≤ 1000000 := by simpa [sizeZ] using hs
          have hlen := len_sizeZs xs
          simp [hl']
          refine ⟨⟨by omega, by omega⟩, ?_⟩
          refine forZ_ind (fun us env h' => h' = h ∧ ∃ (j : Nat) (a : Option Z), env = [some (.tup xs), some (.tup ys), a] ∧ us = rngZ (j : Int) (ys.length - j) ∧ j ≤ ys.length ∧ ∀ i : Nat, i < j → xs[i]? = ys[i]?) ?_ ?_ _ _ _ ⟨rfl, 0, none, rfl, by simp, by omega, fun i hi => absurd hi (Nat.not_lt_zero _)⟩
          · rintro env h' ⟨rfl, j, a, rfl, e, hj, he⟩
            have : ys.length - j = 0 := by
              have := congrArg List.length e
              simp [rngZ] at this
              omega
            refine ⟨trivial, ?_⟩
            simp
            have ee : xs = ys := List.ext_getElem? fun i => by
              by_cases hi : i < j
              · exact he i hi
              · rw [List.getElem?_eq_none (by omega), List.getElem?_eq_none (by omega)]
            subst ee
            simpa using q
          · rintro z us env h' N hN ⟨rfl, j, a, rfl, e, hj, he⟩
            have hjm : j < ys.length := by
              have := congrArg List.length e
              simp [rngZ] at this
              omega
            rw [show ys.length - j = (ys.length - (j + 1)) + 1 by omega] at e
            have rc := rng_cons (a := (j : Int)) (n := ys.length - (j + 1))
            rw [rc] at e
            obtain ⟨rfl, rfl⟩ := List.cons.inj e
            refine ⟨trivial, ?_⟩
            have hjx : j < xs.length := by omega
            have a1 : L2.atI xs (j : Int) = some xs[j] := atI_nat hjx
            have a2 : L2.atI ys (j : Int) = some ys[j] := atI_nat hjm
            simp [a1, a2]
            have mx := List.getElem_mem hjx
            have my := List.getElem_mem hjm
            refine same_ok (nice_mem nx mx) (nice_mem ny my) (by have := depZs_mem mx; omega) (by have := size_mem mx; omega) ?_
            by_cases ee : xs[j] = ys[j]
            · rw [decide_eq_true ee]
              simp
              refine hN _ _ ⟨rfl, j + 1, _, rfl, by simp, by omega, fun i hi => ?_⟩
              by_cases hi' : i < j
              · exact he i hi'
              · have : i = j := by omega
                subst this
                rw [List.getElem?_eq_getElem hjx, List.getElem?_eq_getElem hjm, ee]
            · rw [decide_eq_false ee]
              simp
              have : decide (Z.tup xs = Z.tup ys) = false := by
                simp
                rintro rfl
                exact ee rfl
              rw [this] at q
              exact q
        · have hl' : ¬ (xs.length : Int) = ys.length := by omega
          simp [hl']
          have : decide (Z.tup xs = Z.tup ys) = false := by
            simp
            rintro rfl
            exact hl rfl
          rw [this] at q
          exact q
      | _ => simpa using q
    | bl b =>
      cases y with
      | ref n => unfold niceZ at ny; cases ny
      | scr n => unfold niceZ at ny; cases ny
      | err n => unfold niceZ at ny; cases ny
      | _ => simpa using q
    | _ =>
      cases y with
      | ref n => unfold niceZ at ny; cases ny
      | scr n => unfold niceZ at ny; cases ny
      | err n => unfold niceZ at ny; cases ny
      | tup ys => simpa using q
      | bl b => simpa using q
      | _ =>
        simp
        refine eq_atoms nx ny ?_ ?_ ?_ ?_ q <;> (intro z e; cases e)
mutual
theorem nice_refs {h : ZH} : ∀ {z : Z}, niceZ z = true → refsI cs h z
  | .non, _ => by unfold refsI; trivial
  | .bl _, _ => by unfold refsI; trivial
  | .int _, _ => by unfold refsI; trivial
  | .str _, _ => by unfold refsI; trivial
  | .tup zs, q => by
    unfold niceZ at q
    unfold refsI
    exact nices_refs q
  | .scr _, q => by unfold niceZ at q; cases q
  | .ref _, q => by unfold niceZ at q; cases q
  | .err _, q => by unfold niceZ at q; cases q
theorem nices_refs {h : ZH} : ∀ {zs : List Z}, niceZs zs = true → refsIs cs h zs
  | [], _ => by unfold refsIs; trivial
  | z :: zs, q => by
    unfold niceZs at q
    obtain ⟨a, b⟩ := Bool.and_eq_true_iff.mp q
    unfold refsIs
    exact ⟨nice_refs a, nices_refs b⟩
end
end
/-! ### same -/
def wSameP : WS := (wsRet (w2 oEq (wCB oRepr (wCons (wVar 0) wNil)) (wCB oRepr (wCons (wVar 1) wNil))))
def fSameP : WF := wfOf 2 wSameP
theorem sameP_ok {x y : Z} {d : Nat} {h : ZH} {P : PZ} {E : XZ → ZH → Prop} (hd : d ≤ 60) (px : plainB d x = true) (py : plainB d y = true) (sx : okS x = true) (sy : okS y = true) (nx : niceZ x = true) (ny : niceZ y = true) (lx : tlenZ x ≤ 16777216) (ly : tlenZ y ≤ 16777216) (q : P (.bl (decide (x = y))) h) : fSameP [x, y] h P E := by
  unfold fSameP wfOf wSameP
  simp [-oRepr_1]
  refine repr_plain px sx hd lx ?_
  simp [-oRepr_1]
  refine repr_plain py sy hd ly ?_
  simp
  have : decide (shw x = shw y) = decide (x = y) := decide_eq_decide.mpr (shw_inj nx ny)
  rw [this]
  exact q
end ZL

namespace ZG
open PySem PySem.Spec PyProof.Rows L2 ZL
def w_Registry___init__ : WS := (wsSeq (wsFld ["Registry"] "_names" (wVar 0) wDict0) (wsSeq (wsFld ["Registry"] "_pens" (wVar 0) wDict0) (wsFld ["Registry"] "_seals" (wVar 0) wDict0)))
def f_Registry___init__ : WF := wfOf 1 w_Registry___init__
def w_Pen___init__ : WS := (wsSeq (wsFld ["Pen"] "owner" (wVar 0) (wVar 1)) (wsFld ["Pen"] "_registry" (wVar 0) (wVar 2)))
def f_Pen___init__ : WF := wfOf 3 w_Pen___init__
def w_Registry_pen : WS := (wsSeq (wsIf (wB (w2 oIn (wVar 1) (wFld ["Registry"] "_pens" (wVar 0)))) (wsRaise "InvalidArgument" (w1 (wC (.str "the pen was given before")))) wsNext) (wsSeq (wsAsg (wC (.bl true)) (wgSub (wFld ["Registry"] "_pens" (wVar 0)) (wVar 1))) (wsRet (wMake "Pen" 2 f_Pen___init__ (wCons (wVar 1) (wCons (wVar 0) wNil))))))
def f_Registry_pen : WF := wfOf 2 w_Registry_pen
def w_Registry_is_sealed : WS := (wsRet (w2 oIn (wTup (wCons (wCB oRepr (wCons (wVar 1) wNil)) (wCons (wCB oRepr (wCons (wVar 2) wNil)) wNil))) (wFld ["Registry"] "_seals" (wVar 0))))
def f_Registry_is_sealed : WF := wfOf 3 w_Registry_is_sealed
def w_Registry_note_seal : WS := (wsAsg (wC (.bl true)) (wgSub (wFld ["Registry"] "_seals" (wVar 0)) (wTup (wCons (wCB oRepr (wCons (wVar 1) wNil)) (wCons (wCB oRepr (wCons (wVar 2) wNil)) wNil)))))
def f_Registry_note_seal : WF := wfOf 3 w_Registry_note_seal
def w_Pen_seal : WS := (wsSeq (wsExpr (wMeth "Registry" "note_seal" 2 f_Registry_note_seal (wFld ["Pen"] "_registry" (wVar 0)) (wCons (wFld ["Pen"] "owner" (wVar 0)) (wCons (wVar 1) wNil)))) (wsRet (wTup (wCons (wC (.str "sealed")) (wCons (wFld ["Pen"] "owner" (wVar 0)) (wCons (wVar 1) wNil))))))
def f_Pen_seal : WF := wfOf 2 w_Pen_seal
def w_Registry_name : WS := (wsSeq (wsSet 2 (wCB oRepr (wCons (wVar 1) wNil))) (wsSeq (wsIf (wB (w2 oNotIn (wVar 2) (wFld ["Registry"] "_names" (wVar 0)))) (wsAsg (w2 oAdd (wCB oLen (wCons (wFld ["Registry"] "_names" (wVar 0)) wNil)) (wC (.int 1))) (wgSub (wFld ["Registry"] "_names" (wVar 0)) (wVar 2))) wsNext) (wsRet (w2 oIx (wFld ["Registry"] "_names" (wVar 0)) (wVar 2)))))
def f_Registry_name : WF := wfOf 3 w_Registry_name
end ZG

namespace ZG
open PySem PySem.Spec PyProof.Rows L2 ZL
/-! ### a registry -/
def rf (a b c : Nat) : List (Str × Z) := [("_names", .ref a), ("_pens", .ref b), ("_seals", .ref c)]
abbrev reg (a b c : Nat) : ZO := .ins "Registry" (rf a b c)
section
variable {a b c : Nat}
@[simp] theorem rl1 : List.lookup ("_names" : Str) (rf a b c) = some (.ref a) := rfl
@[simp] theorem rl2 : List.lookup ("_pens" : Str) (rf a b c) = some (.ref b) := rfl
@[simp] theorem rl3 : List.lookup ("_seals" : Str) (rf a b c) = some (.ref c) := rfl
@[simp] theorem rm1 : List.lookup ("name" : Str) (rf a b c) = none := rfl
@[simp] theorem rm2 : List.lookup ("pen" : Str) (rf a b c) = none := rfl
@[simp] theorem rm3 : List.lookup ("is_sealed" : Str) (rf a b c) = none := rfl
@[simp] theorem rm4 : List.lookup ("note_seal" : Str) (rf a b c) = none := rfl
end
def rf1 (a : Nat) : List (Str × Z) := [("_names", .ref a)]
def rf2 (a b : Nat) : List (Str × Z) := [("_names", .ref a), ("_pens", .ref b)]
/-- new at x, all else stays -/
theorem init_ok {x : Nat} {h : ZH} (hx : h[x]? = some (.ins "Registry" [])) {P : PZ} {E : XZ → ZH → Prop} (q : ∀ h' a, Keep h h' [x] → h'[x]? = some (reg a (a + 1) (a + 2)) → h'[a]? = some (.dict []) → h'[a + 1]? = some (.dict []) → h'[a + 2]? = some (.dict []) → h.length ≤ a → P .non h') : f_Registry___init__ [.ref x] h P E := by
  unfold f_Registry___init__ wfOf w_Registry___init__
  have lx := lt_of_get hx
  have f1 : zput ("_names" : Str) (.ref h.length) [] = rf1 h.length := rfl
  have f2 : ∀ w, zput ("_pens" : Str) (.ref w) (rf1 h.length) = rf2 h.length w := fun w => rfl
  have f3 : ∀ w y, zput ("_seals" : Str) (.ref y) (rf2 h.length w) = rf h.length w y := fun w y => rfl
  have i1 : (rf1 h.length).length = 1 := rfl
  have i2 : ∀ w, (rf2 h.length w).length = 2 := fun w => rfl
  have e1 : ∀ g, (h ++ g)[x]? = some (.ins "Registry" []) := fun g => get_app hx
  have e2 : ∀ g y, ((h ++ g).set x y)[x]? = some y := fun g y => get_set (e1 g)
  have e3 : ∀ g y g2, ((h ++ g).set x y ++ g2)[x]? = some y := fun g y g2 => get_app (e2 g y)
  have e4 : ∀ g y g2 z, (((h ++ g).set x y ++ g2).set x z)[x]? = some z := fun g y g2 z => get_set (e3 g y g2)
  have e5 : ∀ g y g2 z g3, ((((h ++ g).set x y ++ g2).set x z) ++ g3)[x]? = some z := fun g y g2 z g3 => get_app (e4 g y g2 z)
  have e6 : ∀ g y g2 z g3 u, (((((h ++ g).set x y ++ g2).set x z) ++ g3).set x u)[x]? = some u := fun g y g2 z g3 u => get_set (e5 g y g2 z g3)
  simp [f1, f2, f3, i1, i2, e1, e2, e3, e4, e5]
  refine q _ h.length ((((((Keep.refl _ _).app _).set _ fun _ => by simp).app _).set _ fun _ => by simp).app _ |>.set _ fun _ => by simp) (e6 _ _ _ _ _ _) ?_ ?_ ?_ (Nat.le_refl _)
  · rw [List.getElem?_set_ne (by omega)]
    refine get_app ?_
    rw [List.getElem?_set_ne (by omega)]
    refine get_app ?_
    rw [List.getElem?_set_ne (by omega)]
    simp
  · rw [List.getElem?_set_ne (by omega)]
    refine get_app ?_
    rw [List.getElem?_set_ne (by omega)]
    simp
  · rw [List.getElem?_set_ne (by omega)]
    simp
end ZG
namespace ZG
open PySem PySem.Spec PyProof.Rows L2 ZL
/-! ### names -/
/-- what repr may be asked of -/
structure Rv (v : Z) : Prop where
  n : niceZ v = true
  p : plainB 60 v = true
  s : okS v = true
  l : tlenZ v ≤ 16777216
theorem repr_ok {v : Z} (r : Rv v) {h : ZH} {P : PZ} (q : P (.str (shw v)) h) : oRepr [v] h P := repr_plain r.p r.s (by decide) r.l q
theorem shw_dec {x y : Z} (hx : Rv x) (hy : Rv y) : decide (Z.str (shw x) = Z.str (shw y)) = decide (x = y) := decide_eq_decide.mpr ⟨fun e => (shw_inj hx.n hy.n).mp (Z.str.inj e), fun e => by rw [e]⟩
/-- the place of v, or the length -/
def posZ : List Z → Z → Nat
  | [], _ => 0
  | u :: us, v => if u = v then 0 else posZ us v + 1
theorem pos_le : ∀ {us : List Z} {v : Z}, posZ us v ≤ us.length
  | [], _ => Nat.le_refl _
  | u :: us, v => by
    unfold posZ
    split
    · omega
    · have := pos_le (us := us) (v := v)
      simp; omega
def nmD : Nat → List Z → List (Z × Z)
  | _, [] => []
  | i, v :: vs => (.str (shw v), .int (i : Nat)) :: nmD (i + 1) vs
def insV (vs : List Z) (v : Z) : List Z := if posZ vs v < vs.length then vs else vs ++ [v]
theorem nm_len : ∀ {i : Nat} {vs : List Z}, (nmD i vs).length = vs.length
  | _, [] => rfl
  | i, v :: vs => by unfold nmD; simp [nm_len]
theorem nm_get : ∀ {i : Nat} {vs : List Z} {v : Z}, (∀ u ∈ vs, Rv u) → Rv v → dget (nmD i vs) (.str (shw v)) = if posZ vs v < vs.length then some (.int ((i + posZ vs v : Nat) : Int)) else none
  | i, [], v, _, _ => rfl
  | i, u :: us, v, hu, hv => by
    unfold nmD posZ dget
    rw [List.find?_cons]
    have e := shw_dec (hu u List.mem_cons_self) hv
    show Option.map _ (match decide (Z.str (shw u) = Z.str (shw v)) with | true => _ | false => _) = _
    rw [e]
    by_cases c : u = v
    · simp [c]
    · rw [decide_eq_false c]
      have ih := nm_get (i := i + 1) (vs := us) (v := v) (fun y m => hu y (List.mem_cons_of_mem _ m)) hv
      unfold dget at ih
      show Option.map _ (List.find? _ (nmD (i + 1) us)) = _
      rw [ih, if_neg c]
      simp only [List.length_cons, Nat.add_lt_add_iff_right]
      split
      · congr 3; omega
      · rfl
theorem nm_any {i : Nat} {vs : List Z} {v : Z} (hu : ∀ u ∈ vs, Rv u) (hv : Rv v) (h : ¬ posZ vs v < vs.length) : ((nmD i vs).any fun p => decide (p.1 = .str (shw v))) = false := by
  have := nm_get (i := i) hu hv
  rw [if_neg h] at this
  unfold dget at this
  rw [Option.map_eq_none_iff, List.find?_eq_none] at this
  rw [List.any_eq_false]
  intro p m
  simpa using this p m
theorem nm_snoc : ∀ {i : Nat} {vs : List Z} {v : Z}, nmD i (vs ++ [v]) = nmD i vs ++ [(.str (shw v), .int ((i + vs.length : Nat) : Int))]
  | i, [], v => rfl
  | i, u :: us, v => by
    show _ :: nmD (i + 1) (us ++ [v]) = _ :: nmD (i + 1) us ++ _
    rw [nm_snoc]
    simp only [List.cons_append, List.length_cons]
    congr 4
    rw [show i + 1 + us.length = i + (us.length + 1) by omega]
theorem nm_put {i : Nat} {vs : List Z} {v : Z} (hu : ∀ u ∈ vs, Rv u) (hv : Rv v) (h : ¬ posZ vs v < vs.length) : dput (nmD i vs) (.str (shw v)) (.int ((i + vs.length : Nat) : Int)) = nmD i (vs ++ [v]) := by
  unfold dput
  rw [nm_any hu hv h, nm_snoc]
  rfl
theorem nm_key : ∀ {i : Nat} {vs : List Z} {s : Str}, dkey (nmD i vs) (.str s) := by
  intro i vs s
  refine ⟨rfl, ?_⟩
  intro p m
  induction vs generalizing i with
  | nil => cases m
  | cons u us ih =>
    unfold nmD at m
    rcases List.mem_cons.mp m with rfl | m
    · rfl
    · exact ih m
theorem ins_mem {vs : List Z} {v u : Z} (m : u ∈ insV vs v) : u ∈ vs ∨ u = v := by
  unfold insV at m
  split at m
  · exact .inl m
  · rcases List.mem_append.mp m with m | m
    · exact .inl m
    · exact .inr (by simpa using m)
theorem ins_len {vs : List Z} {v : Z} : (insV vs v).length ≤ vs.length + 1 := by
  unfold insV
  split
  · omega
  · simp
theorem name_ok {x a b c : Nat} {vs : List Z} {v : Z} {h : ZH} (hx : h[x]? = some (reg a b c)) (ha : h[a]? = some (.dict (nmD 1 vs))) (hu : ∀ u ∈ vs, Rv u) (hv : Rv v) (hl : vs.length ≤ 1000000) {P : PZ} {E : XZ → ZH → Prop}
    (q : ∀ h', Keep h h' [a] → h'[a]? = some (.dict (nmD 1 (insV vs v))) → P (.int ((posZ vs v + 1 : Nat) : Int)) h') : f_Registry_name [.ref x, v] h P E := by
  unfold f_Registry_name wfOf w_Registry_name
  have bl := big_line
  have nxa : x ≠ a := ne_of_get hx ha (by simp)
  simp [-oRepr_1]
  refine repr_ok hv ?_
  simp [hx, ha, oNotIn, inZ, nm_key, nm_get hu hv]
  by_cases hp : posZ vs v < vs.length
  · have e : insV vs v = vs := if_pos hp
    rw [e] at q
    simp [hp, hx, ha, nm_key, nm_get hu hv]
    have := q h (.refl _ _) ha
    simpa [Nat.add_comm] using this
  · have e : insV vs v = vs ++ [v] := if_neg hp
    rw [e] at q
    have ep : posZ vs v = vs.length := by have := pos_le (us := vs) (v := v); omega
    have hxs : ∀ y, (h.set a y)[x]? = some (reg a b c) := fun y => by rw [List.getElem?_set_ne nxa.symm]; exact hx
    have has : ∀ y, (h.set a y)[a]? = some y := fun y => get_set ha
    have ei : ((vs.length : Int) + 1) = ((1 + vs.length : Nat) : Int) := by omega
    simp [hp, hx, ha, nm_key, nm_len]
    rw [ei, nm_put hu hv hp]
    refine ⟨by omega, ?_⟩
    have hu' : ∀ u ∈ vs ++ [v], Rv u := fun u m => by
      rcases List.mem_append.mp m with m | m
      · exact hu u m
      · simp at m; subst m; exact hv
    have ep2 : ∀ {us : List Z}, posZ us v = us.length → posZ (us ++ [v]) v = us.length := by
      intro us
      induction us with
      | nil => intro _; simp [posZ]
      | cons u us ih =>
        intro h
        unfold posZ at h
        split at h
        · simp at h
        · rename_i c
          show (if u = v then 0 else posZ (us ++ [v]) v + 1) = _
          rw [if_neg c, ih (by simpa using h)]
          rfl
    simp [hxs, has, nm_key, nm_get hu' hv, ep2 ep]
    have := q _ ((Keep.refl h [a]).set _ fun _ => by simp) (has _)
    rw [ep] at this
    rw [Int.add_comm]
    simpa using this
end ZG

namespace ZG
open PySem PySem.Spec PyProof.Rows L2 ZL
/-! ### dicts -/
theorem get_put {k v : Z} : ∀ {kvs : List (Z × Z)} {k' : Z}, dget (dput kvs k v) k' = if k' = k then some v else dget kvs k' := by
  intro kvs k'
  unfold dput
  split
  · rename_i h
    have key : ∀ l : List (Z × Z), (l.any fun p => decide (p.1 = k)) = true ∨ k' ≠ k → dget (l.map fun p => if p.1 = k then (p.1, v) else p) k' = if k' = k then some v else dget l k' := by
      intro l
      induction l with
      | nil =>
        intro c
        rcases c with c | c
        · simp at c
        · simp [dget, c]
      | cons p l ih =>
        intro c
        by_cases e : p.1 = k
        · by_cases e2 : k' = k
          · simp [dget, e, e2, -List.find?_map, -Option.map_map]
          · have ih := ih (.inr e2)
            have e3 : ¬ k = k' := fun z => e2 z.symm
            simp only [dget, if_neg e2] at ih
            simp [dget, e, e2, e3, ih, -List.find?_map, -Option.map_map]
        · have e4 : ¬ (k' = k ∧ p.1 = k') := fun ⟨z1, z2⟩ => e (z2.trans z1)
          by_cases e5 : p.1 = k'
          · have e2 : ¬ k' = k := fun z => e4 ⟨z, e5⟩
            simp [dget, e, e5, e2, -List.find?_map, -Option.map_map]
          · have ih := ih (c.imp_left fun c => by simpa [e] using c)
            simp only [dget] at ih
            simp [dget, e, e5, ih, -List.find?_map, -Option.map_map]
    exact key kvs (.inl h)
  · rename_i h
    have h : ∀ p ∈ kvs, p.1 ≠ k := fun p m e => h (List.any_eq_true.mpr ⟨p, m, by simp [e]⟩)
    by_cases e : k' = k
    · subst e
      have : kvs.find? (fun p => decide (p.1 = k')) = none := by
        rw [List.find?_eq_none]
        intro p m
        simpa using h p m
      simp [dget, List.find?_append, this]
    · have e3 : ¬ k = k' := fun z => e z.symm
      simp [dget, List.find?_append, e, e3]
theorem put_keys {k v : Z} {b : Bool} {kvs : List (Z × Z)} (h : ∀ p ∈ kvs, isT p.1 = b) (hk : isT k = b) : ∀ p ∈ dput kvs k v, isT p.1 = b := by
  intro p m
  unfold dput at m
  split at m
  · obtain ⟨y, hy, rfl⟩ := List.mem_map.mp m
    split
    · exact h y hy
    · exact h y hy
  · rcases List.mem_append.mp m with m | m
    · exact h p m
    · simp at m; subst m; exact hk
theorem put_len {k v : Z} {kvs : List (Z × Z)} : (dput kvs k v).length ≤ kvs.length + 1 := by
  unfold dput
  split <;> simp
/-! ### seals -/
def keyS (o v : Z) : Z := .tup [.str (shw o), .str (shw v)]
theorem key_inj {o v o' v' : Z} (ho : Rv o) (hv : Rv v) (ho' : Rv o') (hv' : Rv v') : keyS o v = keyS o' v' ↔ o = o' ∧ v = v' := by
  unfold keyS
  simp only [Z.tup.injEq, List.cons.injEq, Z.str.injEq, and_true]
  rw [shw_inj ho.n ho'.n, shw_inj hv.n hv'.n]
abbrev Seals := List (Z × Z)
def memS (S : Seals) (o v : Z) : Bool := S.any fun s => decide (s.1 = o) && decide (s.2 = v)
structure SealsOk (kvs : List (Z × Z)) (S : Seals) : Prop where
  t : ∀ p ∈ kvs, isT p.1 = true
  g : ∀ o v, Rv o → Rv v → (dget kvs (keyS o v)).isSome = memS S o v
  r : ∀ s ∈ S, Rv s.1 ∧ Rv s.2
  l : kvs.length ≤ S.length
theorem seals0 : SealsOk [] [] := ⟨fun p m => (nomatch m), fun o v _ _ => rfl, fun s m => (nomatch m), Nat.le_refl _⟩
theorem SealsOk.put {kvs : List (Z × Z)} {S : Seals} (k : SealsOk kvs S) {o v : Z} (ho : Rv o) (hv : Rv v) : SealsOk (dput kvs (keyS o v) (.bl true)) (S ++ [(o, v)]) := by
  refine ⟨put_keys k.t rfl, fun o' v' ho' hv' => ?_, fun s m => ?_, ?_⟩
  · rw [get_put]
    unfold memS
    rw [List.any_append]
    have := k.g o' v' ho' hv'
    unfold memS at this
    rw [← this]
    by_cases e : keyS o' v' = keyS o v
    · obtain ⟨e1, e2⟩ := (key_inj ho' hv' ho hv).mp e
      simp [e, e1, e2]
    · rw [if_neg e]
      have : ¬ (o = o' ∧ v = v') := fun ⟨a, b⟩ => e (by rw [a, b])
      have : (decide (o = o') && decide (v = v')) = false := by
        rw [← Bool.decide_and]; exact decide_eq_false this
      simp [this]
  · rcases List.mem_append.mp m with m | m
    · exact k.r s m
    · simp at m; subst m; exact ⟨ho, hv⟩
  · have := put_len (kvs := kvs) (k := keyS o v) (v := .bl true)
    have := k.l
    simp; omega
section
variable {x a b c : Nat} {kvs : List (Z × Z)} {S : Seals} {o v : Z} {h : ZH} {P : PZ} {E : XZ → ZH → Prop}
theorem sealed_ok (hx : h[x]? = some (reg a b c)) (hc : h[c]? = some (.dict kvs)) (k : SealsOk kvs S) (ho : Rv o) (hv : Rv v) (q : P (.bl (memS S o v)) h) : f_Registry_is_sealed [.ref x, o, v] h P E := by
  unfold f_Registry_is_sealed wfOf w_Registry_is_sealed
  simp [-oRepr_1]
  refine repr_ok ho ?_
  simp [-oRepr_1]
  refine repr_ok hv ?_
  have g := k.g o v ho hv
  unfold keyS at g
  simp [hx, hc, oIn, inZ, sizeLine_eq, g]
  exact ⟨⟨rfl, fun p m => k.t p m⟩, q⟩
theorem note_ok (hx : h[x]? = some (reg a b c)) (hc : h[c]? = some (.dict kvs)) (k : SealsOk kvs S) (ho : Rv o) (hv : Rv v) (hl : S.length ≤ 1000000) (q : P .non (h.set c (.dict (dput kvs (keyS o v) (.bl true))))) : f_Registry_note_seal [.ref x, o, v] h P E := by
  unfold f_Registry_note_seal wfOf w_Registry_note_seal
  have := k.l
  simp [-oRepr_1, hx]
  refine repr_ok ho ?_
  simp [-oRepr_1]
  refine repr_ok hv ?_
  simp [hx, hc, sizeLine_eq]
  exact ⟨⟨rfl, fun p m => k.t p m⟩, by omega, q⟩
/-! ### pens -/
def pf (o : Z) (x : Nat) : List (Str × Z) := [("owner", o), ("_registry", .ref x)]
abbrev penO (o : Z) (x : Nat) : ZO := .ins "Pen" (pf o x)
@[simp] theorem pl1 : List.lookup ("owner" : Str) (pf o x) = some o := rfl
@[simp] theorem pl2 : List.lookup ("_registry" : Str) (pf o x) = some (.ref x) := rfl
@[simp] theorem pl3 : List.lookup ("seal" : Str) (pf o x) = none := rfl
theorem seal_ok {p : Nat} (hp : h[p]? = some (penO o x)) (hx : h[x]? = some (reg a b c)) (hc : h[c]? = some (.dict kvs)) (k : SealsOk kvs S) (ho : Rv o) (hv : Rv v) (hl : S.length ≤ 1000000)
    (q : ∀ h' kvs', Keep h h' [c] → h'[c]? = some (.dict kvs') → SealsOk kvs' (S ++ [(o, v)]) → P (.tup [.str "sealed", o, v]) h') : f_Pen_seal [.ref p, v] h P E := by
  unfold f_Pen_seal wfOf w_Pen_seal
  have npc : p ≠ c := ne_of_get hp hc (by simp)
  simp [-List.lookup_eq_none_iff, hp, hx]
  refine note_ok hx hc k ho hv hl ?_
  have hp' : ∀ y, (h.set c y)[p]? = some (penO o x) := fun y => by rw [List.getElem?_set_ne npc.symm]; exact hp
  simp [hp', sizeLine_eq]
  exact q _ _ ((Keep.refl h [c]).set _ fun _ => by simp) (get_set hc) (k.put ho hv)
structure PensOk (kvs : List (Z × Z)) (O : List Int) : Prop where
  t : ∀ p ∈ kvs, isT p.1 = false
  g : ∀ i : Int, (dget kvs (.int i)).isSome = decide (i ∈ O)
  l : kvs.length ≤ O.length
theorem pens0 : PensOk [] [] := ⟨fun p m => (nomatch m), fun i => rfl, Nat.le_refl _⟩
theorem PensOk.put {O : List Int} (k : PensOk kvs O) {i : Int} : PensOk (dput kvs (.int i) (.bl true)) (O ++ [i]) := by
  refine ⟨put_keys k.t rfl, fun j => ?_, ?_⟩
  · rw [get_put]
    have := k.g j
    by_cases e : j = i
    · subst e; simp
    · have e' : ¬ Z.int j = Z.int i := fun z => e (Z.int.inj z)
      rw [if_neg e', this]
      simp [e]
  · have := put_len (kvs := kvs) (k := .int i) (v := .bl true)
    have := k.l
    simp; omega
theorem pen_ok {O : List Int} {i : Int} (hx : h[x]? = some (reg a b c)) (hb : h[b]? = some (.dict kvs)) (k : PensOk kvs O) (hi : i ∉ O) (hl : O.length ≤ 1000000)
    (q : ∀ h' p kvs', Keep h h' [b] → h'[b]? = some (.dict kvs') → PensOk kvs' (O ++ [i]) → h'[p]? = some (penO (.int i) x) → h.length ≤ p → P (.ref p) h') : f_Registry_pen [.ref x, .int i] h P E := by
  unfold f_Registry_pen wfOf w_Registry_pen
  have nxb : x ≠ b := ne_of_get hx hb (by simp)
  have g := k.g i
  rw [decide_eq_false hi] at g
  have kl := k.l
  simp [hx, hb, oIn, inZ, g, sizeLine_eq]
  refine ⟨⟨rfl, fun p m => k.t p m⟩, by omega, ?_⟩
  unfold f_Pen___init__ wfOf w_Pen___init__
  have lb := lt_of_get hb
  have e1 : ∀ y, ((h.set b y) ++ [ZO.ins (Str.ofString "Pen") []])[h.length]? = some (.ins (Str.ofString "Pen") []) := fun y => by
    rw [List.getElem?_append_right (by simp)]; simp
  have e2 : ∀ y z, (((h.set b y) ++ [ZO.ins (Str.ofString "Pen") []]).set h.length z)[h.length]? = some z := fun y z => get_set (e1 y)
  have f1 : (zput (Str.ofString "owner") (Z.int i) []).length = 1 := rfl
  have f2 : zput (Str.ofString "_registry") (Z.ref x) (zput (Str.ofString "owner") (Z.int i) []) = pf (.int i) x := rfl
  simp [e1, e2, f1, f2]
  refine q _ h.length _ (((Keep.refl h [b]).set _ fun _ => by simp).app _) (get_app (get_set hb)) k.put ?_ (Nat.le_refl _)
  rw [List.getElem?_append_right (by simp)]
  simp
theorem pen_no {O : List Int} {i : Int} (hx : h[x]? = some (reg a b c)) (hb : h[b]? = some (.dict kvs)) (k : PensOk kvs O) (hi : i ∈ O) (q : E ⟨"InvalidArgument", []⟩ h) : f_Registry_pen [.ref x, .int i] h P E := by
  unfold f_Registry_pen wfOf w_Registry_pen
  have g := k.g i
  rw [decide_eq_true hi] at g
  simp [hx, hb, oIn, inZ, g]
  exact ⟨⟨rfl, fun p m => k.t p m⟩, q⟩
end
end ZG

namespace ZN
open PySem PySem.Spec PyProof.Rows L2 ZL
def w__law_next : WS := (wsSeq (wsIf (wAnd (wB (w2 oEq (w2 oIx (wVar 0) (wC (.int 2))) (wC (.int 0)))) (wB (w2 oLt (w2 oIx (wVar 0) (wC (.int 1))) (wCB oLen (wCons (w2 oIx (wVar 0) (wC (.int 0))) wNil))))) (wsSeq (wsSet 2 (w2 oIx (w2 oIx (wVar 0) (wC (.int 0))) (w2 oIx (wVar 0) (wC (.int 1))))) (wsSeq (wsAugS oIadd (wVar 0) (wC (.int 1)) (wC (.int 1))) (wsIf (wB (w2 oGe (wVar 2) (w2 oPow (wC (.int 10)) (wC (.int 18))))) (wsAsg (wVar 2) (wgSub (wVar 0) (wC (.int 2)))) (wsAsg (w2 oMod (wCB oInt (wCons (w2 oAdd (w2 oAdd (w2 oMul (w2 oIx (wVar 0) (wC (.int 3))) (wC (.int 48271))) (w2 oMod (wCB oInt (wCons (wVar 2) wNil)) (wC (.int 2147483647)))) (wC (.int 7))) wNil)) (wC (.int 2147483647))) (wgSub (wVar 0) (wC (.int 3))))))) wsNext) (wsSeq (wsIf (wB (w2 oGt (w2 oIx (wVar 0) (wC (.int 2))) (wC (.int 0)))) (wsSeq (wsSet 3 (w2 oMod (wCB oInt (wCons (w2 oIx (wVar 0) (wC (.int 2))) wNil)) (wVar 1))) (wsSeq (wsAsg (w2 oFdiv (w2 oIx (wVar 0) (wC (.int 2))) (wVar 1)) (wgSub (wVar 0) (wC (.int 2)))) (wsRet (wVar 3)))) wsNext) (wsSeq (wsAsg (w2 oMod (wCB oInt (wCons (w2 oAdd (w2 oMul (w2 oIx (wVar 0) (wC (.int 3))) (wC (.int 69621))) (wC (.int 12345))) wNil)) (wC (.int 2147483647))) (wgSub (wVar 0) (wC (.int 3)))) (wsRet (w2 oMod (wCB oInt (wCons (w2 oFdiv (w2 oIx (wVar 0) (wC (.int 3))) (wC (.int 7))) wNil)) (wVar 1))))))
def f__law_next : WF := wfOf 4 w__law_next
end ZN

namespace ZF
open PySem PySem.Spec PyProof.Rows L2 ZL
def w_is_plain : WS := (wsRet (wCall 2 fWithin (wCons (wVar 0) (wCons (wC (.int 30)) wNil))))
def f_is_plain : WF := wfOf 1 w_is_plain
def w_is_count : WS := (wsRet (wAndV (wIsi .int [] (wVar 0)) (wAndV (wNotV (wIsi .bool [] (wVar 0))) (wChain oLe oLe (wVar 1) (wVar 0) (wVar 2)))))
def f_is_count : WF := wfOf 3 w_is_count
def w_is_row_of : WS := (wsRet (wAndV (wIsi .tuple [] (wVar 0)) (wChain oLe oLe (wVar 1) (wCB oLen (wCons (wVar 0) wNil)) (wVar 2))))
def f_is_row_of : WF := wfOf 3 w_is_row_of
def w_is_name : WS := (wsSeq (wsIf (wOr (wNot (wTru (wIsi .str [] (wVar 0)))) (wNot (wB (wChain oLe oLe (wC (.int 1)) (wCB oLen (wCons (wVar 0) wNil)) (wC (.int 12)))))) (wsRet (wC (.bl false))) wsNext) (wsRet (w2 oEq (wLc (iVal (wVar 0)) (.nm 1) (wNot (wB (wChain oLe oLe (wC (.str "a")) (wVar 1) (wC (.str "z"))))) (wVar 1) [1]) (wLst wNil))))
def f_is_name : WF := wfOf 2 w_is_name
def w_is_value : WS := (wsSeq (wsIf (wTru (wIsi .str [] (wVar 0))) (wsSeq (wsSet 1 (wLc (iVal (wVar 0)) (.nm 2) (wOr (wNot (wB (wChain oLe oLe (wC (.int 32)) (wCB oOrd (wCons (wVar 2) wNil)) (wC (.int 126))))) (wB (w2 oEq (wCB oOrd (wCons (wVar 2) wNil)) (wC (.int 37))))) (wVar 2) [2])) (wsRet (wAndV (w2 oLe (wCB oLen (wCons (wVar 0) wNil)) (wC (.int 40))) (w2 oEq (wVar 1) (wLst wNil))))) wsNext) (wsRet (wCall 3 f_is_count (wCons (wVar 0) (wCons (w2 oSub (wC (.int 1)) (wC (.int 1000000000000000000000000000000))) (wCons (w2 oSub (wC (.int 1000000000000000000000000000000)) (wC (.int 1))) wNil))))))
def f_is_value : WF := wfOf 3 w_is_value
def w_is_operand : WS := (wsSeq (wsIf (wAnd (wTru (wCall 3 f_is_row_of (wCons (wVar 0) (wCons (wC (.int 2)) (wCons (wC (.int 2)) wNil))))) (wB (w2 oEq (w2 oIx (wVar 0) (wC (.int 0))) (wC (.str "value"))))) (wsRet (wCall 1 f_is_value (wCons (w2 oIx (wVar 0) (wC (.int 1))) wNil))) wsNext) (wsRet (wAndV (wCall 3 f_is_row_of (wCons (wVar 0) (wCons (wC (.int 3)) (wCons (wC (.int 3)) wNil)))) (wAndV (w2 oEq (w2 oIx (wVar 0) (wC (.int 0))) (wC (.str "column"))) (wAndV (wCall 1 f_is_name (wCons (w2 oIx (wVar 0) (wC (.int 1))) wNil)) (wCall 3 f_is_count (wCons (w2 oIx (wVar 0) (wC (.int 2))) (wCons (wC (.int 0)) (wCons (wC (.int 4)) wNil)))))))))
def f_is_operand : WF := wfOf 1 w_is_operand
def w_is_condition : WS := (wsSeq (wsIf (wOr (wNot (wTru (wCall 3 f_is_row_of (wCons (wVar 0) (wCons (wC (.int 3)) (wCons (wC (.int 3)) wNil)))))) (wB (w2 oNotIn (w2 oIx (wVar 0) (wC (.int 0))) (wC (.tup (List.map Z.str ["=", "<>", "<", "<="])))))) (wsRet (wC (.bl false))) wsNext) (wsRet (wAndV (wCall 1 f_is_operand (wCons (w2 oIx (wVar 0) (wC (.int 1))) wNil)) (wCall 1 f_is_operand (wCons (w2 oIx (wVar 0) (wC (.int 2))) wNil)))))
def f_is_condition : WF := wfOf 1 w_is_condition
def w_are_conditions : WS := (wsRet (wAndV (wCall 3 f_is_row_of (wCons (wVar 0) (wCons (wC (.int 0)) (wCons (wC (.int 6)) wNil)))) (w2 oEq (wLc (iVal (wVar 0)) (.nm 1) (wNot (wTru (wCall 1 f_is_condition (wCons (wVar 1) wNil)))) (wVar 1) [1]) (wLst wNil))))
def f_are_conditions : WF := wfOf 2 w_are_conditions
def w_is_setting : WS := (wsSeq (wsIf (wOr (wNot (wTru (wCall 3 f_is_row_of (wCons (wVar 0) (wCons (wC (.int 2)) (wCons (wC (.int 2)) wNil)))))) (wOr (wNot (wTru (wCall 3 f_is_count (wCons (w2 oIx (wVar 0) (wC (.int 0))) (wCons (wC (.int 0)) (wCons (wC (.int 4)) wNil)))))) (wNot (wTru (wCall 3 f_is_row_of (wCons (w2 oIx (wVar 0) (wC (.int 1))) (wCons (wC (.int 2)) (wCons (wC (.int 2)) wNil)))))))) (wsRet (wC (.bl false))) wsNext) (wsSeq (wsAsg (w2 oIx (wVar 0) (wC (.int 1))) (wgTup 2 (wgCons (wgName 1) (wgCons (wgName 2) wgNil)))) (wsSeq (wsIf (wB (w2 oEq (wVar 1) (wC (.str "value")))) (wsRet (wCall 1 f_is_value (wCons (wVar 2) wNil))) wsNext) (wsSeq (wsIf (wB (w2 oEq (wVar 1) (wC (.str "plus")))) (wsRet (wAndV (wCall 1 f_is_value (wCons (wVar 2) wNil)) (wNotV (wIsi .str [] (wVar 2))))) wsNext) (wsRet (wAndV (w2 oEq (wVar 1) (wC (.str "column"))) (wCall 3 f_is_count (wCons (wVar 2) (wCons (wC (.int 0)) (wCons (wC (.int 4)) wNil))))))))))
def f_is_setting : WF := wfOf 3 w_is_setting
def w_are_settings : WS := (wsRet (wAndV (wCall 3 f_is_row_of (wCons (wVar 0) (wCons (wC (.int 1)) (wCons (wC (.int 5)) wNil)))) (w2 oEq (wLc (iVal (wVar 0)) (.nm 1) (wNot (wTru (wCall 1 f_is_setting (wCons (wVar 1) wNil)))) (wVar 1) [1]) (wLst wNil))))
def f_are_settings : WF := wfOf 2 w_are_settings
def w_is_source : WS := (wsRet (wAndV (wCall 3 f_is_row_of (wCons (wVar 0) (wCons (wC (.int 2)) (wCons (wC (.int 2)) wNil)))) (wAndV (wCall 1 f_is_name (wCons (w2 oIx (wVar 0) (wC (.int 0))) wNil)) (wCall 1 f_is_name (wCons (w2 oIx (wVar 0) (wC (.int 1))) wNil)))))
def f_is_source : WF := wfOf 1 w_is_source
def w_is_output : WS := (wsSeq (wsIf (wB (w2 oEq (wVar 0) (wTup (wCons (wC (.str "count")) wNil)))) (wsRet (wC (.bl true))) wsNext) (wsSeq (wsIf (wNot (wTru (wCall 3 f_is_row_of (wCons (wVar 0) (wCons (wC (.int 2)) (wCons (wC (.int 2)) wNil)))))) (wsRet (wC (.bl false))) wsNext) (wsSeq (wsIf (wB (w2 oEq (w2 oIx (wVar 0) (wC (.int 0))) (wC (.str "sum")))) (wsRet (wCall 1 f_is_operand (wCons (w2 oIx (wVar 0) (wC (.int 1))) wNil))) wsNext) (wsSeq (wsIf (wOr (wB (w2 oNe (w2 oIx (wVar 0) (wC (.int 0))) (wC (.str "rows")))) (wNot (wTru (wCall 3 f_is_row_of (wCons (w2 oIx (wVar 0) (wC (.int 1))) (wCons (wC (.int 1)) (wCons (wC (.int 6)) wNil))))))) (wsRet (wC (.bl false))) wsNext) (wsRet (w2 oEq (wLc (iVal (w2 oIx (wVar 0) (wC (.int 1)))) (.nm 1) (wNot (wTru (wCall 1 f_is_operand (wCons (wVar 1) wNil)))) (wVar 1) [1]) (wLst wNil)))))))
def f_is_output : WF := wfOf 2 w_is_output
def w_is_create : WS := (wsSeq (wsIf (wOr (wB (w2 oNe (wCB oLen (wCons (wVar 0) wNil)) (wC (.int 4)))) (wOr (wNot (wTru (wCall 1 f_is_name (wCons (w2 oIx (wVar 0) (wC (.int 1))) wNil)))) (wNot (wTru (wCall 3 f_is_row_of (wCons (w2 oIx (wVar 0) (wC (.int 2))) (wCons (wC (.int 1)) (wCons (wC (.int 5)) wNil)))))))) (wsRet (wC (.bl false))) wsNext) (wsSeq (wsSet 1 (wLc (iVal (w2 oIx (wVar 0) (wC (.int 2)))) (.nm 2) (wB (w2 oNotIn (wVar 2) (wTup (wCons (wC (.str "integer")) (wCons (wC (.str "text")) wNil))))) (wVar 2) [2])) (wsRet (wAndV (w2 oEq (wVar 1) (wLst wNil)) (wCall 3 f_is_count (wCons (w2 oIx (wVar 0) (wC (.int 3))) (wCons (wC (.int 1)) (wCons (wCB oLen (wCons (w2 oIx (wVar 0) (wC (.int 2))) wNil)) wNil))))))))
def f_is_create : WF := wfOf 3 w_is_create
def w_is_insert : WS := (wsSeq (wsIf (wOr (wB (w2 oNe (wCB oLen (wCons (wVar 0) wNil)) (wC (.int 3)))) (wOr (wNot (wTru (wCall 1 f_is_name (wCons (w2 oIx (wVar 0) (wC (.int 1))) wNil)))) (wNot (wTru (wCall 3 f_is_row_of (wCons (w2 oIx (wVar 0) (wC (.int 2))) (wCons (wC (.int 1)) (wCons (wC (.int 5)) wNil)))))))) (wsRet (wC (.bl false))) wsNext) (wsRet (w2 oEq (wLc (iVal (w2 oIx (wVar 0) (wC (.int 2)))) (.nm 1) (wNot (wTru (wCall 1 f_is_value (wCons (wVar 1) wNil)))) (wVar 1) [1]) (wLst wNil))))
def f_is_insert : WF := wfOf 2 w_is_insert
def w_is_select : WS := (wsSeq (wsIf (wOr (wB (w2 oNe (wCB oLen (wCons (wVar 0) wNil)) (wC (.int 4)))) (wOr (wNot (wTru (wCall 1 f_is_output (wCons (w2 oIx (wVar 0) (wC (.int 1))) wNil)))) (wNot (wTru (wCall 3 f_is_row_of (wCons (w2 oIx (wVar 0) (wC (.int 2))) (wCons (wC (.int 1)) (wCons (wC (.int 2)) wNil)))))))) (wsRet (wC (.bl false))) wsNext) (wsRet (wAndV (w2 oEq (wLc (iVal (w2 oIx (wVar 0) (wC (.int 2)))) (.nm 1) (wNot (wTru (wCall 1 f_is_source (wCons (wVar 1) wNil)))) (wVar 1) [1]) (wLst wNil)) (wCall 1 f_are_conditions (wCons (w2 oIx (wVar 0) (wC (.int 3))) wNil)))))
def f_is_select : WF := wfOf 2 w_is_select
def w_is_statement : WS := (wsSeq (wsIf (wOr (wNot (wTru (wCall 1 f_is_plain (wCons (wVar 0) wNil)))) (wOr (wNot (wTru (wIsi .tuple [] (wVar 0)))) (wOr (wB (w2 oLt (wCB oLen (wCons (wVar 0) wNil)) (wC (.int 2)))) (wNot (wTru (wIsi .str [] (w2 oIx (wVar 0) (wC (.int 0))))))))) (wsRet (wC (.bl false))) wsNext) (wsSeq (wsSet 1 (w2 oIx (wVar 0) (wC (.int 0)))) (wsSeq (wsIf (wB (w2 oEq (wVar 1) (wC (.str "create")))) (wsRet (wCall 1 f_is_create (wCons (wVar 0) wNil))) wsNext) (wsSeq (wsIf (wB (w2 oEq (wVar 1) (wC (.str "drop")))) (wsRet (wAndV (w2 oEq (wCB oLen (wCons (wVar 0) wNil)) (wC (.int 2))) (wCall 1 f_is_name (wCons (w2 oIx (wVar 0) (wC (.int 1))) wNil)))) wsNext) (wsSeq (wsIf (wB (w2 oEq (wVar 1) (wC (.str "insert")))) (wsRet (wCall 1 f_is_insert (wCons (wVar 0) wNil))) wsNext) (wsSeq (wsIf (wB (w2 oEq (wVar 1) (wC (.str "delete")))) (wsRet (wAndV (w2 oEq (wCB oLen (wCons (wVar 0) wNil)) (wC (.int 3))) (wAndV (wCall 1 f_is_name (wCons (w2 oIx (wVar 0) (wC (.int 1))) wNil)) (wCall 1 f_are_conditions (wCons (w2 oIx (wVar 0) (wC (.int 2))) wNil))))) wsNext) (wsSeq (wsIf (wB (w2 oEq (wVar 1) (wC (.str "update")))) (wsRet (wAndV (w2 oEq (wCB oLen (wCons (wVar 0) wNil)) (wC (.int 4))) (wAndV (wCall 1 f_is_name (wCons (w2 oIx (wVar 0) (wC (.int 1))) wNil)) (wAndV (wCall 1 f_are_settings (wCons (w2 oIx (wVar 0) (wC (.int 2))) wNil)) (wCall 1 f_are_conditions (wCons (w2 oIx (wVar 0) (wC (.int 3))) wNil)))))) wsNext) (wsSeq (wsIf (wB (w2 oEq (wVar 1) (wC (.str "select")))) (wsRet (wCall 1 f_is_select (wCons (wVar 0) wNil))) wsNext) (wsRet (wAndV (w2 oEq (wVar 1) (wC (.str "replace"))) (wAndV (w2 oEq (wCB oLen (wCons (wVar 0) wNil)) (wC (.int 3))) (wAndV (wCall 3 f_is_count (wCons (w2 oIx (wVar 0) (wC (.int 1))) (wCons (wC (.int 0)) (wCons (wC (.int 9)) wNil)))) (wCall 3 f_is_count (wCons (w2 oIx (wVar 0) (wC (.int 2))) (wCons (wC (.int 1)) (wCons (wC (.int 999)) wNil))))))))))))))))
def f_is_statement : WF := wfOf 2 w_is_statement
end ZF

namespace ZF
open PySem PySem.Spec PyProof.Rows L2 ZL
/-! ### what the forms are -/
def countB (lo hi : Int) : Z → Bool
  | .int i => decide (lo ≤ i) && decide (i ≤ hi)
  | _ => false
def rowB (lo hi : Int) : Z → Bool
  | .tup zs => decide (lo ≤ (zs.length : Int)) && decide ((zs.length : Int) ≤ hi)
  | _ => false
def letB (c : Nat) : Bool := decide (97 ≤ c) && decide (c ≤ 122)
def sgnB (c : Nat) : Bool := decide (32 ≤ c) && decide (c ≤ 126) && !decide (c = 37)
def nameB : Z → Bool
  | .str x => decide (1 ≤ x.length) && decide (x.length ≤ 12) && x.cps.toList.all letB
  | _ => false
abbrev most : Int := 1000000000000000000000000000000
def valueB : Z → Bool
  | .str x => decide (x.length ≤ 40) && x.cps.toList.all sgnB
  | .int i => decide (1 - most ≤ i) && decide (i ≤ most - 1)
  | _ => false
def wordB (w : Str) : Z → Bool
  | .str x => decide (x = w)
  | _ => false
section
variable {lo hi i : Int} {b : Bool} {x w : Str} {zs : List Z}
@[simp] theorem c_int : countB lo hi (.int i) = (decide (lo ≤ i) && decide (i ≤ hi)) := rfl
@[simp] theorem c_non : countB lo hi .non = false := rfl
@[simp] theorem c_bl : countB lo hi (.bl b) = false := rfl
@[simp] theorem c_str : countB lo hi (.str x) = false := rfl
@[simp] theorem c_tup : countB lo hi (.tup zs) = false := rfl
@[simp] theorem r_tup : rowB lo hi (.tup zs) = (decide (lo ≤ (zs.length : Int)) && decide ((zs.length : Int) ≤ hi)) := rfl
@[simp] theorem r_non : rowB lo hi .non = false := rfl
@[simp] theorem r_bl : rowB lo hi (.bl b) = false := rfl
@[simp] theorem r_str : rowB lo hi (.str x) = false := rfl
@[simp] theorem r_int : rowB lo hi (.int i) = false := rfl
@[simp] theorem n_str : nameB (.str x) = (decide (1 ≤ x.length) && decide (x.length ≤ 12) && x.cps.toList.all letB) := rfl
@[simp] theorem n_non : nameB .non = false := rfl
@[simp] theorem n_bl : nameB (.bl b) = false := rfl
@[simp] theorem n_int : nameB (.int i) = false := rfl
@[simp] theorem n_tup : nameB (.tup zs) = false := rfl
@[simp] theorem v_str : valueB (.str x) = (decide (x.length ≤ 40) && x.cps.toList.all sgnB) := rfl
@[simp] theorem v_int : valueB (.int i) = (decide (1 - most ≤ i) && decide (i ≤ most - 1)) := rfl
@[simp] theorem v_non : valueB .non = false := rfl
@[simp] theorem v_bl : valueB (.bl b) = false := rfl
@[simp] theorem v_tup : valueB (.tup zs) = false := rfl
@[simp] theorem w_str : wordB w (.str x) = decide (x = w) := rfl
@[simp] theorem w_non : wordB w .non = false := rfl
@[simp] theorem w_bl : wordB w (.bl b) = false := rfl
@[simp] theorem w_int : wordB w (.int i) = false := rfl
@[simp] theorem w_tup : wordB w (.tup zs) = false := rfl
end
section
variable {lo hi : Int} {w : Str} {ns : List Int} {n : Nat} {a : Addr}
@[simp] theorem c_scr : countB lo hi (.scr ns) = false := rfl
@[simp] theorem c_ref : countB lo hi (.ref n) = false := rfl
@[simp] theorem c_err : countB lo hi (.err a) = false := rfl
@[simp] theorem r_scr : rowB lo hi (.scr ns) = false := rfl
@[simp] theorem r_ref : rowB lo hi (.ref n) = false := rfl
@[simp] theorem r_err : rowB lo hi (.err a) = false := rfl
@[simp] theorem n_scr : nameB (.scr ns) = false := rfl
@[simp] theorem n_ref : nameB (.ref n) = false := rfl
@[simp] theorem n_err : nameB (.err a) = false := rfl
@[simp] theorem v_scr : valueB (.scr ns) = false := rfl
@[simp] theorem v_ref : valueB (.ref n) = false := rfl
@[simp] theorem v_err : valueB (.err a) = false := rfl
@[simp] theorem w_scr : wordB w (.scr ns) = false := rfl
@[simp] theorem w_ref : wordB w (.ref n) = false := rfl
@[simp] theorem w_err : wordB w (.err a) = false := rfl
end
/-! ### what is asked of -/
/-- plain, with short texts -/
structure Pl (d : Nat) (v : Z) : Prop where
  p : plainB d v = true
  s : okS v = true
theorem Pl.mem {d : Nat} {zs : List Z} (o : Pl d (.tup zs)) : ∀ z ∈ zs, Pl (d - 1) z := fun z m => by
  obtain ⟨p, s⟩ := o
  cases d with
  | zero => cases p
  | succ d =>
    refine ⟨?_, okS_mem s m⟩
    unfold plainB at p
    rw [plainBs_all, List.all_eq_true] at p
    exact p z m
theorem Pl.ok {d : Nat} {v : Z} (o : Pl d v) : okZ v = true ∧ depZ v ≤ d := plain_ok o.p o.s
theorem Pl.okD {d : Nat} {v : Z} (o : Pl d v) (hd : d ≤ 60) {h : ZH} : okD h v := okD_of o.ok.1 (Nat.le_trans o.ok.2 (by omega))
theorem Pl.okL {d : Nat} {zs : List Z} (o : ∀ z ∈ zs, Pl d z) (hd : d ≤ 60) : OkL zs := fun z m => ⟨(o z m).ok.1, Nat.le_trans (o z m).ok.2 hd⟩
section
variable {d : Nat} {v : Z} {h : ZH} {P : PZ} {E : XZ → ZH → Prop}
theorem count_ok (o : Pl d v) {lo hi : Int} (q : P (.bl (countB lo hi v)) h) : f_is_count [v, .int lo, .int hi] h P E := by
  unfold f_is_count wfOf w_is_count
  obtain ⟨p, s⟩ := o
  simp
  cases v with
  | ref n => rw [pl_ref] at p; cases p
  | scr n => rw [pl_scr] at p; cases p
  | err n => cases d <;> cases p
  | int i =>
    simp
    rw [c_int] at q
    refine kChC_of (fun e => ?_) (fun e => ?_)
    · rw [e] at q
      simpa using q
    · rw [e] at q
      simpa using q
  | _ => simpa using q
theorem row_ok (o : Pl d v) {lo hi : Int} (q : P (.bl (rowB lo hi v)) h) : f_is_row_of [v, .int lo, .int hi] h P E := by
  unfold f_is_row_of wfOf w_is_row_of
  obtain ⟨p, s⟩ := o
  simp
  cases v with
  | ref n => rw [pl_ref] at p; cases p
  | scr n => rw [pl_scr] at p; cases p
  | err n => cases d <;> cases p
  | tup i =>
    simp
    rw [r_tup] at q
    refine kChC_of (fun e => ?_) (fun e => ?_)
    · rw [e] at q
      simpa using q
    · rw [e] at q
      simpa using q
  | _ => simpa using q
theorem sgn_lt {a b : Nat} : ([a] < [b]) ↔ a < b := by
  constructor
  · intro h
    cases h with
    | rel h => exact h
    | cons h => cases h
  · intro h
    exact List.Lex.rel h
def sg : Z → Nat
  | .str x => x.cps.getD 0 0
  | _ => 0
theorem sign_a : (Str.ofString "a").cps.toList = [97] := by decide +kernel
theorem sign_z : (Str.ofString "z").cps.toList = [122] := by decide +kernel
theorem strOk_mem {x : Str} (s : PyData.strOk x = true) {c : Nat} (m : c ∈ x.cps.toList) : PyData.strOk ⟨#[c]⟩ = true := by
  unfold PyData.strOk at s ⊢
  rw [Array.all_eq_true_iff_forall_mem] at s
  have := s c (by simpa using m)
  simpa using this
theorem chrs_okL {x : Str} (s : PyData.strOk x = true) : OkL (chrs x) := fun z m => by
  unfold chrs at m
  obtain ⟨c, hc, rfl⟩ := List.mem_map.mp m
  exact ⟨strOk_mem s hc, Nat.zero_le _⟩
theorem chrs_all {x : Str} {p : Nat → Bool} : ((chrs x).filter fun z => !p (sg z)).isEmpty = x.cps.toList.all p := by
  rw [filter_none]
  unfold chrs
  rw [List.all_map]
  rfl
theorem chrs_len {x : Str} : (chrs x).length = x.length := by simp [chrs, Str.length]
theorem name_ok (o : Pl d v) (q : ∀ h', Pre h h' → P (.bl (nameB v)) h') : f_is_name [v] h P E := by
  unfold f_is_name wfOf w_is_name
  obtain ⟨p, s⟩ := o
  simp
  cases v with
  | ref n => rw [pl_ref] at p; cases p
  | scr n => rw [pl_scr] at p; cases p
  | err n => cases d <;> cases p
  | str x =>
    obtain ⟨s1, s2⟩ := Bool.and_eq_true_iff.mp (show (PyData.strOk x && decide (x.length ≤ 1000)) = true from s)
    have s2 := of_decide_eq_true s2
    have bl := big_line
    have q : ∀ h', Pre h h' → P (.bl (decide (1 ≤ x.length) && decide (x.length ≤ 12) && x.cps.toList.all letB)) h' := q
    simp
    refine ⟨by omega, ?_⟩
    by_cases c1 : 1 ≤ x.length
    · by_cases c2 : x.length ≤ 12
      · simp [c1, c2] at q
        have e1 : (1 : Int) ≤ x.length := by omega
        have e2 : (x.length : Int) ≤ 12 := by omega
        simp [e1, e2]
        refine lcZ_filter (fun z => !letB (sg z)) (fun z => ∃ c, z = .str ⟨#[c]⟩) (fun _ => True) (fun _ _ _ _ => trivial) (fun _ _ => trivial) (by simp [chrs_len]; omega) trivial (fun z m => ?_) (by simp [wipeE]) ?_ ?_
        · unfold chrs at m
          obtain ⟨c, hc, rfl⟩ := List.mem_map.mp m
          exact ⟨c, rfl⟩
        · rintro z ⟨c, rfl⟩ h2 K _ hK
          have hK := hK h2 (.refl _)
          simp [wipeE]
          simp only [sign_a, sgn_lt]
          refine kChC_of (fun e => ?_) (fun e => ?_)
          · simp
            simp only [sign_z, sgn_lt]
            have : letB (sg (Z.str ⟨#[c]⟩)) = !decide (122 < c) := by
              show (decide (97 ≤ c) && decide (c ≤ 122)) = _
              have : 97 ≤ c := by simpa using e
              simp [this]
              rw [← decide_not]; simp
            rw [this] at hK
            simpa using hK
          · have : letB (sg (Z.str ⟨#[c]⟩)) = false := by
              show (decide (97 ≤ c) && decide (c ≤ 122)) = _
              have : c < 97 := by simpa using e
              simp; omega
            rw [this] at hK
            simpa using hK
        · intro h' p'
          simp [sizeLine_eq]
          refine eq_nil (xs := (chrs x).filter fun z => !letB (sg z)) (by simp) (okL_filter (chrs_okL s1)) (by simp) ?_
          rw [chrs_all]
          have := q _ ((p'.more [ZO.lst ((chrs x).filter fun z => !letB (sg z))]).more [ZO.lst []])
          simpa using this
      · simp [c2] at q
        have e1 : (1 : Int) ≤ x.length := by omega
        have e2 : ¬ (x.length : Int) ≤ 12 := by omega
        simp [e1, e2]
        exact q _ (.refl _)
    · simp [c1] at q
      have e2 : ¬ (1 : Int) ≤ x.length := by omega
      simp [e2]
      exact q _ (.refl _)
  | _ => simpa using q h (.refl _)
theorem value_ok (o : Pl d v) (q : ∀ h', Pre h h' → P (.bl (valueB v)) h') : f_is_value [v] h P E := by
  unfold f_is_value wfOf w_is_value
  simp
  have o' := o
  obtain ⟨p, s⟩ := o
  cases v with
  | ref n => rw [pl_ref] at p; cases p
  | scr n => rw [pl_scr] at p; cases p
  | err n => cases d <;> cases p
  | int i =>
    simp
    exact count_ok o' (q h (.refl _))
  | str x =>
    obtain ⟨s1, s2⟩ := Bool.and_eq_true_iff.mp (show (PyData.strOk x && decide (x.length ≤ 1000)) = true from s)
    have s2 := of_decide_eq_true s2
    have bl := big_line
    have q : ∀ h', Pre h h' → P (.bl (decide (x.length ≤ 40) && x.cps.toList.all sgnB)) h' := q
    simp
    refine lcZ_filter (fun z => !sgnB (sg z)) (fun z => ∃ c, z = .str ⟨#[c]⟩) (fun _ => True) (fun _ _ _ _ => trivial) (fun _ _ => trivial) (by simp [chrs_len]; omega) trivial (fun z m => ?_) (by simp [wipeE]) ?_ ?_
    · unfold chrs at m
      obtain ⟨c, hc, rfl⟩ := List.mem_map.mp m
      exact ⟨c, rfl⟩
    · rintro z ⟨c, rfl⟩ h2 K _ hK
      have hK := hK h2 (.refl _)
      have e : sgnB (sg (Z.str ⟨#[c]⟩)) = (decide (32 ≤ c) && decide (c ≤ 126) && !decide (c = 37)) := rfl
      rw [e] at hK
      have l1 : (Str.length ⟨#[c]⟩) = 1 := rfl
      have ic : ∀ n : Nat, decide ((n : Int) ≤ (c : Int)) = decide (n ≤ c) := fun n => by simp
      simp [wipeE, l1]
      refine kChC_of (fun e => ?_) (fun e => ?_)
      · have e : 32 ≤ c := by have := of_decide_eq_true e; omega
        simp [l1]
        by_cases e2 : c ≤ 126
        · have e2' : (c : Int) ≤ 126 := by omega
          simp [e, e2] at hK
          simp [e2', l1]
          by_cases e3 : c = 37
          · subst e3
            simpa using hK
          · have e3' : ¬ (c : Int) = 37 := by omega
            simp [e3] at hK
            simpa [e3'] using hK
        · have e2' : ¬ (c : Int) ≤ 126 := by omega
          simp [e, e2] at hK
          simpa [e2'] using hK
      · have e : ¬ 32 ≤ c := by have := of_decide_eq_false e; omega
        simp [e] at hK
        simpa using hK
    · intro h' p'
      simp
      refine ⟨by omega, ?_⟩
      refine kAndV_of (fun e => ?_) (fun e => ?_)
      · have e : x.length ≤ 40 := by have := of_decide_eq_true e; omega
        simp [sizeLine_eq]
        refine eq_nil (xs := (chrs x).filter fun z => !sgnB (sg z)) (by simp) (okL_filter (chrs_okL s1)) (by simp) ?_
        rw [chrs_all]
        have := q _ ((p'.more [ZO.lst ((chrs x).filter fun z => !sgnB (sg z))]).more [ZO.lst []])
        simpa [e] using this
      · have e : ¬ x.length ≤ 40 := by have := of_decide_eq_false e; omega
        have := q _ (p'.more [ZO.lst ((chrs x).filter fun z => !sgnB (sg z))])
        simpa [e] using this
  | _ =>
    simp
    exact count_ok o' (q h (.refl _))
/-! words -/
theorem eqv_word {w : Str} (o : Pl d v) : PyData.eqv (dOf h v) (Z.toD (.str w)) = wordB w v := by
  obtain ⟨p, s⟩ := o
  cases v with
  | ref n => rw [pl_ref] at p; cases p
  | scr n => rw [pl_scr] at p; cases p
  | err n => cases d <;> cases p
  | tup zs => rw [dOf_tup]; rfl
  | str x =>
    show PyData.eqv (.str x) (.str w) = decide (x = w)
    unfold PyData.eqv
    rw [Bool.beq_eq_decide_eq]
  | _ => rfl
theorem eqv_word' {w : Str} (o : Pl d v) : PyData.eqv (Z.toD (.str w)) (dOf h v) = wordB w v := by
  obtain ⟨p, s⟩ := o
  cases v with
  | ref n => rw [pl_ref] at p; cases p
  | scr n => rw [pl_scr] at p; cases p
  | err n => cases d <;> cases p
  | tup zs => rw [dOf_tup]; rfl
  | str x =>
    show PyData.eqv (.str w) (.str x) = decide (x = w)
    unfold PyData.eqv
    rw [Bool.beq_eq_decide_eq, decide_eq_decide]
    exact eq_comm
  | _ => rfl
theorem eq_word {w : Str} (o : Pl d v) (hd : d ≤ 60) (ow : PyData.strOk w = true) (q : P (.bl (wordB w v)) h) : oEq v (.str w) h P := by
  have a : ∀ k, (∃ b, k = wordB w v ∧ b = k) → P (.bl k) h := fun k ⟨_, e, _⟩ => by rw [e]; exact q
  have g : okD h v ∧ okD h (.str w) ∧ P (.bl (zEqB h v (.str w))) h := ⟨o.okD hd, okD_of ow (Nat.zero_le _), by show P (.bl (PyData.eqv (dOf h v) (Z.toD (.str w)))) h; rw [eqv_word o]; exact q⟩
  cases v with
  | str x => rw [oEq_s]; exact q
  | _ => exact g
theorem ne_word {w : Str} (o : Pl d v) (hd : d ≤ 60) (ow : PyData.strOk w = true) (q : P (.bl (!wordB w v)) h) : oNe v (.str w) h P := by
  have g : okD h v ∧ okD h (.str w) ∧ P (.bl (!zEqB h v (.str w))) h := ⟨o.okD hd, okD_of ow (Nat.zero_le _), by show P (.bl (!PyData.eqv (dOf h v) (Z.toD (.str w)))) h; rw [eqv_word o]; exact q⟩
  cases v with
  | str x => rw [oNe_s]; exact q
  | _ => exact g
theorem notin_words {ws : List Str} (o : Pl d v) (hd : d ≤ 60) (ow : ws.all PyData.strOk = true) (q : P (.bl (!ws.any fun w => wordB w v)) h) : oNotIn v (.tup (ws.map Z.str)) h P := by
  refine ⟨o.okD hd, ?_, ?_⟩
  · rw [List.all_eq_true] at ow
    refine okD_tup (n := 0) (fun z m => ?_) (fun z m => ?_) (by decide)
    · obtain ⟨w, hw, rfl⟩ := List.mem_map.mp m
      exact ow w hw
    · obtain ⟨w, hw, rfl⟩ := List.mem_map.mp m
      exact Nat.le_refl _
  · show P (.bl (!(ws.map Z.str).any fun z => PyData.eqv z.toD (dOf h v))) h
    rw [List.any_map]
    have : (ws.any ((fun z : Z => PyData.eqv z.toD (dOf h v)) ∘ Z.str)) = ws.any fun w => wordB w v := by
      congr 1
      funext w
      exact eqv_word' o
    rw [this]
    exact q
/-! all parts -/
theorem parts_all {f : WF} {B : Z → Bool} {zs : List Z} (hf : ∀ z ∈ zs, ∀ h P E, (∀ h', Pre h h' → P (.bl (B z)) h') → f [z] h P E) (o : OkL zs) (hl : zs.length ≤ 1000000) {i : Nat} {env : ZL.Env} (hi : i < env.length) {env2 : ZL.Env} {E2 : EZ} (q : ∀ h', Pre h h' → P (.bl (zs.all B)) h') :
    lcZ (.nm i) (ZL.wNot (ZL.wTru (wCall 1 f (wCons (wVar i) wNil)))) (wVar i) Always env (k2 oEq (wLst wNil) env2 P E2) zs [] h := by
  have bl := big_line
  refine lcZ_filter (fun z => !B z) (fun z => z ∈ zs) (fun _ => True) (fun _ _ _ _ => trivial) (fun _ _ => trivial) (by simp; omega) trivial (fun z m => m) hi ?_ ?_
  · intro z m h2 K _ hK
    simp [List.getElem?_set_self hi]
    refine hf z m _ _ _ fun h3 p3 => ?_
    simpa using hK h3 p3
  · intro h' p'
    simp [sizeLine_eq]
    refine eq_nil (xs := zs.filter fun z => !B z) (by simp) (okL_filter o) (by simp) ?_
    rw [filter_none]
    have := q _ ((p'.more [ZO.lst (zs.filter fun z => !B z)]).more [ZO.lst []])
    simpa using this
end
end ZF

namespace ZF
open PySem PySem.Spec PyProof.Rows L2 ZL
abbrev wdValue : Str := Str.ofString "value"
abbrev wdColumn : Str := Str.ofString "column"
def operandB : Z → Bool
  | .tup [w, x] => wordB "value" w && valueB x
  | .tup [w, t, c] => wordB "column" w && (nameB t && countB 0 4 c)
  | _ => false
abbrev ops : List Str := ["=", "<>", "<", "<="]
def condB : Z → Bool
  | .tup [w, a, b] => (ops.any fun o => wordB o w) && (operandB a && operandB b)
  | _ => false
def condsB : Z → Bool
  | .tup zs => decide (zs.length ≤ 6) && zs.all condB
  | _ => false
def strB : Z → Bool
  | .str _ => true
  | _ => false
def settingB : Z → Bool
  | .tup [c, .tup [w, x]] => countB 0 4 c && (if wordB "value" w = true then valueB x else if wordB "plus" w = true then valueB x && !strB x else wordB "column" w && countB 0 4 x)
  | _ => false
def settingsB : Z → Bool
  | .tup zs => decide (1 ≤ zs.length) && decide (zs.length ≤ 5) && zs.all settingB
  | _ => false
def sourceB : Z → Bool
  | .tup [a, b] => nameB a && nameB b
  | _ => false
def operandsB : Z → Bool
  | .tup zs => decide (1 ≤ zs.length) && decide (zs.length ≤ 6) && zs.all operandB
  | _ => false
def outputB : Z → Bool
  | .tup [w] => wordB "count" w
  | .tup [w, x] => if wordB "sum" w = true then operandB x else wordB "rows" w && operandsB x
  | _ => false
abbrev knds : List Str := ["integer", "text"]
def kindB (z : Z) : Bool := knds.any fun w => wordB w z
def createB : List Z → Bool
  | [_, t, .tup ks, c] => nameB t && (decide (1 ≤ ks.length) && decide (ks.length ≤ 5) && ks.all kindB && countB 1 ks.length c)
  | _ => false
def insertB : List Z → Bool
  | [_, t, .tup xs] => nameB t && (decide (1 ≤ xs.length) && decide (xs.length ≤ 5) && xs.all valueB)
  | _ => false
def selectB : List Z → Bool
  | [_, o, .tup ss, cs] => outputB o && (decide (1 ≤ ss.length) && decide (ss.length ≤ 2) && ss.all sourceB && condsB cs)
  | _ => false
def formW (w : Str) (r : List Z) : Bool :=
  if w = "create" then createB (.str w :: r)
  else if w = "drop" then (match r with | [t] => nameB t | _ => false)
  else if w = "insert" then insertB (.str w :: r)
  else if w = "delete" then (match r with | [t, c] => nameB t && condsB c | _ => false)
  else if w = "update" then (match r with | [t, s, c] => nameB t && (settingsB s && condsB c) | _ => false)
  else if w = "select" then selectB (.str w :: r)
  else decide (w = "replace") && (match r with | [p, o] => countB 0 9 p && countB 1 999 o | _ => false)
def formB : List Z → Bool
  | .str w :: r => formW w r
  | _ => false
def stmtB (v : Z) : Bool := plainB 30 v && (match v with
  | .tup zs => formB zs
  | _ => false)
section
variable {d : Nat} {v : Z} {h : ZH} {P : PZ} {E : XZ → ZH → Prop}
theorem long {a b c : Z} {r : List Z} {lo : Int} : rowB lo 2 (.tup (a :: b :: c :: r)) = false := by
  rw [r_tup]; simp; intro _; omega
theorem long3 {a b c e : Z} {r : List Z} {lo : Int} : rowB lo 3 (.tup (a :: b :: c :: e :: r)) = false := by
  rw [r_tup]; simp; intro _; omega
theorem shape2 (v : Z) : (∃ a b, v = .tup [a, b]) ∨ rowB 2 2 v = false := by
  cases v with
  | tup zs =>
    match zs with
    | [] => exact .inr rfl
    | [_] => exact .inr rfl
    | [a, b] => exact .inl ⟨a, b, rfl⟩
    | _ :: _ :: _ :: _ => exact .inr long
  | _ => exact .inr rfl
theorem shape3 (v : Z) : (∃ a b c, v = .tup [a, b, c]) ∨ rowB 3 3 v = false := by
  cases v with
  | tup zs =>
    match zs with
    | [] => exact .inr rfl
    | [_] => exact .inr rfl
    | [_, _] => exact .inr rfl
    | [a, b, c] => exact .inl ⟨a, b, c, rfl⟩
    | _ :: _ :: _ :: _ :: _ => exact .inr long3
  | _ => exact .inr rfl
theorem no_operand (h2 : rowB 2 2 v = false) (h3 : rowB 3 3 v = false) : operandB v = false := by
  unfold operandB
  split
  · simp at h2
  · simp at h3
  · rfl
theorem operand_ok (o : Pl d v) (hd : d ≤ 60) (q : ∀ h', Pre h h' → P (.bl (operandB v)) h') : f_is_operand [v] h P E := by
  unfold f_is_operand wfOf w_is_operand
  simp
  refine row_ok o ?_
  rcases shape2 v with ⟨a, b, rfl⟩ | h2
  · have oa := o.mem a (by simp)
    have ob := o.mem b (by simp)
    simp
    refine eq_word oa (by omega) (by decide +kernel) ?_
    have q : ∀ h', Pre h h' → P (.bl (wordB "value" a && valueB b)) h' := q
    cases e : wordB "value" a with
    | true =>
      rw [e] at q
      simp
      refine value_ok ob fun h1 p1 => ?_
      simpa using q h1 p1
    | false =>
      rw [e] at q
      simp
      refine row_ok o ?_
      simp
      exact q h (.refl _)
  · rw [h2]
    simp
    refine row_ok o ?_
    rcases shape3 v with ⟨a, b, c, rfl⟩ | h3
    · have oa := o.mem a (by simp)
      have ob := o.mem b (by simp)
      have oc := o.mem c (by simp)
      have q : ∀ h', Pre h h' → P (.bl (wordB "column" a && (nameB b && countB 0 4 c))) h' := q
      simp
      refine eq_word oa (by omega) (by decide +kernel) ?_
      cases e : wordB "column" a with
      | true =>
        rw [e] at q
        simp
        refine name_ok ob fun h1 p1 => ?_
        have q := q h1 p1
        cases e : nameB b with
        | true =>
          rw [e] at q
          simp
          refine count_ok oc ?_
          simpa using q
        | false =>
          rw [e] at q
          simpa using q
      | false =>
        rw [e] at q
        simp
        exact q h (.refl _)
    · rw [h3]
      have := q h (.refl _)
      rw [no_operand h2 h3] at this
      simpa using this
theorem cond_ok (o : Pl d v) (hd : d ≤ 60) (q : ∀ h', Pre h h' → P (.bl (condB v)) h') : f_is_condition [v] h P E := by
  unfold f_is_condition wfOf w_is_condition
  simp only [m_seq, m_sif, m_or, m_not]
  simp [-List.map_cons, -List.map_nil]
  refine row_ok o ?_
  rcases shape3 v with ⟨a, b, c, rfl⟩ | h3
  · have oa := o.mem a (by simp)
    have ob := o.mem b (by simp)
    have oc := o.mem c (by simp)
    have q : ∀ h', Pre h h' → P (.bl ((ops.any fun o => wordB o a) && (operandB b && operandB c))) h' := q
    simp [-List.map_cons, -List.map_nil]
    refine notin_words (ws := ops) oa (by omega) (by decide +kernel) ?_
    cases e : (ops.any fun o => wordB o a) with
    | true =>
      rw [e] at q
      simp
      refine operand_ok ob (by omega) fun h1 p1 => ?_
      cases e : operandB b with
      | true =>
        rw [e] at q
        simp
        refine operand_ok oc (by omega) fun h2 p2 => ?_
        simpa using q h2 (p1.trans p2)
      | false =>
        rw [e] at q
        simpa using q h1 p1
    | false =>
      rw [e] at q
      simpa using q h (.refl _)
  · rw [h3]
    have e : condB v = false := by
      unfold condB
      split
      · simp at h3
      · rfl
    rw [e] at q
    simpa using q h (.refl _)
/-- rows of such -/
theorem rows_ok {f : WF} {B : Z → Bool} {zs : List Z} (o : Pl d (.tup zs)) (hd : d ≤ 60) (hf : ∀ z, Pl (d - 1) z → ∀ h P E, (∀ h', Pre h h' → P (.bl (B z)) h') → f [z] h P E) (hl : zs.length ≤ 1000000) {i : Nat} {env : ZL.Env} (hi : i < env.length) {env2 : ZL.Env} {E2 : EZ} (q : ∀ h', Pre h h' → P (.bl (zs.all B)) h') :
    lcZ (.nm i) (ZL.wNot (ZL.wTru (wCall 1 f (wCons (wVar i) wNil)))) (wVar i) Always env (k2 oEq (wLst wNil) env2 P E2) zs [] h :=
  parts_all (fun z m => hf z (o.mem z m)) (Pl.okL o.mem (by omega)) hl hi q
theorem conds_ok (o : Pl d v) (hd : d ≤ 60) (q : ∀ h', Pre h h' → P (.bl (condsB v)) h') : f_are_conditions [v] h P E := by
  unfold f_are_conditions wfOf w_are_conditions
  simp
  refine row_ok o ?_
  cases v with
  | tup zs =>
    have q : ∀ h', Pre h h' → P (.bl (decide (zs.length ≤ 6) && zs.all condB)) h' := q
    by_cases c : zs.length ≤ 6
    · have c' : (zs.length : Int) ≤ 6 := by omega
      simp [c] at q
      simp [c']
      refine rows_ok o hd (fun z oz h P E q => cond_ok oz (by omega) q) (by omega) (by simp [wipeE]) ?_
      simpa using q
    · have c' : ¬ (zs.length : Int) ≤ 6 := by omega
      simp [c] at q
      simp [c']
      exact q h (.refl _)
  | _ => simpa [condsB] using q h (.refl _)
theorem setting_ok (o : Pl d v) (hd : d ≤ 60) (q : ∀ h', Pre h h' → P (.bl (settingB v)) h') : f_is_setting [v] h P E := by
  unfold f_is_setting wfOf w_is_setting
  simp
  refine row_ok o ?_
  rcases shape2 v with ⟨a, b, rfl⟩ | h2
  · have oa := o.mem a (by simp)
    have ob := o.mem b (by simp)
    simp
    refine count_ok oa ?_
    cases ec : countB 0 4 a with
    | false =>
      have e : settingB (.tup [a, b]) = false := by
        unfold settingB
        split
        · rename_i e; simp at e; obtain ⟨rfl, rfl⟩ := e; rw [ec]; rfl
        · rfl
      rw [e] at q
      simpa using q h (.refl _)
    | true =>
      simp
      refine row_ok ob ?_
      rcases shape2 b with ⟨w, x, rfl⟩ | h2
      · have ow := ob.mem w (by simp)
        have ox := ob.mem x (by simp)
        have q : ∀ h', Pre h h' → P (.bl (countB 0 4 a && (if wordB "value" w = true then valueB x else if wordB "plus" w = true then valueB x && !strB x else wordB "column" w && countB 0 4 x))) h' := q
        rw [ec] at q
        simp
        refine eq_word ow (by omega) (by decide +kernel) ?_
        cases e1 : wordB "value" w with
        | true =>
          simp [e1] at q
          simp
          refine value_ok ox fun h1 p1 => ?_
          exact q h1 p1
        | false =>
          simp [e1] at q
          simp
          refine eq_word ow (by omega) (by decide +kernel) ?_
          cases e2 : wordB "plus" w with
          | true =>
            simp [e2] at q
            simp
            refine value_ok ox fun h1 p1 => ?_
            have q := q h1 p1
            cases e3 : valueB x with
            | true =>
              simp [e3] at q
              simp
              cases x with
              | ref n => cases e3
              | scr n => cases e3
              | err n => cases e3
              | str s => simpa [strB] using q
              | int s => simpa [strB] using q
              | non => cases e3
              | bl s => cases e3
              | tup s => cases e3
            | false =>
              simp [e3] at q
              simpa using q
          | false =>
            simp [e2] at q
            simp
            refine eq_word ow (by omega) (by decide +kernel) ?_
            cases e3 : wordB "column" w with
            | true =>
              simp [e3] at q
              simp
              exact count_ok ox (q h (.refl _))
            | false =>
              simp [e3] at q
              simpa using q h (.refl _)
      · rw [h2]
        have e : settingB (.tup [a, b]) = false := by
          unfold settingB
          split
          · rename_i e; simp at e; obtain ⟨rfl, rfl⟩ := e; simp at h2
          · rfl
        rw [e] at q
        simpa using q h (.refl _)
  · rw [h2]
    have e : settingB v = false := by
      unfold settingB
      split
      · simp at h2
      · rfl
    rw [e] at q
    simpa using q h (.refl _)
theorem settings_ok (o : Pl d v) (hd : d ≤ 60) (q : ∀ h', Pre h h' → P (.bl (settingsB v)) h') : f_are_settings [v] h P E := by
  unfold f_are_settings wfOf w_are_settings
  simp
  refine row_ok o ?_
  cases v with
  | tup zs =>
    have q : ∀ h', Pre h h' → P (.bl (decide (1 ≤ zs.length) && decide (zs.length ≤ 5) && zs.all settingB)) h' := q
    by_cases c : 1 ≤ zs.length ∧ zs.length ≤ 5
    · have c' : (1 : Int) ≤ zs.length ∧ (zs.length : Int) ≤ 5 := by omega
      simp [c.1, c.2] at q
      simp [c'.1, c'.2]
      refine rows_ok o hd (fun z oz h P E q => setting_ok oz (by omega) q) (by omega) (by simp [wipeE]) ?_
      simpa using q
    · have c1 : (decide (1 ≤ zs.length) && decide (zs.length ≤ 5)) = false := by simp; omega
      have c' : (decide ((1 : Int) ≤ (zs.length : Int)) && decide ((zs.length : Int) ≤ 5)) = false := by simp; omega
      rw [c1] at q
      rw [r_tup, c']
      simpa using q h (.refl _)
  | _ => simpa [settingsB] using q h (.refl _)
theorem source_ok (o : Pl d v) (q : ∀ h', Pre h h' → P (.bl (sourceB v)) h') : f_is_source [v] h P E := by
  unfold f_is_source wfOf w_is_source
  simp
  refine row_ok o ?_
  rcases shape2 v with ⟨a, b, rfl⟩ | h2
  · have oa := o.mem a (by simp)
    have ob := o.mem b (by simp)
    have q : ∀ h', Pre h h' → P (.bl (nameB a && nameB b)) h' := q
    simp
    refine name_ok oa fun h1 p1 => ?_
    cases e : nameB a with
    | true =>
      rw [e] at q
      simp
      refine name_ok ob fun h2 p2 => ?_
      simpa using q h2 (p1.trans p2)
    | false =>
      rw [e] at q
      simpa using q h1 p1
  · rw [h2]
    have e : sourceB v = false := by
      unfold sourceB
      split
      · simp at h2
      · rfl
    rw [e] at q
    simpa using q h (.refl _)
theorem bnd {lo hi : Nat} {n : Nat} : (decide ((lo : Int) ≤ (n : Int)) && decide ((n : Int) ≤ (hi : Int))) = (decide (lo ≤ n) && decide (n ≤ hi)) := by
  simp
theorem operands_no (h1 : rowB 1 6 v = false) : operandsB v = false := by
  cases v with
  | tup zs =>
    have h1 : (decide (((1 : Nat) : Int) ≤ (zs.length : Int)) && decide ((zs.length : Int) ≤ ((6 : Nat) : Int))) = false := h1
    rw [bnd] at h1
    show (decide (1 ≤ zs.length) && decide (zs.length ≤ 6) && _) = false
    rw [h1]; rfl
  | _ => rfl
theorem output_ok (o : Pl d v) (hd : d ≤ 60) (q : ∀ h', Pre h h' → P (.bl (outputB v)) h') : f_is_output [v] h P E := by
  unfold f_is_output wfOf w_is_output
  simp [sizeLine_eq]
  have cw : okD h (.tup [.str (Str.ofString "count")]) := okD_of (by decide +kernel) (by decide +kernel)
  have key : (∃ w, v = .tup [w] ∧ wordB "count" w = true) ∨ PyData.eqv (dOf h v) (.tuple [.str (Str.ofString "count")]) = false := by
    cases v with
    | tup zs =>
      match zs, o.mem with
      | [], _ => exact .inr rfl
      | [w], om =>
        cases e : wordB "count" w with
        | true => exact .inl ⟨w, rfl, e⟩
        | false =>
          refine .inr ?_
          rw [dOf_tup]
          have := eqv_word (w := "count") (h := h) (om w (by simp))
          rw [e, dOf_ok (om w (by simp)).ok.1] at this
          show (PyData.eqv w.toD (Z.toD (.str "count")) && true) = false
          rw [this]; rfl
      | a :: b :: r, _ =>
        refine .inr ?_
        rw [dOf_tup]
        show (PyData.eqv a.toD _ && PyData.eqvAll ((b :: r).map Z.toD) []) = false
        rw [eqvAll_nil]
        simp
    | ref n => have := o.p; rw [pl_ref] at this; cases this
    | scr n => have := o.p; rw [pl_scr] at this; cases this
    | err n => have := o.p; cases d <;> cases this
    | _ => exact .inr rfl
  rcases key with ⟨w, rfl, ew⟩ | key
  · have om := o.mem w (by simp)
    rw [oEq_t]
    refine ⟨o.okD hd, cw, ?_⟩
    have e : PyData.eqvAll ([w].map Z.toD) ([Z.str (Str.ofString "count")].map Z.toD) = true := by
      have := eqv_word (w := "count") (h := h) om
      rw [ew, dOf_ok om.ok.1] at this
      show (PyData.eqv w.toD (Z.toD (.str "count")) && true) = true
      rw [this]; rfl
    rw [e]
    simp
    have q : ∀ h', Pre h h' → P (.bl (wordB "count" w)) h' := q
    rw [ew] at q
    exact q h (.refl _)
  · have go : ∀ {P' : PZ}, P' (.bl false) h → oEq v (.tup [.str (Str.ofString "count")]) h P' := fun {P'} x => by
      have : okD h v ∧ okD h (.tup [.str (Str.ofString "count")]) ∧ P' (.bl (PyData.eqv (dOf h v) (.tuple [.str (Str.ofString "count")]))) h := ⟨o.okD hd, cw, by rw [key]; exact x⟩
      cases v <;> exact this
    have one : ∀ w, v = .tup [w] → wordB "count" w = false := by
      rintro w rfl
      have om := o.mem w (by simp)
      rw [dOf_tup] at key
      have := eqv_word (w := "count") (h := h) om
      rw [dOf_ok om.ok.1] at this
      rw [← this]
      have key : (PyData.eqv w.toD (Z.toD (.str "count")) && true) = false := key
      simpa using key
    refine go ?_
    simp
    refine row_ok o ?_
    rcases shape2 v with ⟨a, b, rfl⟩ | h2
    · have oa := o.mem a (by simp)
      have ob := o.mem b (by simp)
      have q : ∀ h', Pre h h' → P (.bl (if wordB "sum" a = true then operandB b else wordB "rows" a && operandsB b)) h' := q
      simp
      refine eq_word oa (by omega) (by decide +kernel) ?_
      cases e1 : wordB "sum" a with
      | true =>
        simp [e1] at q
        simp
        exact operand_ok ob (by omega) q
      | false =>
        simp [e1] at q
        simp
        refine ne_word oa (by omega) (by decide +kernel) ?_
        cases e2 : wordB "rows" a with
        | false =>
          simp [e2] at q
          simp
          exact q h (.refl _)
        | true =>
          simp [e2] at q
          simp
          refine row_ok ob ?_
          cases e3 : rowB 1 6 b with
          | false =>
            rw [operands_no e3] at q
            simp
            exact q h (.refl _)
          | true =>
            simp
            cases b with
            | tup zs =>
              have e3 : (decide (((1 : Nat) : Int) ≤ (zs.length : Int)) && decide ((zs.length : Int) ≤ ((6 : Nat) : Int))) = true := e3
              rw [bnd] at e3
              have q : ∀ h', Pre h h' → P (.bl (decide (1 ≤ zs.length) && decide (zs.length ≤ 6) && zs.all operandB)) h' := q
              rw [e3] at q
              simp at e3
              simp
              refine rows_ok ob (by omega) (fun z oz h P E q => operand_ok oz (by omega) q) (by omega) (by simp [wipeE]) ?_
              simpa using q
            | _ => cases e3
    · rw [h2]
      have e : outputB v = false := by
        unfold outputB
        split
        · exact one _ rfl
        · simp at h2
        · rfl
      rw [e] at q
      simpa using q h (.refl _)
/-! statements -/
variable {zs : List Z}
theorem kind_words (o : Pl d v) (hd : d ≤ 60) {P : PZ} (q : P (.bl (!kindB v)) h) : oNotIn v (.tup [.str (Str.ofString "integer"), .str (Str.ofString "text")]) h P :=
  notin_words (ws := knds) o hd (by decide +kernel) q
theorem create_ok (o : Pl d (.tup zs)) (hd : d ≤ 60) (q : ∀ h', Pre h h' → P (.bl (createB zs)) h') : f_is_create [.tup zs] h P E := by
  unfold f_is_create wfOf w_is_create
  simp
  by_cases hl : zs.length = 4
  · match zs, hl with
    | [w, t, k, c], _ =>
      have ot := o.mem t (by simp)
      have ok := o.mem k (by simp)
      have oc := o.mem c (by simp)
      simp
      refine name_ok ot fun h1 p1 => ?_
      cases e1 : nameB t with
      | false =>
        have e : createB [w, t, k, c] = false := by
          unfold createB; split
          · rename_i e; simp at e; obtain ⟨_, rfl, _, _⟩ := e; rw [e1]; rfl
          · rfl
        rw [e] at q
        simpa using q h1 p1
      | true =>
        simp
        refine row_ok ok ?_
        cases e2 : rowB 1 5 k with
        | false =>
          have e : createB [w, t, k, c] = false := by
            unfold createB; split
            · rename_i ks c' e; simp at e; obtain ⟨_, rfl, rfl, rfl⟩ := e
              have e2 : (decide (((1 : Nat) : Int) ≤ (ks.length : Int)) && decide ((ks.length : Int) ≤ ((5 : Nat) : Int))) = false := e2
              rw [bnd] at e2
              rw [e2]; simp
            · rfl
          rw [e] at q
          simpa using q h1 p1
        | true =>
          simp
          cases k with
          | tup ks =>
            have e2 : (decide (((1 : Nat) : Int) ≤ (ks.length : Int)) && decide ((ks.length : Int) ≤ ((5 : Nat) : Int))) = true := e2
            rw [bnd] at e2
            have q : ∀ h', Pre h h' → P (.bl (nameB t && (decide (1 ≤ ks.length) && decide (ks.length ≤ 5) && ks.all kindB && countB 1 ks.length c))) h' := q
            rw [e1, e2] at q
            simp at e2
            have bl := big_line
            have okk : OkL ks := Pl.okL ok.mem (by omega)
            simp
            refine lcZ_filter (fun z => !kindB z) (fun z => z ∈ ks) (fun _ => True) (fun _ _ _ _ => trivial) (fun _ _ => trivial) (by simp; omega) trivial (fun z m => m) (by simp [wipeE]) ?_ ?_
            · intro z m h2 K _ hK
              simp [wipeE, sizeLine_eq]
              refine kind_words (ok.mem z m) (by omega) ?_
              simpa using hK h2 (.refl _)
            · intro h' p'
              simp [sizeLine_eq]
              refine eq_nil (xs := ks.filter fun z => !kindB z) (by simp) (okL_filter okk) (by simp) ?_
              rw [filter_none]
              have q := q _ ((p1.trans p').more ([ZO.lst (ks.filter fun z => !kindB z)] ++ [ZO.lst []]))
              cases e3 : ks.all kindB with
              | true =>
                rw [e3] at q
                simp
                refine count_ok oc ?_
                simpa using q
              | false =>
                rw [e3] at q
                simpa using q
          | _ => cases e2
  · have e : createB zs = false := by
      unfold createB; split
      · simp at hl
      · rfl
    rw [e] at q
    have hl' : ¬ (zs.length : Int) = 4 := by omega
    simp [hl']
    exact q h (.refl _)
theorem insert_ok (o : Pl d (.tup zs)) (hd : d ≤ 60) (q : ∀ h', Pre h h' → P (.bl (insertB zs)) h') : f_is_insert [.tup zs] h P E := by
  unfold f_is_insert wfOf w_is_insert
  simp
  by_cases hl : zs.length = 3
  · match zs, hl with
    | [w, t, k], _ =>
      have ot := o.mem t (by simp)
      have ok := o.mem k (by simp)
      simp
      refine name_ok ot fun h1 p1 => ?_
      cases e1 : nameB t with
      | false =>
        have e : insertB [w, t, k] = false := by
          unfold insertB; split
          · rename_i e; simp at e; obtain ⟨_, rfl, _⟩ := e; rw [e1]; rfl
          · rfl
        rw [e] at q
        simpa using q h1 p1
      | true =>
        simp
        refine row_ok ok ?_
        cases e2 : rowB 1 5 k with
        | false =>
          have e : insertB [w, t, k] = false := by
            unfold insertB; split
            · rename_i ks e; simp at e; obtain ⟨_, rfl, rfl⟩ := e
              have e2 : (decide (((1 : Nat) : Int) ≤ (ks.length : Int)) && decide ((ks.length : Int) ≤ ((5 : Nat) : Int))) = false := e2
              rw [bnd] at e2
              rw [e2]; simp
            · rfl
          rw [e] at q
          simpa using q h1 p1
        | true =>
          simp
          cases k with
          | tup ks =>
            have e2 : (decide (((1 : Nat) : Int) ≤ (ks.length : Int)) && decide ((ks.length : Int) ≤ ((5 : Nat) : Int))) = true := e2
            rw [bnd] at e2
            have q : ∀ h', Pre h h' → P (.bl (nameB t && (decide (1 ≤ ks.length) && decide (ks.length ≤ 5) && ks.all valueB))) h' := q
            rw [e1, e2] at q
            simp at e2
            simp
            refine rows_ok ok (by omega) (fun z oz h P E q => value_ok oz q) (by omega) (by simp [wipeE]) fun h2 p2 => ?_
            simpa using q h2 (p1.trans p2)
          | _ => cases e2
  · have e : insertB zs = false := by
      unfold insertB; split
      · simp at hl
      · rfl
    rw [e] at q
    have hl' : ¬ (zs.length : Int) = 3 := by omega
    simp [hl']
    exact q h (.refl _)
theorem select_ok (o : Pl d (.tup zs)) (hd : d ≤ 60) (q : ∀ h', Pre h h' → P (.bl (selectB zs)) h') : f_is_select [.tup zs] h P E := by
  unfold f_is_select wfOf w_is_select
  simp
  by_cases hl : zs.length = 4
  · match zs, hl with
    | [w, t, k, c], _ =>
      have ot := o.mem t (by simp)
      have ok := o.mem k (by simp)
      have oc := o.mem c (by simp)
      simp
      refine output_ok ot (by omega) fun h1 p1 => ?_
      cases e1 : outputB t with
      | false =>
        have e : selectB [w, t, k, c] = false := by
          unfold selectB; split
          · rename_i e; simp at e; obtain ⟨_, rfl, _, _⟩ := e; rw [e1]; rfl
          · rfl
        rw [e] at q
        simpa using q h1 p1
      | true =>
        simp
        refine row_ok ok ?_
        cases e2 : rowB 1 2 k with
        | false =>
          have e : selectB [w, t, k, c] = false := by
            unfold selectB; split
            · rename_i ks c' e; simp at e; obtain ⟨_, rfl, rfl, rfl⟩ := e
              have e2 : (decide (((1 : Nat) : Int) ≤ (ks.length : Int)) && decide ((ks.length : Int) ≤ ((2 : Nat) : Int))) = false := e2
              rw [bnd] at e2
              rw [e2]; simp
            · rfl
          rw [e] at q
          simpa using q h1 p1
        | true =>
          simp
          cases k with
          | tup ks =>
            have e2 : (decide (((1 : Nat) : Int) ≤ (ks.length : Int)) && decide ((ks.length : Int) ≤ ((2 : Nat) : Int))) = true := e2
            rw [bnd] at e2
            have q : ∀ h', Pre h h' → P (.bl (outputB t && (decide (1 ≤ ks.length) && decide (ks.length ≤ 2) && ks.all sourceB && condsB c))) h' := q
            rw [e1, e2] at q
            simp at e2
            simp
            have bl := big_line
            refine lcZ_filter (fun z => !sourceB z) (fun z => z ∈ ks) (fun _ => True) (fun _ _ _ _ => trivial) (fun _ _ => trivial) (by simp; omega) trivial (fun z m => m) (by simp [wipeE]) ?_ ?_
            · intro z m h2 K _ hK
              simp [wipeE, sizeLine_eq]
              refine source_ok (ok.mem z m) fun h3 p3 => ?_
              simpa using hK h3 p3
            · intro h' p'
              simp [sizeLine_eq]
              refine eq_nil (xs := ks.filter fun z => !sourceB z) (by simp) (okL_filter (Pl.okL ok.mem (by omega))) (by simp) ?_
              rw [filter_none]
              have pp := ((p1.trans p').more ([ZO.lst (ks.filter fun z => !sourceB z)] ++ [ZO.lst []]))
              cases e3 : ks.all sourceB with
              | true =>
                rw [e3] at q
                simp at q
                simp
                refine conds_ok oc (by omega) fun h2 p2 => ?_
                refine q h2 (pp.trans ?_)
                simpa using p2
              | false =>
                rw [e3] at q
                simpa using q _ pp
          | _ => cases e2
  · have e : selectB zs = false := by
      unfold selectB; split
      · simp at hl
      · rfl
    rw [e] at q
    have hl' : ¬ (zs.length : Int) = 4 := by omega
    simp [hl']
    exact q h (.refl _)
end
end ZF

namespace ZF
open PySem PySem.Spec PyProof.Rows L2 ZL
section
variable {d : Nat} {v : Z} {h : ZH} {P : PZ} {E : XZ → ZH → Prop}
theorem isplain_ok {n : Nat} (f : Fit n h v) (hn : n ≤ 1000000) (q : ∀ h', Pre h h' → P (.bl (plainB 30 v)) h') : f_is_plain [v] h P E := by
  unfold f_is_plain wfOf w_is_plain
  simp
  exact within_ok (m := 30) (Nat.le_trans f.sz hn) f.rf q
theorem form_str {zs : List Z} (h : ∀ w r, zs ≠ .str w :: r) : formB zs = false := by
  unfold formB
  split
  · exact absurd rfl (h _ _)
  · rfl
theorem form_one {z : Z} : formB [z] = false := by
  cases z with
  | str w =>
    show formW w [] = false
    unfold formW createB insertB selectB
    simp
  | _ => rfl
theorem kIf_not {w : Str} {x : Str} {a b : WS} {D : ZEnds} {env : ZL.Env} {E : EZ} (h1 : w = x → a D env h E) (h2 : ¬ w = x → b D env h E) : kIf a b D env E (decide (w = x)) h := by
  by_cases e : w = x
  · rw [decide_eq_true e]; exact h1 e
  · rw [decide_eq_false e]; exact h2 e
theorem stmt_ok {n : Nat} (f : Fit n h v) (hn : n ≤ 1000000) (q : ∀ h', Pre h h' → P (.bl (stmtB v)) h') : f_is_statement [v] h P E := by
  unfold f_is_statement wfOf w_is_statement
  simp
  refine isplain_ok f hn fun h1 p1 => ?_
  have q : ∀ h', Pre h1 h' → P (.bl (stmtB v)) h' := fun h' p => q h' (p1.trans p)
  cases hp : plainB 30 v with
  | false =>
    have e : stmtB v = false := by unfold stmtB; rw [hp]; rfl
    rw [e] at q
    simpa using q h1 (.refl _)
  | true =>
    have o : Pl 30 v := ⟨hp, f.st⟩
    simp
    cases v with
    | ref n => rw [pl_ref] at hp; cases hp
    | scr n => rw [pl_scr] at hp; cases hp
    | err n => cases hp
    | tup zs =>
      have es : stmtB (.tup zs) = formB zs := by
        show (plainB 30 (.tup zs) && formB zs) = _
        rw [hp]; rfl
      rw [es] at q
      clear es
      simp
      match zs, o with
      | [], _ => simpa [formB] using q h1 (.refl _)
      | [z], _ =>
        rw [form_one] at q
        simpa using q h1 (.refl _)
      | w :: t :: r, o =>
        have ow := o.mem w (by simp)
        have ot := o.mem t (by simp)
        have hl : ¬ ((r.length : Int) + 1 + 1 < 2) := by omega
        simp [hl]
        cases w with
        | str w =>
          have o2 : ¬ (2 : Int) = 0 := by decide
          simp
          refine kIf_not (fun e => ?_) (fun e0 => ?_)
          · simp
            refine create_ok o (by decide) ?_
            have : formB (.str w :: t :: r) = createB (.str w :: t :: r) := by show formW _ _ = _; unfold formW; rw [if_pos e]
            rwa [this] at q
          simp
          refine kIf_not (fun e => ?_) (fun e1 => ?_)
          · simp
            by_cases hr : r.length = 0
            · have : r = [] := by simpa using hr
              subst this
              have : formB [.str w, t] = nameB t := by show formW _ _ = _; unfold formW; simp [e0]; intro z; exact absurd e z
              rw [this] at q
              simp
              exact name_ok ot q
            · have : formB (.str w :: t :: r) = false := by
                show formW _ _ = _
                unfold formW
                rw [if_neg e0, if_pos e]
                cases r with
                | nil => simp at hr
                | cons => rfl
              rw [this] at q
              have hr' : ¬ ((r.length : Int) + 1 + 1 = 2) := by omega
              simp [hr']
              exact q h1 (.refl _)
          simp
          refine kIf_not (fun e => ?_) (fun e2 => ?_)
          · simp
            refine insert_ok o (by decide) ?_
            have : formB (.str w :: t :: r) = insertB (.str w :: t :: r) := by show formW _ _ = _; unfold formW; rw [if_neg e0, if_neg e1, if_pos e]
            rwa [this] at q
          simp
          refine kIf_not (fun e => ?_) (fun e3 => ?_)
          · simp
            by_cases hr : r.length = 1
            · match r, hr, o with
              | [c], _, o =>
                have oc := o.mem c (by simp)
                have : formB [.str w, t, c] = (nameB t && condsB c) := by show formW _ _ = _; unfold formW; rw [if_neg e0, if_neg e1, if_neg e2, if_pos e]
                rw [this] at q
                simp
                refine name_ok ot fun h2 p2 => ?_
                cases e4 : nameB t with
                | true =>
                  rw [e4] at q
                  simp
                  exact conds_ok oc (by decide) fun h3 p3 => by simpa using q h3 (p2.trans p3)
                | false =>
                  rw [e4] at q
                  simpa using q h2 p2
            · have : formB (.str w :: t :: r) = false := by
                show formW _ _ = _
                unfold formW
                rw [if_neg e0, if_neg e1, if_neg e2, if_pos e]
                match r, hr with
                | [], _ => rfl
                | _ :: _ :: _, _ => rfl
              rw [this] at q
              have hr' : ¬ ((r.length : Int) + 1 + 1 = 3) := by omega
              simp [hr']
              exact q h1 (.refl _)
          simp
          refine kIf_not (fun e => ?_) (fun e4 => ?_)
          · simp
            by_cases hr : r.length = 2
            · match r, hr, o with
              | [s, c], _, o =>
                have os := o.mem s (by simp)
                have oc := o.mem c (by simp)
                have : formB [.str w, t, s, c] = (nameB t && (settingsB s && condsB c)) := by show formW _ _ = _; unfold formW; rw [if_neg e0, if_neg e1, if_neg e2, if_neg e3, if_pos e]
                rw [this] at q
                simp
                refine name_ok ot fun h2 p2 => ?_
                cases e4 : nameB t with
                | true =>
                  rw [e4] at q
                  simp
                  refine settings_ok os (by decide) fun h3 p3 => ?_
                  cases e5 : settingsB s with
                  | true =>
                    rw [e5] at q
                    simp
                    exact conds_ok oc (by decide) fun h4 p4 => by simpa using q h4 ((p2.trans p3).trans p4)
                  | false =>
                    rw [e5] at q
                    simpa using q h3 (p2.trans p3)
                | false =>
                  rw [e4] at q
                  simpa using q h2 p2
            · have : formB (.str w :: t :: r) = false := by
                show formW _ _ = _
                unfold formW
                rw [if_neg e0, if_neg e1, if_neg e2, if_neg e3, if_pos e]
                match r, hr with
                | [], _ => rfl
                | [_], _ => rfl
                | _ :: _ :: _ :: _, _ => rfl
              rw [this] at q
              have hr' : ¬ ((r.length : Int) + 1 + 1 = 4) := by omega
              simp [hr']
              exact q h1 (.refl _)
          simp
          refine kIf_not (fun e => ?_) (fun e5 => ?_)
          · simp
            refine select_ok o (by decide) ?_
            have : formB (.str w :: t :: r) = selectB (.str w :: t :: r) := by show formW _ _ = _; unfold formW; rw [if_neg e0, if_neg e1, if_neg e2, if_neg e3, if_neg e4, if_pos e]
            rwa [this] at q
          simp
          by_cases e6 : w = Str.ofString "replace"
          · simp [e6]
            by_cases hr : r.length = 1
            · match r, hr, o with
              | [c], _, o =>
                have oc := o.mem c (by simp)
                have : formB [.str w, t, c] = (countB 0 9 t && countB 1 999 c) := by show formW _ _ = _; unfold formW; rw [if_neg e0, if_neg e1, if_neg e2, if_neg e3, if_neg e4, if_neg e5, decide_eq_true e6, Bool.true_and]
                rw [this] at q
                simp
                refine count_ok ot ?_
                cases e4 : countB 0 9 t with
                | true =>
                  rw [e4] at q
                  simp
                  exact count_ok oc (by simpa using q h1 (.refl _))
                | false =>
                  rw [e4] at q
                  simpa using q h1 (.refl _)
            · have : formB (.str w :: t :: r) = false := by
                show formW _ _ = _
                unfold formW
                rw [if_neg e0, if_neg e1, if_neg e2, if_neg e3, if_neg e4, if_neg e5, decide_eq_true e6, Bool.true_and]
                match r, hr with
                | [], _ => rfl
                | _ :: _ :: _, _ => rfl
              rw [this] at q
              have hr' : ¬ ((r.length : Int) + 1 + 1 = 3) := by omega
              simp [hr']
              exact q h1 (.refl _)
          · have : formB (.str w :: t :: r) = false := by show formW _ _ = _; unfold formW; rw [if_neg e0, if_neg e1, if_neg e2, if_neg e3, if_neg e4, if_neg e5, decide_eq_false e6, Bool.false_and]
            rw [this] at q
            simp [e6]
            exact q h1 (.refl _)
        | ref n => have := ow.p; rw [pl_ref] at this; cases this
        | scr n => have := ow.p; rw [pl_scr] at this; cases this
        | err n => have := ow.p; cases this
        | _ =>
          have : ∀ {z : Z} {r : List Z}, (∀ x, z ≠ .str x) → formB (z :: r) = false := fun hz => form_str fun w r e => hz _ (List.cons.inj e).1
          rw [this (by intro x e; cases e)] at q
          simpa using q h1 (.refl _)
    | _ => simpa [stmtB] using q h1 (.refl _)
end
end ZF

namespace ZN
open PySem PySem.Spec PyProof.Rows L2 ZL ZG ZF
/-! ### small nice plain values -/
structure W (d n : Nat) (v : Z) : Prop where
  nc : niceZ v = true
  s : okS v = true
  z : sizeZ v ≤ n
  p : ∀ e, d ≤ e → plainB e v = true
mutual
theorem tlen_le : ∀ {v : Z}, okS v = true → tlenZ v + 2 ≤ 10010 * sizeZ v
  | .non, _ => by decide
  | .bl _, _ => by show 5 + 2 ≤ 10010 * 1; decide
  | .int _, _ => by show 62 + 2 ≤ 10010 * 1; decide
  | .str x, h => by
    have h := of_decide_eq_true (Bool.and_eq_true_iff.mp h).2
    show 10 * x.length + 2 + 2 ≤ 10010 * 1
    omega
  | .tup zs, h => by
    unfold okS at h
    have := tlens_le h
    show tlenZs zs + 3 + 2 ≤ 10010 * (sizeZs zs + 1)
    omega
  | .scr _, _ => by show 0 + 2 ≤ 10010 * 1; decide
  | .ref _, _ => by show 0 + 2 ≤ 10010 * 1; decide
  | .err _, _ => by show 0 + 2 ≤ 10010 * 1; decide
theorem tlens_le : ∀ {zs : List Z}, okSs zs = true → tlenZs zs ≤ 10010 * sizeZs zs
  | [], _ => Nat.le_refl _
  | z :: zs, h => by
    unfold okSs at h
    obtain ⟨h1, h2⟩ := Bool.and_eq_true_iff.mp h
    have := tlen_le h1
    have := tlens_le h2
    show tlenZ z + 2 + tlenZs zs ≤ 10010 * (sizeZ z + sizeZs zs)
    omega
end
theorem W.le {d n d' n' : Nat} {v : Z} (w : W d n v) (hd : d ≤ d') (hn : n ≤ n') : W d' n' v := ⟨w.nc, w.s, Nat.le_trans w.z hn, fun e he => w.p e (Nat.le_trans hd he)⟩
theorem W.fit {d n : Nat} {v : Z} (w : W d n v) {h : ZH} : Fit n h v := ⟨w.z, nice_refs w.nc, w.s⟩
theorem W.rv {d n : Nat} {v : Z} (w : W d n v) (hd : d ≤ 60) (hn : n ≤ 1600) : Rv v := ⟨w.nc, w.p 60 hd, w.s, by have := tlen_le w.s; have := w.z; omega⟩
theorem sizes_le {n : Nat} : ∀ {zs : List Z}, (∀ z ∈ zs, sizeZ z ≤ n) → sizeZs zs ≤ n * zs.length
  | [], _ => Nat.zero_le _
  | z :: zs, h => by
    have := h z List.mem_cons_self
    have := sizes_le fun y m => h y (List.mem_cons_of_mem z m)
    show sizeZ z + sizeZs zs ≤ n * (zs.length + 1)
    rw [Nat.mul_add]
    omega
theorem W.tup {d n : Nat} {zs : List Z} (h : ∀ z ∈ zs, W d n z) : W (d + 1) (n * zs.length + 1) (.tup zs) := by
  refine ⟨?_, ?_, ?_, fun e he => ?_⟩
  · unfold niceZ
    rw [niceZs_all, List.all_eq_true]
    exact fun z m => (h z m).nc
  · unfold okS
    rw [okSs_all, List.all_eq_true]
    exact fun z m => (h z m).s
  · have := sizes_le fun z m => (h z m).z
    show sizeZs zs + 1 ≤ _
    omega
  · cases e with
    | zero => omega
    | succ e =>
      unfold plainB
      rw [plainBs_all, List.all_eq_true]
      exact fun z m => (h z m).p e (by omega)
theorem w_int {i : Int} (h : i.natAbs < 1000000000000000000000000000000000000000000000000000000000000) : W 0 1 (.int i) := ⟨rfl, rfl, Nat.le_refl _, fun e _ => by rw [pl_int]; exact decide_eq_true h⟩
theorem w_non : W 0 1 .non := ⟨rfl, rfl, Nat.le_refl _, fun e _ => pl_non e⟩
theorem w_bl {b : Bool} : W 0 1 (.bl b) := ⟨rfl, rfl, Nat.le_refl _, fun e _ => pl_bl e b⟩
theorem w_str {x : Str} (h : (niceZ (.str x) && okS (.str x)) = true) : W 0 1 (.str x) := ⟨(Bool.and_eq_true_iff.mp h).1, (Bool.and_eq_true_iff.mp h).2, Nat.le_refl _, fun e _ => pl_str e x⟩
/-- by looking -/
def wB (d n : Nat) (v : Z) : Bool := niceZ v && okS v && decide (sizeZ v ≤ n) && plainB d v
theorem plain_up {d e : Nat} {v : Z} (h : d ≤ e) (p : plainB d v = true) : plainB e v = true := by
  rw [plain_atom] at p ⊢
  obtain ⟨a, b⟩ := Bool.and_eq_true_iff.mp p
  rw [a, decide_eq_true (Nat.le_trans (of_decide_eq_true b) h)]; rfl
theorem w_of {d n : Nat} {v : Z} (h : wB d n v = true) : W d n v := by
  unfold wB at h
  simp only [Bool.and_eq_true, decide_eq_true_eq] at h
  exact ⟨h.1.1.1, h.1.1.2, h.1.2, fun e he => plain_up he h.2⟩
theorem W.mem {d n : Nat} {zs : List Z} (w : W (d + 1) n (.tup zs)) {z : Z} (m : z ∈ zs) : W d n z := by
  refine ⟨?_, okS_mem w.s m, ?_, fun e he => ?_⟩
  · have := w.nc
    unfold niceZ at this
    rw [niceZs_all, List.all_eq_true] at this
    exact this z m
  · have := w.z
    have h : sizeZs zs + 1 ≤ n := this
    have : ∀ {zs : List Z}, z ∈ zs → sizeZ z ≤ sizeZs zs := by
      intro zs
      induction zs with
      | nil => intro m; cases m
      | cons y ys ih =>
        intro m
        show sizeZ z ≤ sizeZ y + sizeZs ys
        rcases List.mem_cons.mp m with rfl | m
        · omega
        · have := ih m; omega
    have := this m
    omega
  · have := w.p (e + 1) (by omega)
    unfold plainB at this
    rw [plainBs_all, List.all_eq_true] at this
    exact this z m
section
variable {d : Nat} {v : Z} {h : ZH} {P : PZ} {E : XZ → ZH → Prop}
theorem size_mem {z : Z} : ∀ {zs : List Z}, z ∈ zs → sizeZ z ≤ sizeZs zs
  | y :: ys, m => by
    show sizeZ z ≤ sizeZ y + sizeZs ys
    rcases List.mem_cons.mp m with rfl | m
    · omega
    · have := size_mem m; omega
/-- plain, nice, not large -/
structure Pn (d : Nat) (v : Z) : Prop where
  o : Pl d v
  n : niceZ v = true
  z : sizeZ v ≤ 1600
theorem Pn.mem {zs : List Z} (p : Pn d (.tup zs)) {z : Z} (m : z ∈ zs) : Pn (d - 1) z := by
  refine ⟨p.o.mem z m, ?_, ?_⟩
  · have := p.n
    unfold niceZ at this
    rw [niceZs_all, List.all_eq_true] at this
    exact this z m
  · have : sizeZs zs + 1 ≤ 1600 := p.z
    have := size_mem m
    omega
theorem Pn.fit (p : Pn d v) {h : ZH} : Fit 1600 h v := ⟨p.z, nice_refs p.n, p.o.s⟩
theorem Pn.rv (p : Pn d v) (hd : d ≤ 60) : Rv v := ⟨p.n, plain_up hd p.o.p, p.o.s, by have := tlen_le p.o.s; have := p.z; omega⟩
theorem shape4 (v : Z) : (∃ a b c e, v = .tup [a, b, c, e]) ∨ rowB 4 4 v = false := by
  cases v with
  | tup zs =>
    match zs with
    | [] => exact .inr rfl
    | [_] => exact .inr rfl
    | [_, _] => exact .inr rfl
    | [_, _, _] => exact .inr rfl
    | [a, b, c, e] => exact .inl ⟨a, b, c, e, rfl⟩
    | _ :: _ :: _ :: _ :: _ :: _ => exact .inr (by rw [r_tup]; simp; intro _; omega)
  | _ => exact .inr rfl
end
structure St (h : ZH) (s l : Nat) (ns : List Int) : Prop where
  s : ∃ i c e : Int, h[s]? = some (.lst [.ref l, .int i, .int c, .int e]) ∧ 0 ≤ i ∧ 0 ≤ c ∧ 0 ≤ e ∧ e < 2147483647
  l : h[l]? = some (.lst (ns.map Z.int))
  n : ns.length ≤ 63
theorem next_ok {s l : Nat} {ns : List Int} {h : ZH} (st : St h s l ns) {m : Int} (m1 : 1 ≤ m) (m2 : m ≤ 1000000) {P : PZ} {E : XZ → ZH → Prop} (q : ∀ h' (d : Int), Keep h h' [s] → St h' s l ns → 0 ≤ d → d < m → P (.int d) h') : f__law_next [.ref s, .int m] h P E := by
  unfold f__law_next wfOf w__law_next
  obtain ⟨⟨i, c, e, hs, i0, c0, e0, e1⟩, hl, hn⟩ := st
  have nsl : s ≠ l := fun x => by
    subst x
    rw [hs] at hl
    have := congrArg (fun o => match o with | some (ZO.lst zs) => zs.head? | _ => none) hl
    cases ns <;> simp at this
  simp [hs, hl]
  refine kAndIf_via (fun env h' => Keep h h' [s] ∧ St h' s l ns ∧ ∃ a, env = [some (.ref s), some (.int m), a, none]) ?_ ?_ ?_
  · intro N hN k
    simp [hs, hl]
    refine kIf_of (fun c => ?_) (fun c => ?_)
    · have hil : i < ns.length := by simpa using c
      obtain ⟨j, rfl⟩ := Int.eq_ofNat_of_zero_le i0
      have hj : j < (ns.map Z.int).length := by simp; omega
      have a1 : L2.atI (ns.map Z.int) (j : Int) = some (ns.map Z.int)[j] := atI_nat hj
      have a2 : (ns.map Z.int)[j] = .int (ns[j]'(by simpa using hj)) := by simp
      rw [a2] at a1
      generalize ns[j]'(by simpa using hj) = cell at a1
      have hl1 : ∀ y, (h.set s y)[l]? = some (.lst (ns.map Z.int)) := fun y => by rw [List.getElem?_set_ne nsl]; exact hl
      have hs1 : ∀ y, (h.set s y)[s]? = some y := fun y => get_set hs
      simp [hs, hl, a1, CPow]
      refine kIf_of (fun c => ?_) (fun c => ?_)
      · simp [hs1]
        have c : 1000000000000000000 ≤ cell := by simpa using c
        exact hN _ _ ⟨(Keep.refl h [s]).set _ fun _ => by simp, ⟨⟨_, _, _, hs1 _, by omega, by omega, e0, e1⟩, hl1 _, hn⟩, _, rfl⟩
      · simp [hs1]
        exact ⟨cmul_r (by omega) (by omega), hN _ _ ⟨(Keep.refl h [s]).set _ fun _ => by simp, ⟨⟨_, _, _, hs1 _, by omega, c0, by omega, by omega⟩, hl1 _, hn⟩, _, rfl⟩⟩
    · simp
      exact hN _ _ ⟨.refl _ _, ⟨⟨_, _, _, hs, i0, c0, e0, e1⟩, hl, hn⟩, _, rfl⟩
  · intro N hN k
    simp
    exact hN _ _ ⟨.refl _ _, ⟨⟨_, _, _, hs, i0, c0, e0, e1⟩, hl, hn⟩, _, rfl⟩
  · rintro env h1 ⟨k1, ⟨⟨i, c, e, hs, i0, c0, e0, e1⟩, hl, hn⟩, a, rfl⟩
    have hl1 : ∀ y, (h1.set s y)[l]? = some (.lst (ns.map Z.int)) := fun y => by rw [List.getElem?_set_ne nsl]; exact hl
    have hs1 : ∀ y, (h1.set s y)[s]? = some y := fun y => get_set hs
    have m0 : 0 < m := by omega
    simp [hs]
    refine kIf_of (fun c => ?_) (fun c => ?_)
    · simp [hs]
      exact ⟨m0, ⟨m0, by omega⟩, q _ _ (k1.set _ fun _ => by simp) ⟨⟨_, _, _, hs1 _, i0, Int.ediv_nonneg c0 (by omega), e0, e1⟩, hl1 _, hn⟩ (Int.emod_nonneg _ (by omega)) (Int.emod_lt_of_pos _ m0)⟩
    · simp [hs, hs1]
      exact ⟨cmul_r (by omega) (by omega), ⟨by omega, by omega⟩, m0, q _ _ (k1.set _ fun _ => by simp) ⟨⟨_, _, _, hs1 _, i0, c0, by omega, by omega⟩, hl1 _, hn⟩ (Int.emod_nonneg _ (by omega)) (Int.emod_lt_of_pos _ m0)⟩
theorem St.keep {h h' : ZH} {s l : Nat} {ns : List Int} (st : St h s l ns) {D : List Nat} (k : Keep h h' D) (n1 : s ∉ D) (n2 : l ∉ D) : St h' s l ns := by
  obtain ⟨⟨i, c, e, hs, r⟩, hl, hn⟩ := st
  exact ⟨⟨i, c, e, k.get hs n1, r⟩, k.get hl n2, hn⟩
theorem St.app {h : ZH} {s l : Nat} {ns : List Int} (st : St h s l ns) (g : ZH) : St (h ++ g) s l ns := st.keep (.of_pre (.app h g)) (D := []) (by simp) (by simp)
theorem St.lt {h : ZH} {s l : Nat} {ns : List Int} (st : St h s l ns) : s < h.length := by
  obtain ⟨⟨i, c, e, hs, r⟩, hl, hn⟩ := st
  exact lt_of_get hs
theorem Keep.app0 {h h' : ZH} {g : ZH} {D : List Nat} (k : Keep (h ++ g) h' D) : Keep h h' D := (Keep.of_pre (.app h g)).trans k
/-- a list that was laid is there behind a draw -/
theorem at_new {h h' : ZH} {o : ZO} {s : Nat} (k : Keep (h ++ [o]) h' [s]) (hs : s < h.length) : h'[h.length]? = some o := k.get (by simp) (by simp; omega)
section
variable {d n : Nat} {a b c e : Z}
theorem wt1 (x : W d n a) : W (d + 1) (n + 1) (.tup [a]) := (W.tup (n := n) (zs := [a]) (by simpa using x)).le (Nat.le_refl _) (by simp)
theorem wt2 (x : W d n a) (y : W d n b) : W (d + 1) (n * 2 + 1) (.tup [a, b]) := (W.tup (n := n) (zs := [a, b]) (by simpa using ⟨x, y⟩)).le (Nat.le_refl _) (by simp)
theorem wt3 (x : W d n a) (y : W d n b) (z : W d n c) : W (d + 1) (n * 3 + 1) (.tup [a, b, c]) := (W.tup (n := n) (zs := [a, b, c]) (by simpa using ⟨x, y, z⟩)).le (Nat.le_refl _) (by simp)
theorem wt4 (x : W d n a) (y : W d n b) (z : W d n c) (u : W d n e) : W (d + 1) (n * 4 + 1) (.tup [a, b, c, e]) := (W.tup (n := n) (zs := [a, b, c, e]) (by simpa using ⟨x, y, z, u⟩)).le (Nat.le_refl _) (by simp)
end
theorem w_nil : W 1 1 (.tup []) := (W.tup (d := 0) (n := 0) (zs := []) (by simp))
theorem wp2 {d n m : Nat} {a b : Z} (x : W d n a) (y : W d m b) : W (d + 1) (n + m + 1) (.tup [a, b]) := by
  have := wt2 (x.le (Nat.le_refl _) (Nat.le_max_left n m)) (y.le (Nat.le_refl _) (Nat.le_max_right n m))
  refine ⟨this.nc, this.s, ?_, this.p⟩
  have := x.z
  have := y.z
  show sizeZ a + (sizeZ b + 0) + 1 ≤ _
  omega
end ZN
namespace ZN
open PySem PySem.Spec PyProof.Rows L2 ZL ZG ZF
/-! ### values, odd or not -/
structure Od (n : Nat) (h : ZH) (z : Z) : Prop where
  f : Fit n h z
  nv : ∀ e, plainB e z = true → niceZ z = true
section
variable {d n m : Nat} {h h' : ZH} {z : Z}
theorem W.od (w : W d n z) : Od n h z := ⟨w.fit, fun _ _ => w.nc⟩
theorem od_ref (f : Fit n h (.ref m)) : Od n h (.ref m) := ⟨f, fun e p => by rw [pl_ref] at p; cases p⟩
theorem od_lst {zs : List Z} (e : h[m]? = some (.lst zs)) : Od 1 h (.ref m) := od_ref (fit_lst e)
theorem od_dict {zs : List (Z × Z)} (e : h[m]? = some (.dict zs)) : Od 1 h (.ref m) := od_ref (fit_dict e)
theorem Od.le (o : Od n h z) (l : n ≤ m) : Od m h z := ⟨o.f.le l, o.nv⟩
theorem Od.pre (o : Od n h z) (p : Pre h h') : Od n h' z := ⟨o.f.pre p, o.nv⟩
theorem Od.app (o : Od n h z) (g : ZH) : Od n (h ++ g) z := o.pre (.app h g)
theorem Od.setL (o : Od n h z) (ys : List Z) : Od n (h.set m (.lst ys)) z := ⟨o.f.setL ys, o.nv⟩
theorem Od.keep (o : Od n h z) {D : List Nat} (k : Keep h h' D) (hD : ∀ i ∈ D, (∃ zs, h'[i]? = some (ZO.lst zs)) ∨ ∃ kvs, h'[i]? = some (ZO.dict kvs)) : Od n h' z := by
  refine ⟨⟨o.f.sz, refsOk_mono (fun i r => ?_) o.f.rf, o.f.st⟩, o.nv⟩
  unfold refsOk refsI at r ⊢
  by_cases c : i ∈ D
  · rcases hD i c with ⟨zs, e⟩ | ⟨kvs, e⟩
    · exact .inl ⟨zs, e⟩
    · exact .inr (.inl ⟨kvs, e⟩)
  · rcases r with ⟨zs, e⟩ | ⟨kvs, e⟩ | ⟨_, fs, e, mm⟩
    · exact .inl ⟨zs, k.get e c⟩
    · exact .inr (.inl ⟨kvs, k.get e c⟩)
    · cases mm
theorem Od.tup {zs : List Z} (hz : ∀ z ∈ zs, Od n h z) : Od (n * zs.length + 1) h (.tup zs) := by
  refine ⟨Fit.tup fun z m => (hz z m).f, fun e p => ?_⟩
  cases e with
  | zero => cases p
  | succ e =>
    unfold plainB at p
    rw [plainBs_all, List.all_eq_true] at p
    unfold niceZ
    rw [niceZs_all, List.all_eq_true]
    exact fun z m => (hz z m).nv e (p z m)
theorem Od.set {zs : List Z} {k : Nat} (hz : ∀ z ∈ zs, Od n h z) (o : Od n h z) : Od (n * zs.length + 1) h (.tup (zs.set k z)) := by
  have := Od.tup (zs := zs.set k z) fun y m => by
    rcases List.mem_or_eq_of_mem_set m with m | e
    · exact hz y m
    · rw [e]; exact o
  simpa using this
theorem St.od {s l : Nat} {ns : List Int} (o : Od n h z) (k : Keep h h' [s]) (st : St h' s l ns) : Od n h' z := o.keep k fun i m => by
  simp at m; subst m
  obtain ⟨⟨i, c, e, hs, r⟩, _⟩ := st
  exact .inl ⟨_, hs⟩
end
end ZN

namespace K29
open PySem PySem.Spec PyProof.Rows L2 ZL ZN ZG
theorem lkR {c : Str} {t : List (Str × Bool)} {b : Bool} (h : t.lookup c = some b) : ∃ b', t.lookup c = some b' ∧ b' = b := ⟨b, h, rfl⟩
theorem text_ok {n : Int} (h0 : 0 ≤ n) {h : ZH} {P : PZ} {E : XZ → ZH → Prop} (q : ∀ x, P (.str x) h) : f__law_text [.int n] h P E := by
  unfold f__law_text wfOf w__law_text
  have bl := big_line
  simp
  obtain ⟨m, hm, em⟩ : ∃ m : Nat, m < 9 ∧ n % 9 = (m : Nat) := ⟨(n % 9).toNat, by omega, by omega⟩
  rw [em]
  refine ⟨⟨by omega, by omega⟩, ?_⟩
  refine forZ_ind (fun zs env h' => ∃ (i k : Nat) (x : Str) (o : Option Z), zs = rngZ (i : Nat) k ∧ i + k = m ∧ env = [some (.int n), some (.str x), o] ∧ x.length ≤ i ∧ h' = h) ?_ ?_ _ _ _ ⟨0, m, "", none, rfl, by omega, rfl, by decide, rfl⟩
  · rintro env h' ⟨i, k, x, o, e, ik, rfl, lx, rfl⟩
    refine ⟨trivial, ?_⟩
    simp
    exact q x
  · rintro z zs env h' N hN ⟨i, k, x, o, e, ik, rfl, lx, rfl⟩
    cases k with
    | zero => cases e
    | succ k =>
      rw [rng_cons] at e
      obtain ⟨rfl, rfl⟩ := List.cons.inj e
      refine ⟨trivial, ?_⟩
      simp
      have dv : CDiv n ((i : Int) + 1) := ⟨by omega, by omega⟩
      refine ⟨dv, by show 8 ≤ sizeLine; omega, ?_⟩
      obtain ⟨j, hj, ej⟩ : ∃ j : Nat, j < 8 ∧ n / ((i : Int) + 1) % 8 = (j : Nat) := ⟨(n / ((i : Int) + 1) % 8).toNat, by omega, by omega⟩
      have l8 : ("ab c()'," : Str).cps.toList.length = 8 := by decide
      obtain ⟨c, hc⟩ : ∃ c, ("ab c()'," : Str).cps.toList[j]? = some c := ⟨_, List.getElem?_eq_getElem (by omega)⟩
      have at1 : L2.atI ("ab c()'," : Str).cps.toList (j : Nat) = some c := by
        unfold L2.atI L2.ixN
        rw [if_pos (by omega), if_pos (by rw [l8]; omega)]
        simpa using hc
      have l1 : Str.length ⟨#[c]⟩ = 1 := rfl
      have lx2 : (x ++ (⟨#[c]⟩ : Str)).length = x.length + 1 := by
        show (x.cps ++ #[c]).size = _
        rw [Array.size_append]
        rfl
      rw [ej]
      exact ⟨c, at1, by rw [l1]; omega, hN _ _ ⟨i + 1, k, x ++ ⟨#[c]⟩, _, rfl, by omega, rfl, by rw [lx2]; omega, rfl⟩⟩
def prob (n : Int) : List Z := [.tup [.str "no table", .str "t"], .tup [.str "sum"], .tup [.str "compare", .int (n % 7)], .tup [.str "width", .str "t", .int (n % 5), .int 3], .tup [], .tup [.str "kind", .tup [.int 1, .str "a"]]]
theorem small_w {d n : Nat} {z : Z} (h : wB d n z = true) (hd : d ≤ 2) (hn : n ≤ 20) : W 2 20 z := (w_of h).le hd hn
theorem prob_w (n : Int) : ∀ z ∈ prob n, W 2 20 z := fun z m => by
  have i7 : W 0 1 (.int (n % 7)) := w_int (by omega)
  have i5 : W 0 1 (.int (n % 5)) := w_int (by omega)
  have s1 : W 0 1 (.str "compare") := w_of (by decide +kernel)
  have s2 : W 0 1 (.str "width") := w_of (by decide +kernel)
  have s3 : W 0 1 (.str "t") := w_of (by decide +kernel)
  have s4 : W 0 1 (.int 3) := w_of (by decide +kernel)
  simp only [prob, List.mem_cons, List.not_mem_nil, or_false] at m
  rcases m with rfl | rfl | rfl | rfl | rfl | rfl
  · exact small_w (d := 2) (n := 20) (by decide +kernel) (by omega) (by omega)
  · exact small_w (d := 2) (n := 20) (by decide +kernel) (by omega) (by omega)
  · refine (W.tup (d := 0) (n := 1) fun y my => ?_).le (by omega) (by simp)
    rcases List.mem_cons.mp my with rfl | my
    · exact s1
    · rw [List.mem_singleton.mp my]; exact i7
  · refine (W.tup (d := 0) (n := 1) fun y my => ?_).le (by omega) (by simp)
    simp only [List.mem_cons, List.not_mem_nil, or_false] at my
    rcases my with rfl | rfl | rfl | rfl
    · exact s2
    · exact s3
    · exact i5
    · exact s4
  · exact small_w (d := 2) (n := 20) (by decide +kernel) (by omega) (by omega)
  · exact small_w (d := 2) (n := 20) (by decide +kernel) (by omega) (by omega)
theorem problem_ok {n : Int} (h0 : 0 ≤ n) {h : ZH} {P : PZ} {E : XZ → ZH → Prop} (q : ∀ h' v, W 2 20 v → P v h') : f__law_problem [.int n] h P E := by
  unfold f__law_problem wfOf w__law_problem
  have bl := big_line
  simp
  obtain ⟨j, hj, ej⟩ : ∃ j : Nat, j < 6 ∧ n / 7 % 6 = (j : Nat) := ⟨(n / 7 % 6).toNat, by omega, by omega⟩
  obtain ⟨z, hz⟩ : ∃ z, (prob n)[j]? = some z := ⟨_, List.getElem?_eq_getElem (show j < 6 from hj)⟩
  have at1 : L2.atI (prob n) (j : Nat) = some z := by
    unfold L2.atI L2.ixN
    rw [if_pos (by omega), if_pos (show ((j : Nat) : Int) < ((prob n).length : Nat) from (show ((j : Nat) : Int) < ((6 : Nat) : Int) by omega))]
    simpa using hz
  rw [ej]
  exact ⟨by omega, by omega, by omega, by omega, by omega, by omega, ⟨by omega, by omega⟩, z, at1, q _ z (prob_w n z (List.mem_of_getElem? hz))⟩
/-- what [each == kind for each in range(8)] makes -/
def isK (k : Nat) : List Z := (rngZ 0 8).map fun z => Z.bl (decide (z = .int (k : Nat)))
theorem isk_ok {k : Nat} {env : ZL.Env} {P : PZ} (e0 : env[0]? = some (some (.int (k : Nat)))) (l4 : 4 < env.length) {h : ZH} (q : ∀ h', Pre h h' → P (.ref h'.length) (h' ++ [.lst (isK k)])) : lcZ (.nm 4) wYes (w2 oEq (wVar 4) (wVar 0)) Always env P (rngZ 0 8) [] h := by
  have bl := big_line
  refine lcZ_map (f := fun z => Z.bl (decide (z = .int (k : Nat)))) (S := fun z => ∃ i : Int, z = .int i) (C := fun _ => True) (fun _ _ _ _ => trivial) (fun _ _ => trivial) (by show 0 + 8 ≤ sizeLine; omega) trivial (fun z m => ?_) (fun z ⟨i, ez⟩ => ⟨_, rfl, fun g K _ hK => ?_⟩) fun h' p => q h' p
  · have : z ∈ (rngZ 0 8) := m
    simp [rngZ] at this
    obtain ⟨a, _, rfl⟩ := this
    exact ⟨_, rfl⟩
  · subst ez
    simp [List.getElem?_set_self l4, List.getElem?_set_ne (show 4 ≠ 0 by decide), e0]
    have := hK g (.refl _)
    simpa using this
theorem lk_0_a : List.lookup ("Refused" : Str) [(("TrothError" : Str), true), ("Refused", true), ("InvalidArgument", true), ("PowerOff", true), ("HouseClosed", true), ("MissingPage", true), ("NoTransaction", true), ("TransactionOpen", true), ("StillWaiting", true)] = some true := by decide +kernel
theorem lk_0_0 : List.lookup ("Refused" : Str) [(("TrothError" : Str), false), ("Refused", true), ("InvalidArgument", false), ("PowerOff", false), ("HouseClosed", false), ("MissingPage", false), ("NoTransaction", false), ("TransactionOpen", false), ("StillWaiting", false)] = some true := by decide +kernel
theorem lk_0_1 : List.lookup ("Refused" : Str) [(("TrothError" : Str), false), ("Refused", false), ("InvalidArgument", true), ("PowerOff", false), ("HouseClosed", false), ("MissingPage", false), ("NoTransaction", false), ("TransactionOpen", false), ("StillWaiting", false)] = some false := by decide +kernel
theorem lk_0_2 : List.lookup ("Refused" : Str) [(("TrothError" : Str), false), ("Refused", false), ("InvalidArgument", false), ("PowerOff", true), ("HouseClosed", false), ("MissingPage", false), ("NoTransaction", false), ("TransactionOpen", false), ("StillWaiting", false)] = some false := by decide +kernel
theorem lk_0_3 : List.lookup ("Refused" : Str) [(("TrothError" : Str), false), ("Refused", false), ("InvalidArgument", false), ("PowerOff", false), ("HouseClosed", true), ("MissingPage", false), ("NoTransaction", false), ("TransactionOpen", false), ("StillWaiting", false)] = some false := by decide +kernel
theorem lk_0_4 : List.lookup ("Refused" : Str) [(("TrothError" : Str), false), ("Refused", false), ("InvalidArgument", false), ("PowerOff", false), ("HouseClosed", false), ("MissingPage", true), ("NoTransaction", false), ("TransactionOpen", false), ("StillWaiting", false)] = some false := by decide +kernel
theorem lk_0_5 : List.lookup ("Refused" : Str) [(("TrothError" : Str), false), ("Refused", false), ("InvalidArgument", false), ("PowerOff", false), ("HouseClosed", false), ("MissingPage", false), ("NoTransaction", true), ("TransactionOpen", false), ("StillWaiting", false)] = some false := by decide +kernel
theorem lk_0_6 : List.lookup ("Refused" : Str) [(("TrothError" : Str), false), ("Refused", false), ("InvalidArgument", false), ("PowerOff", false), ("HouseClosed", false), ("MissingPage", false), ("NoTransaction", false), ("TransactionOpen", true), ("StillWaiting", false)] = some false := by decide +kernel
theorem lk_0_7 : List.lookup ("Refused" : Str) [(("TrothError" : Str), false), ("Refused", false), ("InvalidArgument", false), ("PowerOff", false), ("HouseClosed", false), ("MissingPage", false), ("NoTransaction", false), ("TransactionOpen", false), ("StillWaiting", true)] = some false := by decide +kernel
theorem lk_1_a : List.lookup ("InvalidArgument" : Str) [(("TrothError" : Str), true), ("Refused", true), ("InvalidArgument", true), ("PowerOff", true), ("HouseClosed", true), ("MissingPage", true), ("NoTransaction", true), ("TransactionOpen", true), ("StillWaiting", true)] = some true := by decide +kernel
theorem lk_1_0 : List.lookup ("InvalidArgument" : Str) [(("TrothError" : Str), false), ("Refused", true), ("InvalidArgument", false), ("PowerOff", false), ("HouseClosed", false), ("MissingPage", false), ("NoTransaction", false), ("TransactionOpen", false), ("StillWaiting", false)] = some false := by decide +kernel
theorem lk_1_1 : List.lookup ("InvalidArgument" : Str) [(("TrothError" : Str), false), ("Refused", false), ("InvalidArgument", true), ("PowerOff", false), ("HouseClosed", false), ("MissingPage", false), ("NoTransaction", false), ("TransactionOpen", false), ("StillWaiting", false)] = some true := by decide +kernel
theorem lk_1_2 : List.lookup ("InvalidArgument" : Str) [(("TrothError" : Str), false), ("Refused", false), ("InvalidArgument", false), ("PowerOff", true), ("HouseClosed", false), ("MissingPage", false), ("NoTransaction", false), ("TransactionOpen", false), ("StillWaiting", false)] = some false := by decide +kernel
theorem lk_1_3 : List.lookup ("InvalidArgument" : Str) [(("TrothError" : Str), false), ("Refused", false), ("InvalidArgument", false), ("PowerOff", false), ("HouseClosed", true), ("MissingPage", false), ("NoTransaction", false), ("TransactionOpen", false), ("StillWaiting", false)] = some false := by decide +kernel
theorem lk_1_4 : List.lookup ("InvalidArgument" : Str) [(("TrothError" : Str), false), ("Refused", false), ("InvalidArgument", false), ("PowerOff", false), ("HouseClosed", false), ("MissingPage", true), ("NoTransaction", false), ("TransactionOpen", false), ("StillWaiting", false)] = some false := by decide +kernel
theorem lk_1_5 : List.lookup ("InvalidArgument" : Str) [(("TrothError" : Str), false), ("Refused", false), ("InvalidArgument", false), ("PowerOff", false), ("HouseClosed", false), ("MissingPage", false), ("NoTransaction", true), ("TransactionOpen", false), ("StillWaiting", false)] = some false := by decide +kernel
theorem lk_1_6 : List.lookup ("InvalidArgument" : Str) [(("TrothError" : Str), false), ("Refused", false), ("InvalidArgument", false), ("PowerOff", false), ("HouseClosed", false), ("MissingPage", false), ("NoTransaction", false), ("TransactionOpen", true), ("StillWaiting", false)] = some false := by decide +kernel
theorem lk_1_7 : List.lookup ("InvalidArgument" : Str) [(("TrothError" : Str), false), ("Refused", false), ("InvalidArgument", false), ("PowerOff", false), ("HouseClosed", false), ("MissingPage", false), ("NoTransaction", false), ("TransactionOpen", false), ("StillWaiting", true)] = some false := by decide +kernel
theorem lk_2_a : List.lookup ("PowerOff" : Str) [(("TrothError" : Str), true), ("Refused", true), ("InvalidArgument", true), ("PowerOff", true), ("HouseClosed", true), ("MissingPage", true), ("NoTransaction", true), ("TransactionOpen", true), ("StillWaiting", true)] = some true := by decide +kernel
theorem lk_2_0 : List.lookup ("PowerOff" : Str) [(("TrothError" : Str), false), ("Refused", true), ("InvalidArgument", false), ("PowerOff", false), ("HouseClosed", false), ("MissingPage", false), ("NoTransaction", false), ("TransactionOpen", false), ("StillWaiting", false)] = some false := by decide +kernel
theorem lk_2_1 : List.lookup ("PowerOff" : Str) [(("TrothError" : Str), false), ("Refused", false), ("InvalidArgument", true), ("PowerOff", false), ("HouseClosed", false), ("MissingPage", false), ("NoTransaction", false), ("TransactionOpen", false), ("StillWaiting", false)] = some false := by decide +kernel
theorem lk_2_2 : List.lookup ("PowerOff" : Str) [(("TrothError" : Str), false), ("Refused", false), ("InvalidArgument", false), ("PowerOff", true), ("HouseClosed", false), ("MissingPage", false), ("NoTransaction", false), ("TransactionOpen", false), ("StillWaiting", false)] = some true := by decide +kernel
theorem lk_2_3 : List.lookup ("PowerOff" : Str) [(("TrothError" : Str), false), ("Refused", false), ("InvalidArgument", false), ("PowerOff", false), ("HouseClosed", true), ("MissingPage", false), ("NoTransaction", false), ("TransactionOpen", false), ("StillWaiting", false)] = some false := by decide +kernel
theorem lk_2_4 : List.lookup ("PowerOff" : Str) [(("TrothError" : Str), false), ("Refused", false), ("InvalidArgument", false), ("PowerOff", false), ("HouseClosed", false), ("MissingPage", true), ("NoTransaction", false), ("TransactionOpen", false), ("StillWaiting", false)] = some false := by decide +kernel
theorem lk_2_5 : List.lookup ("PowerOff" : Str) [(("TrothError" : Str), false), ("Refused", false), ("InvalidArgument", false), ("PowerOff", false), ("HouseClosed", false), ("MissingPage", false), ("NoTransaction", true), ("TransactionOpen", false), ("StillWaiting", false)] = some false := by decide +kernel
theorem lk_2_6 : List.lookup ("PowerOff" : Str) [(("TrothError" : Str), false), ("Refused", false), ("InvalidArgument", false), ("PowerOff", false), ("HouseClosed", false), ("MissingPage", false), ("NoTransaction", false), ("TransactionOpen", true), ("StillWaiting", false)] = some false := by decide +kernel
theorem lk_2_7 : List.lookup ("PowerOff" : Str) [(("TrothError" : Str), false), ("Refused", false), ("InvalidArgument", false), ("PowerOff", false), ("HouseClosed", false), ("MissingPage", false), ("NoTransaction", false), ("TransactionOpen", false), ("StillWaiting", true)] = some false := by decide +kernel
theorem lk_3_a : List.lookup ("HouseClosed" : Str) [(("TrothError" : Str), true), ("Refused", true), ("InvalidArgument", true), ("PowerOff", true), ("HouseClosed", true), ("MissingPage", true), ("NoTransaction", true), ("TransactionOpen", true), ("StillWaiting", true)] = some true := by decide +kernel
theorem lk_3_0 : List.lookup ("HouseClosed" : Str) [(("TrothError" : Str), false), ("Refused", true), ("InvalidArgument", false), ("PowerOff", false), ("HouseClosed", false), ("MissingPage", false), ("NoTransaction", false), ("TransactionOpen", false), ("StillWaiting", false)] = some false := by decide +kernel
theorem lk_3_1 : List.lookup ("HouseClosed" : Str) [(("TrothError" : Str), false), ("Refused", false), ("InvalidArgument", true), ("PowerOff", false), ("HouseClosed", false), ("MissingPage", false), ("NoTransaction", false), ("TransactionOpen", false), ("StillWaiting", false)] = some false := by decide +kernel
theorem lk_3_2 : List.lookup ("HouseClosed" : Str) [(("TrothError" : Str), false), ("Refused", false), ("InvalidArgument", false), ("PowerOff", true), ("HouseClosed", false), ("MissingPage", false), ("NoTransaction", false), ("TransactionOpen", false), ("StillWaiting", false)] = some false := by decide +kernel
theorem lk_3_3 : List.lookup ("HouseClosed" : Str) [(("TrothError" : Str), false), ("Refused", false), ("InvalidArgument", false), ("PowerOff", false), ("HouseClosed", true), ("MissingPage", false), ("NoTransaction", false), ("TransactionOpen", false), ("StillWaiting", false)] = some true := by decide +kernel
theorem lk_3_4 : List.lookup ("HouseClosed" : Str) [(("TrothError" : Str), false), ("Refused", false), ("InvalidArgument", false), ("PowerOff", false), ("HouseClosed", false), ("MissingPage", true), ("NoTransaction", false), ("TransactionOpen", false), ("StillWaiting", false)] = some false := by decide +kernel
theorem lk_3_5 : List.lookup ("HouseClosed" : Str) [(("TrothError" : Str), false), ("Refused", false), ("InvalidArgument", false), ("PowerOff", false), ("HouseClosed", false), ("MissingPage", false), ("NoTransaction", true), ("TransactionOpen", false), ("StillWaiting", false)] = some false := by decide +kernel
theorem lk_3_6 : List.lookup ("HouseClosed" : Str) [(("TrothError" : Str), false), ("Refused", false), ("InvalidArgument", false), ("PowerOff", false), ("HouseClosed", false), ("MissingPage", false), ("NoTransaction", false), ("TransactionOpen", true), ("StillWaiting", false)] = some false := by decide +kernel
theorem lk_3_7 : List.lookup ("HouseClosed" : Str) [(("TrothError" : Str), false), ("Refused", false), ("InvalidArgument", false), ("PowerOff", false), ("HouseClosed", false), ("MissingPage", false), ("NoTransaction", false), ("TransactionOpen", false), ("StillWaiting", true)] = some false := by decide +kernel
theorem lk_4_a : List.lookup ("MissingPage" : Str) [(("TrothError" : Str), true), ("Refused", true), ("InvalidArgument", true), ("PowerOff", true), ("HouseClosed", true), ("MissingPage", true), ("NoTransaction", true), ("TransactionOpen", true), ("StillWaiting", true)] = some true := by decide +kernel
theorem lk_4_0 : List.lookup ("MissingPage" : Str) [(("TrothError" : Str), false), ("Refused", true), ("InvalidArgument", false), ("PowerOff", false), ("HouseClosed", false), ("MissingPage", false), ("NoTransaction", false), ("TransactionOpen", false), ("StillWaiting", false)] = some false := by decide +kernel
theorem lk_4_1 : List.lookup ("MissingPage" : Str) [(("TrothError" : Str), false), ("Refused", false), ("InvalidArgument", true), ("PowerOff", false), ("HouseClosed", false), ("MissingPage", false), ("NoTransaction", false), ("TransactionOpen", false), ("StillWaiting", false)] = some false := by decide +kernel
theorem lk_4_2 : List.lookup ("MissingPage" : Str) [(("TrothError" : Str), false), ("Refused", false), ("InvalidArgument", false), ("PowerOff", true), ("HouseClosed", false), ("MissingPage", false), ("NoTransaction", false), ("TransactionOpen", false), ("StillWaiting", false)] = some false := by decide +kernel
theorem lk_4_3 : List.lookup ("MissingPage" : Str) [(("TrothError" : Str), false), ("Refused", false), ("InvalidArgument", false), ("PowerOff", false), ("HouseClosed", true), ("MissingPage", false), ("NoTransaction", false), ("TransactionOpen", false), ("StillWaiting", false)] = some false := by decide +kernel
theorem lk_4_4 : List.lookup ("MissingPage" : Str) [(("TrothError" : Str), false), ("Refused", false), ("InvalidArgument", false), ("PowerOff", false), ("HouseClosed", false), ("MissingPage", true), ("NoTransaction", false), ("TransactionOpen", false), ("StillWaiting", false)] = some true := by decide +kernel
theorem lk_4_5 : List.lookup ("MissingPage" : Str) [(("TrothError" : Str), false), ("Refused", false), ("InvalidArgument", false), ("PowerOff", false), ("HouseClosed", false), ("MissingPage", false), ("NoTransaction", true), ("TransactionOpen", false), ("StillWaiting", false)] = some false := by decide +kernel
theorem lk_4_6 : List.lookup ("MissingPage" : Str) [(("TrothError" : Str), false), ("Refused", false), ("InvalidArgument", false), ("PowerOff", false), ("HouseClosed", false), ("MissingPage", false), ("NoTransaction", false), ("TransactionOpen", true), ("StillWaiting", false)] = some false := by decide +kernel
theorem lk_4_7 : List.lookup ("MissingPage" : Str) [(("TrothError" : Str), false), ("Refused", false), ("InvalidArgument", false), ("PowerOff", false), ("HouseClosed", false), ("MissingPage", false), ("NoTransaction", false), ("TransactionOpen", false), ("StillWaiting", true)] = some false := by decide +kernel
theorem lk_5_a : List.lookup ("NoTransaction" : Str) [(("TrothError" : Str), true), ("Refused", true), ("InvalidArgument", true), ("PowerOff", true), ("HouseClosed", true), ("MissingPage", true), ("NoTransaction", true), ("TransactionOpen", true), ("StillWaiting", true)] = some true := by decide +kernel
theorem lk_5_0 : List.lookup ("NoTransaction" : Str) [(("TrothError" : Str), false), ("Refused", true), ("InvalidArgument", false), ("PowerOff", false), ("HouseClosed", false), ("MissingPage", false), ("NoTransaction", false), ("TransactionOpen", false), ("StillWaiting", false)] = some false := by decide +kernel
theorem lk_5_1 : List.lookup ("NoTransaction" : Str) [(("TrothError" : Str), false), ("Refused", false), ("InvalidArgument", true), ("PowerOff", false), ("HouseClosed", false), ("MissingPage", false), ("NoTransaction", false), ("TransactionOpen", false), ("StillWaiting", false)] = some false := by decide +kernel
theorem lk_5_2 : List.lookup ("NoTransaction" : Str) [(("TrothError" : Str), false), ("Refused", false), ("InvalidArgument", false), ("PowerOff", true), ("HouseClosed", false), ("MissingPage", false), ("NoTransaction", false), ("TransactionOpen", false), ("StillWaiting", false)] = some false := by decide +kernel
theorem lk_5_3 : List.lookup ("NoTransaction" : Str) [(("TrothError" : Str), false), ("Refused", false), ("InvalidArgument", false), ("PowerOff", false), ("HouseClosed", true), ("MissingPage", false), ("NoTransaction", false), ("TransactionOpen", false), ("StillWaiting", false)] = some false := by decide +kernel
theorem lk_5_4 : List.lookup ("NoTransaction" : Str) [(("TrothError" : Str), false), ("Refused", false), ("InvalidArgument", false), ("PowerOff", false), ("HouseClosed", false), ("MissingPage", true), ("NoTransaction", false), ("TransactionOpen", false), ("StillWaiting", false)] = some false := by decide +kernel
theorem lk_5_5 : List.lookup ("NoTransaction" : Str) [(("TrothError" : Str), false), ("Refused", false), ("InvalidArgument", false), ("PowerOff", false), ("HouseClosed", false), ("MissingPage", false), ("NoTransaction", true), ("TransactionOpen", false), ("StillWaiting", false)] = some true := by decide +kernel
theorem lk_5_6 : List.lookup ("NoTransaction" : Str) [(("TrothError" : Str), false), ("Refused", false), ("InvalidArgument", false), ("PowerOff", false), ("HouseClosed", false), ("MissingPage", false), ("NoTransaction", false), ("TransactionOpen", true), ("StillWaiting", false)] = some false := by decide +kernel
theorem lk_5_7 : List.lookup ("NoTransaction" : Str) [(("TrothError" : Str), false), ("Refused", false), ("InvalidArgument", false), ("PowerOff", false), ("HouseClosed", false), ("MissingPage", false), ("NoTransaction", false), ("TransactionOpen", false), ("StillWaiting", true)] = some false := by decide +kernel
theorem lk_6_a : List.lookup ("TransactionOpen" : Str) [(("TrothError" : Str), true), ("Refused", true), ("InvalidArgument", true), ("PowerOff", true), ("HouseClosed", true), ("MissingPage", true), ("NoTransaction", true), ("TransactionOpen", true), ("StillWaiting", true)] = some true := by decide +kernel
theorem lk_6_0 : List.lookup ("TransactionOpen" : Str) [(("TrothError" : Str), false), ("Refused", true), ("InvalidArgument", false), ("PowerOff", false), ("HouseClosed", false), ("MissingPage", false), ("NoTransaction", false), ("TransactionOpen", false), ("StillWaiting", false)] = some false := by decide +kernel
theorem lk_6_1 : List.lookup ("TransactionOpen" : Str) [(("TrothError" : Str), false), ("Refused", false), ("InvalidArgument", true), ("PowerOff", false), ("HouseClosed", false), ("MissingPage", false), ("NoTransaction", false), ("TransactionOpen", false), ("StillWaiting", false)] = some false := by decide +kernel
theorem lk_6_2 : List.lookup ("TransactionOpen" : Str) [(("TrothError" : Str), false), ("Refused", false), ("InvalidArgument", false), ("PowerOff", true), ("HouseClosed", false), ("MissingPage", false), ("NoTransaction", false), ("TransactionOpen", false), ("StillWaiting", false)] = some false := by decide +kernel
theorem lk_6_3 : List.lookup ("TransactionOpen" : Str) [(("TrothError" : Str), false), ("Refused", false), ("InvalidArgument", false), ("PowerOff", false), ("HouseClosed", true), ("MissingPage", false), ("NoTransaction", false), ("TransactionOpen", false), ("StillWaiting", false)] = some false := by decide +kernel
theorem lk_6_4 : List.lookup ("TransactionOpen" : Str) [(("TrothError" : Str), false), ("Refused", false), ("InvalidArgument", false), ("PowerOff", false), ("HouseClosed", false), ("MissingPage", true), ("NoTransaction", false), ("TransactionOpen", false), ("StillWaiting", false)] = some false := by decide +kernel
theorem lk_6_5 : List.lookup ("TransactionOpen" : Str) [(("TrothError" : Str), false), ("Refused", false), ("InvalidArgument", false), ("PowerOff", false), ("HouseClosed", false), ("MissingPage", false), ("NoTransaction", true), ("TransactionOpen", false), ("StillWaiting", false)] = some false := by decide +kernel
theorem lk_6_6 : List.lookup ("TransactionOpen" : Str) [(("TrothError" : Str), false), ("Refused", false), ("InvalidArgument", false), ("PowerOff", false), ("HouseClosed", false), ("MissingPage", false), ("NoTransaction", false), ("TransactionOpen", true), ("StillWaiting", false)] = some true := by decide +kernel
theorem lk_6_7 : List.lookup ("TransactionOpen" : Str) [(("TrothError" : Str), false), ("Refused", false), ("InvalidArgument", false), ("PowerOff", false), ("HouseClosed", false), ("MissingPage", false), ("NoTransaction", false), ("TransactionOpen", false), ("StillWaiting", true)] = some false := by decide +kernel
theorem lk_7_a : List.lookup ("StillWaiting" : Str) [(("TrothError" : Str), true), ("Refused", true), ("InvalidArgument", true), ("PowerOff", true), ("HouseClosed", true), ("MissingPage", true), ("NoTransaction", true), ("TransactionOpen", true), ("StillWaiting", true)] = some true := by decide +kernel
theorem lk_7_0 : List.lookup ("StillWaiting" : Str) [(("TrothError" : Str), false), ("Refused", true), ("InvalidArgument", false), ("PowerOff", false), ("HouseClosed", false), ("MissingPage", false), ("NoTransaction", false), ("TransactionOpen", false), ("StillWaiting", false)] = some false := by decide +kernel
theorem lk_7_1 : List.lookup ("StillWaiting" : Str) [(("TrothError" : Str), false), ("Refused", false), ("InvalidArgument", true), ("PowerOff", false), ("HouseClosed", false), ("MissingPage", false), ("NoTransaction", false), ("TransactionOpen", false), ("StillWaiting", false)] = some false := by decide +kernel
theorem lk_7_2 : List.lookup ("StillWaiting" : Str) [(("TrothError" : Str), false), ("Refused", false), ("InvalidArgument", false), ("PowerOff", true), ("HouseClosed", false), ("MissingPage", false), ("NoTransaction", false), ("TransactionOpen", false), ("StillWaiting", false)] = some false := by decide +kernel
theorem lk_7_3 : List.lookup ("StillWaiting" : Str) [(("TrothError" : Str), false), ("Refused", false), ("InvalidArgument", false), ("PowerOff", false), ("HouseClosed", true), ("MissingPage", false), ("NoTransaction", false), ("TransactionOpen", false), ("StillWaiting", false)] = some false := by decide +kernel
theorem lk_7_4 : List.lookup ("StillWaiting" : Str) [(("TrothError" : Str), false), ("Refused", false), ("InvalidArgument", false), ("PowerOff", false), ("HouseClosed", false), ("MissingPage", true), ("NoTransaction", false), ("TransactionOpen", false), ("StillWaiting", false)] = some false := by decide +kernel
theorem lk_7_5 : List.lookup ("StillWaiting" : Str) [(("TrothError" : Str), false), ("Refused", false), ("InvalidArgument", false), ("PowerOff", false), ("HouseClosed", false), ("MissingPage", false), ("NoTransaction", true), ("TransactionOpen", false), ("StillWaiting", false)] = some false := by decide +kernel
theorem lk_7_6 : List.lookup ("StillWaiting" : Str) [(("TrothError" : Str), false), ("Refused", false), ("InvalidArgument", false), ("PowerOff", false), ("HouseClosed", false), ("MissingPage", false), ("NoTransaction", false), ("TransactionOpen", true), ("StillWaiting", false)] = some false := by decide +kernel
theorem lk_7_7 : List.lookup ("StillWaiting" : Str) [(("TrothError" : Str), false), ("Refused", false), ("InvalidArgument", false), ("PowerOff", false), ("HouseClosed", false), ("MissingPage", false), ("NoTransaction", false), ("TransactionOpen", false), ("StillWaiting", true)] = some true := by decide +kernel
def cn : Nat → Str
  | 0 => "Refused"
  | 1 => "InvalidArgument"
  | 2 => "PowerOff"
  | 3 => "HouseClosed"
  | 4 => "MissingPage"
  | 5 => "NoTransaction"
  | 6 => "TransactionOpen"
  | _ => "StillWaiting"
theorem isK_0 : isK 0 = [Z.bl true, Z.bl false, Z.bl false, Z.bl false, Z.bl false, Z.bl false, Z.bl false, Z.bl false] := by simp [isK, rngZ]; decide
theorem isK_1 : isK 1 = [Z.bl false, Z.bl true, Z.bl false, Z.bl false, Z.bl false, Z.bl false, Z.bl false, Z.bl false] := by simp [isK, rngZ]; decide
theorem isK_2 : isK 2 = [Z.bl false, Z.bl false, Z.bl true, Z.bl false, Z.bl false, Z.bl false, Z.bl false, Z.bl false] := by simp [isK, rngZ]; decide
theorem isK_3 : isK 3 = [Z.bl false, Z.bl false, Z.bl false, Z.bl true, Z.bl false, Z.bl false, Z.bl false, Z.bl false] := by simp [isK, rngZ]; decide
theorem isK_4 : isK 4 = [Z.bl false, Z.bl false, Z.bl false, Z.bl false, Z.bl true, Z.bl false, Z.bl false, Z.bl false] := by simp [isK, rngZ]; decide
theorem isK_5 : isK 5 = [Z.bl false, Z.bl false, Z.bl false, Z.bl false, Z.bl false, Z.bl true, Z.bl false, Z.bl false] := by simp [isK, rngZ]; decide
theorem isK_6 : isK 6 = [Z.bl false, Z.bl false, Z.bl false, Z.bl false, Z.bl false, Z.bl false, Z.bl true, Z.bl false] := by simp [isK, rngZ]; decide
theorem isK_7 : isK 7 = [Z.bl false, Z.bl false, Z.bl false, Z.bl false, Z.bl false, Z.bl false, Z.bl false, Z.bl true] := by simp [isK, rngZ]; decide
theorem classes_ok {k : Nat} (hk : k < 8) {a : Addr} {d : Option Addr} {fs : List (Str × Z)} {h : ZH} (hx : XdAt d h) {P : PZ} {E : XZ → ZH → Prop} (q : ∀ h' n, Pre h h' → h'[n]? = some (.lst (isK k)) → P (.ref n) h') : f__law_classes a d ⟨cn k, fs⟩ [.err a] h P E := by
  unfold f__law_classes wfOf w__law_classes
  have bl := big_line
  have hx2 : ∀ g, XdAt d (h ++ g) := fun g dd e => by obtain ⟨n, fs, en⟩ := hx dd e; exact ⟨n, fs, get_app en⟩
  have hk8 : k = 0 ∨ k = 1 ∨ k = 2 ∨ k = 3 ∨ k = 4 ∨ k = 5 ∨ k = 6 ∨ k = 7 := by omega
  rcases hk8 with rfl | rfl | rfl | rfl | rfl | rfl | rfl | rfl
  · simp [cn, hx, hx2, lk_0_a, lk_0_0, lk_0_1, lk_0_2, lk_0_3, lk_0_4, lk_0_5, lk_0_6, lk_0_7]
    refine ⟨by omega, by omega, by omega, by omega, q _ _ (.app _ _) ?_⟩
    rw [List.getElem?_append_right (by omega), isK_0]
    simp
  · simp [cn, hx, hx2, lk_1_a, lk_1_0, lk_1_1, lk_1_2, lk_1_3, lk_1_4, lk_1_5, lk_1_6, lk_1_7]
    refine ⟨by omega, by omega, by omega, by omega, q _ _ (.app _ _) ?_⟩
    rw [List.getElem?_append_right (by omega), isK_1]
    simp
  · simp [cn, hx, hx2, lk_2_a, lk_2_0, lk_2_1, lk_2_2, lk_2_3, lk_2_4, lk_2_5, lk_2_6, lk_2_7]
    refine ⟨by omega, by omega, by omega, by omega, q _ _ (.app _ _) ?_⟩
    rw [List.getElem?_append_right (by omega), isK_2]
    simp
  · simp [cn, hx, hx2, lk_3_a, lk_3_0, lk_3_1, lk_3_2, lk_3_3, lk_3_4, lk_3_5, lk_3_6, lk_3_7]
    refine ⟨by omega, by omega, by omega, by omega, q _ _ (.app _ _) ?_⟩
    rw [List.getElem?_append_right (by omega), isK_3]
    simp
  · simp [cn, hx, hx2, lk_4_a, lk_4_0, lk_4_1, lk_4_2, lk_4_3, lk_4_4, lk_4_5, lk_4_6, lk_4_7]
    refine ⟨by omega, by omega, by omega, by omega, q _ _ (.app _ _) ?_⟩
    rw [List.getElem?_append_right (by omega), isK_4]
    simp
  · simp [cn, hx, hx2, lk_5_a, lk_5_0, lk_5_1, lk_5_2, lk_5_3, lk_5_4, lk_5_5, lk_5_6, lk_5_7]
    refine ⟨by omega, by omega, by omega, by omega, q _ _ (.app _ _) ?_⟩
    rw [List.getElem?_append_right (by omega), isK_5]
    simp
  · simp [cn, hx, hx2, lk_6_a, lk_6_0, lk_6_1, lk_6_2, lk_6_3, lk_6_4, lk_6_5, lk_6_6, lk_6_7]
    refine ⟨by omega, by omega, by omega, by omega, q _ _ (.app _ _) ?_⟩
    rw [List.getElem?_append_right (by omega), isK_6]
    simp
  · simp [cn, hx, hx2, lk_7_a, lk_7_0, lk_7_1, lk_7_2, lk_7_3, lk_7_4, lk_7_5, lk_7_6, lk_7_7]
    refine ⟨by omega, by omega, by omega, by omega, q _ _ (.app _ _) ?_⟩
    rw [List.getElem?_append_right (by omega), isK_7]
    simp
theorem same_ok {k n : Nat} {h : ZH} (e : h[n]? = some (.lst (isK k))) {P : PZ} (q : P (.bl true) (h ++ [.lst (isK k)])) : oEq (.ref n) (.ref h.length) (h ++ [.lst (isK k)]) P := by
  have o : OkL (isK k) := fun z m => by
    obtain ⟨y, _, rfl⟩ := List.mem_map.mp m
    exact ⟨rfl, Nat.zero_le _⟩
  refine eq_lists (get_app e) (by simp) o o ?_
  obtain ⟨a, b⟩ := okL_all o
  obtain ⟨c, d⟩ := lays_of a
  rw [toDs_map] at c
  rw [SeqAt.eqvAll_refl _ c]
  exact q
theorem caught_ok {k : Nat} (hk : k < 8) {x : Str} {v : Z} (rv : Rv v) {h : ZH} {P : PZ} {E : XZ → ZH → Prop} (q : ∀ h', P (.bl true) h') : f__law_caught [.int (k : Nat), .str x, v] h P E := by
  unfold f__law_caught wfOf w__law_caught
  have bl := big_line
  have cl := fun {a : Addr} {d : Option Addr} {fs : List (Str × Z)} {h : ZH} (hx : XdAt d h) {P : PZ} {E : XZ → ZH → Prop} => classes_ok (k := k) hk (a := a) (fs := fs) hx (P := P) (E := E)
  simp
  unfold f__law_raise wfOf w__law_raise
  have hk8 : k = 0 ∨ k = 1 ∨ k = 2 ∨ k = 3 ∨ k = 4 ∨ k = 5 ∨ k = 6 ∨ k = 7 := by omega
  rcases hk8 with rfl | rfl | rfl | rfl | rfl | rfl | rfl | rfl
  · simp [lk_0_a, -oRepr_1]
    intro a dd
    refine ⟨h.length, [("problem", v)], by simp, v, by simp, ?_⟩
    refine repr_ok rv ?_
    simp [-oRepr_1]
    refine repr_ok rv ?_
    have xd : XdAt (some dd) (h ++ [ZO.exd dd [("problem", v)]]) := fun d2 e => by cases e; exact ⟨h.length, [("problem", v)], by simp⟩
    simp [lk_0_a, xd]
    refine cl xd fun h' n p e => ?_
    simp
    exact ⟨⟨by omega, by omega⟩, isk_ok (k := 0) rfl (by show 4 < 5; decide) fun h2 p2 => same_ok (p2.get e) (q _)⟩
  · simp [lk_1_a, asD]
    intro a
    refine cl (fun d2 e => by cases e) fun h' n p e => ?_
    simp
    exact ⟨⟨by omega, by omega⟩, isk_ok (k := 1) rfl (by show 4 < 5; decide) fun h2 p2 => same_ok (p2.get e) (q _)⟩
  · simp [lk_2_a, asD]
    intro a
    refine cl (fun d2 e => by cases e) fun h' n p e => ?_
    simp
    exact ⟨⟨by omega, by omega⟩, isk_ok (k := 2) rfl (by show 4 < 5; decide) fun h2 p2 => same_ok (p2.get e) (q _)⟩
  · simp [lk_3_a, asD]
    intro a
    refine cl (fun d2 e => by cases e) fun h' n p e => ?_
    simp
    exact ⟨⟨by omega, by omega⟩, isk_ok (k := 3) rfl (by show 4 < 5; decide) fun h2 p2 => same_ok (p2.get e) (q _)⟩
  · simp [lk_4_a, asD]
    intro a
    refine cl (fun d2 e => by cases e) fun h' n p e => ?_
    simp
    exact ⟨⟨by omega, by omega⟩, isk_ok (k := 4) rfl (by show 4 < 5; decide) fun h2 p2 => same_ok (p2.get e) (q _)⟩
  · simp [lk_5_a, asD]
    intro a
    refine cl (fun d2 e => by cases e) fun h' n p e => ?_
    simp
    exact ⟨⟨by omega, by omega⟩, isk_ok (k := 5) rfl (by show 4 < 5; decide) fun h2 p2 => same_ok (p2.get e) (q _)⟩
  · simp [lk_6_a, asD]
    intro a
    refine cl (fun d2 e => by cases e) fun h' n p e => ?_
    simp
    exact ⟨⟨by omega, by omega⟩, isk_ok (k := 6) rfl (by show 4 < 5; decide) fun h2 p2 => same_ok (p2.get e) (q _)⟩
  · simp [lk_7_a, asD]
    intro a
    refine cl (fun d2 e => by cases e) fun h' n p e => ?_
    simp
    exact ⟨⟨by omega, by omega⟩, isk_ok (k := 7) rfl (by show 4 < 5; decide) fun h2 p2 => same_ok (p2.get e) (q _)⟩
theorem law_ok : LawOk f_law := by
  intro ns hn
  unfold f_law wfOf w_law
  have bl := big_line
  simp
  refine ⟨⟨by omega, by omega⟩, ?_⟩
  refine forZ_ind (fun zs env h' => ∃ (i k : Nat) (o1 o2 : Option Z), zs = rngZ (i : Nat) k ∧ i + k = 8 ∧ env = [some (.scr ns), o1, o2]) ?_ ?_ _ _ _ ⟨0, 8, none, none, rfl, rfl, rfl⟩
  · rintro env h' ⟨i, k, o1, o2, e, ik, rfl⟩
    refine ⟨trivial, ?_⟩
    simp
  · rintro z zs env h' N hN ⟨i, k, o1, o2, e, ik, rfl⟩
    cases k with
    | zero => cases e
    | succ k =>
      rw [rng_cons] at e
      obtain ⟨rfl, rfl⟩ := List.cons.inj e
      refine ⟨trivial, ?_⟩
      simp
      show fDraw _ _ _ _
      refine fDraw_ok hn (by omega) ?_
      have d0 := draw_nonneg ns i
      generalize draw ns i = dn at *
      simp
      refine text_ok d0 fun x => ?_
      simp
      refine problem_ok d0 fun h2 v w => ?_
      simp
      refine caught_ok (by omega) (w.rv (by omega) (by omega)) fun h3 => ?_
      simp
      exact hN _ _ ⟨i + 1, k, _, _, rfl, by omega, rfl⟩
end K29

namespace K29
open PySem PySem.Spec PyProof.Rows L2 ZL
abbrev R : PySem.W.OpenRow := PySem.W.OpenLaw.row PySem.Challenge.rw_trothbase_k29_errors
abbrev hk : PySem.W.Hook := hookZ 4 fa fb fn
def ob (s : PySem.W.SharedT) : ObT := obsZ 4 fa fb fn (HandSHeadRun.getT s)
theorem ob_eq (s : PySem.W.SharedT) : ob s = hk.obs s.abs := obsZ_eq (HandSHeadRun.getT_eq s)
def names : List PySem.Str := (["TrothError", "Refused", "InvalidArgument", "PowerOff", "HouseClosed", "MissingPage", "NoTransaction", "TransactionOpen", "StillWaiting", "_law_draw", "_law_text", "_law_problem", "_law_classes", "_law_raise", "_law_caught"] : List PySem.Str)
theorem run (w : World) : HandSHeadRun.RunEq R (PySem.W.view R.prog [17]) hk ob 4000 names w := by
  intro os
  kernel_rfl
theorem law_fn {w : World} {K : PySem.W.Frag} {h : Heap} {mg : Str → Option Value} {f : Addr} (X : K.In h) (G : h.Ns mainGlobals mg) (hfa : mg ("law" : Str) = some (.ref f)) (c : SaysZ fa fb fn K) :
    ∃ fd : FuncData, (∀ (s : Shared) (v : Value), BindsTo s fd ⟨[v], []⟩ [("script", v)]) ∧ ∀ base : Heap, K.In base → base.Ns mainGlobals mg → FnG P w K mg base CX0 5 f fd ["script"] (spZ0 K mg 1 f_law) := by
  have T : Txt fa fb fn K mg := ⟨⟨h, X, G⟩, c⟩
  obtain ⟨fd, F⟩ := T.def_ 6 (d := d_law) rfl
  have e := hfa.symm.trans (T.glo 40)
  cases e
  have b := FunD.bindsA (ps := ["script"]) F fun _ _ _ _ _ _ us hl => match us, hl with | [_], _ => rfl
  exact ⟨fd, fun s v => b s [v] rfl, fun base _ _ => fn_ok0 (x := "law") F sc_law rfl (z_law T)⟩
end K29
open PySem PySem.W PySem.Calls PyProof.Rows
theorem PySem.Challenge.cw_trothbase_k29_errors_holds : PySem.Challenge.rw_trothbase_k29_errors.Holds := by
  w_on; o_law
  refine HandSHeadRun.head_any (r := OpenLaw.row PySem.Challenge.rw_trothbase_k29_errors) (q := view (OpenLaw.row PySem.Challenge.rw_trothbase_k29_errors).prog [17]) (H := K29.hk) (ob := K29.ob) (M := 4000) (loose := K29.names) (d := HandSHeadRun.topDef (OpenLaw.row PySem.Challenge.rw_trothbase_k29_errors).prog 17) (kwd := []) K29.ob_eq
    (by kernel_rfl) (fun s => by kernel_rfl) K29.run (by kernel_rfl) (by kernel_rfl) (by kernel_rfl) (by rfl) (by first | assumption | decide +kernel) (by decide +kernel) ⟨rfl, rfl, rfl, rfl, rfl, by decide +kernel⟩ ?hw ?hc
  case hw => w_witness2
  case hc =>
    refine ZL.walkG (l := PySem.Challenge.rw_trothbase_k29_errors) (k := 5) (x := "script") rfl (by kernel_rfl) ⟨rfl, by decide, by decide⟩ ?F
    intro w mg fa h Y G hmg0
    obtain ⟨K, KX, c⟩ := Y
    have hmg : mg ("law" : PySem.Str) = some (.ref fa) := by
      have e : (HandSHeadRun.topDef (OpenLaw.row PySem.Challenge.rw_trothbase_k29_errors).prog 17).name = ("law" : PySem.Str) := by kernel_rfl
      rw [← e]
      exact hmg0
    obtain ⟨fd, hb, hF⟩ := K29.law_fn (w := w) KX G hmg c
    exact ⟨K, fd, ZL.spZ0 K mg 1 K29.f_law, KX, hb, fun H a ns hl hO hS => ZL.law_sp K29.law_ok H a ns hl hO hS, hF⟩
