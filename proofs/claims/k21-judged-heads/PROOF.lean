import PyProof.Rows.All
import Wide.All
import OpenK.AllK
import Wide.FinOn
import HandS.TupAny
import HandS.Conv
import HandS.TupMul
import HandS.ForMost
import HandS.Exc
import HandS.ExcOwn
import KE.DataCmp
import HandS.Deep
import PyProof.StrOps2
import HandS.Style
import HandS.Flow
import HandS.Zip
import HandS.IsInst
import HandS.More
import HandS.TupLen
import HandS.WordsDict
import PyProof.FactsAll.bool_1
import HandS.Defaults
import HandS.HeadEnd
import HandS.HeadHook2
import HandS.Head0
import HandS.Head1
import HandS.Head2
import HandS.TryOnly
import HandS.ExcIs
import PyProof.ReprReads
import HandS.TupLe
import PyProof.EnumMake
import PyProof.Draws
import KE.GoesMore
import HandS.SortInts
import HandS.SetFor
import PyProof.ReprText
import PyProof.Rows.ReprOcc
import PySem.Challenge.RW_trothbase_k21_judged_heads
set_option Elab.async false
set_option linter.all false
set_option maxRecDepth 100000
set_option maxHeartbeats 0
/-! ### strong tuples: laid frozen, their object known to have no dict, but for those that kl calls key-like -/
namespace ZTS
open PySem PySem.Spec PyProof.Rows L2
def LaidT (kl : List V → Bool) (H : Hp) (p : Addr) (xs : List V) (H' : Hp) : Prop := if kl xs = true then H' = upd H p (.tup xs) else ∃ o : Obj, o.dict = none ∧ H' = upd H p (.frz o (.tup xs))
section
variable {X : Cx} {pins : List (Addr × Obj)} {σ : L2.St} {H : Hp} {s : Shared} {kl : List V → Bool}
theorem laid_inv (kl : List V → Bool) (I : Inv X pins σ H s) {g : Heap} {tk : Nat} {p : Addr} {xs : List V} {its : List Value} {n : Nat} (k : ∀ b o, s.heap.get? b = some o → g.get? b = some o) (hp : s.heap.objs.size ≤ p)
    (e : g.get? p = some { cls := .type "tuple", data := .seq its.toArray n }) (r : Vals xs its) (z : xs.length ≤ sizeLine) : ∃ H', LaidT kl H p xs H' ∧ Inv X pins σ H' { s with heap := g, toks := tk } := by
  unfold LaidT
  cases c : kl xs with
  | true => exact ⟨upd H p (.tup xs), by simp, I.laid (o := .tup xs) k hp ⟨z, its, r, ⟨_, e, rfl, _, rfl⟩⟩⟩
  | false =>
    refine ⟨upd H p (.frz { cls := .type "tuple", data := .seq its.toArray n } (.tup xs)), ?_, I.laid (o := .frz { cls := .type "tuple", data := .seq its.toArray n } (.tup xs)) k hp ⟨e, z, its, r, ⟨_, e, rfl, _, rfl⟩⟩⟩
    simp
    exact ⟨_, rfl, rfl⟩
/-- a display -/
def tTupS (kl : List V → Bool) (t : TA) : TE := fun σ H Q => t σ H fun xs H1 => xs.length ≤ sizeLine ∧ ∀ p H', H1 p = none → LaidT kl H1 p xs H' → Q (.ref p) H'
theorem pe_tupS {es : List Expr} {t : TA} {x1 : Nat} {pos : Pos} (h : PA X es t) : PE X (.Tuple es x1 pos) (tTupS kl t) := by
  refine ⟨fun pins s σ H Q I hq => wpAny_Tuple_spliced (thn (h.run pos pins s σ H _ I hq) fun us s1 ⟨xs, H1, I1, r, z, q⟩ => ⟨by rw [← r.length]; exact z, ?_⟩)⟩
  obtain ⟨H', l, J⟩ := laid_inv (tk := s1.toks) (p := s1.heap.objs.size) kl I1 (fun b u e => Heap.get?_push_of_some _ e) (Nat.le_refl _) (Heap.get?_push_size _ rfl) r z
  exact ⟨.ref s1.heap.objs.size, H', J, rfl, q _ H' (I1.hok.fresh (Nat.le_refl _)) l⟩
/-- t + u -/
def rCatS (kl : List V → Bool) (K : PySem.W.Frag) : R2 := fun x y H Q => ∃ a b xs ys, x = .ref a ∧ y = .ref b ∧ SqT K H a xs ∧ SqT K H b ys ∧ xs.length + ys.length ≤ sizeLine ∧
  (xs = [] → Q (.ref b) H) ∧ (xs ≠ [] → ys = [] → Q (.ref a) H) ∧ (xs ≠ [] → ys ≠ [] → ∀ p H', H p = none → LaidT kl H p (xs ++ ys) H' → Q (.ref p) H')
theorem op_catS : OpR X (binaryOp .Add) (rCatS kl X.K) := by
  intro pins s σ H x y v u Q I rx ry h
  obtain ⟨a, b, xs, ys, rfl, rfl, ha, hb, hz, q0, q1, q2⟩ := h
  cases rx; cases ry
  obtain ⟨its, r1, p1, _⟩ := I.tuple ha
  obtain ⟨jts, r2, p2, _⟩ := I.tuple hb
  by_cases hx : xs = []
  · subst hx
    cases r1
    exact cat_tup0 p1 p2 ⟨.ref b, H, I, rfl, q0 rfl⟩
  · refine HT.cat_tup p1 p2 (fun z => hx (r1.nil_iff.mp z)) (fun z => ⟨.ref a, H, I, rfl, q1 hx (r2.nil_iff.mp z)⟩) (fun z => ?_) (by rw [← r1.length, ← r2.length]; exact hz)
    obtain ⟨H', l, J⟩ := laid_inv (tk := s.toks) (p := s.heap.objs.size) kl I (fun b ob q => Heap.get?_push_of_some _ q) (Nat.le_refl _) (Heap.get?_push_size _ rfl) (r1.append r2) (by rw [List.length_append]; exact hz)
    exact ⟨.ref s.heap.objs.size, H', J, rfl, q2 hx (fun w => z (r2.nil_iff.mpr w)) _ H' (I.hok.fresh (Nat.le_refl _)) l⟩
/-- t[lo:hi] -/
def rSlS (kl : List V → Bool) (K : PySem.W.Frag) : V → Option Int → Option Int → Hp → VK → Prop := fun x lo hi H Q => ∃ a xs, x = .ref a ∧ SqT K H a xs ∧
  (HT.sIx xs.length 0 lo = 0 ∧ HT.sIx xs.length xs.length hi = xs.length → Q (.ref a) H) ∧ (¬ (HT.sIx xs.length 0 lo = 0 ∧ HT.sIx xs.length xs.length hi = xs.length) → ∀ p H', H p = none → LaidT kl H p (cutV xs lo hi) H' → Q (.ref p) H')
theorem sl_tupS : SlR X (rSlS kl X.K) := by
  intro pins s σ H x v vl vu lo hi sl Q I rx hs pl pu h
  obtain ⟨a, xs, rfl, hx, q1, q2⟩ := h
  cases rx
  obtain ⟨its, r, ht, hz⟩ := I.tuple hx
  have hn : its.toArray.size = xs.length := by rw [List.size_toArray]; exact r.length.symm
  refine ⟨"tuple", _, PyProof.Rows.slot_tuple_getitem.lookup, ht.typeIs, ?_⟩
  by_cases hw : HT.sIx xs.length 0 lo = 0 ∧ HT.sIx xs.length xs.length hi = xs.length
  · exact getItem_tuple_whole ht hs pl pu (by rw [hn]; exact hw) ⟨.ref a, H, I, rfl, q1 hw⟩
  · refine HT.getItem_tuple_cut ht hs pl pu (by rw [hn]; exact hw) ?_ (by rw [hn]; exact hz)
    rw [hn]
    obtain ⟨H', l, J⟩ := laid_inv (tk := s.toks) (p := s.heap.objs.size) kl I (fun b ob q => Heap.get?_push_of_some _ q) (Nat.le_refl _) (Heap.get?_push_size _ rfl) ((r.drop (HT.sIx xs.length 0 lo)).take (HT.sIx xs.length xs.length hi - HT.sIx xs.length 0 lo)) (Nat.le_trans (cutV_length xs lo hi) hz)
    exact ⟨.ref s.heap.objs.size, H', J, rfl, q2 hw _ H' (I.hok.fresh (Nat.le_refl _)) l⟩
/-- tuple(x) -/
theorem call_tupleS : CallR X (.type "tuple") (fun xs H Q => ∃ p ys, xs = [.ref p] ∧ ((SqL X.K H p ys ∧ ∀ l H', H l = none → LaidT kl H l ys H' → Q (.ref l) H') ∨ (SqT X.K H p ys ∧ Q (.ref p) H))) := by
  intro pins s σ H xs us Q I r h
  obtain ⟨p, ys, rfl, h⟩ := h
  obtain ⟨u, rfl, rx⟩ := vals1 r
  cases rx
  rcases h with ⟨hq, q⟩ | ⟨hq, q⟩
  · obtain ⟨its, rv, pl, hz⟩ := I.list hq
    have hn := rv.length
    refine call_tuple_list pl.isList (fun g kp => ?_) (by simp only [List.size_toArray] <;> omega)
    have I1 : Inv X pins σ H { s with heap := g } := I.kept (t' := s.toks) kp
    obtain ⟨H', l, J⟩ := laid_inv (tk := s.toks) (p := g.objs.size) kl I1 (fun b o e => Heap.get?_push_of_some _ e) (Nat.le_refl _) (Heap.get?_push_size _ rfl) rv hz
    exact ⟨.ref g.objs.size, H', J, rfl, q _ H' (I1.hok.fresh (Nat.le_refl _)) l⟩
  · obtain ⟨its, rv, pl, hz⟩ := I.tuple hq
    exact call_tuple_same pl ⟨.ref p, H, I, rfl, q⟩
end
end ZTS

namespace ZL
open PySem PySem.Spec PyProof.Rows L2
/-- which tuples may be keys of a dict (laid weak): of n parts, all texts or not. Chosen per law: this one for k20, k21 (trees: decide (1 ≤ n) && decide (n ≤ 4)) -/
def keyN (n : Nat) (texts : Bool) : Bool := texts && decide (n = 2)
/-- a part that may stand in a key -/
def leafK : V → Bool
  | .int _ => true
  | .str _ => true
  | _ => false
def textK : V → Bool
  | .str _ => true
  | _ => false
def keyV (vs : List V) : Bool := vs.all leafK && keyN vs.length (vs.all textK)
end ZL

namespace ZL
open PySem PySem.Spec PyProof.Rows L2

/-- values: tuples by value, the script's list by value, other objects by their own number -/
inductive Z where
  | non | bl (b : Bool) | int (i : Int) | str (x : Str) | tup (zs : List Z) | scr (ns : List Int) | ref (n : Nat) | err (a : Addr)
deriving Inhabited

/-- an object -/
inductive ZO where
  | lst (zs : List Z)
  | dict (kvs : List (Z × Z))
  | dictL (kvs : List (Z × Z))
  | ins (c : Str) (fs : List (Str × Z))
deriving Inhabited
abbrev ZH := List ZO
abbrev Env := List (Option Z)
/-- an exception: its class, its fields -/
structure XZ where
  cls : Str
  fs : List (Str × Z)

/-- a list of the module's own -/
def KSq (K : PySem.W.Frag) (a : Addr) (xs : List V) : Prop :=
  ∃ (o : Obj) (its : Array Value) (n : Nat), K.lookup a = some o ∧ o.cls = .type "list" ∧ o.dict = none ∧ o.data = .seq its n ∧ its.size ≤ sizeLine ∧ Vals xs its.toList

def sq2 (u : HO) : Prop := (∃ xs, u = .lst xs) ∨ ∃ xs, u = .tup xs
/-- a tuple, tracked: key-like ones weak, all others frozen, their object known to have no dict -/
def TupA (K : PySem.W.Frag) (H : Hp) (a : Addr) (xs : List V) : Prop := (keyV xs = true ∧ H a = some (.tup xs)) ∨ (keyV xs = false ∧ ∃ o : Obj, o.dict = none ∧ H a = some (.frz o (.tup xs)))
theorem TupA.sq {K : PySem.W.Frag} {H : Hp} {a : Addr} {xs : List V} (h : TupA K H a xs) : SqT K H a xs := by
  rcases h with ⟨_, h⟩ | ⟨_, o, _, h⟩
  · exact .inl (.inl h)
  · exact .inl (.inr ⟨o, h⟩)

theorem TupA.rd {K : PySem.W.Frag} {H : Hp} {a : Addr} {xs : List V} (h : TupA K H a xs) : Rd H a (.tup xs) := by
  rcases h with ⟨_, h⟩ | ⟨_, o, _, h⟩
  · exact .inl h
  · exact .inr ⟨o, h⟩

/-! ### what a value, an object stands for -/
mutual
def RepV (K : PySem.W.Frag) (μ : List Addr) (H : Hp) : Z → V → Prop
  | .non, v => v = .non
  | .bl b, v => v = .bl b
  | .int i, v => v = .int i
  | .str x, v => v = .str x
  | .tup zs, v => ∃ a vs, v = .ref a ∧ TupA K H a vs ∧ RepVs K μ H zs vs
  | .scr ns, v => ∃ a, v = .ref a ∧ ((∃ o, H a = some (.frz o (.lst (ns.map V.int)))) ∨ KSq K a (ns.map V.int))
  | .ref n, v => ∃ a, v = .ref a ∧ μ[n]? = some a
  | .err a, v => v = .ref a
def RepVs (K : PySem.W.Frag) (μ : List Addr) (H : Hp) : List Z → List V → Prop
  | [], vs => vs = []
  | z :: zs, vs => ∃ v r, vs = v :: r ∧ RepV K μ H z v ∧ RepVs K μ H zs r
end

/-- later states: more objects, the tuples and the script stay -/
structure Ext0 (μ : List Addr) (H : Hp) (μ' : List Addr) (H' : Hp) : Prop where
  pre : ∃ more, μ' = μ ++ more
  tup : ∀ a xs, H a = some (.tup xs) → H' a = some (.tup xs)
  frz : ∀ a o u, sq2 u → H a = some (.frz o u) → H' a = some (.frz o u)
/-- .. and so does what is not ours -/
structure Ext (μ : List Addr) (H : Hp) (μ' : List Addr) (H' : Hp) : Prop where
  lo : Ext0 μ H μ' H'
  off : ∀ a o, H a = some o → a ∉ μ → H' a = some o ∧ a ∉ μ'
theorem Ext.pre {μ μ' : List Addr} {H H' : Hp} (e : Ext μ H μ' H') : ∃ more, μ' = μ ++ more := e.lo.pre
theorem Ext.tup {μ μ' : List Addr} {H H' : Hp} (e : Ext μ H μ' H') : ∀ a xs, H a = some (.tup xs) → H' a = some (.tup xs) := e.lo.tup
theorem Ext.frz {μ μ' : List Addr} {H H' : Hp} (e : Ext μ H μ' H') : ∀ a o u, sq2 u → H a = some (.frz o u) → H' a = some (.frz o u) := e.lo.frz
theorem Ext.refl (μ : List Addr) (H : Hp) : Ext μ H μ H := ⟨⟨⟨[], by simp⟩, fun _ _ h => h, fun _ _ _ _ h => h⟩, fun _ _ h n => ⟨h, n⟩⟩
theorem Ext0.trans {μ μ' μ'' : List Addr} {H H' H'' : Hp} (a : Ext0 μ H μ' H') (b : Ext0 μ' H' μ'' H'') : Ext0 μ H μ'' H'' := by
  obtain ⟨m1, e1⟩ := a.pre
  obtain ⟨m2, e2⟩ := b.pre
  exact ⟨⟨m1 ++ m2, by rw [e2, e1, List.append_assoc]⟩, fun _ _ h => b.tup _ _ (a.tup _ _ h), fun _ _ _ c h => b.frz _ _ _ c (a.frz _ _ _ c h)⟩
theorem Ext.trans {μ μ' μ'' : List Addr} {H H' H'' : Hp} (a : Ext μ H μ' H') (b : Ext μ' H' μ'' H'') : Ext μ H μ'' H'' :=
  ⟨a.lo.trans b.lo, fun x o h n => let ⟨h1, n1⟩ := a.off x o h n; b.off x o h1 n1⟩
theorem Ext0.get {μ μ' : List Addr} {H H' : Hp} (e : Ext0 μ H μ' H') {n : Nat} {a : Addr} (h : μ[n]? = some a) : μ'[n]? = some a := by
  obtain ⟨m, rfl⟩ := e.pre
  rw [List.getElem?_append_left (List.getElem?_eq_some_iff.mp h).1]
  exact h
theorem Ext.get {μ μ' : List Addr} {H H' : Hp} (e : Ext μ H μ' H') {n : Nat} {a : Addr} (h : μ[n]? = some a) : μ'[n]? = some a := e.lo.get h
theorem Ext.tupA {K : PySem.W.Frag} {μ μ' : List Addr} {H H' : Hp} (e : Ext μ H μ' H') {a : Addr} {xs : List V} (h : TupA K H a xs) : TupA K H' a xs := by
  rcases h with ⟨c, h⟩ | ⟨c, o, d, h⟩
  · exact .inl ⟨c, e.tup _ _ h⟩
  · exact .inr ⟨c, o, d, e.frz _ _ _ (.inr ⟨_, rfl⟩) h⟩
section
variable {K : PySem.W.Frag} {μ μ' : List Addr} {H H' : Hp}
theorem TupA.mono0 {a : Addr} {xs : List V} (h : TupA K H a xs) (e : Ext0 μ H μ' H') : TupA K H' a xs := by
  rcases h with ⟨c, h⟩ | ⟨c, o, d, h⟩
  · exact .inl ⟨c, e.tup _ _ h⟩
  · exact .inr ⟨c, o, d, e.frz _ _ _ (.inr ⟨_, rfl⟩) h⟩
mutual
theorem RepV.mono0 (e : Ext0 μ H μ' H') : ∀ {z : Z} {v : V}, RepV K μ H z v → RepV K μ' H' z v
  | .non, _, h => h
  | .bl _, _, h => h
  | .int _, _, h => h
  | .str _, _, h => h
  | .tup zs, v, h => by
    unfold RepV at h ⊢
    obtain ⟨a, vs, e1, t, r⟩ := h
    exact ⟨a, vs, e1, t.mono0 e, RepVs.mono0 e r⟩
  | .scr ns, v, h => by
    unfold RepV at h ⊢
    obtain ⟨a, e1, h | h⟩ := h
    · obtain ⟨o, h⟩ := h
      exact ⟨a, e1, .inl ⟨o, e.frz _ _ _ (.inl ⟨_, rfl⟩) h⟩⟩
    · exact ⟨a, e1, .inr h⟩
  | .ref n, v, h => by
    unfold RepV at h ⊢
    obtain ⟨a, e1, h⟩ := h
    exact ⟨a, e1, e.get h⟩
  | .err _, _, h => h
theorem RepVs.mono0 (e : Ext0 μ H μ' H') : ∀ {zs : List Z} {vs : List V}, RepVs K μ H zs vs → RepVs K μ' H' zs vs
  | [], _, h => h
  | z :: zs, vs, h => by
    unfold RepVs at h ⊢
    obtain ⟨v, r, e1, hv, hr⟩ := h
    exact ⟨v, r, e1, RepV.mono0 e hv, RepVs.mono0 e hr⟩
end
theorem RepV.mono (e : Ext μ H μ' H') {z : Z} {v : V} (h : RepV K μ H z v) : RepV K μ' H' z v := RepV.mono0 e.lo h
theorem RepVs.mono (e : Ext μ H μ' H') {zs : List Z} {vs : List V} (h : RepVs K μ H zs vs) : RepVs K μ' H' zs vs := RepVs.mono0 e.lo h
theorem RepVs.nil : RepVs K μ H [] [] := by unfold RepVs; rfl
theorem RepVs.cons {z : Z} {zs : List Z} {v : V} {vs : List V} (h : RepV K μ H z v) (r : RepVs K μ H zs vs) : RepVs K μ H (z :: zs) (v :: vs) := by
  unfold RepVs
  exact ⟨_, _, rfl, h, r⟩
theorem RepVs.length : ∀ {zs : List Z} {vs : List V}, RepVs K μ H zs vs → zs.length = vs.length
  | [], vs, h => by unfold RepVs at h; rw [h] <;> rfl
  | z :: zs, vs, h => by
    unfold RepVs at h
    obtain ⟨v, r, rfl, _, hr⟩ := h
    simp [RepVs.length hr]
theorem RepVs.get : ∀ {zs : List Z} {vs : List V}, RepVs K μ H zs vs → ∀ {i : Nat} {z : Z}, zs[i]? = some z → ∃ v, vs[i]? = some v ∧ RepV K μ H z v
  | [], _, _, i, z, e => by simp at e
  | z :: zs, vs, h, 0, z', e => by
    unfold RepVs at h
    obtain ⟨v, r, rfl, hv, hr⟩ := h
    simp at e; subst e
    exact ⟨v, rfl, hv⟩
  | z :: zs, vs, h, i + 1, z', e => by
    unfold RepVs at h
    obtain ⟨v, r, rfl, hv, hr⟩ := h
    obtain ⟨v', e1, e2⟩ := RepVs.get hr (i := i) (z := z') (by simpa using e)
    exact ⟨v', by simpa using e1, e2⟩
theorem RepVs.get' : ∀ {zs : List Z} {vs : List V}, RepVs K μ H zs vs → ∀ {i : Nat} {v : V}, vs[i]? = some v → ∃ z, zs[i]? = some z ∧ RepV K μ H z v
  | zs, vs, h, i, v, e => by
    have hl := h.length
    have hi := (List.getElem?_eq_some_iff.mp e).1
    obtain ⟨v', e1, e2⟩ := h.get (i := i) (z := zs[i]'(by omega)) (by simp [hl, hi])
    rw [e] at e1; cases e1
    exact ⟨_, by simp [hl, hi], e2⟩
theorem RepVs.append : ∀ {zs ys : List Z} {vs ws : List V}, RepVs K μ H zs vs → RepVs K μ H ys ws → RepVs K μ H (zs ++ ys) (vs ++ ws)
  | [], _, _, _, h, h' => by unfold RepVs at h; subst h; exact h'
  | z :: zs, ys, vs, ws, h, h' => by
    unfold RepVs at h
    obtain ⟨v, r, rfl, hv, hr⟩ := h
    exact .cons hv (RepVs.append hr h')
theorem RepVs.take : ∀ {zs : List Z} {vs : List V} (n : Nat), RepVs K μ H zs vs → RepVs K μ H (zs.take n) (vs.take n)
  | _, _, 0, _ => by simpa using RepVs.nil
  | [], vs, n + 1, h => by unfold RepVs at h; subst h; simpa using RepVs.nil
  | z :: zs, vs, n + 1, h => by
    unfold RepVs at h
    obtain ⟨v, r, rfl, hv, hr⟩ := h
    exact .cons hv (RepVs.take n hr)
theorem RepVs.drop : ∀ {zs : List Z} {vs : List V} (n : Nat), RepVs K μ H zs vs → RepVs K μ H (zs.drop n) (vs.drop n)
  | _, _, 0, h => by simpa using h
  | [], vs, n + 1, h => by unfold RepVs at h; subst h; simpa using RepVs.nil
  | z :: zs, vs, n + 1, h => by
    unfold RepVs at h
    obtain ⟨v, r, rfl, hv, hr⟩ := h
    exact RepVs.drop n hr
theorem RepVs.set : ∀ {zs : List Z} {vs : List V} {z : Z} {v : V} (n : Nat), RepVs K μ H zs vs → RepV K μ H z v → RepVs K μ H (zs.set n z) (vs.set n v)
  | [], vs, _, _, n, h, _ => by unfold RepVs at h; subst h; simpa using RepVs.nil
  | y :: zs, vs, z, v, 0, h, hz => by
    unfold RepVs at h
    obtain ⟨v, r, rfl, hv, hr⟩ := h
    exact .cons hz hr
  | y :: zs, vs, z, v, n + 1, h, hz => by
    unfold RepVs at h
    obtain ⟨v, r, rfl, hv, hr⟩ := h
    exact .cons hv (RepVs.set n hr hz)
theorem RepVs.eraseIdx : ∀ {zs : List Z} {vs : List V} (n : Nat), RepVs K μ H zs vs → RepVs K μ H (zs.eraseIdx n) (vs.eraseIdx n)
  | [], vs, n, h => by unfold RepVs at h; subst h; simpa using RepVs.nil
  | y :: zs, vs, 0, h => by
    unfold RepVs at h
    obtain ⟨v, r, rfl, hv, hr⟩ := h
    exact hr
  | y :: zs, vs, n + 1, h => by
    unfold RepVs at h
    obtain ⟨v, r, rfl, hv, hr⟩ := h
    exact .cons hv (RepVs.eraseIdx n hr)
theorem RepVs.dropLast {zs : List Z} {vs : List V} (h : RepVs K μ H zs vs) : RepVs K μ H zs.dropLast vs.dropLast := by
  rw [List.dropLast_eq_take, List.dropLast_eq_take, h.length]
  exact h.take _
theorem RepVs.reverse : ∀ {zs : List Z} {vs : List V}, RepVs K μ H zs vs → RepVs K μ H zs.reverse vs.reverse
  | [], vs, h => by unfold RepVs at h; subst h; simpa using RepVs.nil
  | y :: zs, vs, h => by
    unfold RepVs at h
    obtain ⟨v, r, rfl, hv, hr⟩ := h
    rw [List.reverse_cons, List.reverse_cons]
    exact (RepVs.reverse hr).append (.cons hv .nil)
theorem RepVs.ints : ∀ ns : List Int, RepVs K μ H (ns.map Z.int) (ns.map V.int)
  | [] => .nil
  | n :: ns => .cons (by unfold RepV; rfl) (RepVs.ints ns)
end

/-! ### objects -/
def keyZ : Key → Z
  | .inl i => .int i
  | .inr x => .str x
section
variable (K : PySem.W.Frag) (mg : Str → Option Value) (μ : List Addr) (H : Hp)
def KR (p : Z × Z) (q : Key × V) : Prop := p.1 = keyZ q.1 ∧ RepV K μ H p.2 q.2
def TR (p : Z × Z) (q : List Key × V) : Prop := p.1 = .tup (q.1.map keyZ) ∧ RepV K μ H p.2 q.2
def FR (p : Str × Z) (q : Str × V) : Prop := p.1 = q.1 ∧ RepV K μ H p.2 q.2
def DictR (kvs : List (Z × Z)) (o : HO) : Prop :=
  (∃ l, o = .dK l ∧ Paired (KR K μ H) kvs l) ∨ ∃ l, o = .dT l ∧ Paired (TR K μ H) kvs l
def RelO : ZO → Addr → Prop
  | .lst zs, a => ∃ vs, H a = some (.lst vs) ∧ RepVs K μ H zs vs
  | .dict kvs, a => ∃ o, H a = some o ∧ DictR K μ H kvs o
  | .dictL kvs, a => ∃ ob o, H a = some (.frz ob o) ∧ DictR K μ H kvs o
  | .ins c fs, a => ∃ C dx vs, mg c = some (.ref C) ∧ H a = some (.ins C dx vs) ∧ Paired (FR K μ H) fs vs
structure RelH (h : ZH) : Prop where
  len : μ.length = h.length
  nd : μ.Nodup
  obj : ∀ (n : Nat) (a : Addr) (o : ZO), μ[n]? = some a → h[n]? = some o → RelO K mg μ H o a
end
section
variable {K : PySem.W.Frag} {mg : Str → Option Value} {μ μ' : List Addr} {H H' : Hp} {h h' : ZH}
theorem paired_mono {α β : Type} {F G : α → β → Prop} (hf : ∀ a b, F a b → G a b) : ∀ {l : List α} {m : List β}, Paired F l m → Paired G l m
  | _, _, .nil => .nil
  | _, _, .cons a b => .cons (hf _ _ a) (paired_mono hf b)
theorem DictR.mono0 (e : Ext0 μ H μ' H') {kvs : List (Z × Z)} {o : HO} (d : DictR K μ H kvs o) : DictR K μ' H' kvs o := by
  rcases d with ⟨l, e1, d⟩ | ⟨l, e1, d⟩
  · exact .inl ⟨l, e1, paired_mono (fun p q x => ⟨x.1, x.2.mono0 e⟩) d⟩
  · exact .inr ⟨l, e1, paired_mono (fun p q x => ⟨x.1, x.2.mono0 e⟩) d⟩
theorem RelO.keep0 (e : Ext0 μ H μ' H') {o : ZO} {a : Addr} (r : RelO K mg μ H o a) (q : H' a = H a) : RelO K mg μ' H' o a := by
  cases o with
  | lst zs => obtain ⟨vs, e1, r⟩ := r; exact ⟨vs, q.trans e1, r.mono0 e⟩
  | dict kvs => obtain ⟨o, e1, r⟩ := r; exact ⟨o, q.trans e1, r.mono0 e⟩
  | dictL kvs => obtain ⟨ob, o, e1, r⟩ := r; exact ⟨ob, o, q.trans e1, r.mono0 e⟩
  | ins c fs => obtain ⟨C, dx, vs, m, e1, r⟩ := r; exact ⟨C, dx, vs, m, q.trans e1, paired_mono (fun p q x => ⟨x.1, x.2.mono0 e⟩) r⟩
theorem DictR.mono (e : Ext μ H μ' H') {kvs : List (Z × Z)} {o : HO} (d : DictR K μ H kvs o) : DictR K μ' H' kvs o := DictR.mono0 e.lo d
theorem RelO.keep (e : Ext μ H μ' H') {o : ZO} {a : Addr} (r : RelO K mg μ H o a) (q : H' a = H a) : RelO K mg μ' H' o a := RelO.keep0 e.lo r q
theorem RelO.some {o : ZO} {a : Addr} (r : RelO K mg μ H o a) : ∃ u, H a = some u ∧ (∀ xs, u ≠ .tup xs) ∧ ∀ ob v, sq2 v → u ≠ .frz ob v := by
  cases o with
  | lst zs => obtain ⟨vs, e1, r⟩ := r; exact ⟨_, e1, by simp, by simp⟩
  | dict kvs =>
    obtain ⟨o, e1, r⟩ := r
    rcases r with ⟨l, rfl, _⟩ | ⟨l, rfl, _⟩
    · exact ⟨_, e1, by simp, by simp⟩
    · exact ⟨_, e1, by simp, by simp⟩
  | dictL kvs =>
    obtain ⟨ob, o, e1, r⟩ := r
    rcases r with ⟨l, rfl, _⟩ | ⟨l, rfl, _⟩
    · exact ⟨_, e1, by simp, fun ob v c e => by rcases c with ⟨_, rfl⟩ | ⟨_, rfl⟩ <;> cases e⟩
    · exact ⟨_, e1, by simp, fun ob v c e => by rcases c with ⟨_, rfl⟩ | ⟨_, rfl⟩ <;> cases e⟩
  | ins c fs => obtain ⟨C, dx, vs, m, e1, r⟩ := r; exact ⟨_, e1, by simp, by simp⟩
theorem RelH.at (R : RelH K mg μ H h) {n : Nat} {o : ZO} (e : h[n]? = some o) : ∃ a, μ[n]? = some a ∧ RelO K mg μ H o a := by
  have hn : n < μ.length := by rw [R.len]; exact (List.getElem?_eq_some_iff.mp e).1
  exact ⟨μ[n], by simp [hn], R.obj n _ o (by simp [hn]) e⟩
/-- a new address -/
theorem ext_new {p : Addr} {u : HO} (hp : H p = none) : Ext μ H μ (upd H p u) :=
  ⟨⟨⟨[], by simp⟩, fun a xs e => by rw [upd_ne (ne_of_none e hp)]; exact e, fun a o xs _ e => by rw [upd_ne (ne_of_none e hp)]; exact e⟩, fun a o e n => ⟨by rw [upd_ne (ne_of_none e hp)]; exact e, n⟩⟩
theorem ext_app (p : Addr) (e : Ext μ H μ H') (hp : H p = none) : Ext μ H (μ ++ [p]) H' := ⟨⟨⟨[p], rfl⟩, e.tup, e.frz⟩, fun a o h n => ⟨(e.off a o h n).1, by
  rw [List.mem_append, List.mem_singleton]
  exact fun z => z.elim n fun z => by rw [z, hp] at h; cases h⟩⟩
/-- one of ours changes -/
theorem ext_at {a : Addr} {u : HO} (ha : a ∈ μ) (hu : ∃ w, H a = some w ∧ (∀ xs, w ≠ .tup xs) ∧ ∀ ob v, sq2 v → w ≠ .frz ob v) : Ext μ H μ (upd H a u) := by
  obtain ⟨w, hw, h1, h2⟩ := hu
  refine ⟨⟨⟨[], by simp⟩, fun b xs e => ?_, fun b ob xs c e => ?_⟩, fun b o e n => ⟨?_, n⟩⟩
  · rw [upd_ne (fun z => by subst z; rw [hw] at e; cases e; exact h1 _ rfl)]; exact e
  · rw [upd_ne (fun z => by subst z; rw [hw] at e; cases e; exact h2 _ _ c rfl)]; exact e
  · rw [upd_ne (fun z => n (by rw [z]; exact ha))]; exact e
/-- a tuple is laid -/
theorem RelH.tup (R : RelH K mg μ H h) {p : Addr} {u : HO} (hp : H p = none) : RelH K mg μ (upd H p u) h :=
  ⟨R.len, R.nd, fun n a o e1 e2 => by
    have r := R.obj n a o e1 e2
    obtain ⟨w, ew, _⟩ := r.some
    exact r.keep (ext_new hp) (upd_ne (ne_of_none ew hp))⟩
/-- an object is laid -/
theorem RelH.new (R : RelH K mg μ H h) {p : Addr} {u : HO} {o : ZO} (hp : H p = none) (ho : RelO K mg (μ ++ [p]) (upd H p u) o p) : RelH K mg (μ ++ [p]) (upd H p u) (h ++ [o]) := by
  have pn : p ∉ μ := fun hm => by
    obtain ⟨n, hn, e⟩ := List.mem_iff_getElem.mp hm
    have hh : n < h.length := by rw [← R.len]; exact hn
    obtain ⟨w, ew, _⟩ := (R.obj n p h[n] (by simp [hn, e]) (by simp [hh])).some
    rw [hp] at ew; cases ew
  refine ⟨by simp [R.len], List.nodup_append.mpr ⟨R.nd, by simp, fun a ha b hb => by simp at hb; subst hb; exact fun z => pn (z ▸ ha)⟩, fun n a o' e1 e2 => ?_⟩
  by_cases hn : n < μ.length
  · rw [List.getElem?_append_left hn] at e1
    rw [List.getElem?_append_left (by rw [← R.len]; exact hn)] at e2
    have r := R.obj n a o' e1 e2
    obtain ⟨w, ew, _⟩ := r.some
    exact r.keep (ext_app p (ext_new hp) hp) (upd_ne (ne_of_none ew hp))
  · have e3 : n = μ.length := by
      have := (List.getElem?_eq_some_iff.mp e1).1
      simp at this; omega
    subst e3
    rw [List.getElem?_append_right (by omega)] at e1
    rw [R.len, List.getElem?_append_right (by omega)] at e2
    simp at e1 e2
    subst e1 e2
    exact ho
/-- an object is changed -/
theorem RelH.set (R : RelH K mg μ H h) {n : Nat} {a : Addr} {u : HO} {o : ZO} (ha : μ[n]? = some a) (hu : ∃ w, H a = some w ∧ (∀ xs, w ≠ .tup xs) ∧ ∀ ob v, sq2 v → w ≠ .frz ob v) (ho : RelO K mg μ (upd H a u) o a) :
    RelH K mg μ (upd H a u) (h.set n o) ∧ Ext μ H μ (upd H a u) := by
  have ex : Ext μ H μ (upd H a u) := ext_at (List.mem_of_getElem? ha) hu
  refine ⟨⟨by simp [R.len], R.nd, fun m b o' e1 e2 => ?_⟩, ex⟩
  by_cases hm : m = n
  · subst hm
    rw [ha] at e1; cases e1
    have hl : m < h.length := by rw [← R.len]; exact (List.getElem?_eq_some_iff.mp ha).1
    rw [List.getElem?_set_self hl] at e2
    cases e2
    exact ho
  · rw [List.getElem?_set_ne (Ne.symm hm)] at e2
    have r := R.obj m b o' e1 e2
    refine r.keep ex (upd_ne fun z => ?_)
    subst z
    obtain ⟨i1, j1⟩ := List.getElem?_eq_some_iff.mp e1
    obtain ⟨i2, j2⟩ := List.getElem?_eq_some_iff.mp ha
    exact hm ((List.getElem_inj R.nd).mp (j1.trans j2.symm))
end
end ZL

namespace ZL
open PySem PySem.Spec PyProof.Rows L2

structure Rel (K : PySem.W.Frag) (mg : Str → Option Value) (B : List Addr × Hp) (μ : List Addr) (env : Env) (h : ZH) (σ : L2.St) (H : Hp) : Prop where
  ext : Ext B.1 B.2 μ H
  heap : RelH K mg μ H h
  len : env.length = σ.length
  env : ∀ (i : Nat) (z : Z), env[i]? = some (some z) → ∃ v, σ[i]? = some (some v) ∧ RepV K μ H z v
def RelX (K : PySem.W.Frag) (mg : Str → Option Value) (μ : List Addr) (H : Hp) (x : XZ) (c : Value) (d : Option Addr) : Prop :=
  ∃ C, mg x.cls = some (.ref C) ∧ c = .ref C ∧ ((x.fs = [] ∧ d = none) ∨ ∃ dd vs, x.fs ≠ [] ∧ d = some dd ∧ H dd = some (.xd vs) ∧ Paired (FR K μ H) x.fs vs)
abbrev EZ := XZ → Env → ZH → Prop
/-- what is wished of exceptions -/
def WZ (K : PySem.W.Frag) (mg : Str → Option Value) (B : List Addr × Hp) (E : EZ) : WX := fun c d σ H => ∃ x μ env h, Rel K mg B μ env h σ H ∧ RelX K mg μ H x c d ∧ E x env h
abbrev PZ := Z → ZH → Prop
abbrev WE := Env → ZH → PZ → EZ → Prop
abbrev WT := Env → ZH → (Bool → ZH → Prop) → EZ → Prop
abbrev WA := Env → ZH → (List Z → ZH → Prop) → EZ → Prop
section
variable (K : PySem.W.Frag) (mg : Str → Option Value) (B : List Addr × Hp)
/-- what follows of a value, in terms of V -/
def Fol (μ : List Addr) (H : Hp) (P : PZ) (Q : VK) : Prop := ∀ z h' μ' H' v, P z h' → Ext μ H μ' H' → RelH K mg μ' H' h' → RepV K μ' H' z v → Q v H'
def TZ (w : WE) (E : EZ) : TE := fun σ H Q => ∃ μ env h P, Rel K mg B μ env h σ H ∧ w env h P E ∧ Fol K mg μ H P Q
def TZt (w : WT) (E : EZ) : TT := fun σ H Q => ∃ μ env h P, Rel K mg B μ env h σ H ∧ w env h P E ∧ ∀ b h' μ' H', P b h' → Ext μ H μ' H' → RelH K mg μ' H' h' → Q b H'
def TZa (w : WA) (E : EZ) : TA := fun σ H Q => ∃ μ env h P, Rel K mg B μ env h σ H ∧ w env h P E ∧ ∀ zs h' μ' H' vs, P zs h' → Ext μ H μ' H' → RelH K mg μ' H' h' → RepVs K μ' H' zs vs → Q vs H'
end
structure ZEnds where
  nx : Env → ZH → Prop
  rt : PZ
  bk : Env → ZH → Prop := fun _ _ => False
  ct : Env → ZH → Prop := fun _ _ => False
abbrev WS := ZEnds → Env → ZH → EZ → Prop
structure EndsR (K : PySem.W.Frag) (mg : Str → Option Value) (B : List Addr × Hp) (D : ZEnds) (D' : Ends) : Prop where
  nx : ∀ μ env h σ H, Rel K mg B μ env h σ H → D.nx env h → D'.nx σ H
  bk : ∀ μ env h σ H, Rel K mg B μ env h σ H → D.bk env h → D'.bk σ H
  ct : ∀ μ env h σ H, Rel K mg B μ env h σ H → D.ct env h → D'.ct σ H
  rt : ∀ μ z h v H, Ext B.1 B.2 μ H → RelH K mg μ H h → RepV K μ H z v → D.rt z h → D'.rt v H
def TZs (K : PySem.W.Frag) (mg : Str → Option Value) (B : List Addr × Hp) (w : WS) (E : EZ) : TS := fun D' σ H => ∃ μ env h D, Rel K mg B μ env h σ H ∧ w D env h E ∧ EndsR K mg B D D'

section
variable {K : PySem.W.Frag} {mg : Str → Option Value} {B : List Addr × Hp} {μ μ' : List Addr} {env : Env} {h h' : ZH} {σ : L2.St} {H H' : Hp}
theorem Rel.step (R : Rel K mg B μ env h σ H) (e : Ext μ H μ' H') (r : RelH K mg μ' H' h') : Rel K mg B μ' env h' σ H' :=
  ⟨R.ext.trans e, r, R.len, fun i z q => let ⟨v, e1, e2⟩ := R.env i z q; ⟨v, e1, e2.mono e⟩⟩
theorem Rel.put (R : Rel K mg B μ env h σ H) {z : Z} {v : V} (r : RepV K μ H z v) (i : Nat) : Rel K mg B μ (env.set i (some z)) h (σ.set i (some v)) H :=
  ⟨R.ext, R.heap, by simp [R.len], fun j y q => by
    by_cases hj : i = j
    · subst hj
      by_cases hl : i < env.length
      · rw [List.getElem?_set_self hl] at q
        cases q
        exact ⟨v, List.getElem?_set_self (by rw [← R.len]; exact hl), r⟩
      · rw [List.getElem?_eq_none (by simpa using hl)] at q; cases q
    · rw [List.getElem?_set_ne hj] at q ⊢
      exact R.env j y q⟩
end

/-! ### the judgements -/
abbrev ZTk (X : Cx) (B : List Addr × Hp) (E : EZ) : Prop := Takes X (WZ X.K X.mg B E)
structure ZE (X : Cx) (e : Expr) (w : WE) : Prop where
  run : ∀ B E, ZTk X B E → PE X e (TZ X.K X.mg B w E)
structure ZT (X : Cx) (e : Expr) (w : WT) : Prop where
  run : ∀ B E, ZTk X B E → PT X e (TZt X.K X.mg B w E)
structure ZA (X : Cx) (es : List Expr) (w : WA) : Prop where
  run : ∀ B E, ZTk X B E → PA X es (TZa X.K X.mg B w E)
structure ZS (X : Cx) (s : Stmt) (w : WS) : Prop where
  run : ∀ B E, ZTk X B E → PS X s (TZs X.K X.mg B w E)
structure ZSs (X : Cx) (s : List Stmt) (w : WS) : Prop where
  run : ∀ B E, ZTk X B E → PSs X s (TZs X.K X.mg B w E)
/-! ### from a later base -/
section
variable {K : PySem.W.Frag} {mg : Str → Option Value} {B B' : List Addr × Hp} {μ : List Addr} {env : Env} {h : ZH} {σ : L2.St} {H : Hp}
theorem Rel.rebase (R : Rel K mg B' μ env h σ H) (e : Ext B.1 B.2 B'.1 B'.2) : Rel K mg B μ env h σ H := ⟨e.trans R.ext, R.heap, R.len, R.env⟩
theorem Rel.based (R : Rel K mg B μ env h σ H) : Rel K mg (μ, H) μ env h σ H := ⟨Ext.refl _ _, R.heap, R.len, R.env⟩
theorem WZ.rebase {E : EZ} (e : Ext B.1 B.2 B'.1 B'.2) : ∀ c d σ H, WZ K mg B' E c d σ H → WZ K mg B E c d σ H := fun c d σ H ⟨x, μ, env, h, R, rx, q⟩ => ⟨x, μ, env, h, R.rebase e, rx, q⟩
theorem EndsR.rebase {D : ZEnds} {D' : Ends} (d : EndsR K mg B D D') (e : Ext B.1 B.2 B'.1 B'.2) : EndsR K mg B' D D' :=
  ⟨fun μ env h σ H R q => d.nx μ env h σ H (R.rebase e) q, fun μ env h σ H R q => d.bk μ env h σ H (R.rebase e) q, fun μ env h σ H R q => d.ct μ env h σ H (R.rebase e) q, fun μ z h v H x R r q => d.rt μ z h v H (e.trans x) R r q⟩
end
theorem ZTk.rebase {X : Cx} {B B' : List Addr × Hp} {E : EZ} (t : ZTk X B E) (e : Ext B.1 B.2 B'.1 B'.2) : ZTk X B' E := Takes.imp t (WZ.rebase e)
section
variable {X : Cx}
theorem pe_imp {e : Expr} {t t' : TE} (p : PE X e t) (f : ∀ σ H Q, t' σ H Q → t σ H Q) : PE X e t' := ⟨fun pins s σ H Q I q => p.run pins s σ H Q I (f _ _ _ q)⟩
theorem pt_imp {e : Expr} {t t' : TT} (p : PT X e t) (f : ∀ σ H Q, t' σ H Q → t σ H Q) : PT X e t' := ⟨fun pins s σ H Q I q => p.run pins s σ H Q I (f _ _ _ q)⟩
theorem pa_imp {e : List Expr} {t t' : TA} (p : PA X e t) (f : ∀ σ H Q, t' σ H Q → t σ H Q) : PA X e t' := ⟨fun pos pins s σ H Q I q => p.run pos pins s σ H Q I (f _ _ _ q)⟩
theorem ps_imp {e : Stmt} {t t' : TS} (p : PS X e t) (f : ∀ D σ H, t' D σ H → t D σ H) : PS X e t' := ⟨fun pins s σ H D I q => p.run pins s σ H D I (f _ _ _ q)⟩
theorem pss_imp {e : List Stmt} {t t' : TS} (p : PSs X e t) (f : ∀ D σ H, t' D σ H → t D σ H) : PSs X e t' := ⟨fun pins s σ H D I q => p.run pins s σ H D I (f _ _ _ q)⟩
end

/-! ### names, constants -/
section
variable {X : Cx} {B : List Addr × Hp}
def wVar (i : Nat) : WE := fun env h P _ => match env[i]? with | some (some z) => P z h | _ => False
def wC (z : Z) : WE := fun _ h P _ => P z h
theorem ze_var {i : Nat} {x : Str} {pos : Pos} (hN : X.N[i]? = some x) (hv : Vis X.env.scope x) (hd : (x == ("__debug__" : Str)) = false := by decide) (hcd : (x == ("__classdict__" : Str)) = false := by decide) : ZE X (.Name x pos) (wVar i) :=
  ⟨fun B E _ => pe_imp (pe_var hN hv hd hcd) fun σ H Q ⟨μ, env, h, P, R, w, f⟩ => by
    unfold wVar at w
    split at w
    · rename_i z e
      obtain ⟨v, e1, r⟩ := R.env i z e
      exact ⟨v, e1, f z h μ H v w (Ext.refl _ _) R.heap r⟩
    · exact w.elim⟩
theorem ze_c {e : Expr} {v : V} {z : Z} (p : PE X e (tC v)) (r : ∀ μ H, RepV X.K μ H z v) : ZE X e (wC z) :=
  ⟨fun B E _ => pe_imp p fun σ H Q ⟨μ, env, h, P, R, w, f⟩ => f z h μ H v w (Ext.refl _ _) R.heap (r _ _)⟩
theorem ze_int {i j pos} : ZE X (.Constant (.int i) j pos) (wC (.int i)) := ze_c pe_int fun _ _ => by unfold RepV; rfl
theorem ze_bl {b j pos} : ZE X (.Constant (.bool b) j pos) (wC (.bl b)) := ze_c pe_bl fun _ _ => by unfold RepV; rfl
theorem ze_non {j pos} : ZE X (.Constant .none j pos) (wC .non) := ze_c pe_non fun _ _ => by unfold RepV; rfl
theorem ze_str {x j pos} : ZE X (.Constant (.str x) j pos) (wC (.str x)) := ze_c pe_str fun _ _ => by unfold RepV; rfl

/-! ### arguments, displays -/
def wNil : WA := fun _ h P _ => P [] h
def wCons (w : WE) (r : WA) : WA := fun env h P E => w env h (fun z h1 => r env h1 (fun zs h2 => P (z :: zs) h2) E) E
theorem za_nil : ZA X [] wNil := ⟨fun B E _ => pa_imp pa_nil fun σ H Q ⟨μ, env, h, P, R, w, f⟩ => f [] h μ H [] w (Ext.refl _ _) R.heap .nil⟩
theorem za_cons {e : Expr} {es : List Expr} {w : WE} {r : WA} (he : ZE X e w) (hr : ZA X es r) (hs : starEach (e :: es) X.env = (false, eval e X.env) :: starEach es X.env := by rfl) : ZA X (e :: es) (wCons w r) :=
  ⟨fun B E tk => pa_imp (pa_cons (he.run B E tk) (hr.run B E tk) hs) fun σ H Q ⟨μ, env, h, P, R, q, f⟩ =>
    ⟨μ, env, h, _, R, q, fun z h1 μ1 H1 v p1 e1 R1 r1 => ⟨μ1, env, h1, _, R.step e1 R1, p1, fun zs h2 μ2 H2 vs p2 e2 R2 r2 => f (z :: zs) h2 μ2 H2 (v :: vs) p2 (e1.trans e2) R2 (.cons (r1.mono e2) r2)⟩⟩⟩
/-- a new tuple's value -/
def wTup (r : WA) : WE := fun env h P E => r env h (fun zs h1 => zs.length ≤ sizeLine ∧ P (.tup zs) h1) E
/-- a new object -/
def wLst (r : WA) : WE := fun env h P E => r env h (fun zs h1 => zs.length ≤ sizeLine ∧ P (.ref h1.length) (h1 ++ [.lst zs])) E
theorem fol_tup {K : PySem.W.Frag} {mg : Str → Option Value} {μ : List Addr} {H : Hp} {h : ZH} {P : PZ} {Q : VK} {zs : List Z} {vs : List V} (R : RelH K mg μ H h) (r : RepVs K μ H zs vs) (p : P (.tup zs) h) (f : Fol K mg μ H P Q) :
    ∀ a H', H a = none → ZTS.LaidT keyV H a vs H' → Q (.ref a) H' := fun a H' ha l => by
  unfold ZTS.LaidT at l
  cases c : keyV vs with
  | true =>
    rw [c] at l
    simp at l
    subst l
    have ex : Ext μ H μ (upd H a (.tup vs)) := ext_new ha
    refine f _ _ _ _ _ p ex (R.tup ha) ?_
    unfold RepV
    exact ⟨a, vs, rfl, .inl ⟨c, upd_same⟩, r.mono ex⟩
  | false =>
    rw [c] at l
    simp at l
    obtain ⟨o, d, rfl⟩ := l
    have ex : Ext μ H μ (upd H a (.frz o (.tup vs))) := ext_new ha
    refine f _ _ _ _ _ p ex (R.tup ha) ?_
    unfold RepV
    exact ⟨a, vs, rfl, .inr ⟨c, o, d, upd_same⟩, r.mono ex⟩
theorem fol_lst {K : PySem.W.Frag} {mg : Str → Option Value} {μ : List Addr} {H : Hp} {h : ZH} {P : PZ} {Q : VK} {zs : List Z} {vs : List V} (R : RelH K mg μ H h) (r : RepVs K μ H zs vs) (p : P (.ref h.length) (h ++ [.lst zs])) (f : Fol K mg μ H P Q) :
    ∀ a, H a = none → Q (.ref a) (upd H a (.lst vs)) := fun a ha => by
  have ex : Ext μ H (μ ++ [a]) (upd H a (.lst vs)) := ext_app a (ext_new ha) ha
  refine f _ _ _ _ _ p ex (R.new ha ⟨vs, upd_same, r.mono ex⟩) ?_
  unfold RepV
  exact ⟨a, rfl, by rw [← R.len]; simp⟩
theorem Fol.ext {K : PySem.W.Frag} {mg : Str → Option Value} {μ μ' : List Addr} {H H' : Hp} {P : PZ} {Q : VK} (f : Fol K mg μ H P Q) (e : Ext μ H μ' H') : Fol K mg μ' H' P Q := fun z h'' μ'' H'' v p ex R r => f z h'' μ'' H'' v p (e.trans ex) R r
theorem ze_tup {es : List Expr} {w : WA} {x1 pos} (h : ZA X es w) : ZE X (.Tuple es x1 pos) (wTup w) :=
  ⟨fun B E tk => pe_imp (ZTS.pe_tupS (kl := keyV) (h.run B E tk)) fun σ H Q ⟨μ, env, h, P, R, q, f⟩ =>
    ⟨μ, env, h, _, R, q, fun zs h1 μ1 H1 vs ⟨l, p1⟩ e1 R1 r1 => ⟨by rw [← r1.length]; exact l, fol_tup R1 r1 p1 (f.ext e1)⟩⟩⟩
theorem ze_lst {es : List Expr} {w : WA} {pos} (h : ZA X es w) : ZE X (.List es pos) (wLst w) :=
  ⟨fun B E tk => pe_imp (pe_lst (h.run B E tk)) fun σ H Q ⟨μ, env, h, P, R, q, f⟩ =>
    ⟨μ, env, h, _, R, q, fun zs h1 μ1 H1 vs ⟨l, p1⟩ e1 R1 r1 => ⟨by rw [← r1.length]; exact l, fol_lst R1 r1 p1 (f.ext e1)⟩⟩⟩

/-! ### operators -/
abbrev Z2 := Z → Z → ZH → PZ → Prop
/-- an operator by values -/
def OpZ (X : Cx) (f : Value → Value → Sem Value) (o : Z2) : Prop :=
  ∃ r, OpR X f r ∧ ∀ μ H h a b x y P Q, RelH X.K X.mg μ H h → RepV X.K μ H a x → RepV X.K μ H b y → o a b h P → Fol X.K X.mg μ H P Q → r x y H Q
def w2 (o : Z2) (wa wb : WE) : WE := fun env h P E => wa env h (fun a h1 => wb env h1 (fun b h2 => o a b h2 P) E) E
theorem tz2 {o : Z2} {r : R2} {wa wb : WE} {E : EZ} (ho : ∀ μ H h a b x y P Q, RelH X.K X.mg μ H h → RepV X.K μ H a x → RepV X.K μ H b y → o a b h P → Fol X.K X.mg μ H P Q → r x y H Q) :
    ∀ σ H Q, TZ X.K X.mg B (w2 o wa wb) E σ H Q → tOp r (TZ X.K X.mg B wa E) (TZ X.K X.mg B wb E) σ H Q := fun σ H Q ⟨μ, env, h, P, R, q, f⟩ =>
  ⟨μ, env, h, _, R, q, fun a h1 μ1 H1 x p1 e1 R1 r1 => ⟨μ1, env, h1, _, R.step e1 R1, p1, fun b h2 μ2 H2 y p2 e2 R2 r2 => ho μ2 H2 h2 a b x y P Q R2 (r1.mono e2) r2 p2 (f.ext (e1.trans e2))⟩⟩
theorem ze_op {op : Operator} {o : Z2} {a b : Expr} {wa wb : WE} {pos} (ho : OpZ X (binaryOp op) o) (ha : ZE X a wa) (hb : ZE X b wb) : ZE X (.BinOp a op b pos) (w2 o wa wb) :=
  let ⟨_, h1, h2⟩ := ho
  ⟨fun B E tk => pe_imp (pe_op h1 (ha.run B E tk) (hb.run B E tk)) (tz2 h2)⟩
theorem ze_cmp {op : CmpOp} {o : Z2} {a b : Expr} {wa wb : WE} {pos} (ho : OpZ X (compareOp op) o) (ha : ZE X a wa) (hb : ZE X b wb) (hm : behindInMarks op b = false) : ZE X (.Compare a [op] [b] pos) (w2 o wa wb) :=
  let ⟨_, h1, h2⟩ := ho
  ⟨fun B E tk => pe_imp (pe_cmpR h1 (ha.run B E tk) (hb.run B E tk) hm) (tz2 h2)⟩
/-- a test of a truth value -/
def wB (w : WE) : WT := fun env h P E => w env h (fun z h1 => match z with | .bl b => P b h1 | _ => False) E
theorem tzB {w : WE} {E : EZ} {t : TE} (h : ∀ σ H Q, TZ X.K X.mg B w E σ H Q → t σ H Q) : ∀ σ H Q, TZt X.K X.mg B (wB w) E σ H Q → tTest t σ H Q := fun σ H Q ⟨μ, env, hh, P, R, q, f⟩ =>
  h σ H _ ⟨μ, env, hh, _, R, q, fun z h1 μ1 H1 v p1 e1 R1 r1 => by
    cases z with
    | bl b => unfold RepV at r1; exact ⟨b, r1, f b h1 μ1 H1 p1 e1 R1⟩
    | _ => exact p1.elim⟩
theorem zt_cmp {op : CmpOp} {o : Z2} {a b : Expr} {wa wb : WE} {pos} (ho : OpZ X (compareOp op) o) (ha : ZE X a wa) (hb : ZE X b wb) (hm : behindInMarks op b = false) : ZT X (.Compare a [op] [b] pos) (wB (w2 o wa wb)) :=
  let ⟨_, h1, h2⟩ := ho
  ⟨fun B E tk => pt_imp (pt_cmpR h1 (ha.run B E tk) (hb.run B E tk) hm) (tzB (tz2 h2))⟩
theorem zt_val {e : Expr} {w : WE} (he : ZE X e w) (hw : ∀ whole, isTrue e X.env whole = (do let v ← whole; standAt e.pos; holding [v] (truthy v)) := by intro _; rfl) : ZT X e (wB w) :=
  ⟨fun B E tk => pt_imp (pt_val (he.run B E tk) hw) fun σ H Q q => tzB (fun _ _ _ z => z) σ H Q q⟩
end
end ZL

namespace ZL
open PySem PySem.W PySem.SeqAt PyProof.Rows
/-- t < u: only the first place that differs is asked -/
theorem lt_tups (p q : Addr) (xs ys : Array Value) (n m : Nat) (d1 d2 : Option Addr) (s1 s2 : Array (Option Value)) (eq lt : Nat → Bool) :
    Meets (Builtin.«tuple.__lt__» ⟨[.ref p, .ref q], []⟩)
      (fun A R s => s.heap.get? p = some { cls := .type "tuple", dict := d1, data := .seq xs n, slots := s1 } ∧
        s.heap.get? q = some { cls := .type "tuple", dict := d2, data := .seq ys m, slots := s2 } ∧
        (∀ j (a : j < xs.size) (b : j < ys.size), EqAt A.in1 s xs[j] ys[j] (eq j)) ∧
        (∀ j (a : j < xs.size) (b : j < ys.size), (∀ k, k < j → eq k = true) → eq j = false → RcLt A.in1 s xs[j] ys[j] (lt j)) ∧
        R (.ok (.ret (.bool (firstLt eq lt (decide (xs.size < ys.size)) (List.range (min xs.size ys.size)))))) s) :=
  .of_wp fun prog w A R s h => by
    obtain ⟨hp, g, d, tk, os⟩ := s
    obtain ⟨hl, hb, he, hr, h⟩ := h
    have kinds := AutoSeq1.sub_tuple_tuple
    have size : (xs.toList.zip ys.toList).length = min xs.size ys.size := by simp
    wp_walk using wpAny_loadPart' hl, wpAny_loadPart' hb, wpAny_forIn_list _ (fun left b s' => b.1 = none ∧ s' = ⟨hp, g, d, tk, os⟩ ∧
      ∃ i, (∀ k, k < i → eq k = true) ∧ left = (xs.toList.zip ys.toList).drop i ∧
      R (.ok (.ret (.bool (firstLt eq lt (decide (xs.size < ys.size)) ((List.range (min xs.size ys.size)).drop i))))) ⟨hp, g, d, tk, os⟩) _
    case turn =>
      rintro ⟨y, x⟩ left b s' ⟨hb', rfl, i, all, hz, hR⟩
      have inz : i < (xs.toList.zip ys.toList).length := by
        rcases Nat.lt_or_ge i (xs.toList.zip ys.toList).length with z | z
        · exact z
        · rw [List.drop_of_length_le z] at hz
          cases hz
      have inm : i < min xs.size ys.size := size ▸ inz
      have h1 : i < xs.size := by omega
      have h2 : i < ys.size := by omega
      rw [List.drop_eq_getElem_cons inz] at hz
      injection hz with head tail
      obtain rfl : y = xs[i] := by simpa using congrArg Prod.fst head
      obtain rfl : x = ys[i] := by simpa using congrArg Prod.snd head
      have places : (List.range (min xs.size ys.size)).drop i = i :: (List.range (min xs.size ys.size)).drop (i + 1) := by
        simp [List.drop_eq_getElem_cons, inm]
      rw [places] at hR
      refine wpAny_bind (he i h1 h2 prog w _ _ ?_)
      cases same : eq i with
      | true =>
        rw [firstLt_yes same] at hR
        wp_walk
        refine ⟨rfl, rfl, i + 1, fun k hk => ?_, tail, hR⟩
        by_cases e : k = i
        · rw [e]; exact same
        · exact all k (by omega)
      | false =>
        rw [firstLt_no same] at hR
        rw [if_pos (show (!false) = true from rfl)]
        refine wpAny_bind (wpAny_rule ?_)
        refine wpAny_bind (hr i h1 h2 all same prog w _ _ ?_)
        wp_walk
        exact ⟨_, rfl, hR⟩
    case fin =>
      rintro ⟨b1, b2⟩ s' ⟨hb', rfl, i, all, hz, hR⟩
      simp only at hb'
      subst hb'
      have past : min xs.size ys.size ≤ i := by
        rcases Nat.lt_or_ge i (xs.toList.zip ys.toList).length with z | z
        · rw [List.drop_eq_getElem_cons z] at hz
          cases hz
        · exact size ▸ z
      rw [List.drop_of_length_le (by simpa using past)] at hR
      wp_walk
      refine ⟨_, rfl, ?_⟩
      simpa [Builtin.Tuple.tupleCompareSizes, firstLt] using hR
    case h =>
      exact ⟨rfl, rfl, 0, fun k hk => absurd hk (Nat.not_lt_zero _), rfl, by simpa using h⟩
/-- t <= u: only the first place that differs is asked -/
theorem le_tups (p q : Addr) (xs ys : Array Value) (n m : Nat) (d1 d2 : Option Addr) (s1 s2 : Array (Option Value)) (eq lt : Nat → Bool) :
    Meets (Builtin.«tuple.__le__» ⟨[.ref p, .ref q], []⟩)
      (fun A R s => s.heap.get? p = some { cls := .type "tuple", dict := d1, data := .seq xs n, slots := s1 } ∧
        s.heap.get? q = some { cls := .type "tuple", dict := d2, data := .seq ys m, slots := s2 } ∧
        (∀ j (a : j < xs.size) (b : j < ys.size), EqAt A.in1 s xs[j] ys[j] (eq j)) ∧
        (∀ j (a : j < xs.size) (b : j < ys.size), (∀ k, k < j → eq k = true) → eq j = false → RcOp .LtE A.in1 s xs[j] ys[j] (lt j)) ∧
        R (.ok (.ret (.bool (firstLt eq lt (decide (xs.size ≤ ys.size)) (List.range (min xs.size ys.size)))))) s) :=
  .of_wp fun prog w A R s h => by
    obtain ⟨hp, g, d, tk, os⟩ := s
    obtain ⟨hl, hb, he, hr, h⟩ := h
    have kinds := AutoSeq1.sub_tuple_tuple
    have size : (xs.toList.zip ys.toList).length = min xs.size ys.size := by simp
    wp_walk using wpAny_loadPart' hl, wpAny_loadPart' hb, wpAny_forIn_list _ (fun left b s' => b.1 = none ∧ s' = ⟨hp, g, d, tk, os⟩ ∧
      ∃ i, (∀ k, k < i → eq k = true) ∧ left = (xs.toList.zip ys.toList).drop i ∧
      R (.ok (.ret (.bool (firstLt eq lt (decide (xs.size ≤ ys.size)) ((List.range (min xs.size ys.size)).drop i))))) ⟨hp, g, d, tk, os⟩) _
    case turn =>
      rintro ⟨y, x⟩ left b s' ⟨hb', rfl, i, all, hz, hR⟩
      have inz : i < (xs.toList.zip ys.toList).length := by
        rcases Nat.lt_or_ge i (xs.toList.zip ys.toList).length with z | z
        · exact z
        · rw [List.drop_of_length_le z] at hz
          cases hz
      have inm : i < min xs.size ys.size := size ▸ inz
      have h1 : i < xs.size := by omega
      have h2 : i < ys.size := by omega
      rw [List.drop_eq_getElem_cons inz] at hz
      injection hz with head tail
      obtain rfl : y = xs[i] := by simpa using congrArg Prod.fst head
      obtain rfl : x = ys[i] := by simpa using congrArg Prod.snd head
      have places : (List.range (min xs.size ys.size)).drop i = i :: (List.range (min xs.size ys.size)).drop (i + 1) := by
        simp [List.drop_eq_getElem_cons, inm]
      rw [places] at hR
      refine wpAny_bind (he i h1 h2 prog w _ _ ?_)
      cases same : eq i with
      | true =>
        rw [firstLt_yes same] at hR
        wp_walk
        refine ⟨rfl, rfl, i + 1, fun k hk => ?_, tail, hR⟩
        by_cases e : k = i
        · rw [e]; exact same
        · exact all k (by omega)
      | false =>
        rw [firstLt_no same] at hR
        rw [if_pos (show (!false) = true from rfl)]
        refine wpAny_bind (wpAny_rule ?_)
        refine wpAny_bind (hr i h1 h2 all same prog w _ _ ?_)
        wp_walk
        exact ⟨_, rfl, hR⟩
    case fin =>
      rintro ⟨b1, b2⟩ s' ⟨hb', rfl, i, all, hz, hR⟩
      simp only at hb'
      subst hb'
      have past : min xs.size ys.size ≤ i := by
        rcases Nat.lt_or_ge i (xs.toList.zip ys.toList).length with z | z
        · rw [List.drop_eq_getElem_cons z] at hz
          cases hz
        · exact size ▸ z
      rw [List.drop_of_length_le (by simpa using past)] at hR
      wp_walk
      refine ⟨_, rfl, ?_⟩
      simpa [Builtin.Tuple.tupleCompareSizes, firstLt] using hR
    case h =>
      exact ⟨rfl, rfl, 0, fun k hk => absurd hk (Nat.not_lt_zero _), rfl, by simpa using h⟩

section
variable {A : Around} {s : Shared} {p q : Addr} {xs ys : Array Value} {eq lt : Nat → Bool}
theorem rcLt_tups (hp : s.heap.IsTuple p xs) (hq : s.heap.IsTuple q ys) (room : A.units < cLine)
    (he : ∀ j (a : j < xs.size) (b : j < ys.size), EqAt A.in1 s xs[j] ys[j] (eq j))
    (hr : ∀ j (a : j < xs.size) (b : j < ys.size), (∀ k, k < j → eq k = true) → eq j = false → RcLt A.in1 s xs[j] ys[j] (lt j)) :
    RcLt A s (.ref p) (.ref q) (firstLt eq lt (decide (xs.size < ys.size)) (List.range (min xs.size ys.size))) := fun prog w E Q h => by
  obtain ⟨⟨c1, d1, t1, s1⟩, o1, k1, n, e1⟩ := id hp
  obtain ⟨⟨c2, d2, t2, s2⟩, o2, k2, m, e2⟩ := id hq
  simp only at k1 e1 k2 e2
  subst k1 e1 k2 e2
  refine richCompare_meets_room (op := .Lt) ⟨_, o1, rfl⟩ ⟨_, o2, rfl⟩ F.slot_tuple_lt F.entry_tuple_lt (F.args_tuple_lt_2 _ _) (lt_tups p q xs ys n m d1 d2 s1 s2 eq lt) ⟨o1, o2, he, hr, ?_⟩ room
  exact show (_ ≠ Value.notImplemented) ∧ Q _ s from ⟨(fun x => nomatch x), h⟩
theorem rcLe_tups (hp : s.heap.IsTuple p xs) (hq : s.heap.IsTuple q ys) (room : A.units < cLine)
    (he : ∀ j (a : j < xs.size) (b : j < ys.size), EqAt A.in1 s xs[j] ys[j] (eq j))
    (hr : ∀ j (a : j < xs.size) (b : j < ys.size), (∀ k, k < j → eq k = true) → eq j = false → RcOp .LtE A.in1 s xs[j] ys[j] (lt j)) :
    RcOp .LtE A s (.ref p) (.ref q) (firstLt eq lt (decide (xs.size ≤ ys.size)) (List.range (min xs.size ys.size))) := fun prog w E Q h => by
  obtain ⟨⟨c1, d1, t1, s1⟩, o1, k1, n, e1⟩ := id hp
  obtain ⟨⟨c2, d2, t2, s2⟩, o2, k2, m, e2⟩ := id hq
  simp only at k1 e1 k2 e2
  subst k1 e1 k2 e2
  refine richCompare_meets_room (op := .LtE) ⟨_, o1, rfl⟩ ⟨_, o2, rfl⟩ F.slot_tuple_le F.entry_tuple_le (F.args_tuple_le_2 _ _) (le_tups p q xs ys n m d1 d2 s1 s2 eq lt) ⟨o1, o2, he, hr, ?_⟩ room
  exact show (_ ≠ Value.notImplemented) ∧ Q _ s from ⟨(fun x => nomatch x), h⟩
end

/-! ### of data -/
mutual
def ltD : PyData → PyData → Option Bool
  | .int i, .int j => some (decide (i < j))
  | .str x, .str y => some (decide (x.cps.toList < y.cps.toList))
  | .tuple xs, .tuple ys => ltDs xs ys
  | _, _ => none
def ltDs : List PyData → List PyData → Option Bool
  | [], [] => some false
  | [], _ :: _ => some true
  | _ :: _, [] => some false
  | x :: xs, y :: ys => if PyData.eqv x y = true then ltDs xs ys else ltD x y
end
mutual
def leD : PyData → PyData → Option Bool
  | .int i, .int j => some (decide (i ≤ j))
  | .str x, .str y => some ((!decide (y.cps.toList < x.cps.toList)))
  | .tuple xs, .tuple ys => leDs xs ys
  | _, _ => none
def leDs : List PyData → List PyData → Option Bool
  | [], [] => some true
  | [], _ :: _ => some true
  | _ :: _, [] => some false
  | x :: xs, y :: ys => if PyData.eqv x y = true then leDs xs ys else leD x y
end
theorem first_map (e r : Nat → Bool) (fin : Bool) : ∀ l : List Nat, firstLt e r fin (l.map (· + 1)) = firstLt (fun j => e (j + 1)) (fun j => r (j + 1)) fin l
  | [] => rfl
  | j :: t => by
    rw [List.map_cons]
    unfold firstLt
    rw [first_map e r fin t]
def atD (f : PyData → PyData → Option Bool) (xs ys : List PyData) (j : Nat) : Bool := (f (xs.getD j .none) (ys.getD j .none)).getD false
theorem first_of {f : PyData → PyData → Option Bool} {g : List PyData → List PyData → Option Bool} {c : Nat → Nat → Bool} (c0 : g [] [] = some (c 0 0)) (c1 : ∀ y ys, g [] (y :: ys) = some (c 0 (ys.length + 1)))
    (c2 : ∀ x xs, g (x :: xs) [] = some (c (xs.length + 1) 0)) (c3 : ∀ a b, c (a + 1) (b + 1) = c a b) (gs : ∀ x xs y ys, g (x :: xs) (y :: ys) = if PyData.eqv x y = true then g xs ys else f x y) :
    ∀ (xs ys : List PyData) (k : Bool), g xs ys = some k → firstLt (pairEq xs ys) (atD f xs ys) (c xs.length ys.length) (List.range (min xs.length ys.length)) = k ∧
      ∀ j, j < xs.length → j < ys.length → (∀ i, i < j → pairEq xs ys i = true) → pairEq xs ys j = false → f (xs.getD j .none) (ys.getD j .none) = some (atD f xs ys j)
  | [], [], k, h => by
    rw [c0] at h; cases h
    exact ⟨by simp [firstLt], fun j hj => absurd hj (Nat.not_lt_zero _)⟩
  | [], y :: ys, k, h => by
    rw [c1] at h; cases h
    exact ⟨by simp [firstLt], fun j hj => absurd hj (Nat.not_lt_zero _)⟩
  | x :: xs, [], k, h => by
    rw [c2] at h; cases h
    exact ⟨by simp [firstLt], fun j _ hj => absurd hj (Nat.not_lt_zero _)⟩
  | x :: xs, y :: ys, k, h => by
    rw [gs] at h
    have em : min (x :: xs).length (y :: ys).length = min xs.length ys.length + 1 := by
      rw [List.length_cons, List.length_cons]
      omega
    have ep : (fun j => pairEq (x :: xs) (y :: ys) (j + 1)) = pairEq xs ys := by funext j; simp [pairEq]
    have ea : (fun j => atD f (x :: xs) (y :: ys) (j + 1)) = atD f xs ys := by funext j; simp [atD]
    rw [em, List.range_succ_eq_map]
    have e0 : pairEq (x :: xs) (y :: ys) 0 = PyData.eqv x y := by simp [pairEq]
    by_cases hq : PyData.eqv x y = true
    · rw [if_pos hq] at h
      obtain ⟨h1, h2⟩ := first_of c0 c1 c2 c3 gs xs ys k h
      refine ⟨?_, fun j j1 j2 hall hj => ?_⟩
      · rw [firstLt_yes (by rw [e0]; exact hq)]
        show firstLt _ _ _ ((List.range _).map (· + 1)) = k
        rw [first_map, ep, ea, List.length_cons, List.length_cons, c3]
        exact h1
      · cases j with
        | zero => rw [e0, hq] at hj; cases hj
        | succ j =>
          have z := h2 j (by simpa using j1) (by simpa using j2) (fun i hi => by have := hall (i + 1) (by omega); simpa [pairEq] using this) (by simpa [pairEq] using hj)
          simpa [atD] using z
    · have hq : PyData.eqv x y = false := by simpa using hq
      rw [if_neg (by rw [hq]; exact Bool.false_ne_true)] at h
      refine ⟨?_, fun j j1 j2 hall hj => ?_⟩
      · rw [firstLt_no (by rw [e0]; exact hq)]
        simp [atD, h]
      · cases j with
        | zero => simp [atD, h]
        | succ j =>
          have z := hall 0 (Nat.succ_pos _)
          rw [e0, hq] at z; cases z
theorem first_lt {xs ys : List PyData} {k : Bool} (h : ltDs xs ys = some k) : firstLt (pairEq xs ys) (atD ltD xs ys) (decide (xs.length < ys.length)) (List.range (min xs.length ys.length)) = k ∧
      ∀ j, j < xs.length → j < ys.length → (∀ i, i < j → pairEq xs ys i = true) → pairEq xs ys j = false → ltD (xs.getD j .none) (ys.getD j .none) = some (atD ltD xs ys j) := first_of (f := ltD) (g := ltDs) (c := fun a b => decide (a < b)) (by simp [ltDs]) (by simp [ltDs]) (by simp [ltDs]) (by simp) (by intros; simp [ltDs]) xs ys k h
theorem first_le {xs ys : List PyData} {k : Bool} (h : leDs xs ys = some k) : firstLt (pairEq xs ys) (atD leD xs ys) (decide (xs.length ≤ ys.length)) (List.range (min xs.length ys.length)) = k ∧
      ∀ j, j < xs.length → j < ys.length → (∀ i, i < j → pairEq xs ys i = true) → pairEq xs ys j = false → leD (xs.getD j .none) (ys.getD j .none) = some (atD leD xs ys j) := first_of (f := leD) (g := leDs) (c := fun a b => decide (a ≤ b)) (by simp [leDs]) (by simp [leDs]) (by simp [leDs]) (by simp) (by intros; simp [leDs]) xs ys k h
theorem depth_pos : ∀ d : PyData, (d matches .tuple _) = true → 0 < d.depth
  | .tuple _, _ => by simp [PyData.depth]
theorem reads_at {h : Heap} : ∀ {xs : List PyData} {vs : List Value} {as : List Addr}, ReadsAll h vs xs as → ∀ j (a : j < vs.length), ∃ bs, Reads h vs[j] (xs.getD j .none) bs
  | _, _, _, .nil, j, a => absurd a (Nat.not_lt_zero _)
  | _, _, _, .cons r rs, 0, a => ⟨_, by simpa using r⟩
  | _, _, _, .cons r rs, j + 1, a => by
    obtain ⟨bs, z⟩ := reads_at rs j (by simpa using a)
    exact ⟨bs, by simpa using z⟩
theorem lay_at : ∀ {xs : List PyData}, PyData.canLayAll0 xs = true → ∀ j, (xs.getD j .none).canLay0 = true
  | [], _, j => by simp [PyData.canLay0]
  | x :: xs, h, 0 => by
    have h' : x.canLay0 = true ∧ PyData.canLayAll0 xs = true := by simpa [PyData.canLayAll0] using h
    simpa using h'.1
  | x :: xs, h, j + 1 => by
    have h' : x.canLay0 = true ∧ PyData.canLayAll0 xs = true := by simpa [PyData.canLayAll0] using h
    simpa using lay_at h'.2 j
theorem dep_at : ∀ (xs : List PyData) j, (xs.getD j .none).depth ≤ PyData.depthAll xs
  | [], j => by simp [PyData.depth]
  | x :: xs, 0 => by simp [PyData.depthAll]; omega
  | x :: xs, j + 1 => by
    have := dep_at xs j
    simp [PyData.depthAll]
    simp at this
    omega
theorem rcLtD : ∀ (n : Nat) (da db : PyData) (A : Around) (s : Shared) (a b : Value) (as bs : List Addr) (k : Bool), da.depth ≤ n → Reads s.heap a da as → Reads s.heap b db bs → da.canLay0 = true → db.canLay0 = true → ltD da db = some k →
    A.units + n < cLine → RcLt A s a b k := by
  intro n
  induction n with
  | zero =>
    intro da db A s a b as bs k hn ra rb ca cb hk room
    cases da with
    | int i =>
      cases db with
      | int j =>
        cases ra; cases rb
        have : decide (i < j) = k := by simpa [ltD] using hk
        subst this
        exact fun prog w E Q h => lt_int h
      | _ => simp [ltD] at hk
    | str x =>
      cases db with
      | str y =>
        cases ra; cases rb
        have : decide (x.cps.toList < y.cps.toList) = k := by simpa [ltD] using hk
        subst this
        exact fun prog w E Q h => P.lt_str h
      | _ => simp [ltD] at hk
    | tuple xs => simp [PyData.depth] at hn
    | _ => cases db <;> simp [ltD] at hk
  | succ n ih =>
    intro da db A s a b as bs k hn ra rb ca cb hk room
    cases da with
    | int i =>
      cases db with
      | int j =>
        cases ra; cases rb
        have : decide (i < j) = k := by simpa [ltD] using hk
        subst this
        exact fun prog w E Q h => lt_int h
      | _ => simp [ltD] at hk
    | str x =>
      cases db with
      | str y =>
        cases ra; cases rb
        have : decide (x.cps.toList < y.cps.toList) = k := by simpa [ltD] using hk
        subst this
        exact fun prog w E Q h => P.lt_str h
      | _ => simp [ltD] at hk
    | tuple xs =>
      cases db with
      | tuple ys =>
        have hk' : ltDs xs ys = some k := by simpa [ltD] using hk
        have hd : PyData.depthAll xs ≤ n := by simp [PyData.depth] at hn; omega
        have ca' : PyData.canLayAll0 xs = true := by simpa [PyData.canLay0] using ca
        have cb' : PyData.canLayAll0 ys = true := by simpa [PyData.canLay0] using cb
        cases ra with
        | @tuple l o vs m _ as₁ h1 h2 h3 h4 =>
          cases rb with
          | @tuple l' o' ws m' _ bs₁ k1 k2 k3 k4 =>
            have n1 : vs.size = xs.length := by simpa using ReadsAll.length _ _ _ h4
            have n2 : ws.size = ys.length := by simpa using ReadsAll.length _ _ _ k4
            obtain ⟨f1, f2⟩ := first_lt hk'
            rw [← f1, ← n1, ← n2]
            have rm : A.in1.units + n < cLine := by show A.units + 1 + n < cLine; omega
            refine rcLt_tups ⟨_, h1, h2, _, h3⟩ ⟨_, k1, k2, _, k3⟩ (by omega) (fun j j1 j2 => ?_) fun j j1 j2 all hj => ?_
            · have z := eqAt_readsAll xs ys A.in1 s vs.toList ws.toList _ _ h4 k4 ca' cb' (by omega) j (by simpa using j1) (by simpa using j2)
              simpa using z
            · obtain ⟨b1, r1⟩ := reads_at h4 j (by simpa using j1)
              obtain ⟨b2, r2⟩ := reads_at k4 j (by simpa using j2)
              have z := ih _ _ A.in1 s _ _ _ _ _ (Nat.le_trans (dep_at xs j) hd) r1 r2 (lay_at ca' j) (lay_at cb' j) (f2 j (by omega) (by omega) all hj) rm
              simpa using z
      | _ => simp [ltD] at hk
    | _ => cases db <;> simp [ltD] at hk
theorem rcLeD : ∀ (n : Nat) (da db : PyData) (A : Around) (s : Shared) (a b : Value) (as bs : List Addr) (k : Bool), da.depth ≤ n → Reads s.heap a da as → Reads s.heap b db bs → da.canLay0 = true → db.canLay0 = true → leD da db = some k →
    A.units + n < cLine → RcOp .LtE A s a b k := by
  intro n
  induction n with
  | zero =>
    intro da db A s a b as bs k hn ra rb ca cb hk room
    cases da with
    | int i =>
      cases db with
      | int j =>
        cases ra; cases rb
        have : decide (i ≤ j) = k := by simpa [leD] using hk
        subst this
        exact fun prog w E Q h => le_int h
      | _ => simp [leD] at hk
    | str x =>
      cases db with
      | str y =>
        cases ra; cases rb
        have : (!decide (y.cps.toList < x.cps.toList)) = k := by simpa [leD] using hk
        subst this
        exact fun prog w E Q h => P.le_str h
      | _ => simp [leD] at hk
    | tuple xs => simp [PyData.depth] at hn
    | _ => cases db <;> simp [leD] at hk
  | succ n ih =>
    intro da db A s a b as bs k hn ra rb ca cb hk room
    cases da with
    | int i =>
      cases db with
      | int j =>
        cases ra; cases rb
        have : decide (i ≤ j) = k := by simpa [leD] using hk
        subst this
        exact fun prog w E Q h => le_int h
      | _ => simp [leD] at hk
    | str x =>
      cases db with
      | str y =>
        cases ra; cases rb
        have : (!decide (y.cps.toList < x.cps.toList)) = k := by simpa [leD] using hk
        subst this
        exact fun prog w E Q h => P.le_str h
      | _ => simp [leD] at hk
    | tuple xs =>
      cases db with
      | tuple ys =>
        have hk' : leDs xs ys = some k := by simpa [leD] using hk
        have hd : PyData.depthAll xs ≤ n := by simp [PyData.depth] at hn; omega
        have ca' : PyData.canLayAll0 xs = true := by simpa [PyData.canLay0] using ca
        have cb' : PyData.canLayAll0 ys = true := by simpa [PyData.canLay0] using cb
        cases ra with
        | @tuple l o vs m _ as₁ h1 h2 h3 h4 =>
          cases rb with
          | @tuple l' o' ws m' _ bs₁ k1 k2 k3 k4 =>
            have n1 : vs.size = xs.length := by simpa using ReadsAll.length _ _ _ h4
            have n2 : ws.size = ys.length := by simpa using ReadsAll.length _ _ _ k4
            obtain ⟨f1, f2⟩ := first_le hk'
            rw [← f1, ← n1, ← n2]
            have rm : A.in1.units + n < cLine := by show A.units + 1 + n < cLine; omega
            refine rcLe_tups ⟨_, h1, h2, _, h3⟩ ⟨_, k1, k2, _, k3⟩ (by omega) (fun j j1 j2 => ?_) fun j j1 j2 all hj => ?_
            · have z := eqAt_readsAll xs ys A.in1 s vs.toList ws.toList _ _ h4 k4 ca' cb' (by omega) j (by simpa using j1) (by simpa using j2)
              simpa using z
            · obtain ⟨b1, r1⟩ := reads_at h4 j (by simpa using j1)
              obtain ⟨b2, r2⟩ := reads_at k4 j (by simpa using j2)
              have z := ih _ _ A.in1 s _ _ _ _ _ (Nat.le_trans (dep_at xs j) hd) r1 r2 (lay_at ca' j) (lay_at cb' j) (f2 j (by omega) (by omega) all hj) rm
              simpa using z
      | _ => simp [leD] at hk
    | _ => cases db <;> simp [leD] at hk
end ZL

namespace ZL
open PySem PySem.Spec PyProof.Rows L2
/-! ### tuple * 0, tuple * 1 -/
theorem tuple_mul0 (l : Addr) (items : Array Value) (n : Nat) (dd : Option Addr) (sl : Array (Option Value)) (x : Int) (u : Tok) (c0 : (decide (x < -(2 ^ 63)) || decide (x ≥ 2 ^ 63)) = false) (c1 : (items.isEmpty || x == 1) = false) (c2 : (decide (x ≤ 0) || items.isEmpty) = true) :
    Meets (Builtin.«tuple.__mul__» ⟨[.ref l, .int x u], []⟩) (fun _ R s => s.heap.get? l = some { cls := .type "tuple", dict := dd, data := .seq items n, slots := sl } ∧
      R (.ok (.ret (Value.ref s.heap.objs.size))) { s with heap := s.heap.push { cls := Value.type "tuple", data := Data.seq #[] }, toks := s.toks }) :=
  .of_wp fun prog w A R s h => by
    obtain ⟨hp, g, d, tk, os⟩ := s
    obtain ⟨hl, h⟩ := h
    have f1 := AutoSeq1.idx_int
    wp_walk using wpAny_loadPart' hl
    repeat (first
      | (refine wpAny_ite_false (decide_eq_false (by rw [c0]; exact Bool.false_ne_true)) ?_; wp_walk using wpAny_loadPart' hl)
      | (refine wpAny_ite_false (decide_eq_false (by rw [c1]; exact Bool.false_ne_true)) ?_; wp_walk using wpAny_loadPart' hl)
      | (refine wpAny_ite_true (decide_eq_true c2) ?_; wp_walk using wpAny_loadPart' hl))
    exact ⟨_, rfl, h⟩
theorem tuple_mul1 (l : Addr) (items : Array Value) (n : Nat) (dd : Option Addr) (sl : Array (Option Value)) (x : Int) (u : Tok) (c0 : (decide (x < -(2 ^ 63)) || decide (x ≥ 2 ^ 63)) = false) (c1 : (items.isEmpty || x == 1) = true) :
    Meets (Builtin.«tuple.__mul__» ⟨[.ref l, .int x u], []⟩) (fun _ R s => s.heap.get? l = some { cls := .type "tuple", dict := dd, data := .seq items n, slots := sl } ∧
      R (.ok (.ret (Value.ref l))) s) :=
  .of_wp fun prog w A R s h => by
    obtain ⟨hp, g, d, tk, os⟩ := s
    obtain ⟨hl, h⟩ := h
    have f1 := AutoSeq1.idx_int
    wp_walk using wpAny_loadPart' hl
    repeat (first
      | (refine wpAny_ite_false (decide_eq_false (by rw [c0]; exact Bool.false_ne_true)) ?_; wp_walk using wpAny_loadPart' hl)
      | (refine wpAny_ite_true (decide_eq_true c1) ?_; wp_walk using wpAny_loadPart' hl))
    exact ⟨_, rfl, h⟩
def rRepT0 (K : PySem.W.Frag) : R2 := fun x y H Q => ∃ l k xs, x = .ref l ∧ y = .int k ∧ SqT K H l xs ∧ xs ≠ [] ∧ -1000 ≤ k ∧ k ≤ 0 ∧ ∀ p H', H p = none → ZTS.LaidT ZL.keyV H p [] H' → Q (.ref p) H'
def rRepT1 (K : PySem.W.Frag) : R2 := fun x y H Q => ∃ l xs, x = .ref l ∧ y = .int 1 ∧ SqT K H l xs ∧ Q (.ref l) H
section
variable {X : Cx}
theorem op_repT0 : OpR X (binaryOp .Mult) (rRepT0 X.K) := by
  intro pins s σ H x y v u Q I rx ry h
  obtain ⟨l, k, xs, rfl, rfl, hT, hne, h1, h2, q⟩ := h
  cases rx
  obtain ⟨t, rfl⟩ := ry
  obtain ⟨its, r, ⟨⟨cls, dd, data, sl⟩, ho, hc, n, hd⟩, hs⟩ := I.tuple hT
  simp only at hc hd
  subst hc hd
  have hle : its.length = xs.length := r.length.symm
  have hn : its ≠ [] := fun e => hne (by
    rw [e] at hle
    exact List.eq_nil_of_length_eq_zero hle.symm)
  have hi : its.toArray.isEmpty = false := by
    cases its with
    | nil => exact absurd rfl hn
    | cons a b => rfl
  have c0 : (decide (k < -(2 ^ 63)) || decide (k ≥ 2 ^ 63)) = false := by
    rw [decide_eq_false (by omega), decide_eq_false (by omega)] <;> rfl
  have c1 : (its.toArray.isEmpty || k == 1) = false := by
    rw [hi, Bool.false_or]
    exact beq_eq_false_iff_ne.mpr (by omega)
  have c2 : (decide (k ≤ 0) || its.toArray.isEmpty) = true := by
    rw [hi, Bool.or_false]
    exact decide_eq_true (by omega)
  refine wpAny_binaryOp_repeat_ref (T := "tuple") (U := "int") (by decide) ⟨_, ho, rfl⟩ (fun s' => typeIs_int s' k t) noFill_tuple_mul F.fills_int_mul F.slot_int_rmul repeat_tuple F.slot_int_index.lookup
    (call_meets F.slot_int_rmul (typeIs_int s k t) F.entry_int_rmul (F.args_int_rmul_2 _ _) (int_rmul_tuple k t l its.toArray n dd sl)
      ⟨ho, rfl, ⟨_, ho, rfl⟩, call_meets F.slot_tuple_mul ⟨_, ho, rfl⟩ F.entry_tuple_mul (F.args_tuple_mul_2 _ _) (tuple_mul0 l its.toArray n dd sl k t c0 c1 c2) ⟨ho, ?_⟩⟩)
  obtain ⟨H', la, J⟩ := ZTS.laid_inv (tk := s.toks) (p := s.heap.objs.size) ZL.keyV I (its := []) (xs := []) (fun b ob q => Heap.get?_push_of_some _ q) (Nat.le_refl _) (Heap.get?_push_size _ rfl) .nil (Nat.zero_le _)
  exact ⟨.ref s.heap.objs.size, H', J, rfl, q _ H' (I.hok.fresh (Nat.le_refl _)) la⟩
/-- t * k, k at least 2 -/
def rRepS (K : PySem.W.Frag) : R2 := fun x y H Q => ∃ l k xs, x = .ref l ∧ y = .int k ∧ SqT K H l xs ∧ xs ≠ [] ∧ 2 ≤ k ∧ k ≤ 1000 ∧ xs.length ≤ 1000 ∧ ∀ p H', H p = none → ZTS.LaidT ZL.keyV H p (List.replicate k.toNat xs).flatten H' → Q (.ref p) H'
theorem op_repS : OpR X (binaryOp .Mult) (rRepS X.K) := by
  intro pins s σ H x y v u Q I rx ry h
  obtain ⟨l, k, xs, rfl, rfl, hT, hne, h1, h2, hz, q⟩ := h
  cases rx
  obtain ⟨t, rfl⟩ := ry
  obtain ⟨its, r, ⟨⟨cls, dd, data, sl⟩, ho, hc, n, hd⟩, hs⟩ := I.tuple hT
  simp only at hc hd
  subst hc hd
  have le : its.length = xs.length := r.length.symm
  have em : its.toArray.isEmpty = false := by
    cases its with
    | nil => exact absurd (List.eq_nil_of_length_eq_zero le.symm) hne
    | cons a b => rfl
  have sz : its.toArray.size = xs.length := by rw [List.size_toArray, le]
  have prod : k.toNat * xs.length ≤ 1000 * 1000 := Nat.mul_le_mul (by omega) hz
  have prodI : ((its.toArray.size : Nat) : Int) * k ≤ 1000000 := by
    have : ((xs.length : Nat) : Int) * k ≤ 1000 * k := Int.mul_le_mul_of_nonneg_right (by omega) (by omega)
    rw [sz]; omega
  have lim : (List.replicate k.toNat its).flatten.length ≤ sizeLine := by
    rw [PyProof.Rows.lm_len_rep_flat, le, sizeLine_eq]; omega
  have lim2 : (List.replicate k.toNat xs).flatten.length ≤ sizeLine := by
    rw [PyProof.Rows.lm_len_rep_flat, sizeLine_eq]; omega
  have d0 : (decide (k < -(2 ^ 63)) || decide (k ≥ 2 ^ 63)) = false := by simp; omega
  have d1 : (its.toArray.isEmpty || k == 1) = false := by rw [em, Bool.false_or]; exact beq_eq_false_iff_ne.mpr (by omega)
  have d2 : (decide (k ≤ 0) || its.toArray.isEmpty) = false := by rw [em, Bool.or_false]; exact decide_eq_false (by omega)
  have d4 : Builtin.Tuple.tupleTooMany (((its.toArray.size : Nat) : Int) * k) = false := by
    unfold Builtin.Tuple.tupleTooMany; rw [sizeLine_eq]; exact decide_eq_false (by omega)
  have T1 : s.TypeIs (.ref l) "tuple" := ⟨_, ho, rfl⟩
  have M := tuple_mulW l its.toArray n dd sl k t d0 d1 d2 (by omega) d4 (by rw [size_rep, List.size_toArray]; exact lim)
  refine wpAny_binaryOp_repeat_ref (T := "tuple") (U := "int") (by decide) T1 (fun s' => typeIs_int s' k t) noFill_tuple_mul F.fills_int_mul F.slot_int_rmul repeat_tuple F.slot_int_index.lookup
    (call_meets F.slot_int_rmul (typeIs_int s k t) F.entry_int_rmul (F.args_int_rmul_2 _ _) (int_rmul_tuple k t l its.toArray n dd sl) ⟨ho, rfl, T1, call_meets F.slot_tuple_mul T1 F.entry_tuple_mul (F.args_tuple_mul_2 _ _) M ⟨ho, ?_⟩⟩)
  rw [size_rep]
  obtain ⟨H', la, J⟩ := ZTS.laid_inv (tk := s.toks) (p := s.heap.objs.size) ZL.keyV I (fun b ob q => Heap.get?_push_of_some _ q) (Nat.le_refl _) (Heap.get?_push_size _ rfl) (r.rep k.toNat) lim2
  exact ⟨.ref s.heap.objs.size, H', J, rfl, q _ H' (I.hok.fresh (Nat.le_refl _)) la⟩
theorem op_repT1 : OpR X (binaryOp .Mult) (rRepT1 X.K) := by
  intro pins s σ H x y v u Q I rx ry h
  obtain ⟨l, xs, rfl, rfl, hT, q⟩ := h
  cases rx
  obtain ⟨t, rfl⟩ := ry
  obtain ⟨its, r, ⟨⟨cls, dd, data, sl⟩, ho, hc, n, hd⟩, hs⟩ := I.tuple hT
  simp only at hc hd
  subst hc hd
  refine wpAny_binaryOp_repeat_ref (T := "tuple") (U := "int") (by decide) ⟨_, ho, rfl⟩ (fun s' => typeIs_int s' 1 t) noFill_tuple_mul F.fills_int_mul F.slot_int_rmul repeat_tuple F.slot_int_index.lookup
    (call_meets F.slot_int_rmul (typeIs_int s 1 t) F.entry_int_rmul (F.args_int_rmul_2 _ _) (int_rmul_tuple 1 t l its.toArray n dd sl)
      ⟨ho, rfl, ⟨_, ho, rfl⟩, call_meets F.slot_tuple_mul ⟨_, ho, rfl⟩ F.entry_tuple_mul (F.args_tuple_mul_2 _ _) (tuple_mul1 l its.toArray n dd sl 1 t (by decide) (by simp)) ⟨ho, ?_⟩⟩)
  exact ⟨.ref l, H, I, rfl, q⟩
end
end ZL

namespace ZL
open PySem PySem.Spec PyProof.Rows L2

/-! ### data -/
mutual
def Z.toD : Z → PyData
  | .non => .none
  | .bl b => .bool b
  | .int i => .int i
  | .str x => .str x
  | .tup zs => .tuple (Z.toDs zs)
  | .scr ns => .list (ns.map PyData.int)
  | .ref _ => .dict []
  | .err _ => .dict []
def Z.toDs : List Z → List PyData
  | [] => []
  | z :: zs => Z.toD z :: Z.toDs zs
end
theorem toDs_map : ∀ zs : List Z, Z.toDs zs = zs.map Z.toD
  | [] => rfl
  | z :: zs => by unfold Z.toDs; rw [toDs_map zs, List.map_cons]
def dL (d : Z → PyData) (h : ZH) : Z → PyData
  | .ref n => match h[n]? with
    | some (.lst zs) => .list (zs.map d)
    | _ => .dict []
  | z => z.toD
theorem dL_lst {d : Z → PyData} {h : ZH} {n : Nat} {zs : List Z} (e : h[n]? = some (.lst zs)) : dL d h (.ref n) = .list (zs.map d) := by unfold dL; simp only [e]
abbrev dOf (h : ZH) : Z → PyData := dL (dL Z.toD h) h
section
variable {K : PySem.W.Frag} {mg : Str → Option Value} {μ : List Addr} {H : Hp} {h : ZH}
theorem dpAll_ints : ∀ ns : List Int, DpAll K H (ns.map V.int) (ns.map PyData.int)
  | [] => .nil
  | n :: ns => .cons (.int n) (dpAll_ints ns)
mutual
theorem dp_of : ∀ {z : Z} {v : V}, (z.toD).canLay0 = true → RepV K μ H z v → Dp K H v z.toD
  | .non, v, _, r => by unfold RepV at r; subst r; exact .non
  | .bl b, v, _, r => by unfold RepV at r; subst r; exact .bl b
  | .int i, v, _, r => by unfold RepV at r; subst r; exact .int i
  | .str x, v, _, r => by unfold RepV at r; subst r; exact .str x
  | .tup zs, v, c, r => by
    unfold RepV at r
    obtain ⟨a, vs, rfl, t, r⟩ := r
    unfold Z.toD at c ⊢
    exact .tup t.sq (dps_of (by simpa [PyData.canLay0] using c) r)
  | .scr ns, v, c, r => by
    unfold RepV at r
    obtain ⟨a, rfl, r⟩ := r
    unfold Z.toD
    refine .lst ?_ (dpAll_ints ns)
    rcases r with ⟨o, e⟩ | e
    · exact .inl (.inr ⟨o, e⟩)
    · exact .inr e
  | .ref n, v, c, r => by unfold Z.toD at c; simp [PyData.canLay0] at c
theorem dps_of : ∀ {zs : List Z} {vs : List V}, PyData.canLayAll0 (Z.toDs zs) = true → RepVs K μ H zs vs → DpAll K H vs (Z.toDs zs)
  | [], vs, _, r => by unfold RepVs at r; subst r; exact .nil
  | z :: zs, vs, c, r => by
    unfold RepVs at r
    obtain ⟨v, w, rfl, r1, r2⟩ := r
    unfold Z.toDs at c ⊢
    have c' : (z.toD).canLay0 = true ∧ PyData.canLayAll0 (Z.toDs zs) = true := by simpa [PyData.canLayAll0] using c
    exact .cons (dp_of c'.1 r1) (dps_of c'.2 r2)
end
theorem dpl_of {d : Z → PyData} (R : RelH K mg μ H h) (hd : ∀ z v, (d z).canLay0 = true → RepV K μ H z v → Dp K H v (d z)) : ∀ {z : Z} {v : V}, (dL d h z).canLay0 = true → RepV K μ H z v → Dp K H v (dL d h z) := by
  intro z v c r
  unfold dL at c ⊢
  split at c
  · rename_i n
    split at c
    · rename_i zs e
      obtain ⟨a, ha, o⟩ := R.at e
      obtain ⟨vs, e1, rv⟩ := o
      unfold RepV at r
      obtain ⟨b, rfl, hb⟩ := r
      rw [ha] at hb; cases hb

      refine .lst (SqL.of e1) ?_
      have c2 : PyData.canLayAll0 (zs.map d) = true := by simpa [PyData.canLay0] using c
      clear e c ha e1
      induction zs generalizing vs with
      | nil => unfold RepVs at rv; subst rv; exact .nil
      | cons z zs ih =>
        unfold RepVs at rv
        obtain ⟨v, w, rfl, r1, r2⟩ := rv
        have c' : (d z).canLay0 = true ∧ PyData.canLayAll0 (zs.map d) = true := by simpa [PyData.canLayAll0] using c2
        exact .cons (hd z v c'.1 r1) (ih _ r2 c'.2)
    · simp [PyData.canLay0] at c
  · exact dp_of c r
theorem dpo_of (R : RelH K mg μ H h) {z : Z} {v : V} (c : (dOf h z).canLay0 = true) (r : RepV K μ H z v) : Dp K H v (dOf h z) :=
  dpl_of R (fun z v c r => dpl_of R (fun z v c r => dp_of c r) c r) c r
end


/-! ### operators by values -/
section
variable {X : Cx}
theorem rep_bl {K : PySem.W.Frag} {μ : List Addr} {H : Hp} {b : Bool} : RepV K μ H (.bl b) (.bl b) := by unfold RepV; rfl
theorem rep_int {K : PySem.W.Frag} {μ : List Addr} {H : Hp} {i : Int} : RepV K μ H (.int i) (.int i) := by unfold RepV; rfl
theorem rep_str {K : PySem.W.Frag} {μ : List Addr} {H : Hp} {x : Str} : RepV K μ H (.str x) (.str x) := by unfold RepV; rfl
theorem rep_non {K : PySem.W.Frag} {μ : List Addr} {H : Hp} : RepV K μ H .non .non := by unfold RepV; rfl
theorem of_int {K : PySem.W.Frag} {μ : List Addr} {H : Hp} {i : Int} {v : V} (r : RepV K μ H (.int i) v) : v = .int i := by unfold RepV at r; exact r
theorem of_str {K : PySem.W.Frag} {μ : List Addr} {H : Hp} {i : Str} {v : V} (r : RepV K μ H (.str i) v) : v = .str i := by unfold RepV at r; exact r
theorem of_bl {K : PySem.W.Frag} {μ : List Addr} {H : Hp} {i : Bool} {v : V} (r : RepV K μ H (.bl i) v) : v = .bl i := by unfold RepV at r; exact r
theorem of_non {K : PySem.W.Frag} {μ : List Addr} {H : Hp} {v : V} (r : RepV K μ H .non v) : v = .non := by unfold RepV at r; exact r
theorem of_tup {K : PySem.W.Frag} {μ : List Addr} {H : Hp} {zs : List Z} {v : V} (r : RepV K μ H (.tup zs) v) : ∃ a vs, v = .ref a ∧ TupA K H a vs ∧ RepVs K μ H zs vs := by unfold RepV at r; exact r
theorem of_ref {K : PySem.W.Frag} {μ : List Addr} {H : Hp} {n : Nat} {v : V} (r : RepV K μ H (.ref n) v) : ∃ a, v = .ref a ∧ μ[n]? = some a := by unfold RepV at r; exact r
theorem of_lst {K : PySem.W.Frag} {mg : Str → Option Value} {μ : List Addr} {H : Hp} {h : ZH} {n : Nat} {zs : List Z} {v : V} (R : RelH K mg μ H h) (e : h[n]? = some (.lst zs)) (r : RepV K μ H (.ref n) v) :
    ∃ a vs, v = .ref a ∧ μ[n]? = some a ∧ H a = some (.lst vs) ∧ RepVs K μ H zs vs := by
  obtain ⟨a, rfl, ha⟩ := of_ref r
  obtain ⟨b, hb, vs, e1, rv⟩ := R.at e
  rw [ha] at hb; cases hb
  exact ⟨a, vs, rfl, ha, e1, rv⟩

/-- a pure answer -/
theorem Fol.here {K : PySem.W.Frag} {mg : Str → Option Value} {μ : List Addr} {H : Hp} {h : ZH} {P : PZ} {Q : VK} (f : Fol K mg μ H P Q) (R : RelH K mg μ H h) {z : Z} {v : V} (p : P z h) (r : RepV K μ H z v) : Q v H := f z h μ H v p (Ext.refl _ _) R r

def oAdd : Z2 := fun a b h P => match a, b with
  | .int i, .int j => P (.int (i + j)) h
  | .str x, .str y => x.length + y.length ≤ sizeLine ∧ P (.str (x ++ y)) h
  | .tup xs, .tup ys => xs.length + ys.length ≤ sizeLine ∧ P (.tup (xs ++ ys)) h
  | .ref n, .ref m => (match h[n]?, h[m]? with
    | some (.lst xs), some (.lst ys) => xs.length + ys.length ≤ sizeLine ∧ P (.ref h.length) (h ++ [.lst (xs ++ ys)])
    | _, _ => False)
  | .int i, .bl k => P (.int (i + b2i k)) h
  | _, _ => False
theorem op_addZ : OpZ X (binaryOp .Add) oAdd := by
  refine ⟨_, op_add.or (op_add_str.or ((ZTS.op_catS (kl := keyV)).or (op_cat.or op_add_ib))), fun μ H h a b x y P Q R ra rb o f => ?_⟩
  unfold oAdd at o
  split at o
  · cases of_int ra; cases of_int rb
    exact .inl ⟨_, _, rfl, rfl, f.here R o rep_int⟩
  · cases of_str ra; cases of_str rb
    exact .inr (.inl ⟨_, _, rfl, rfl, o.1, f.here R o.2 rep_str⟩)
  · obtain ⟨p, vs, rfl, t, r⟩ := of_tup ra
    obtain ⟨q, ws, rfl, t', r'⟩ := of_tup rb
    obtain ⟨l, o⟩ := o
    refine .inr (.inr (.inl ⟨p, q, vs, ws, rfl, rfl, t.sq, t'.sq, by rw [← r.length, ← r'.length]; exact l, fun e => ?_, fun _ e => ?_, fun _ _ => fol_tup R (r.append r') o f⟩))
    · refine f.here R o ?_
      have : _ = ([] : List Z) := List.eq_nil_of_length_eq_zero (by rw [r.length, e]; rfl)
      subst this
      unfold RepV; exact ⟨q, ws, rfl, t', r'⟩
    · refine f.here R o ?_
      have : _ = ([] : List Z) := List.eq_nil_of_length_eq_zero (by rw [r'.length, e]; rfl)
      subst this
      rw [List.append_nil]
      unfold RepV; exact ⟨p, vs, rfl, t, r⟩
  · split at o
    · rename_i e1 e2
      obtain ⟨p, vs, rfl, _, hp, r⟩ := of_lst R e1 ra
      obtain ⟨q, ws, rfl, _, hq, r'⟩ := of_lst R e2 rb
      exact .inr (.inr (.inr (.inl ⟨p, q, vs, ws, rfl, rfl, hp, hq, by rw [← r.length, ← r'.length]; exact o.1, fol_lst R (r.append r') o.2 f⟩)))
    · exact o.elim
  · cases of_int ra; cases of_bl rb
    exact .inr (.inr (.inr (.inr ⟨_, _, rfl, rfl, f.here R o rep_int⟩)))
  · exact o.elim
def oSub : Z2 := fun a b h P => match a, b with
  | .int i, .int j => P (.int (i - j)) h
  | _, _ => False
theorem op_subZ : OpZ X (binaryOp .Sub) oSub := by
  refine ⟨_, op_sub, fun μ H h a b x y P Q R ra rb o f => ?_⟩
  unfold oSub at o
  split at o
  · cases of_int ra; cases of_int rb
    exact ⟨_, _, rfl, rfl, f.here R o rep_int⟩
  · exact o.elim

/-- a rule of an operator over two known values -/
theorem opz_of {f : Value → Value → Sem Value} {o : Z2} {r : R2} (ho : OpR X f r) (h : ∀ μ H h a b x y P Q, RelH X.K X.mg μ H h → RepV X.K μ H a x → RepV X.K μ H b y → o a b h P → Fol X.K X.mg μ H P Q → r x y H Q) : OpZ X f o := ⟨r, ho, h⟩

/-- s * n -/
theorem op_mul_str : OpR X (binaryOp .Mult) (fun x y H Q => ∃ (z : Str) (n : Int), x = .str z ∧ y = .int n ∧ 0 ≤ n ∧ z.length * n.toNat ≤ sizeLine ∧ n < 2 ^ 62 ∧ Q (.str ⟨(List.replicate n.toNat z.cps.toList).flatten.toArray⟩) H) := by
  intro pins s σ H x y v u Q I rx ry h
  obtain ⟨z, n, rfl, rfl, h0, hz, h62, q⟩ := h
  obtain ⟨t, rfl⟩ := rx
  obtain ⟨t', rfl⟩ := ry
  have sl : (sizeLine : Nat) = 16777216 := sizeLine_eq
  have fl : ∀ (k : Nat), (List.replicate k z.cps).foldl (· ++ ·) #[] = (List.replicate k z.cps.toList).flatten.toArray := fun k => by
    have gen : ∀ (k : Nat) (acc : Array Nat), (List.replicate k z.cps).foldl (· ++ ·) acc = (acc.toList ++ (List.replicate k z.cps.toList).flatten).toArray := by
      intro k
      induction k with
      | zero => intro acc; simp
      | succ k ih =>
        intro acc
        rw [List.replicate_succ, List.foldl_cons, ih, List.replicate_succ, List.flatten_cons]
        simp
    have := gen k #[]
    simpa using this
  refine PySem.P.mul_str (by simp; omega) (fun h1 _ => ?_) (fun h1 _ => ?_) ?_
  · have hn : 1 ≤ n := by omega
    intro hgt
    have e1 : (z.length : Int) * n ≤ (sizeLine : Int) := by
      have e2 : ((z.length * n.toNat : Nat) : Int) ≤ (sizeLine : Int) := by exact_mod_cast hz
      rw [Int.natCast_mul, Int.toNat_of_nonneg h0] at e2
      exact e2
    have e3 : (z.length : Int) ≤ (2 ^ 63 - 1) / n := by
      rw [Int.le_ediv_iff_mul_le (by omega)]
      omega
    omega
  · unfold Builtin.Str.tooLong
    simp
    omega
  · by_cases h1 : n < 1
    · rw [if_pos h1]
      have : n = 0 := by omega
      subst this
      exact ⟨by decide, .str _, H, I.tok _, ⟨_, rfl⟩, by simpa [Str.empty] using q⟩
    · rw [if_neg h1]
      by_cases h2 : (n == 1 || z.length == 0) = true
      · rw [if_pos h2]
        refine ⟨.str z, H, I, ⟨_, rfl⟩, ?_⟩
        have e : (⟨(List.replicate n.toNat z.cps.toList).flatten.toArray⟩ : Str) = z := by
          simp only [Bool.or_eq_true, beq_iff_eq] at h2
          rcases h2 with h2 | h2
          · subst h2; simp
          · have : z.cps = #[] := Array.eq_empty_of_size_eq_zero h2
            obtain ⟨c⟩ := z
            simp at this
            subst this
            simp
        rw [e] at q
        exact q
      · rw [if_neg h2]
        refine ⟨?_, .str _, H, I.tok _, ⟨_, rfl⟩, ?_⟩
        · rw [fl]
          show (List.replicate n.toNat z.cps.toList).flatten.toArray.size ≤ sizeLine
          rw [List.size_toArray, List.length_flatten, List.map_replicate, List.sum_replicate_nat]
          have : z.cps.toList.length = z.length := by simp [Str.length]
          rw [this, Nat.mul_comm]
          exact hz
        · rw [fl]
          exact q

def strRep (z : Str) (n : Nat) : Str := ⟨(List.replicate n z.cps.toList).flatten.toArray⟩
def oMul : Z2 := fun a b h P => match a, b with
  | .int i, .int j => CMul i j ∧ P (.int (i * j)) h
  | .str x, .int n => 0 ≤ n ∧ x.length * n.toNat ≤ sizeLine ∧ n < 2 ^ 62 ∧ P (.str (strRep x n.toNat)) h
  | .ref m, .int n => (match h[m]? with
    | some (.lst xs) => 0 ≤ n ∧ n < 2 ^ 62 ∧ xs.length * n.toNat ≤ sizeLine ∧ P (.ref h.length) (h ++ [.lst (List.replicate n.toNat xs).flatten])
    | _ => False)
  | .tup xs, .int n => xs ≠ [] ∧ 0 ≤ n ∧ n ≤ 1000 ∧ xs.length ≤ 1000 ∧ P (.tup (List.replicate n.toNat xs).flatten) h
  | _, _ => False
theorem RepVs.rep {K : PySem.W.Frag} {μ : List Addr} {H : Hp} {zs : List Z} {vs : List V} (r : RepVs K μ H zs vs) : ∀ n : Nat, RepVs K μ H (List.replicate n zs).flatten (List.replicate n vs).flatten
  | 0 => by simpa using RepVs.nil
  | n + 1 => by
    rw [List.replicate_succ, List.replicate_succ, List.flatten_cons, List.flatten_cons]
    exact r.append (RepVs.rep r n)
theorem op_mulZ : OpZ X (binaryOp .Mult) oMul := by
  refine ⟨_, op_mul.or (op_mul_str.or (op_rep.or (op_repS.or (op_repT0.or op_repT1)))), fun μ H h a b x y P Q R ra rb o f => ?_⟩
  unfold oMul at o
  split at o
  · cases of_int ra; cases of_int rb
    exact .inl ⟨_, _, rfl, rfl, o.1, f.here R o.2 rep_int⟩
  · cases of_str ra; cases of_int rb
    exact .inr (.inl ⟨_, _, rfl, rfl, o.1, o.2.1, o.2.2.1, f.here R o.2.2.2 rep_str⟩)
  · split at o
    · rename_i e1
      obtain ⟨p, vs, rfl, _, hp, r⟩ := of_lst R e1 ra
      cases of_int rb
      obtain ⟨o1, o2, o3, o4⟩ := o
      exact .inr (.inr (.inl ⟨p, _, vs, rfl, rfl, hp, by omega, by omega, by rw [← r.length]; exact o3, fol_lst R (r.rep _) o4 f⟩))
    · exact o.elim
  · obtain ⟨p, vs, rfl, t, r⟩ := of_tup ra
    cases of_int rb
    obtain ⟨o1, o2, o3, o4, o5⟩ := o
    have hl := r.length
    have hne : vs ≠ [] := fun e => o1 (by rw [e] at hl; exact List.eq_nil_of_length_eq_zero hl)
    rename_i xs n
    by_cases h2 : 2 ≤ n
    · exact .inr (.inr (.inr (.inl ⟨p, _, vs, rfl, rfl, t.sq, hne, h2, o3, by rw [← hl]; exact o4, fol_tup R (r.rep _) o5 f⟩)))
    · by_cases h1 : n = 1
      · subst h1
        have o5 : P (.tup xs) h := by simpa using o5
        exact .inr (.inr (.inr (.inr (.inr ⟨p, vs, rfl, rfl, t.sq, f.here R o5 ra⟩))))
      · have h0 : n = 0 := by omega
        subst h0
        have o5 : P (.tup []) h := by simpa using o5
        exact .inr (.inr (.inr (.inr (.inl ⟨p, _, vs, rfl, rfl, t.sq, hne, by omega, by omega, fol_tup R RepVs.nil o5 f⟩))))
  · exact o.elim
def oMod : Z2 := fun a b h P => match a, b with
  | .int i, .int j => 0 < j ∧ P (.int (i % j)) h
  | _, _ => False
theorem op_modZ : OpZ X (binaryOp .Mod) oMod := by
  refine ⟨_, op_mod, fun μ H h a b x y P Q R ra rb o f => ?_⟩
  unfold oMod at o
  split at o
  · cases of_int ra; cases of_int rb
    exact ⟨_, _, rfl, rfl, o.1, f.here R o.2 rep_int⟩
  · exact o.elim
def oFdiv : Z2 := fun a b h P => match a, b with
  | .int i, .int j => CDiv i j ∧ P (.int (i / j)) h
  | _, _ => False
theorem op_fdivZ : OpZ X (binaryOp .FloorDiv) oFdiv := by
  refine ⟨_, op_fdiv, fun μ H h a b x y P Q R ra rb o f => ?_⟩
  unfold oFdiv at o
  split at o
  · cases of_int ra; cases of_int rb
    exact ⟨_, _, rfl, rfl, o.1, f.here R o.2 rep_int⟩
  · exact o.elim
def oPow : Z2 := fun a b h P => match a, b with
  | .int i, .int j => CPow i j ∧ P (.int (i ^ j.toNat)) h
  | _, _ => False
theorem op_powZ : OpZ X (binaryOp .Pow) oPow := by
  refine ⟨_, op_pow, fun μ H h a b x y P Q R ra rb o f => ?_⟩
  unfold oPow at o
  split at o
  · cases of_int ra; cases of_int rb
    exact ⟨_, _, rfl, rfl, o.1, f.here R o.2 rep_int⟩
  · exact o.elim

/-! comparisons -/
abbrev okD (h : ZH) (z : Z) : Prop := SeqAt.shaped (dOf h z) = true
def zEqB (h : ZH) (a b : Z) : Bool := PyData.eqv (dOf h a) (dOf h b)
def oEq : Z2 := fun a b h P => match a, b with
  | .int i, .int j => P (.bl (decide (i = j))) h
  | .str i, .str j => P (.bl (decide (i = j))) h
  | .bl i, .bl j => P (.bl (decide (i = j))) h
  | a, b => okD h a ∧ okD h b ∧ P (.bl (zEqB h a b)) h
def oNe : Z2 := fun a b h P => match a, b with
  | .int i, .int j => P (.bl (!decide (i = j))) h
  | .str i, .str j => P (.bl (!decide (i = j))) h
  | .bl i, .bl j => P (.bl (!decide (i = j))) h
  | a, b => okD h a ∧ okD h b ∧ P (.bl (!zEqB h a b)) h
theorem dec_int' {i j : Int} : decide (V.int i = V.int j) = decide (i = j) := by rw [dec_int, Bool.beq_eq_decide_eq]
theorem dec_str' {i j : Str} : decide (V.str i = V.str j) = decide (i = j) := by rw [dec_str, Bool.beq_eq_decide_eq]
theorem dec_bl' {i j : Bool} : decide (V.bl i = V.bl j) = decide (i = j) := by rw [dec_bl, Bool.beq_eq_decide_eq]
theorem op_eqZ (hu : X.A.units + 64 < cLine) : OpZ X (compareOp .Eq) oEq := by
  refine ⟨_, op_eq.or (op_eqD hu), fun μ H h a b x y P Q R ra rb o f => ?_⟩
  unfold oEq at o
  split at o
  · cases of_int ra; cases of_int rb
    exact .inl ⟨rfl, by rw [dec_int']; exact f.here R o rep_bl⟩
  · cases of_str ra; cases of_str rb
    exact .inl ⟨rfl, by rw [dec_str']; exact f.here R o rep_bl⟩
  · cases of_bl ra; cases of_bl rb
    exact .inl ⟨rfl, by rw [dec_bl']; exact f.here R o rep_bl⟩
  · exact .inr ⟨_, _, dpo_of R (SeqAt.canLay_of_shaped o.1) ra, dpo_of R (SeqAt.canLay_of_shaped o.2.1) rb, o.1, o.2.1, f.here R o.2.2 rep_bl⟩
theorem op_neZ (hu : X.A.units + 64 < cLine) : OpZ X (compareOp .NotEq) oNe := by
  refine ⟨_, op_ne.or (op_neD hu), fun μ H h a b x y P Q R ra rb o f => ?_⟩
  unfold oNe at o
  split at o
  · cases of_int ra; cases of_int rb
    exact .inl ⟨rfl, by rw [dec_int']; exact f.here R o rep_bl⟩
  · cases of_str ra; cases of_str rb
    exact .inl ⟨rfl, by rw [dec_str']; exact f.here R o rep_bl⟩
  · cases of_bl ra; cases of_bl rb
    exact .inl ⟨rfl, by rw [dec_bl']; exact f.here R o rep_bl⟩
  · exact .inr ⟨_, _, dpo_of R (SeqAt.canLay_of_shaped o.1) ra, dpo_of R (SeqAt.canLay_of_shaped o.2.1) rb, o.1, o.2.1, f.here R o.2.2 rep_bl⟩
/-- < of data -/
theorem op_ltD (hu : X.A.units + 64 < cLine) : OpR X (compareOp .Lt) (fun x y H Q => ∃ d e k, Dp X.K H x d ∧ Dp X.K H y e ∧ SeqAt.shaped d = true ∧ SeqAt.shaped e = true ∧ ltD d e = some k ∧ Q (.bl k) H) := by
  intro pins s σ H x y v u Q I rx ry h
  obtain ⟨d, e, k, hd, he, sd, se, hk, q⟩ := h
  obtain ⟨as, r1⟩ := Dp.reads I d x v hd rx
  obtain ⟨bs, r2⟩ := Dp.reads I e y u he ry
  exact rcLtD 64 d e X.A s v u as bs k (SeqAt.depth_of_shaped sd) r1 r2 (SeqAt.canLay_of_shaped sd) (SeqAt.canLay_of_shaped se) hk hu X.prog X.w _ _ ⟨.bl _, H, I, rfl, q⟩
theorem op_leD (hu : X.A.units + 64 < cLine) : OpR X (compareOp .LtE) (fun x y H Q => ∃ d e k, Dp X.K H x d ∧ Dp X.K H y e ∧ SeqAt.shaped d = true ∧ SeqAt.shaped e = true ∧ leD d e = some k ∧ Q (.bl k) H) := by
  intro pins s σ H x y v u Q I rx ry h
  obtain ⟨d, e, k, hd, he, sd, se, hk, q⟩ := h
  obtain ⟨as, r1⟩ := Dp.reads I d x v hd rx
  obtain ⟨bs, r2⟩ := Dp.reads I e y u he ry
  exact rcLeD 64 d e X.A s v u as bs k (SeqAt.depth_of_shaped sd) r1 r2 (SeqAt.canLay_of_shaped sd) (SeqAt.canLay_of_shaped se) hk hu X.prog X.w _ _ ⟨.bl _, H, I, rfl, q⟩
theorem op_le_str : OpR X (compareOp .LtE) (fun x y H Q => ∃ i j, x = .str i ∧ y = .str j ∧ Q (.bl (!decide (j.cps.toList < i.cps.toList))) H) := by
  intro pins s σ H x y v u Q I rx ry h
  obtain ⟨i, j, rfl, rfl, q⟩ := h
  obtain ⟨t, rfl⟩ := rx
  obtain ⟨t', rfl⟩ := ry
  exact PySem.P.le_str ⟨.bl _, H, I, rfl, q⟩
def oLt : Z2 := fun a b h P => match a, b with
  | .int i, .int j => P (.bl (decide (i < j))) h
  | .str i, .str j => P (.bl (decide (i.cps.toList < j.cps.toList))) h
  | a, b => okD h a ∧ okD h b ∧ ∃ k, ltD (dOf h a) (dOf h b) = some k ∧ P (.bl k) h
def oLe : Z2 := fun a b h P => match a, b with
  | .int i, .int j => P (.bl (decide (i ≤ j))) h
  | .str i, .str j => P (.bl (!decide (j.cps.toList < i.cps.toList))) h
  | a, b => okD h a ∧ okD h b ∧ ∃ k, leD (dOf h a) (dOf h b) = some k ∧ P (.bl k) h
def oGt : Z2 := fun a b h P => match a, b with
  | .int i, .int j => P (.bl (decide (j < i))) h
  | _, _ => False
def oGe : Z2 := fun a b h P => match a, b with
  | .int i, .int j => P (.bl (decide (j ≤ i))) h
  | _, _ => False
theorem op_ltZ (hu : X.A.units + 64 < cLine) : OpZ X (compareOp .Lt) oLt := by
  refine ⟨_, op_lt.or (op_lt_str.or (op_ltD hu)), fun μ H h a b x y P Q R ra rb o f => ?_⟩
  unfold oLt at o
  split at o
  · cases of_int ra; cases of_int rb
    exact .inl ⟨_, _, rfl, rfl, f.here R o rep_bl⟩
  · cases of_str ra; cases of_str rb
    exact .inr (.inl ⟨_, _, rfl, rfl, f.here R o rep_bl⟩)
  · obtain ⟨o1, o2, k, o3, o4⟩ := o
    exact .inr (.inr ⟨_, _, k, dpo_of R (SeqAt.canLay_of_shaped o1) ra, dpo_of R (SeqAt.canLay_of_shaped o2) rb, o1, o2, o3, f.here R o4 rep_bl⟩)
theorem op_leZ (hu : X.A.units + 64 < cLine) : OpZ X (compareOp .LtE) oLe := by
  refine ⟨_, op_le.or (op_le_str.or (op_leD hu)), fun μ H h a b x y P Q R ra rb o f => ?_⟩
  unfold oLe at o
  split at o
  · cases of_int ra; cases of_int rb
    exact .inl ⟨_, _, rfl, rfl, f.here R o rep_bl⟩
  · cases of_str ra; cases of_str rb
    exact .inr (.inl ⟨_, _, rfl, rfl, f.here R o rep_bl⟩)
  · obtain ⟨o1, o2, k, o3, o4⟩ := o
    exact .inr (.inr ⟨_, _, k, dpo_of R (SeqAt.canLay_of_shaped o1) ra, dpo_of R (SeqAt.canLay_of_shaped o2) rb, o1, o2, o3, f.here R o4 rep_bl⟩)
theorem op_gtZ : OpZ X (compareOp .Gt) oGt := by
  refine ⟨_, op_gt, fun μ H h a b x y P Q R ra rb o f => ?_⟩
  unfold oGt at o
  split at o
  · cases of_int ra; cases of_int rb
    exact ⟨_, _, rfl, rfl, f.here R o rep_bl⟩
  · exact o.elim
theorem op_geZ : OpZ X (compareOp .GtE) oGe := by
  refine ⟨_, op_ge, fun μ H h a b x y P Q R ra rb o f => ?_⟩
  unfold oGe at o
  split at o
  · cases of_int ra; cases of_int rb
    exact ⟨_, _, rfl, rfl, f.here R o rep_bl⟩
  · exact o.elim
/-- is None -/
def zNone : Z → Bool
  | .non => true
  | _ => false
theorem none_iff {K : PySem.W.Frag} {μ : List Addr} {H : Hp} {z : Z} {v : V} (r : RepV K μ H z v) : decide (v = .non) = zNone z := by
  cases z <;> unfold RepV at r
  · subst r; rfl
  · subst r; rfl
  · subst r; rfl
  · subst r; rfl
  · obtain ⟨_, _, rfl, _⟩ := r; rfl
  · obtain ⟨_, rfl, _⟩ := r; rfl
  · obtain ⟨_, rfl, _⟩ := r; rfl
  · subst r; rfl
def oIsN : Z2 := fun a b h P => match b with
  | .non => P (.bl (zNone a)) h
  | _ => False
def oNotN : Z2 := fun a b h P => match b with
  | .non => P (.bl (!zNone a)) h
  | _ => False
theorem op_isZ : OpZ X (compareOp .Is) oIsN := by
  refine ⟨_, op_isN, fun μ H h a b x y P Q R ra rb o f => ?_⟩
  unfold oIsN at o
  split at o
  · cases of_non rb
    exact ⟨rfl, by rw [none_iff ra]; exact f.here R o rep_bl⟩
  · exact o.elim
theorem op_isnotZ : OpZ X (compareOp .IsNot) oNotN := by
  refine ⟨_, op_notN, fun μ H h a b x y P Q R ra rb o f => ?_⟩
  unfold oNotN at o
  split at o
  · cases of_non rb
    exact ⟨rfl, by rw [none_iff ra]; exact f.here R o rep_bl⟩
  · exact o.elim
end
end ZL

namespace ZL
open PySem PySem.Spec PyProof.Rows L2

/-! ### equality of Z, decided -/
mutual
def zeq : Z → Z → Bool
  | .non, .non => true
  | .bl a, .bl b => a == b
  | .int a, .int b => a == b
  | .str a, .str b => a == b
  | .tup a, .tup b => zeqs a b
  | .scr a, .scr b => a == b
  | .ref a, .ref b => a == b
  | .err a, .err b => a == b
  | _, _ => false
def zeqs : List Z → List Z → Bool
  | [], [] => true
  | a :: as, b :: bs => zeq a b && zeqs as bs
  | _, _ => false
end
mutual
theorem zeq_iff : ∀ a b : Z, zeq a b = true ↔ a = b
  | .non, b => by cases b <;> simp [zeq]
  | .bl x, b => by cases b <;> simp [zeq]
  | .int x, b => by cases b <;> simp [zeq]
  | .str x, b => by cases b <;> simp [zeq]
  | .tup xs, b => by
    cases b with
    | tup ys => simp only [zeq, Z.tup.injEq]; exact zeqs_iff xs ys
    | _ => simp [zeq]
  | .scr x, b => by cases b <;> simp [zeq]
  | .ref x, b => by cases b <;> simp [zeq]
  | .err x, b => by cases b <;> simp [zeq]
theorem zeqs_iff : ∀ a b : List Z, zeqs a b = true ↔ a = b
  | [], [] => by simp [zeqs]
  | [], _ :: _ => by simp [zeqs]
  | _ :: _, [] => by simp [zeqs]
  | a :: as, b :: bs => by simp [zeqs, zeq_iff a b, zeqs_iff as bs]
end
instance : DecidableEq Z := fun a b => decidable_of_iff _ (zeq_iff a b)

/-! ### dicts -/
def dget (kvs : List (Z × Z)) (k : Z) : Option Z := (kvs.find? fun p => decide (p.1 = k)).map (·.2)
def dput (kvs : List (Z × Z)) (k v : Z) : List (Z × Z) :=
  if (kvs.any fun p => decide (p.1 = k)) = true then kvs.map fun p => if p.1 = k then (p.1, v) else p else kvs ++ [(k, v)]
def ddel (kvs : List (Z × Z)) (k : Z) : List (Z × Z) := kvs.filter fun p => decide (p.1 ≠ k)
theorem keyZ_inj {a b : Key} : keyZ a = keyZ b ↔ a = b := by
  cases a <;> cases b <;> simp [keyZ]
theorem keysZ_inj {a b : List Key} : a.map keyZ = b.map keyZ ↔ a = b := by
  constructor
  · intro h
    induction a generalizing b with
    | nil => cases b <;> simp_all
    | cons x xs ih =>
      cases b with
      | nil => simp at h
      | cons y ys =>
        simp only [List.map_cons, List.cons.injEq] at h
        rw [keyZ_inj.mp h.1, ih h.2]
  · rintro rfl; rfl
/-- a key of a dict: an int, a text -/
def kOf : Z → Option Key
  | .int i => some (.inl i)
  | .str x => some (.inr x)
  | _ => none
def ksOf : List Z → Option (List Key)
  | [] => some []
  | z :: zs => match kOf z, ksOf zs with
    | some k, some ks => some (k :: ks)
    | _, _ => none
theorem kOf_iff {z : Z} {k : Key} : kOf z = some k ↔ z = keyZ k := by
  cases z <;> cases k <;> simp [kOf, keyZ]
theorem ksOf_iff : ∀ {zs : List Z} {ks : List Key}, ksOf zs = some ks ↔ zs = ks.map keyZ
  | [], ks => by cases ks <;> simp [ksOf]
  | z :: zs, ks => by
    unfold ksOf
    constructor
    · intro h
      split at h
      · rename_i k ks' h1 h2
        cases h
        rw [kOf_iff.mp h1, ksOf_iff.mp h2]; rfl
      · cases h
    · intro h
      cases ks with
      | nil => simp at h
      | cons k ks =>
        simp only [List.map_cons, List.cons.injEq] at h
        rw [kOf_iff.mpr h.1, ksOf_iff.mpr h.2]
section
variable {κ : Type} [DecidableEq κ] {F : κ → Z} (hF : ∀ a b, F a = F b ↔ a = b) {G : Z → V → Prop}
include hF
abbrev PR (F : κ → Z) (G : Z → V → Prop) : (Z × Z) → (κ × V) → Prop := fun p q => p.1 = F q.1 ∧ G p.2 q.2
theorem pr_get {kvs : List (Z × Z)} {l : List (κ × V)} (r : Paired (PR F G) kvs l) (k : κ) : (dget kvs (F k) = none ∧ valV l k = none) ∨ ∃ z v, dget kvs (F k) = some z ∧ valV l k = some v ∧ G z v := by
  induction r with
  | nil => exact .inl ⟨rfl, rfl⟩
  | @cons p q l m h r ih =>
    by_cases e : q.1 = k
    · refine .inr ⟨p.2, q.2, ?_, ?_, h.2⟩
      · unfold dget; rw [List.find?_cons, decide_eq_true (by rw [h.1, e])]; rfl
      · exact valV_pos e
    · have e1 : ¬ p.1 = F k := by rw [h.1, hF]; exact e
      have e2 : dget (p :: l) (F k) = dget l (F k) := by unfold dget; rw [List.find?_cons, decide_eq_false e1]
      rw [e2, valV_neg e]
      exact ih
theorem pr_any {kvs : List (Z × Z)} {l : List (κ × V)} (r : Paired (PR F G) kvs l) (k : κ) : (kvs.any fun p => decide (p.1 = F k)) = l.any fun q => decide (q.1 = k) := by
  induction r with
  | nil => rfl
  | @cons p q l m h r ih => rw [List.any_cons, List.any_cons, ih, h.1]; congr 1; exact decide_eq_decide.mpr (hF _ _)
theorem pr_put {kvs : List (Z × Z)} {l : List (κ × V)} (r : Paired (PR F G) kvs l) (k : κ) {z : Z} {v : V} (g : G z v) : Paired (PR F G) (dput kvs (F k) z) (putK l k v) := by
  have hm : ∀ {kvs : List (Z × Z)} {l : List (κ × V)}, Paired (PR F G) kvs l → Paired (PR F G) (kvs.map fun p => if p.1 = F k then (p.1, z) else p) (l.map fun q => if q.1 = k then (q.1, v) else q) := by
    intro kvs l r
    induction r with
    | nil => exact .nil
    | @cons p q l m h r ih =>
      rw [List.map_cons, List.map_cons]
      refine .cons ?_ ih
      by_cases e : q.1 = k
      · rw [if_pos e, if_pos (by rw [h.1, e])]; exact ⟨h.1, g⟩
      · rw [if_neg e, if_neg (by rw [h.1, hF]; exact e)]; exact h
  have ha : ∀ {kvs : List (Z × Z)} {l : List (κ × V)}, Paired (PR F G) kvs l → Paired (PR F G) (kvs ++ [(F k, z)]) (l ++ [(k, v)]) := by
    intro kvs l r
    induction r with
    | nil => exact .cons ⟨rfl, g⟩ .nil
    | cons h r ih => exact .cons h ih
  unfold dput putK
  rw [pr_any hF r]
  split
  · exact hm r
  · exact ha r
theorem pr_del {kvs : List (Z × Z)} {l : List (κ × V)} (r : Paired (PR F G) kvs l) (k : κ) : Paired (PR F G) (ddel kvs (F k)) (dropK l k) := by
  unfold ddel dropK
  induction r with
  | nil => exact .nil
  | @cons p q l m h r ih =>
    rw [List.filter_cons, List.filter_cons]
    have : decide (p.1 ≠ F k) = decide (q.1 ≠ k) := decide_eq_decide.mpr (by rw [h.1, Ne, Ne, hF])
    rw [this]
    split
    · exact .cons h ih
    · exact ih
end
theorem paired_len {α β : Type} {F : α → β → Prop} {l : List α} {m : List β} (h : Paired F l m) : l.length = m.length := by
  induction h with
  | nil => rfl
  | cons _ _ ih => simp [ih]

/-! the empty dict is of both kinds -/
section
variable {X : Cx} {pins : List (Addr × Obj)} {σ : L2.St} {H : Hp} {s : Shared} {a : Addr}
theorem ok_kt {P : Program} {w : World} {H H' : Hp} {h : Heap} {a : Addr} (o : ObjOk P w H h a (.dK [])) : ObjOk P w H' h a (.dT []) := by
  obtain ⟨_, hs, vs, r, d⟩ := o
  cases r
  obtain ⟨ob, es, ep, h1, h2, h3, h4, h5, _⟩ := d
  refine ⟨Nat.zero_le _, hs, [], .nil, ob, es, ep, h1, h2, h3, ?_, List.nodup_nil⟩
  cases e : es.toList with
  | nil => rfl
  | cons x l => rw [e] at h5; cases h5
theorem ok_tk {P : Program} {w : World} {H H' : Hp} {h : Heap} {a : Addr} (o : ObjOk P w H h a (.dT [])) : ObjOk P w H' h a (.dK []) := by
  obtain ⟨_, hs, xs, r, ob, es, ep, h1, h2, h3, h4, _⟩ := o
  cases r
  have e : es.toList = [] := h4
  refine ⟨Nat.zero_le _, hs, [], .nil, ob, es, ep, h1, h2, h3, fun x hx => ?_, ?_, List.nodup_nil⟩
  · rw [← Array.mem_toList_iff, e] at hx; cases hx
  · rw [e]; exact .nil
theorem Inv.kt (I : Inv X pins σ H s) (e : H a = some (.dK [])) : Inv X pins σ (upd H a (.dT [])) s := by
  obtain ⟨ob, hob⟩ : ∃ ob, s.heap.get? a = some ob := by
    obtain ⟨_, _, _, _, ob, _, _, h1, _⟩ := I.hok a _ e
    exact ⟨ob, h1⟩
  exact I.write (h' := s.heap) (t' := s.toks) (by rw [e]; trivial) (.inl rfl) (fun _ _ _ q => q) ⟨ob, hob⟩ (ok_kt (I.hok a _ e))
theorem Inv.tk (I : Inv X pins σ H s) (e : H a = some (.dT [])) : Inv X pins σ (upd H a (.dK [])) s := by
  obtain ⟨ob, hob⟩ : ∃ ob, s.heap.get? a = some ob := by
    obtain ⟨_, _, _, _, ob, _, _, h1, _⟩ := I.hok a _ e
    exact ⟨ob, h1⟩
  exact I.write (h' := s.heap) (t' := s.toks) (by rw [e]; trivial) (.inl rfl) (fun _ _ _ q => q) ⟨ob, hob⟩ (ok_tk (I.hok a _ e))
theorem upd_back {H : Hp} {a : Addr} {o u : HO} (e : H a = some u) : upd (upd H a o) a u = H := by
  rw [upd_upd]
  funext b
  unfold upd
  split
  · rename_i q; rw [q]; exact e.symm
  · rfl
end
/-- y is a key: a leaf, a tuple of leaves -/
def LeafV (y : V) : Prop := ∃ k : Key, y = kV k
def TupV (H : Hp) (y : V) : Prop := ∃ (b : Addr) (k : List Key), y = .ref b ∧ H b = some (.tup (k.map kV))
/-- what stands in a dict at a key; the empty dict has no key of either kind -/
def DG (H : Hp) (a : Addr) (y : V) (o : Option V) : Prop :=
  DGet H a y o ∨ (o = none ∧ ((H a = some (.dK []) ∧ TupV H y) ∨ (H a = some (.dT []) ∧ LeafV y)))
def DP (H : Hp) (a : Addr) (y v : V) (H' : Hp) : Prop :=
  DPut H a y v H' ∨ (H a = some (.dK []) ∧ ∃ b k, y = .ref b ∧ H b = some (.tup (k.map kV)) ∧ H' = upd H a (.dT [(k, v)])) ∨ (H a = some (.dT []) ∧ ∃ k, y = kV k ∧ H' = upd H a (.dK [(k, v)]))
section
variable {X : Cx} {pins : List (Addr × Obj)} {σ : L2.St} {H H' : Hp} {s : Shared} {a : Addr} {A : Around} {E : Value → Shared → Prop} {y v : V} {u r : Value} {o : Option V}
/-- at the other kind: the same, and back -/
theorem dg_flip (I : Inv X pins σ H s) (g : DG H a y o) : ∃ H1, Inv X pins σ H1 s ∧ DGet H1 a y o ∧ ∀ s', Inv X pins σ H1 s' → Inv X pins σ H s' := by
  rcases g with g | ⟨rfl, ⟨e, b, k, rfl, eb⟩ | ⟨e, k, rfl⟩⟩
  · exact ⟨H, I, g, fun _ z => z⟩
  · have ne : b ≠ a := fun z => by subst z; rw [e] at eb; cases eb
    refine ⟨_, Inv.kt I e, .inr ⟨[], k, b, .inl upd_same, rfl, by rw [upd_ne ne]; exact eb, rfl⟩, fun s' I' => ?_⟩
    have := Inv.tk I' upd_same
    rw [upd_back e] at this
    exact this
  · refine ⟨_, Inv.tk I e, .inl ⟨[], k, .inl upd_same, rfl, rfl⟩, fun s' I' => ?_⟩
    have := Inv.kt I' upd_same
    rw [upd_back e] at this
    exact this
theorem z_in {Q : Value → Shared → Prop} (hu : A.units + 1 < cLine) (I : Inv X pins σ H s) (g : DG H a y o) (ry : RelV y u) (h : ∀ s', Inv X pins σ H s' → Q (.bool o.isSome) s') : wpAny (model X.prog X.w) A (compareOp .In u (.ref a)) Q E s := by
  obtain ⟨H1, I1, g1, back⟩ := dg_flip I g
  exact d_in hu I1 g1 ry fun s' I' => h s' (back s' I')
theorem z_notIn {Q : Value → Shared → Prop} (hu : A.units + 1 < cLine) (I : Inv X pins σ H s) (g : DG H a y o) (ry : RelV y u) (h : ∀ s', Inv X pins σ H s' → Q (.bool (!o.isSome)) s') : wpAny (model X.prog X.w) A (compareOp .NotIn u (.ref a)) Q E s := by
  obtain ⟨H1, I1, g1, back⟩ := dg_flip I g
  exact d_notIn hu I1 g1 ry fun s' I' => h s' (back s' I')
theorem z_set {Q : Unit → Shared → Prop} (hu : A.units + 1 < cLine) (I : Inv X pins σ H s) (g : DP H a y v H') (ry : RelV y u) (rv : RelV v r) (h : ∀ s', Inv X pins σ H' s' → Q () s') : wpAny (model X.prog X.w) A (setItem (.ref a) u r) Q E s := by
  rcases g with g | ⟨e, b, k, rfl, eb, rfl⟩ | ⟨e, k, rfl, rfl⟩
  · exact d_setItem hu I g ry rv h
  · have ne : b ≠ a := fun z => by subst z; rw [e] at eb; cases eb
    refine d_setItem hu (Inv.kt I e) (.inr ⟨[], k, b, upd_same, rfl, by rw [upd_ne ne]; exact eb, by rw [sizeLine_eq]; decide, rfl⟩) ry rv fun s' I' => h s' ?_
    rw [upd_upd] at I'
    exact I'
  · refine d_setItem hu (Inv.tk I e) (.inl ⟨[], k, upd_same, rfl, by rw [sizeLine_eq]; decide, rfl⟩) ry rv fun s' I' => h s' ?_
    rw [upd_upd] at I'
    exact I'
theorem z_get1 {Q : Value → Shared → Prop} (hu : A.units + 1 < cLine) (I : Inv X pins σ H s) (g : DG H a y o) (ry : RelV y u) (h : ∀ w' s', Inv X pins σ H s' → RelV (o.getD .non) w' → Q w' s') : wpAny (model X.prog X.w) A (call (.builtin "dict.get") [.ref a, u]) Q E s := by
  obtain ⟨H1, I1, g1, back⟩ := dg_flip I g
  exact d_get1 hu I1 g1 ry fun w' s' I' => h w' s' (back s' I')
theorem z_get2 {Q : Value → Shared → Prop} {d : V} (hu : A.units + 1 < cLine) (I : Inv X pins σ H s) (g : DG H a y o) (ry : RelV y u) (rd : RelV d r) (h : ∀ w' s', Inv X pins σ H s' → RelV (o.getD d) w' → Q w' s') : wpAny (model X.prog X.w) A (call (.builtin "dict.get") [.ref a, u, r]) Q E s := by
  obtain ⟨H1, I1, g1, back⟩ := dg_flip I g
  exact d_get2 hu I1 g1 ry rd fun w' s' I' => h w' s' (back s' I')
end

/-! ### from Z's dicts -/
def isT : Z → Bool
  | .tup _ => true
  | _ => false
def textZ : Z → Bool
  | .str _ => true
  | _ => false
def keyOk : Z → Bool
  | .tup zs => (ksOf zs).isSome && keyN zs.length (zs.all textZ)
  | z => (kOf z).isSome
/-- a key that may be asked of, or put into, such a dict -/
def dkey (kvs : List (Z × Z)) (k : Z) : Prop := keyOk k = true ∧ ∀ p ∈ kvs, isT p.1 = isT k
theorem isT_key (k : Key) : isT (keyZ k) = false := by cases k <;> rfl
section
variable {K : PySem.W.Frag} {mg : Str → Option Value} {μ : List Addr} {H : Hp} {h : ZH} {kvs : List (Z × Z)} {k : Z} {y : V}
theorem rep_key {q : Key} (r : RepV K μ H (keyZ q) y) : y = kV q := by
  cases q <;> (unfold keyZ RepV at r; exact r)
theorem rep_keys : ∀ {q : List Key} {vs : List V}, RepVs K μ H (q.map keyZ) vs → vs = q.map kV
  | [], vs, r => by unfold RepVs at r; simpa using r
  | x :: xs, vs, r => by
    rw [List.map_cons] at r
    unfold RepVs at r
    obtain ⟨v, w, rfl, h1, h2⟩ := r
    rw [rep_key h1, rep_keys h2]; rfl
theorem text_keys {q : List Key} : (q.map kV).all textK = (q.map keyZ).all textZ := by
  rw [List.all_map, List.all_map]
  congr 1
  funext k
  cases k <;> rfl
theorem keyV_keys {q : List Key} : keyV (q.map kV) = keyN q.length ((q.map keyZ).all textZ) := by
  have h : (q.map kV).all leafK = true := by
    rw [List.all_eq_true]
    intro v m
    obtain ⟨k, _, rfl⟩ := List.mem_map.mp m
    cases k <;> rfl
  unfold keyV
  rw [h, text_keys, List.length_map, Bool.true_and]
/-- the two kinds of keys -/
theorem key_cases (ok : keyOk k = true) (r : RepV K μ H k y) : (isT k = false ∧ ∃ q : Key, k = keyZ q ∧ y = kV q) ∨ (isT k = true ∧ ∃ (q : List Key) (b : Addr), k = .tup (q.map keyZ) ∧ y = .ref b ∧ H b = some (.tup (q.map kV))) := by
  cases k with
  | tup zs =>
    obtain ⟨ok1, ok2⟩ := Bool.and_eq_true_iff.mp (show ((ksOf zs).isSome && keyN zs.length (zs.all textZ)) = true from ok)
    obtain ⟨q, e⟩ := Option.isSome_iff_exists.mp ok1
    obtain ⟨b, vs, rfl, t, rv⟩ := of_tup r
    rw [ksOf_iff.mp e] at rv ⊢
    refine .inr ⟨rfl, q, b, rfl, rfl, ?_⟩
    have hv := rep_keys rv
    rw [← hv]
    rcases t with ⟨_, t⟩ | ⟨c, _⟩
    · exact t
    · exfalso
      rw [hv, keyV_keys] at c
      rw [ksOf_iff.mp e] at ok2
      rw [List.length_map] at ok2
      rw [ok2] at c
      cases c
  | int i => exact .inl ⟨rfl, .inl i, rfl, of_int r⟩
  | str x => exact .inl ⟨rfl, .inr x, rfl, of_str r⟩
  | _ => exact absurd ok (by simp [keyOk, kOf])
theorem kt_kind {l : List (List Key × V)} (r : Paired (TR K μ H) kvs l) : ∀ p ∈ kvs, isT p.1 = true := by
  induction r with
  | nil => simp
  | cons a _ ih => intro p hp; rcases List.mem_cons.mp hp with rfl | hp; rw [a.1]; rfl; exact ih p hp
theorem kk_kind {l : List (Key × V)} (r : Paired (KR K μ H) kvs l) : ∀ p ∈ kvs, isT p.1 = false := by
  induction r with
  | nil => simp
  | cons a _ ih => intro p hp; rcases List.mem_cons.mp hp with rfl | hp; rw [a.1]; exact isT_key _; exact ih p hp
theorem tupKey_inj (a b : List Key) : Z.tup (a.map keyZ) = .tup (b.map keyZ) ↔ a = b := by
  rw [Z.tup.injEq, keysZ_inj]
def OptR (K : PySem.W.Frag) (μ : List Addr) (H : Hp) (z : Option Z) (v : Option V) : Prop := (z = none ∧ v = none) ∨ ∃ a b, z = some a ∧ v = some b ∧ RepV K μ H a b
theorem dict_at {a : Addr} {o : HO} (e : H a = some o) (d : DictR K μ H kvs o) (ok : dkey kvs k) (r : RepV K μ H k y) : ∃ q, DG H a y q ∧ OptR K μ H (dget kvs k) q := by
  rcases d with ⟨l, rfl, d⟩ | ⟨l, rfl, d⟩
  · rcases key_cases ok.1 r with ⟨t, q, rfl, rfl⟩ | ⟨t, q, b, rfl, rfl, eb⟩
    · refine ⟨_, .inl (DGet.k e), ?_⟩
      exact pr_get (F := keyZ) (G := RepV K μ H) (fun a b => keyZ_inj) d q
    · cases kvs with
      | nil => cases d; exact ⟨none, .inr ⟨rfl, .inl ⟨e, b, q, rfl, eb⟩⟩, .inl ⟨rfl, rfl⟩⟩
      | cons p r => have z := ok.2 p List.mem_cons_self; rw [kk_kind d p List.mem_cons_self, t] at z; cases z
  · rcases key_cases ok.1 r with ⟨t, q, rfl, rfl⟩ | ⟨t, q, b, rfl, rfl, eb⟩
    · cases kvs with
      | nil => cases d; exact ⟨none, .inr ⟨rfl, .inr ⟨e, q, rfl⟩⟩, .inl ⟨rfl, rfl⟩⟩
      | cons p r => have z := ok.2 p List.mem_cons_self; rw [kt_kind d p List.mem_cons_self, t] at z; cases z
    · refine ⟨_, .inl (DGet.t e eb), ?_⟩
      exact pr_get (F := fun q : List Key => Z.tup (q.map keyZ)) (G := RepV K μ H) tupKey_inj d q
theorem dictL_at {a : Addr} {ob : Obj} {o : HO} (e : H a = some (.frz ob o)) (d : DictR K μ H kvs o) (ok : dkey kvs k) (ne : kvs ≠ []) (r : RepV K μ H k y) : ∃ q, DG H a y q ∧ OptR K μ H (dget kvs k) q := by
  rcases d with ⟨l, rfl, d⟩ | ⟨l, rfl, d⟩
  · rcases key_cases ok.1 r with ⟨t, q, rfl, rfl⟩ | ⟨t, q, b, rfl, rfl, eb⟩
    · refine ⟨_, .inl (.inl ⟨l, q, .inr ⟨ob, e⟩, rfl, rfl⟩), ?_⟩
      exact pr_get (F := keyZ) (G := RepV K μ H) (fun a b => keyZ_inj) d q
    · cases kvs with
      | nil => exact absurd rfl ne
      | cons p r => have z := ok.2 p List.mem_cons_self; rw [kk_kind d p List.mem_cons_self, t] at z; cases z
  · rcases key_cases ok.1 r with ⟨t, q, rfl, rfl⟩ | ⟨t, q, b, rfl, rfl, eb⟩
    · cases kvs with
      | nil => exact absurd rfl ne
      | cons p r => have z := ok.2 p List.mem_cons_self; rw [kt_kind d p List.mem_cons_self, t] at z; cases z
    · refine ⟨_, .inl (.inr ⟨l, q, b, .inr ⟨ob, e⟩, rfl, eb, rfl⟩), ?_⟩
      exact pr_get (F := fun q : List Key => Z.tup (q.map keyZ)) (G := RepV K μ H) tupKey_inj d q
/-- at a dict that is there -/
theorem dict_of (R : RelH K mg μ H h) {n : Nat} {v : V} (e : h[n]? = some (.dict kvs)) (r : RepV K μ H (.ref n) v) : ∃ a o, v = .ref a ∧ μ[n]? = some a ∧ H a = some o ∧ DictR K μ H kvs o := by
  obtain ⟨a, rfl, ha⟩ := of_ref r
  obtain ⟨b, hb, o, e1, d⟩ := R.at e
  rw [ha] at hb; cases hb
  exact ⟨a, o, rfl, ha, e1, d⟩
theorem dictL_of (R : RelH K mg μ H h) {n : Nat} {v : V} (e : h[n]? = some (.dictL kvs)) (r : RepV K μ H (.ref n) v) : ∃ a ob o, v = .ref a ∧ μ[n]? = some a ∧ H a = some (.frz ob o) ∧ DictR K μ H kvs o := by
  obtain ⟨a, rfl, ha⟩ := of_ref r
  obtain ⟨b, hb, ob, o, e1, d⟩ := R.at e
  rw [ha] at hb; cases hb
  exact ⟨a, ob, o, rfl, ha, e1, d⟩
/-- a dict is written -/
theorem dict_put (R : RelH K mg μ H h) {n : Nat} {a : Addr} {o : HO} {z : Z} {v : V} (en : h[n]? = some (.dict kvs)) (ha : μ[n]? = some a) (e : H a = some o) (d : DictR K μ H kvs o) (ok : dkey kvs k) (hl : kvs.length < sizeLine) (r : RepV K μ H k y) (rz : RepV K μ H z v) :
    ∃ u, DP H a y v (upd H a u) ∧ RelH K mg μ (upd H a u) (h.set n (.dict (dput kvs k z))) ∧ Ext μ H μ (upd H a u) := by
  have fin : ∀ u, (∀ xs, u ≠ .tup xs) → (∀ ob v, sq2 v → u ≠ .frz ob v) → (Ext μ H μ (upd H a u) → DictR K μ (upd H a u) (dput kvs k z) u) → RelH K mg μ (upd H a u) (h.set n (.dict (dput kvs k z))) ∧ Ext μ H μ (upd H a u) := by
    intro u h1 h2 h3
    have ho := (R.obj n a _ ha en).some
    obtain ⟨w, ew, w1, w2⟩ := ho
    have ex : Ext μ H μ (upd H a u) := ext_at (List.mem_of_getElem? ha) ⟨w, ew, w1, w2⟩
    exact R.set ha ⟨w, ew, w1, w2⟩ ⟨u, upd_same, h3 ex⟩
  rcases d with ⟨l, rfl, d⟩ | ⟨l, rfl, d⟩
  · have ll := paired_len d
    rcases key_cases ok.1 r with ⟨t, q, rfl, rfl⟩ | ⟨t, q, b, rfl, rfl, eb⟩
    · refine ⟨_, .inl (DPut.k e (by omega)), fin _ (by simp) (by simp) fun ex => .inl ⟨_, rfl, ?_⟩⟩
      exact pr_put (F := keyZ) (G := RepV K μ _) (fun a b => keyZ_inj) (paired_mono (fun p q x => ⟨x.1, x.2.mono ex⟩) d) q (rz.mono ex)
    · cases kvs with
      | nil =>
        cases d
        refine ⟨_, .inr (.inl ⟨e, b, q, rfl, eb, rfl⟩), fin _ (by simp) (by simp) fun ex => .inr ⟨_, rfl, ?_⟩⟩
        exact .cons ⟨rfl, rz.mono ex⟩ .nil
      | cons p r => have z := ok.2 p List.mem_cons_self; rw [kk_kind d p List.mem_cons_self, t] at z; cases z
  · have ll := paired_len d
    rcases key_cases ok.1 r with ⟨t, q, rfl, rfl⟩ | ⟨t, q, b, rfl, rfl, eb⟩
    · cases kvs with
      | nil =>
        cases d
        refine ⟨_, .inr (.inr ⟨e, q, rfl, rfl⟩), fin _ (by simp) (by simp) fun ex => .inl ⟨_, rfl, ?_⟩⟩
        exact .cons ⟨rfl, rz.mono ex⟩ .nil
      | cons p r => have z := ok.2 p List.mem_cons_self; rw [kt_kind d p List.mem_cons_self, t] at z; cases z
    · refine ⟨_, .inl (DPut.t e eb (by omega)), fin _ (by simp) (by simp) fun ex => .inr ⟨_, rfl, ?_⟩⟩
      exact pr_put (F := fun q : List Key => Z.tup (q.map keyZ)) (G := RepV K μ _) tupKey_inj (paired_mono (fun p q x => ⟨x.1, x.2.mono ex⟩) d) q (rz.mono ex)
end
end ZL

namespace ZL
open PySem PySem.Spec PyProof.Rows L2
section
variable {X : Cx} {B : List Addr × Hp}

/-! ### subscripts -/
def IxZ (X : Cx) (o : Z2) : Prop :=
  ∃ r, IxR X r ∧ ∀ μ H h a b x y P Q, RelH X.K X.mg μ H h → RepV X.K μ H a x → RepV X.K μ H b y → o a b h P → Fol X.K X.mg μ H P Q → r x y H Q
theorem ze_ix {o : Z2} {a b : Expr} {wa wb : WE} {pos} (ho : IxZ X o) (ha : ZE X a wa) (hb : ZE X b wb) (hs : PlainIx b := by exact fun _ _ => rfl) : ZE X (.Subscript a b pos) (w2 o wa wb) :=
  let ⟨_, h1, h2⟩ := ho
  ⟨fun B E tk => pe_imp (pe_ix h1 (ha.run B E tk) (hb.run B E tk) hs) (tz2 h2)⟩
theorem RepVs.atI {K : PySem.W.Frag} {μ : List Addr} {H : Hp} {zs : List Z} {vs : List V} (r : RepVs K μ H zs vs) {i : Int} {z : Z} (e : L2.atI zs i = some z) : ∃ v, L2.atI vs i = some v ∧ RepV K μ H z v := by
  unfold L2.atI at e ⊢
  rw [← r.length]
  cases q : ixN zs.length i with
  | none => rw [q] at e; cases e
  | some j =>
    rw [q] at e
    obtain ⟨v, e1, e2⟩ := r.get (i := j) (z := z) e
    exact ⟨v, e1, e2⟩
theorem atI_ints {ns : List Int} {i n : Int} (e : L2.atI ns i = some n) : L2.atI (ns.map V.int) i = some (.int n) := by
  unfold L2.atI at e ⊢
  rw [List.length_map]
  cases q : ixN ns.length i with
  | none => rw [q] at e; cases e
  | some j =>
    rw [q] at e
    have e' : ns[j]? = some n := e
    show (ns.map V.int)[j]? = _
    rw [List.getElem?_map, e']; rfl
theorem scr_sq {K : PySem.W.Frag} {μ : List Addr} {H : Hp} {ns : List Int} {v : V} (r : RepV K μ H (.scr ns) v) : ∃ a, v = .ref a ∧ SqL K H a (ns.map V.int) := by
  unfold RepV at r
  obtain ⟨a, rfl, r⟩ := r
  refine ⟨a, rfl, ?_⟩
  rcases r with ⟨o, e⟩ | e
  · exact .inl (.inr ⟨o, e⟩)
  · exact .inr e
theorem ix_dict (hu : X.A.units + 1 < cLine) : IxR X (fun x y H Q => ∃ a v, x = .ref a ∧ DGet H a y (some v) ∧ Q v H) := by
  intro value slice pins s σ H x y v u Q I rx ry h hs
  obtain ⟨a, z, rfl, g, q⟩ := h
  cases rx
  exact tail_any (dict_typeIs I g) PySem.F.slot_dict_getitem.lookup (d_getItem hu I g ry fun w' s' I' rw' => ⟨z, H, I', rw', q⟩) hs
def oIx : Z2 := fun a b h P => match a, b with
  | .tup zs, .int i => ∃ z, L2.atI zs i = some z ∧ P z h
  | .scr ns, .int i => ∃ n, L2.atI ns i = some n ∧ P (.int n) h
  | .str x, .int i => x.length ≤ sizeLine ∧ ∃ c, L2.atI x.cps.toList i = some c ∧ P (.str ⟨#[c]⟩) h
  | .ref n, k => (match h[n]? with
    | some (.lst zs) => (match k with
      | .int i => ∃ z, L2.atI zs i = some z ∧ P z h
      | _ => False)
    | some (.dict kvs) => dkey kvs k ∧ ∃ z, dget kvs k = some z ∧ P z h
    | some (.dictL kvs) => dkey kvs k ∧ ∃ z, dget kvs k = some z ∧ P z h
    | _ => False)
  | _, _ => False
theorem dg_some {H : Hp} {a : Addr} {y : V} {v : V} (g : DG H a y (some v)) : DGet H a y (some v) := by
  rcases g with g | ⟨e, _⟩
  · exact g
  · cases e
theorem optR_some {K : PySem.W.Frag} {μ : List Addr} {H : Hp} {z : Z} {o : Option V} (r : OptR K μ H (some z) o) : ∃ v, o = some v ∧ RepV K μ H z v := by
  rcases r with ⟨e, _⟩ | ⟨a, b, e, e2, r⟩
  · cases e
  · cases e; exact ⟨b, e2, r⟩
theorem dget_ne {kvs : List (Z × Z)} {k z : Z} (e : dget kvs k = some z) : kvs ≠ [] := fun h => by rw [h] at e; cases e
theorem ix_z (hu : X.A.units + 1 < cLine) : IxZ X oIx := by
  refine ⟨_, ix_list.or (ix_tup.or (ix_str.or (ix_dict hu))), fun μ H h a b x y P Q R ra rb o f => ?_⟩
  unfold oIx at o
  split at o
  · obtain ⟨p, vs, rfl, t, r⟩ := of_tup ra
    cases of_int rb
    obtain ⟨z, e, p1⟩ := o
    obtain ⟨v, e1, e2⟩ := r.atI e
    exact .inr (.inl ⟨p, vs, _, v, rfl, rfl, t.sq, e1, f.here R p1 e2⟩)
  · obtain ⟨p, rfl, sq⟩ := scr_sq ra
    cases of_int rb
    obtain ⟨n, e, p1⟩ := o
    exact .inl ⟨p, _, _, _, rfl, rfl, sq, atI_ints e, f.here R p1 rep_int⟩
  · cases of_str ra; cases of_int rb
    obtain ⟨l, c, e, p1⟩ := o
    exact .inr (.inr (.inl ⟨_, _, c, rfl, rfl, l, e, f.here R p1 rep_str⟩))
  · split at o
    · rename_i zs e1
      split at o
      · obtain ⟨p, vs, rfl, _, hp, r⟩ := of_lst R e1 ra
        cases of_int rb
        obtain ⟨z, e, p1⟩ := o
        obtain ⟨v, e2, e3⟩ := r.atI e
        exact .inl ⟨p, vs, _, v, rfl, rfl, SqL.of hp, e2, f.here R p1 e3⟩
      · exact o.elim
    · rename_i kvs e1
      obtain ⟨ok, z, e, p1⟩ := o
      obtain ⟨p, ho, rfl, _, hp, d⟩ := dict_of R e1 ra
      obtain ⟨q, g, r⟩ := dict_at hp d ok rb
      rw [e] at r
      obtain ⟨v, rfl, rv⟩ := optR_some r
      exact .inr (.inr (.inr ⟨p, v, rfl, dg_some g, f.here R p1 rv⟩))
    · rename_i kvs e1
      obtain ⟨ok, z, e, p1⟩ := o
      obtain ⟨p, ob, ho, rfl, _, hp, d⟩ := dictL_of R e1 ra
      obtain ⟨q, g, r⟩ := dictL_at hp d ok (dget_ne e) rb
      rw [e] at r
      obtain ⟨v, rfl, rv⟩ := optR_some r
      exact .inr (.inr (.inr ⟨p, v, rfl, dg_some g, f.here R p1 rv⟩))
    · exact o.elim
  · exact o.elim

/-! ### slices -/
abbrev WO := Env → ZH → (Option Int → ZH → Prop) → EZ → Prop
def TZo (K : PySem.W.Frag) (mg : Str → Option Value) (B : List Addr × Hp) (w : WO) (E : EZ) : TO := fun σ H Q => ∃ μ env h P, Rel K mg B μ env h σ H ∧ w env h P E ∧ ∀ i h' μ' H', P i h' → Ext μ H μ' H' → RelH K mg μ' H' h' → Q i H'
structure ZOp (X : Cx) (e : Option Expr) (w : WO) : Prop where
  run : ∀ B E, ZTk X B E → PO X e (TZo X.K X.mg B w E)
def wNoPart : WO := fun _ h P _ => P none h
def wPart (w : WE) : WO := fun env h P E => w env h (fun z h1 => match z with | .int i => P (some i) h1 | _ => False) E
theorem po_imp {e : Option Expr} {t t' : TO} (p : PO X e t) (f : ∀ σ H Q, t' σ H Q → t σ H Q) : PO X e t' := ⟨fun pins s σ H Q I q => p.run pins s σ H Q I (f _ _ _ q)⟩
theorem zo_none : ZOp X none wNoPart := ⟨fun B E _ => po_imp po_none fun σ H Q ⟨μ, env, h, P, R, w, f⟩ => f none h μ H w (Ext.refl _ _) R.heap⟩
theorem zo_some {e : Expr} {w : WE} (he : ZE X e w) : ZOp X (some e) (wPart w) := ⟨fun B E tk => po_imp (po_some (he.run B E tk)) fun σ H Q ⟨μ, env, h, P, R, q, f⟩ =>
  ⟨μ, env, h, _, R, q, fun z h1 μ1 H1 v p1 e1 R1 r1 => by
    cases z with
    | int i => exact ⟨i, of_int r1, f _ _ _ _ p1 e1 R1⟩
    | _ => exact p1.elim⟩⟩
def cutZ {α : Type} (xs : List α) (lo hi : Option Int) : List α := (xs.drop (HT.sIx xs.length 0 lo)).take (HT.sIx xs.length xs.length hi - HT.sIx xs.length 0 lo)
def oSl (a : Z) (lo hi : Option Int) (h : ZH) (P : PZ) : Prop := match a with
  | .tup zs => P (.tup (cutZ zs lo hi)) h
  | .str x => x.length ≤ sizeLine ∧ P (.str ⟨(cutZ x.cps.toList lo hi).toArray⟩) h
  | .ref n => (match h[n]? with
    | some (.lst zs) => P (.ref h.length) (h ++ [.lst (cutZ zs lo hi)])
    | _ => False)
  | .scr ns => P (.ref h.length) (h ++ [.lst ((cutZ ns lo hi).map Z.int)])
  | _ => False
def wSl (w : WE) (wl wh : WO) : WE := fun env h P E => w env h (fun a h1 => wl env h1 (fun lo h2 => wh env h2 (fun hi h3 => oSl a lo hi h3 P) E) E) E
theorem cutV_rep {K : PySem.W.Frag} {μ : List Addr} {H : Hp} {zs : List Z} {vs : List V} (r : RepVs K μ H zs vs) (lo hi : Option Int) : RepVs K μ H (cutZ zs lo hi) (cutV vs lo hi) := by
  unfold cutZ cutV
  rw [r.length]
  exact (r.drop _).take _
theorem cut_whole {α : Type} {xs : List α} {lo hi : Option Int} (h : HT.sIx xs.length 0 lo = 0 ∧ HT.sIx xs.length xs.length hi = xs.length) : cutZ xs lo hi = xs := by
  unfold cutZ
  rw [h.1, h.2]; simp
theorem ze_sl {e : Expr} {lo hi : Option Expr} {w : WE} {wl wh : WO} {pos p2} (hs : ∃ r, SlR X r ∧ ∀ μ H h a x l u P Q, RelH X.K X.mg μ H h → RepV X.K μ H a x → oSl a l u h P → Fol X.K X.mg μ H P Q → r x l u H Q)
    (he : ZE X e w) (hl : ZOp X lo wl) (hh : ZOp X hi wh) : ZE X (.Subscript e (.Slice lo hi none p2) pos) (wSl w wl wh) :=
  let ⟨_, h1, h2⟩ := hs
  ⟨fun B E tk => pe_imp (pe_slice h1 (he.run B E tk) (hl.run B E tk) (hh.run B E tk)) fun σ H Q ⟨μ, env, h, P, R, q, f⟩ =>
    ⟨μ, env, h, _, R, q, fun a h1 μ1 H1 x p1 e1 R1 r1 => ⟨μ1, env, h1, _, R.step e1 R1, p1, fun l h2' μ2 H2 p2 e2 R2 => ⟨μ2, env, h2', _, (R.step e1 R1).step e2 R2, p2, fun u h3 μ3 H3 p3 e3 R3 =>
      h2 μ3 H3 h3 a x l u P Q R3 ((r1.mono e2).mono e3) p3 (f.ext ((e1.trans e2).trans e3))⟩⟩⟩⟩

theorem sl_z {e : Expr} {lo hi : Option Expr} {w : WE} {wl wh : WO} {pos p2} (he : ZE X e w) (hl : ZOp X lo wl) (hh : ZOp X hi wh) : ZE X (.Subscript e (.Slice lo hi none p2) pos) (wSl w wl wh) := by
  refine ze_sl ⟨_, (ZTS.sl_tupS (kl := keyV)).or (sl_str.or sl_list), fun μ H h a x l u P Q R ra o f => ?_⟩ he hl hh
  unfold oSl at o
  split at o
  · obtain ⟨p, vs, rfl, t, r⟩ := of_tup ra
    refine .inl ⟨p, vs, rfl, t.sq, fun c => ?_, fun _ => fol_tup R (cutV_rep r l u) o f⟩
    rw [← r.length] at c
    rw [cut_whole c] at o
    exact f.here R o (by unfold RepV; exact ⟨p, vs, rfl, t, r⟩)
  · rename_i z
    cases of_str ra
    refine .inr (.inl ⟨_, rfl, o.1, ?_⟩)
    have e : cutS z l u = (⟨(cutZ z.cps.toList l u).toArray⟩ : Str) := by unfold cutS cutZ; simp [Str.length]
    rw [e]
    exact f.here R o.2 rep_str
  · split at o
    · rename_i e1
      obtain ⟨p, vs, rfl, _, hp, r⟩ := of_lst R e1 ra
      exact .inr (.inr ⟨p, vs, rfl, SqL.of hp, fol_lst R (cutV_rep r l u) o f⟩)
    · exact o.elim
  · rename_i ns
    obtain ⟨p, rfl, sq⟩ := scr_sq ra
    refine .inr (.inr ⟨p, _, rfl, sq, ?_⟩)
    have e : cutV (List.map V.int ns) l u = (cutZ ns l u).map V.int := by unfold cutV cutZ; rw [List.length_map, List.map_take, List.map_drop]
    rw [e]
    exact fol_lst R (RepVs.ints _) o f
  · exact o.elim
/-- xs[::-1] -/
def wRev (w : WE) : WE := fun env h P E => w env h (fun a h1 => match a with
  | .ref n => (match h1[n]? with
    | some (.lst zs) => P (.ref h1.length) (h1 ++ [.lst zs.reverse])
    | _ => False)
  | _ => False) E
theorem ze_rev {e : Expr} {w : WE} {k : Nat} {p1 p2 p3 pos : Pos} (he : ZE X e w) : ZE X (.Subscript e (.Slice none none (some (.UnaryOp .USub (.Constant (.int 1) k p1) p2)) p3) pos) (wRev w) :=
  ⟨fun B E tk => pe_imp (pe_revL (he.run B E tk)) fun σ H Q ⟨μ, env, h, P, R, q, f⟩ => ⟨μ, env, h, _, R, q, fun a h1 μ1 H1 x p1 e1 R1 r1 => by
    split at p1
    · split at p1
      · rename_i e2
        obtain ⟨p, vs, rfl, _, hp, r⟩ := of_lst R1 e2 r1
        exact ⟨p, vs, rfl, SqL.of hp, fol_lst R1 r.reverse p1 (f.ext e1)⟩
      · exact p1.elim
    · exact p1.elim⟩⟩

/-! ### membership -/
theorem op_inT (hu : X.A.units + 65 < cLine) : OpR X (compareOp .In) (fun x y H Q => ∃ d ds, Dp X.K H x d ∧ Dp X.K H y (.tuple ds) ∧ SeqAt.shaped d = true ∧ SeqAt.shaped (.tuple ds) = true ∧ Q (.bl (ds.any fun z => PyData.eqv z d)) H) := by
  intro pins s σ H x y v u Q I rx ry h
  obtain ⟨d, ds, hd, he, sd, se, q⟩ := h
  obtain ⟨as, r1⟩ := Dp.reads I d x v hd rx
  obtain ⟨bs, r2⟩ := Dp.reads I (.tuple ds) y u he ry
  exact SeqAt.in_tuple_reads r2 r1 (SeqAt.canLay_of_shaped se) (SeqAt.canLay_of_shaped sd) (room_in_shaped sd hu) ⟨.bl _, H, I, rfl, q⟩
theorem op_notInT (hu : X.A.units + 65 < cLine) : OpR X (compareOp .NotIn) (fun x y H Q => ∃ d ds, Dp X.K H x d ∧ Dp X.K H y (.tuple ds) ∧ SeqAt.shaped d = true ∧ SeqAt.shaped (.tuple ds) = true ∧ Q (.bl (!ds.any fun z => PyData.eqv z d)) H) := by
  intro pins s σ H x y v u Q I rx ry h
  obtain ⟨d, ds, hd, he, sd, se, q⟩ := h
  obtain ⟨as, r1⟩ := Dp.reads I d x v hd rx
  obtain ⟨bs, r2⟩ := Dp.reads I (.tuple ds) y u he ry
  exact SeqAt.notIn_tuple_reads r2 r1 (SeqAt.canLay_of_shaped se) (SeqAt.canLay_of_shaped sd) (room_in_shaped sd hu) ⟨.bl _, H, I, rfl, q⟩
theorem op_inDict (hu : X.A.units + 1 < cLine) : OpR X (compareOp .In) (fun x y H Q => ∃ a o, y = .ref a ∧ DG H a x o ∧ Q (.bl o.isSome) H) := by
  intro pins s σ H x y v u Q I rx ry h
  obtain ⟨a, o, rfl, g, q⟩ := h
  cases ry
  exact z_in hu I g rx fun s' I' => ⟨.bl _, H, I', rfl, q⟩
theorem op_notInDict (hu : X.A.units + 1 < cLine) : OpR X (compareOp .NotIn) (fun x y H Q => ∃ a o, y = .ref a ∧ DG H a x o ∧ Q (.bl (!o.isSome)) H) := by
  intro pins s σ H x y v u Q I rx ry h
  obtain ⟨a, o, rfl, g, q⟩ := h
  cases ry
  exact z_notIn hu I g rx fun s' I' => ⟨.bl _, H, I', rfl, q⟩
/-- whether x is in y, and what it takes to ask -/
def inZ (h : ZH) (a b : Z) (Q : Bool → Prop) : Prop := match b with
  | .tup zs => okD h a ∧ okD h (.tup zs) ∧ Q (zs.any fun z => PyData.eqv z.toD (dOf h a))
  | .str y => (match a with
    | .str x => ∃ c, x = ⟨#[c]⟩ ∧ Q (decide (c ∈ y.cps.toList))
    | _ => False)
  | .ref n => (match h[n]? with
    | some (.lst zs) => okD h a ∧ okD h (.ref n) ∧ Q (zs.any fun z => PyData.eqv (dL Z.toD h z) (dOf h a))
    | some (.dict kvs) => dkey kvs a ∧ Q (dget kvs a).isSome
    | some (.dictL kvs) => dkey kvs a ∧ kvs ≠ [] ∧ Q (dget kvs a).isSome
    | _ => False)
  | _ => False
def oIn : Z2 := fun a b h P => inZ h a b fun k => P (.bl k) h
def oNotIn : Z2 := fun a b h P => inZ h a b fun k => P (.bl (!k)) h
theorem optR_is {K : PySem.W.Frag} {μ : List Addr} {H : Hp} {z : Option Z} {o : Option V} (r : OptR K μ H z o) : o.isSome = z.isSome := by
  rcases r with ⟨rfl, rfl⟩ | ⟨a, b, rfl, rfl, _⟩ <;> rfl
theorem in_core {g : Bool → Bool} {rT rL rS rD : R2} (hT : ∀ x y H Q, (∃ d ds, Dp X.K H x d ∧ Dp X.K H y (.tuple ds) ∧ SeqAt.shaped d = true ∧ SeqAt.shaped (.tuple ds) = true ∧ Q (.bl (g (ds.any fun z => PyData.eqv z d))) H) → rT x y H Q)
    (hL : ∀ x y H Q, (∃ d ds, Dp X.K H x d ∧ Dp X.K H y (.list ds) ∧ SeqAt.shaped d = true ∧ SeqAt.shaped (.list ds) = true ∧ Q (.bl (g (ds.any fun z => PyData.eqv z d))) H) → rL x y H Q)
    (hS : ∀ x y H Q, (∃ (c : Nat) (z : Str), x = .str ⟨#[c]⟩ ∧ y = .str z ∧ Q (.bl (g (decide (c ∈ z.cps.toList)))) H) → rS x y H Q)
    (hD : ∀ x y H Q, (∃ a o, y = .ref a ∧ DG H a x o ∧ Q (.bl (g o.isSome)) H) → rD x y H Q) :
    ∀ μ H h a b x y P Q, RelH X.K X.mg μ H h → RepV X.K μ H a x → RepV X.K μ H b y → (inZ h a b fun k => P (.bl (g k)) h) → Fol X.K X.mg μ H P Q → rT x y H Q ∨ rL x y H Q ∨ rS x y H Q ∨ rD x y H Q := by
  intro μ H h a b x y P Q R ra rb o f
  unfold inZ at o
  split at o
  · rename_i zs
    have e : dOf h (.tup zs) = .tuple (zs.map Z.toD) := by show Z.toD (.tup zs) = _; unfold Z.toD; rw [toDs_map]
    refine .inl (hT _ _ _ _ ⟨_, zs.map Z.toD, dpo_of R (SeqAt.canLay_of_shaped o.1) ra, by rw [← e]; exact dpo_of R (SeqAt.canLay_of_shaped o.2.1) rb, o.1, by rw [← e]; exact o.2.1, ?_⟩)
    rw [List.any_map]
    exact f.here R o.2.2 rep_bl
  · split at o
    · obtain ⟨c, rfl, p⟩ := o
      cases of_str ra; cases of_str rb
      exact .inr (.inr (.inl (hS _ _ _ _ ⟨c, _, rfl, rfl, f.here R p rep_bl⟩)))
    · exact o.elim
  · rename_i n
    split at o
    · rename_i zs e1
      have e : dOf h (.ref n) = .list (zs.map (dL Z.toD h)) := dL_lst e1
      refine .inr (.inl (hL _ _ _ _ ⟨_, zs.map (dL Z.toD h), dpo_of R (SeqAt.canLay_of_shaped o.1) ra, by rw [← e]; exact dpo_of R (SeqAt.canLay_of_shaped o.2.1) rb, o.1, by rw [← e]; exact o.2.1, ?_⟩))
      rw [List.any_map]
      exact f.here R o.2.2 rep_bl
    · rename_i kvs e1
      obtain ⟨p, ho, rfl, _, hp, d⟩ := dict_of R e1 rb
      obtain ⟨q, gg, r⟩ := dict_at hp d o.1 ra
      refine .inr (.inr (.inr (hD _ _ _ _ ⟨p, q, rfl, gg, ?_⟩)))
      rw [optR_is r]
      exact f.here R o.2 rep_bl
    · rename_i kvs e1
      obtain ⟨p, ob, ho, rfl, _, hp, d⟩ := dictL_of R e1 rb
      obtain ⟨q, gg, r⟩ := dictL_at hp d o.1 o.2.1 ra
      refine .inr (.inr (.inr (hD _ _ _ _ ⟨p, q, rfl, gg, ?_⟩)))
      rw [optR_is r]
      exact f.here R o.2.2 rep_bl
    · exact o.elim
  · exact o.elim
theorem op_inZ (hu : X.A.units + 65 < cLine) : OpZ X (compareOp .In) oIn :=
  ⟨_, (op_inT hu).or ((op_inD hu).or (op_in_sign.or (op_inDict (by omega)))), in_core (g := fun k => k) (fun _ _ _ _ h => h) (fun _ _ _ _ h => h) (fun _ _ _ _ h => h) (fun _ _ _ _ h => h)⟩
theorem op_notInZ (hu : X.A.units + 65 < cLine) : OpZ X (compareOp .NotIn) oNotIn :=
  ⟨_, (op_notInT hu).or ((op_notInD hu).or (op_notIn_sign.or (op_notInDict (by omega)))), in_core (g := fun k => !k) (fun _ _ _ _ h => h) (fun _ _ _ _ h => h) (fun _ _ _ _ h => h) (fun _ _ _ _ h => h)⟩
end
end ZL

namespace ZL
open PySem PySem.Spec PyProof.Rows L2
section
variable {X : Cx} {B : List Addr × Hp}

/-! ### truth -/
def truK (h : ZH) : Z → Option Bool
  | .non => some false
  | .bl b => some b
  | .int i => some (i != 0)
  | .str x => if x.length ≤ sizeLine then some (x.length != 0) else none
  | .tup zs => some (!zs.isEmpty)
  | .scr ns => some (!ns.isEmpty)
  | .ref n => match h[n]? with
    | some (.lst zs) => some (!zs.isEmpty)
    | some (.dict kvs) => if (kvs.all fun p => !isT p.1) = true then some (!kvs.isEmpty) else none
    | _ => none
  | .err _ => none
def TruZ (K : PySem.W.Frag) (x : V) (H : Hp) (k : Bool) : Prop := TruV K x H k ∨ ∃ p, x = .ref p ∧ H p = some (.dT []) ∧ k = false
theorem truZ_ok {pins : List (Addr × Obj)} {σ : L2.St} {H : Hp} {s : Shared} {x : V} {v : Value} {k : Bool} {Q : Bool → Hp → Prop} (I : Inv X pins σ H s) (r : RelV x v) (t : TruZ X.K x H k) (q : Q k H) :
    wpAny (model X.prog X.w) X.A (truthy v) (TP X pins σ Q) X.xe s := by
  rcases t with t | ⟨p, rfl, e, rfl⟩
  · exact tru_ok pins s σ H x v Q I r ⟨k, t, q⟩
  · cases r
    refine d_truth (Inv.tk I e) (.inl upd_same) fun s' I' => ?_
    have := Inv.kt I' upd_same
    rw [upd_back e] at this
    exact ⟨H, this, q⟩
theorem isEmpty_rep {K : PySem.W.Frag} {μ : List Addr} {H : Hp} {zs : List Z} {vs : List V} (r : RepVs K μ H zs vs) : vs.isEmpty = zs.isEmpty := by
  cases zs with
  | nil => unfold RepVs at r; rw [r] <;> rfl
  | cons z zs => unfold RepVs at r; obtain ⟨v, w, rfl, _⟩ := r; rfl
theorem tru_z {μ : List Addr} {H : Hp} {h : ZH} (R : RelH X.K X.mg μ H h) {z : Z} {x : V} {k : Bool} (r : RepV X.K μ H z x) (t : truK h z = some k) : TruZ X.K x H k := by
  cases z with
  | non => cases of_non r; cases t; exact .inl rfl
  | bl b => cases of_bl r; cases t; exact .inl rfl
  | int i => cases of_int r; cases t; exact .inl rfl
  | str y =>
    cases of_str r
    have t : (if y.length ≤ sizeLine then some (y.length != 0) else none) = some k := t
    split at t
    · rename_i hl
      cases t
      refine .inl ⟨hl, ?_⟩
      rw [Bool.eq_iff_iff, bne_iff_ne, bne_iff_ne]
      omega
    · cases t
  | tup zs =>
    obtain ⟨p, vs, rfl, t', rv⟩ := of_tup r
    cases t
    exact .inl (.inr (.inl ⟨vs, t'.sq, by rw [isEmpty_rep rv]⟩))
  | scr ns =>
    obtain ⟨p, rfl, sq⟩ := scr_sq r
    cases t
    exact .inl (.inl ⟨_, sq, by cases ns <;> rfl⟩)
  | ref n =>
    have t : (match h[n]? with
      | some (.lst zs) => some (!zs.isEmpty)
      | some (.dict kvs) => if (kvs.all fun p => !isT p.1) = true then some (!kvs.isEmpty) else none
      | _ => none) = some k := t
    split at t
    · rename_i zs e
      obtain ⟨p, vs, rfl, _, hp, rv⟩ := of_lst R e r
      cases t
      exact .inl (.inl ⟨vs, SqL.of hp, by rw [isEmpty_rep rv]⟩)
    · rename_i kvs e
      split at t
      · rename_i hl
        cases t
        obtain ⟨p, o, rfl, _, hp, d⟩ := dict_of R e r
        rcases d with ⟨l, rfl, d⟩ | ⟨l, rfl, d⟩
        · refine .inl (.inr (.inr ⟨l, hp, ?_⟩))
          cases d <;> rfl
        · cases kvs with
          | nil => cases d; exact .inr ⟨p, rfl, hp, rfl⟩
          | cons q kvs =>
            have z := kt_kind d q List.mem_cons_self
            rw [List.all_cons, z] at hl
            cases hl
      · cases t
    · cases t
  | err a => cases t
def wTru (w : WE) : WT := fun env h P E => w env h (fun z h1 => match truK h1 z with
  | some k => P k h1
  | none => False) E
theorem zt_tru {e : Expr} {w : WE} (he : ZE X e w) (hw : ∀ whole, isTrue e X.env whole = (do let v ← whole; standAt e.pos; holding [v] (truthy v)) := by intro _; rfl) : ZT X e (wTru w) :=
  ⟨fun B E tk => ⟨fun pins s σ H Q I ⟨μ, env, h, P, R, q, f⟩ => by
    refine isTrue_plain (thn ((he.run B E tk).run pins s σ H _ I ⟨μ, env, h, _, R, q, fun z h1 μ1 H1 v p1 e1 R1 r1 => (?_ : ∃ k, TruZ X.K v H1 k ∧ Q k H1)⟩) fun v s1 ⟨x, H1, I1, r1, k, t, q1⟩ => truZ_ok I1 r1 t q1) (hw _)
    split at p1
    · rename_i k e2
      exact ⟨k, tru_z R1 r1 e2, f k h1 μ1 H1 p1 e1 R1⟩
    · exact p1.elim⟩⟩

/-! ### and, or, not as tests -/
structure ZW (X : Cx) (e : Expr) (w : WT) : Prop where
  run : ∀ B E, ZTk X B E → PW X e (TZt X.K X.mg B w E)
theorem pw_imp {e : Expr} {t t' : TT} (p : PW X e t) (f : ∀ σ H Q, t' σ H Q → t σ H Q) : PW X e t' := ⟨fun wh pins s σ H Q I q => p.run wh pins s σ H Q I (f _ _ _ q)⟩
theorem zt_of {e : Expr} {w : WT} (h : ZW X e w) : ZT X e w := ⟨fun B E tk => (h.run B E tk).pt⟩
def wAnd (a b : WT) : WT := fun env h P E => a env h (fun k h1 => if k = true then b env h1 P E else P false h1) E
def wOr (a b : WT) : WT := fun env h P E => a env h (fun k h1 => if k = true then P true h1 else b env h1 P E) E
def wNot (a : WT) : WT := fun env h P E => a env h (fun k h1 => P (!k) h1) E
theorem zw_and1 {a : Expr} {wa : WT} {pos} (ha : ZT X a wa) : ZW X (.BoolOp .And [a] pos) wa := ⟨fun B E tk => pw_and1 (ha.run B E tk)⟩
theorem zw_or1 {a : Expr} {wa : WT} {pos} (ha : ZT X a wa) : ZW X (.BoolOp .Or [a] pos) wa := ⟨fun B E tk => pw_or1 (ha.run B E tk)⟩
theorem zw_and {a b : Expr} {r : List Expr} {wa wb : WT} {pos} (ha : ZT X a wa) (hb : ZW X (.BoolOp .And (b :: r) pos) wb) : ZW X (.BoolOp .And (a :: b :: r) pos) (wAnd wa wb) :=
  ⟨fun B E tk => pw_imp (pw_and (ha.run B E tk) (hb.run B E tk)) fun σ H Q ⟨μ, env, h, P, R, q, f⟩ => ⟨μ, env, h, _, R, q, fun k h1 μ1 H1 p1 e1 R1 => by
    cases k with
    | true => exact ⟨μ1, env, h1, P, R.step e1 R1, p1, fun k h2 μ2 H2 p2 e2 R2 => f k h2 μ2 H2 p2 (e1.trans e2) R2⟩
    | false => exact f false h1 μ1 H1 p1 e1 R1⟩⟩
theorem zw_or {a b : Expr} {r : List Expr} {wa wb : WT} {pos} (ha : ZT X a wa) (hb : ZW X (.BoolOp .Or (b :: r) pos) wb) : ZW X (.BoolOp .Or (a :: b :: r) pos) (wOr wa wb) :=
  ⟨fun B E tk => pw_imp (pw_or (ha.run B E tk) (hb.run B E tk)) fun σ H Q ⟨μ, env, h, P, R, q, f⟩ => ⟨μ, env, h, _, R, q, fun k h1 μ1 H1 p1 e1 R1 => by
    cases k with
    | false => exact ⟨μ1, env, h1, P, R.step e1 R1, p1, fun k h2 μ2 H2 p2 e2 R2 => f k h2 μ2 H2 p2 (e1.trans e2) R2⟩
    | true => exact f true h1 μ1 H1 p1 e1 R1⟩⟩
theorem zt_not {a : Expr} {wa : WT} {pos} (ha : ZT X a wa) : ZT X (.UnaryOp .Not a pos) (wNot wa) :=
  ⟨fun B E tk => pt_imp (pt_not (ha.run B E tk)) fun σ H Q ⟨μ, env, h, P, R, q, f⟩ => ⟨μ, env, h, _, R, q, fun k h1 μ1 H1 p1 e1 R1 => f _ h1 μ1 H1 p1 e1 R1⟩⟩
/-! as values -/
def wAndV (a b : WE) : WE := fun env h P E => a env h (fun z h1 => match z with | .bl k => (if k = true then b env h1 P E else P (.bl false) h1) | _ => False) E
def wOrV (a b : WE) : WE := fun env h P E => a env h (fun z h1 => match z with | .bl k => (if k = true then P (.bl true) h1 else b env h1 P E) | _ => False) E
theorem ze_one {a : Expr} {op} {w : WE} {pos} (ha : ZE X a w) : ZE X (.BoolOp op [a] pos) w := ⟨fun B E tk => pe_one (ha.run B E tk)⟩
theorem ze_and {a b : Expr} {r : List Expr} {wa wb : WE} {pos} (ha : ZE X a wa) (hb : ZE X (.BoolOp .And (b :: r) pos) wb) : ZE X (.BoolOp .And (a :: b :: r) pos) (wAndV wa wb) :=
  ⟨fun B E tk => pe_imp (pe_and (ha.run B E tk) (hb.run B E tk)) fun σ H Q ⟨μ, env, h, P, R, q, f⟩ => ⟨μ, env, h, _, R, q, fun z h1 μ1 H1 v p1 e1 R1 r1 => by
    split at p1
    · rename_i k
      refine ⟨k, of_bl r1, ?_⟩
      cases k with
      | true => exact ⟨μ1, env, h1, P, R.step e1 R1, p1, f.ext e1⟩
      | false => exact f _ h1 μ1 H1 _ p1 e1 R1 rep_bl
    · exact p1.elim⟩⟩
theorem ze_or {a b : Expr} {r : List Expr} {wa wb : WE} {pos} (ha : ZE X a wa) (hb : ZE X (.BoolOp .Or (b :: r) pos) wb) : ZE X (.BoolOp .Or (a :: b :: r) pos) (wOrV wa wb) :=
  ⟨fun B E tk => pe_imp (pe_or (ha.run B E tk) (hb.run B E tk)) fun σ H Q ⟨μ, env, h, P, R, q, f⟩ => ⟨μ, env, h, _, R, q, fun z h1 μ1 H1 v p1 e1 R1 r1 => by
    split at p1
    · rename_i k
      refine ⟨k, of_bl r1, ?_⟩
      cases k with
      | false => exact ⟨μ1, env, h1, P, R.step e1 R1, p1, f.ext e1⟩
      | true => exact f _ h1 μ1 H1 _ p1 e1 R1 rep_bl
    · exact p1.elim⟩⟩
def wNotV (a : WE) : WE := fun env h P E => a env h (fun z h1 => match z with | .bl k => P (.bl (!k)) h1 | _ => False) E
theorem ze_not {a : Expr} {w : WE} {pos} (ha : ZE X a w) : ZE X (.UnaryOp .Not a pos) (wNotV w) :=
  ⟨fun B E tk => pe_imp (pe_not (ha.run B E tk)) fun σ H Q ⟨μ, env, h, P, R, q, f⟩ => ⟨μ, env, h, _, R, q, fun z h1 μ1 H1 v p1 e1 R1 r1 => by
    split at p1
    · exact ⟨_, of_bl r1, f _ h1 μ1 H1 _ p1 e1 R1 rep_bl⟩
    · exact p1.elim⟩⟩
/-- a if c else b -/
def wIf (c : WT) (a b : WE) : WE := fun env h P E => c env h (fun k h1 => if k = true then a env h1 P E else b env h1 P E) E
theorem ze_if {c a b : Expr} {wc : WT} {wa wb : WE} {pos} (hc : ZT X c wc) (ha : ZE X a wa) (hb : ZE X b wb) : ZE X (.IfExp c a b pos) (wIf wc wa wb) :=
  ⟨fun B E tk => pe_imp (pe_ifExp (hc.run B E tk) (ha.run B E tk) (hb.run B E tk)) fun σ H Q ⟨μ, env, h, P, R, q, f⟩ => ⟨μ, env, h, _, R, q, fun k h1 μ1 H1 p1 e1 R1 => by
    cases k with
    | true => exact ⟨μ1, env, h1, P, R.step e1 R1, p1, f.ext e1⟩
    | false => exact ⟨μ1, env, h1, P, R.step e1 R1, p1, f.ext e1⟩⟩⟩
/-- -n -/
def wNeg (a : WE) : WE := fun env h P E => a env h (fun z h1 => match z with | .int i => P (.int (-i)) h1 | _ => False) E
theorem ze_neg {a : Expr} {w : WE} {pos} (ha : ZE X a w) : ZE X (.UnaryOp .USub a pos) (wNeg w) :=
  ⟨fun B E tk => pe_imp (pe_un un_neg (ha.run B E tk)) fun σ H Q ⟨μ, env, h, P, R, q, f⟩ => ⟨μ, env, h, _, R, q, fun z h1 μ1 H1 v p1 e1 R1 r1 => by
    split at p1
    · exact ⟨_, of_int r1, f _ h1 μ1 H1 _ p1 e1 R1 rep_int⟩
    · exact p1.elim⟩⟩
/-- a op b op' c -/
def wChain (o o' : Z2) (wa wb wc : WE) : WE := fun env h P E => wa env h (fun a h1 => wb env h1 (fun b h2 => o a b h2 fun z h3 => match z with
  | .bl k => (if k = true then wc env h3 (fun c h4 => o' b c h4 P) E else P (.bl false) h3)
  | _ => False) E) E
theorem tz_chain {o o' : Z2} {r r' : R2} {wa wb wc : WE} {E : EZ} (ho : ∀ μ H h a b x y P Q, RelH X.K X.mg μ H h → RepV X.K μ H a x → RepV X.K μ H b y → o a b h P → Fol X.K X.mg μ H P Q → r x y H Q)
    (ho' : ∀ μ H h a b x y P Q, RelH X.K X.mg μ H h → RepV X.K μ H a x → RepV X.K μ H b y → o' a b h P → Fol X.K X.mg μ H P Q → r' x y H Q) :
    ∀ σ H Q, TZ X.K X.mg B (wChain o o' wa wb wc) E σ H Q → tChain r r' (TZ X.K X.mg B wa E) (TZ X.K X.mg B wb E) (TZ X.K X.mg B wc E) σ H Q := fun σ H Q ⟨μ, env, h, P, R, q, f⟩ =>
  ⟨μ, env, h, _, R, q, fun a h1 μ1 H1 x p1 e1 R1 r1 => ⟨μ1, env, h1, _, R.step e1 R1, p1, fun b h2 μ2 H2 y p2 e2 R2 r2 => ho μ2 H2 h2 a b x y _ _ R2 (r1.mono e2) r2 p2 fun z h3 μ3 H3 v p3 e3 R3 r3 => by
    split at p3
    · rename_i k
      refine ⟨k, of_bl r3, ?_⟩
      cases k with
      | true => exact ⟨μ3, env, h3, _, ((R.step e1 R1).step e2 R2).step e3 R3, p3, fun c h4 μ4 H4 w p4 e4 R4 r4 => ho' μ4 H4 h4 b c y w P Q R4 ((r2.mono e3).mono e4) r4 p4 (f.ext (((e1.trans e2).trans e3).trans e4))⟩
      | false => exact f _ h3 μ3 H3 _ p3 ((e1.trans e2).trans e3) R3 rep_bl
    · exact p3.elim⟩⟩
theorem ze_chain {op op' : CmpOp} {o o' : Z2} {a b c : Expr} {wa wb wc : WE} {pos} (ho : OpZ X (compareOp op) o) (ho' : OpZ X (compareOp op') o') (ha : ZE X a wa) (hb : ZE X b wb) (hc : ZE X c wc)
    (hm : lastMarks [op, op'] [b, c] = false := by with_unfolding_all rfl) : ZE X (.Compare a [op, op'] [b, c] pos) (wChain o o' wa wb wc) :=
  let ⟨_, h1, h2⟩ := ho
  let ⟨_, h3, h4⟩ := ho'
  ⟨fun B E tk => pe_imp (pe_chain h1 h3 (ha.run B E tk) (hb.run B E tk) (hc.run B E tk) hm) (tz_chain h2 h4)⟩
theorem zt_chain {op op' : CmpOp} {o o' : Z2} {a b c : Expr} {wa wb wc : WE} {pos} (ho : OpZ X (compareOp op) o) (ho' : OpZ X (compareOp op') o') (ha : ZE X a wa) (hb : ZE X b wb) (hc : ZE X c wc)
    (hm : lastMarks [op, op'] [b, c] = false := by with_unfolding_all rfl) : ZT X (.Compare a [op, op'] [b, c] pos) (wB (wChain o o' wa wb wc)) :=
  let ⟨_, h1, h2⟩ := ho
  let ⟨_, h3, h4⟩ := ho'
  ⟨fun B E tk => pt_imp (pt_chain h1 h3 (ha.run B E tk) (hb.run B E tk) (hc.run B E tk) hm) (tzB (tz_chain h2 h4))⟩
end
end ZL

namespace ZL
open PySem PySem.Spec PyProof.Rows L2

/-! ### fields -/
def zput (f : Str) (v : Z) : List (Str × Z) → List (Str × Z)
  | [] => [(f, v)]
  | (g, x) :: r => if g = f then (g, v) :: r else (g, x) :: zput f v r
theorem fr_look {K : PySem.W.Frag} {μ : List Addr} {H : Hp} {fs : List (Str × Z)} {vs : List (Str × V)} (r : Paired (FR K μ H) fs vs) (f : Str) : OptR K μ H (fs.lookup f) (vs.lookup f) := by
  induction r with
  | nil => exact .inl ⟨rfl, rfl⟩
  | @cons p q l m h r ih =>
    obtain ⟨a, b⟩ := p
    obtain ⟨a', b'⟩ := q
    obtain ⟨e, h⟩ := h
    cases e
    rw [List.lookup_cons, List.lookup_cons]
    cases f == a with
    | true => exact .inr ⟨_, _, rfl, rfl, h⟩
    | false => exact ih
theorem fr_put {K : PySem.W.Frag} {μ : List Addr} {H : Hp} {f : Str} {z : Z} {v : V} (rz : RepV K μ H z v) {fs : List (Str × Z)} {vs : List (Str × V)} (r : Paired (FR K μ H) fs vs) : Paired (FR K μ H) (zput f z fs) (putF f v vs) := by
  induction r with
  | nil => exact .cons ⟨rfl, rz⟩ .nil
  | @cons p q l m h r ih =>
    obtain ⟨a, b⟩ := p
    obtain ⟨a', b'⟩ := q
    obtain ⟨e, h⟩ := h
    cases e
    unfold zput putF
    by_cases hf : a = f
    · rw [if_pos hf, if_pos hf]; exact .cons ⟨rfl, rz⟩ r
    · rw [if_neg hf, if_neg hf]; exact .cons ⟨rfl, h⟩ ih
section
variable {X : Cx} {B : List Addr × Hp}
/-- what the classes cs give at a field -/
def FOk (K : PySem.W.Frag) (mg : Str → Option Value) (cs : List Str) (f : Str) : Prop := ∀ c ∈ cs, ∀ C, mg c = some (.ref C) → Cls K C ∧ NoAttr K C f
def fldZ (cs : List Str) (f : Str) (h : ZH) (z : Z) (P : Z → Prop) : Prop := match z with
  | .ref n => (match h[n]? with
    | some (.ins c fs) => c ∈ cs ∧ (match fs.lookup f with
      | some v => P v
      | none => False)
    | _ => False)
  | _ => False
def wFld (cs : List Str) (f : Str) (w : WE) : WE := fun env h P E => w env h (fun z h1 => fldZ cs f h1 z fun v => P v h1) E
theorem ins_of {K : PySem.W.Frag} {mg : Str → Option Value} {μ : List Addr} {H : Hp} {h : ZH} (R : RelH K mg μ H h) {n : Nat} {c : Str} {fs : List (Str × Z)} {v : V} (e : h[n]? = some (.ins c fs)) (r : RepV K μ H (.ref n) v) :
    ∃ a C dx vs, v = .ref a ∧ μ[n]? = some a ∧ mg c = some (.ref C) ∧ H a = some (.ins C dx vs) ∧ Paired (FR K μ H) fs vs := by
  obtain ⟨a, rfl, ha⟩ := of_ref r
  obtain ⟨b, hb, C, dx, vs, m, e1, p⟩ := R.at e
  rw [ha] at hb; cases hb
  exact ⟨a, C, dx, vs, rfl, ha, m, e1, p⟩
theorem ze_fld {e : Expr} {f : Str} {w : WE} {cs : List Str} {pos} (ok : FOk X.K X.mg cs f) (he : ZE X e w) (hb : attributeBase e f X.env (eval e X.env) = eval e X.env := by rfl) : ZE X (.Attribute e f pos) (wFld cs f w) :=
  ⟨fun B E tk => pe_imp (pe_fld (he.run B E tk) hb) fun σ H Q ⟨μ, env, h, P, R, q, f'⟩ => ⟨μ, env, h, _, R, q, fun z h1 μ1 H1 v p1 e1 R1 r1 => by
    unfold fldZ at p1
    split at p1
    · split at p1
      · rename_i n c fs e2
        obtain ⟨hc, p1⟩ := p1
        obtain ⟨a, C, dx, vs, rfl, ha, m, hH, p⟩ := ins_of R1 e2 r1
        have l := fr_look p f
        split at p1
        · rename_i z e3
          rw [e3] at l
          obtain ⟨u, e4, ru⟩ := optR_some l
          obtain ⟨k1, k2⟩ := ok c hc C m
          exact ⟨a, C, dx, vs, u, rfl, hH, k1, k2, e4, f' _ _ _ _ _ p1 e1 R1 ru⟩
        · exact p1.elim
      · exact p1.elim
    · exact p1.elim⟩⟩
/-- o.f = e -/
def setFZ (cs : List Str) (f : Str) (h : ZH) (z v : Z) (P : ZH → Prop) : Prop := match z with
  | .ref n => (match h[n]? with
    | some (.ins c fs) => c ∈ cs ∧ fs.length < 1000 ∧ P (h.set n (.ins c (zput f v fs)))
    | _ => False)
  | _ => False
def wsFld (cs : List Str) (f : Str) (wo we : WE) : WS := fun D env h E => we env h (fun v h1 => wo env h1 (fun o h2 => setFZ cs f h2 o v fun h3 => D.nx env h3) E) E
theorem fin_set {μ : List Addr} {H : Hp} {h : ZH} (R : RelH X.K X.mg μ H h) {n : Nat} {a : Addr} {o : ZO} {u : HO} (ha : μ[n]? = some a) (w : ∃ w, H a = some w ∧ (∀ xs, w ≠ .tup xs) ∧ ∀ ob v, sq2 v → w ≠ .frz ob v) (ho : Ext μ H μ (upd H a u) → RelO X.K X.mg μ (upd H a u) o a) :
    RelH X.K X.mg μ (upd H a u) (h.set n o) ∧ Ext μ H μ (upd H a u) := by
  obtain ⟨w, ew, w1, w2⟩ := w
  have ex : Ext μ H μ (upd H a u) := ext_at (List.mem_of_getElem? ha) ⟨w, ew, w1, w2⟩
  exact R.set ha ⟨w, ew, w1, w2⟩ (ho ex)
theorem set_fld {μ : List Addr} {H : Hp} {h : ZH} {n : Nat} {f c : Str} {fs : List (Str × Z)} {z : Z} {v : V} {a C dx : Addr} {vs : List (Str × V)} (R : RelH X.K X.mg μ H h) (ha : μ[n]? = some a) (m : X.mg c = some (.ref C))
    (hH : H a = some (.ins C dx vs)) (p : Paired (FR X.K μ H) fs vs) (rz : RepV X.K μ H z v) : RelH X.K X.mg μ (upd H a (.ins C dx (putF f v vs))) (h.set n (.ins c (zput f z fs))) ∧ Ext μ H μ (upd H a (.ins C dx (putF f v vs))) :=
  fin_set R ha ⟨_, hH, by simp, by simp⟩ fun ex => ⟨C, dx, _, m, upd_same, fr_put (rz.mono ex) (paired_mono (fun _ _ y => ⟨y.1, y.2.mono ex⟩) p)⟩
theorem zs_fld {o value : Expr} {f : Str} {wo we : WE} {cs : List Str} {pos pos'} (ok : FOk X.K X.mg cs f) (ho : ZE X o wo) (hv : ZE X value we) (hs : swapsWith value (some (.Attribute o f pos')) pos.line X.env = pure false := by rfl) :
    ZS X (.Assign [.Attribute o f pos'] value pos) (wsFld cs f wo we) :=
  ⟨fun B E tk => ps_imp (ps_fld (ho.run B E tk) (hv.run B E tk) hs) fun D' σ H ⟨μ, env, h, D, R, q, fd⟩ => ⟨μ, env, h, _, R, q, fun z h1 μ1 H1 v p1 e1 R1 r1 => ⟨μ1, env, h1, _, R.step e1 R1, p1, fun y h2 μ2 H2 x p2 e2 R2 r2 => by
    unfold setFZ at p2
    split at p2
    · split at p2
      · rename_i n c fs e3
        obtain ⟨hc, hl, p2⟩ := p2
        obtain ⟨a, C, dx, vs, rfl, ha, m, hH, p⟩ := ins_of R2 e3 r2
        obtain ⟨k1, k2⟩ := ok c hc C m
        obtain ⟨R3, ex⟩ := set_fld (f := f) R2 ha m hH p (r1.mono e2)
        refine ⟨a, C, dx, vs, rfl, hH, k1, k2, by rw [← paired_len p]; exact hl, fd.nx _ _ _ _ _ (((R.step e1 R1).step e2 R2).step ex R3) p2⟩
      · exact p2.elim
    · exact p2.elim⟩⟩⟩
/-- o.f += e, o.f -= e -/
def wsFldAug (sg : Bool) (cs : List Str) (f : Str) (wo we : WE) : WS := fun D env h E => wo env h (fun o h1 => match o with
  | .ref n => (match h1[n]? with
    | some (.ins c fs) => c ∈ cs ∧ (match fs.lookup f with
      | some x => we env h1 (fun y h2 => match x, y with
        | .int i, .int j => (match h2[n]? with
          | some (.ins c2 fs2) => c2 = c ∧ fs2.length < 1000 ∧ D.nx env (h2.set n (.ins c2 (zput f (.int (if sg = true then i + j else i - j)) fs2)))
          | _ => False)
        | _, _ => False) E
      | none => False)
    | _ => False)
  | _ => False) E
theorem fldaug_core {sg : Bool} {op : Operator} {rd : V → V → Hp → VK → Prop} (hop : InOp X op rd) (hrd : ∀ i j H Q, Q (.int (if sg = true then i + j else i - j)) H → rd (.int i) (.int j) H Q) {o value : Expr} {f : Str} {wo we : WE} {cs : List Str} {pos tpos} (ok : FOk X.K X.mg cs f)
    (ho : ZE X o wo) (hv : ZE X value we) : ZS X (.AugAssign (.Attribute o f tpos) op value pos) (wsFldAug sg cs f wo we) :=
  ⟨fun B E tk => ps_imp (ps_fldaug (ho.run B E tk) (hv.run B E tk) hop) fun D' σ H ⟨μ, env, h, D, R, q, fd⟩ => ⟨μ, env, h, _, R, q, fun z h1 μ1 H1 v p1 e1 R1 r1 => by
    split at p1
    · split at p1
      · rename_i n _ c fs e2
        obtain ⟨hc, p1⟩ := p1
        obtain ⟨a, C, dx, vs, rfl, ha, m, hH, p⟩ := ins_of R1 e2 r1
        have l := fr_look p f
        split at p1
        · rename_i z e3
          rw [e3] at l
          obtain ⟨u, e4, ru⟩ := optR_some l
          obtain ⟨k1, k2⟩ := ok c hc C m
          refine ⟨a, C, dx, vs, u, rfl, hH, k1, k2, e4, μ1, env, h1, _, R.step e1 R1, p1, fun y h2 μ2 H2 x p2 ex2 R2 r2 => ?_⟩
          split at p2
          · rename_i i j
            cases of_int (ru.mono ex2); cases of_int r2
            split at p2
            · rename_i c2 fs2 e5
              obtain ⟨rfl, hl, p2⟩ := p2
              obtain ⟨a', C', dx', vs', ea', ha', m', hH', p'⟩ := ins_of (v := .ref a) R2 e5 (by unfold RepV; exact ⟨a, rfl, ex2.get ha⟩)
              cases ea'
              rw [m] at m'; cases m'
              obtain ⟨R3, ex⟩ := set_fld (f := f) (z := .int (if sg = true then i + j else i - j)) R2 ha' m hH' p' rep_int
              exact hrd _ _ _ _ ⟨dx', vs', hH', by rw [← paired_len p']; exact hl, fd.nx _ _ _ _ _ (((R.step e1 R1).step ex2 R2).step ex R3) p2⟩
            · exact p2.elim
          · exact p2.elim
        · exact p1.elim
      · exact p1.elim
    · exact p1.elim⟩⟩
theorem zs_fldadd {o value : Expr} {f : Str} {wo we : WE} {cs : List Str} {pos tpos} (ok : FOk X.K X.mg cs f) (ho : ZE X o wo) (hv : ZE X value we) : ZS X (.AugAssign (.Attribute o f tpos) .Add value pos) (wsFldAug true cs f wo we) :=
  fldaug_core (sg := true) in_add (fun i j H Q q => ⟨i, j, rfl, rfl, q⟩) ok ho hv
theorem zs_fldsub {o value : Expr} {f : Str} {wo we : WE} {cs : List Str} {pos tpos} (ok : FOk X.K X.mg cs f) (ho : ZE X o wo) (hv : ZE X value we) : ZS X (.AugAssign (.Attribute o f tpos) .Sub value pos) (wsFldAug false cs f wo we) :=
  fldaug_core (sg := false) in_sub (fun i j H Q q => ⟨i, j, rfl, rfl, q⟩) ok ho hv
end

/-! ### room, and no repr on the way -/
structure RoomG (k : Nat) (A : Around) : Prop where
  r : Room k A
  g : A.guards = some []
theorem RoomG.mono {j k : Nat} {A : Around} (x : RoomG k A) (h : j ≤ k) : RoomG j A := ⟨x.r.mono h, x.g⟩
theorem RoomG.deeper {k : Nat} {A : Around} (x : RoomG (k + 1) A) (env : PySem.Env) : RoomG k (A.deeper env) := ⟨x.r.deeper env, x.g⟩
theorem RoomG.make {k : Nat} {A : Around} (x : RoomG (k + 1) A) (C : Addr) (us : List Value) (kw : List (Str × Value)) : RoomG k (A.under (.builtin "type.__call__" ⟨.ref C :: us, kw⟩)) :=
  ⟨x.r.make C us kw, by simp [Around.under, x.g, Code.guards, Code.isGuard, pushGuards, guardIds]⟩
/-- a def's promise, there -/
structure FnG (P : Program) (w : World) (K : PySem.W.Frag) (mg : Str → Option Value) (base : Heap) (CX : CXT) (k : Nat) (f : Addr) (fd : FuncData) (ps : List Str) (sp : Sp) : Prop where
  len : ∀ vs H Q E, sp vs H Q E → vs.length = ps.length
  run : ∀ (A : Around) (outer : List PySem.Env) (s : Shared) (H : Hp) (args : Args) (us : List Value) (vs : List V) (Q : VK) (E : XK), RoomG k A → Env0 P w K mg base A outer s H → BindsTo s fd args (ps.zip us) → Vals vs us → sp vs H Q E →
    codeAny (model P w) A (.call (.ref f) args) (CR CX outer P w H s Q E) s
theorem FnG.imp {P : Program} {w : World} {K : PySem.W.Frag} {mg : Str → Option Value} {base : Heap} {CX : CXT} {k : Nat} {f : Addr} {fd : FuncData} {ps : List Str} {sp sp' : Sp} (F : FnG P w K mg base CX k f fd ps sp) (h : ∀ vs H Q E, sp' vs H Q E → sp vs H Q E) : FnG P w K mg base CX k f fd ps sp' :=
  ⟨fun vs H Q E q => F.len vs H Q E (h _ _ _ _ q), fun A o s H a us vs Q E r0 e0 b v q => F.run A o s H a us vs Q E r0 e0 b v (h _ _ _ _ q)⟩
section
variable {X : Cx} {CX : CXT} {k : Nat} {f : Addr} {fd : FuncData} {ps : List Str} {sp : Sp} {E : L2.St → XK}
theorem run_fnG {pins : List (Addr × Obj)} {σ : L2.St} {H : Hp} {s : Shared} {Q : VK} {us : List Value} {vs : List V} (F : FnG X.prog X.w X.K X.mg X.base CX k f fd ps sp) (hr : RoomG k X.A) (hb : Binds X.K fd ps []) (hx : PassesAt CX X σ (E σ))
    (I : Inv X pins σ H s) (r : Vals vs us) (h : sp vs H Q (E σ)) : wpAny (model X.prog X.w) X.A (call (.ref f) us) (EP X pins σ Q) X.xe s := by
  have b := hb s us I.kIn (by rw [List.append_nil, ← r.length]; exact F.len _ _ _ _ h)
  rw [List.append_nil] at b
  refine wpAny_call (codeAny_mono (F.run X.A X.stack s H ⟨us, []⟩ us vs Q (E σ) hr I.env0 b r h) fun r' s' hq => ?_)
  match r', hq with
  | .error e, hq => exact hx pins H s e s' I hq
  | .ok (.ret u), hq => exact I.after hq
theorem pe_callG {x : Str} {e : Expr} {es : List Expr} {t : TA} {p pos : Pos} (F : FnG X.prog X.w X.K X.mg X.base CX k f fd ps sp) (hr : RoomG k X.A) (hg : Gl X x) (hm : X.mg x = some (.ref f)) (hk : PySem.W.keepIn X.K (.ref f) = true) (hb : Binds X.K fd ps []) (hx : ∀ σ, PassesAt CX X σ (E σ)) (ha : PA X (e :: es) t)
    (hdb : (x == ("__debug__" : Str)) = false := by decide) (he : starEach (e :: es) X.env = (false, eval e X.env) :: starEach es X.env := by rfl) (hpl : (backTo pos (starEach es X.env)).any (·.1) = false := by rfl) : PE X (.Call (.Name x p) (e :: es) [] pos) (tCallS sp E t) :=
  ⟨fun pins s σ H Q I h => wpAny_Call_Name_kw (ld_glob I hg hm (PySem.W.callWith_K (h₀ := X.base) I.ok.mod.kin hk (thn (ha.run pos pins s σ H _ I h) fun us s1 ⟨vs, H1, I1, r, q⟩ => ⟨I1.kIn, run_fnG F hr hb (hx σ) I1 r q⟩) he hpl) hdb)⟩
end

/-! ### calls of defs -/
/-- what a def does: arguments, heap, what follows, what follows of an exception -/
abbrev WF := List Z → ZH → PZ → (XZ → ZH → Prop) → Prop
def spZ (K : PySem.W.Frag) (mg : Str → Option Value) (n : Nat) (wf : WF) : Sp := fun vs H Q E => vs.length = n ∧ ∃ μ zs h P EX, RelH K mg μ H h ∧ RepVs K μ H zs vs ∧ wf zs h P EX ∧ Fol K mg μ H P Q ∧
  ∀ x h' μ' H' c d, EX x h' → Ext μ H μ' H' → RelH K mg μ' H' h' → RelX K mg μ' H' x c d → E c d H'
/-- a function object of the text that does wf -/
structure FnZ (P : Program) (w : World) (K : PySem.W.Frag) (mg : Str → Option Value) (base : Heap) (k n : Nat) (wf : WF) (f : Addr) : Prop where
  ex : ∃ (fd : FuncData) (ps : List Str), ps.length = n ∧ FnG P w K mg base (L2.CX P w) k f fd ps (spZ K mg n wf) ∧ PySem.W.keepIn K (.ref f) = true ∧ Binds K fd ps []
theorem FnZ.imp {P : Program} {w : World} {K : PySem.W.Frag} {mg : Str → Option Value} {base : Heap} {k n : Nat} {wf wf' : WF} {f : Addr} (F : FnZ P w K mg base k n wf f) (h : ∀ zs h P E, wf' zs h P E → wf zs h P E) : FnZ P w K mg base k n wf' f := by
  obtain ⟨fd, ps, hl, ok, r⟩ := F.ex
  exact ⟨fd, ps, hl, ok.imp fun vs H Q E ⟨l, μ, zs, hh, P, EX, R, rv, q, f⟩ => ⟨l, μ, zs, hh, P, EX, R, rv, h _ _ _ _ q, f⟩, r⟩
section
variable {X : Cx} {B : List Addr × Hp}
def wCall (n : Nat) (wf : WF) (wa : WA) : WE := fun env h P E => wa env h (fun zs h1 => zs.length = n ∧ wf zs h1 P (fun x h2 => E x env h2)) E
/-- the callee's promise, from what is known at the call -/
theorem sp_of {wf : WF} {n : Nat} {E : EZ} {μ : List Addr} {env : Env} {h : ZH} {σ : L2.St} {H : Hp} {zs : List Z} {vs : List V} {P : PZ} {Q : VK} (R : Rel X.K X.mg B μ env h σ H) (r : RepVs X.K μ H zs vs) (hn : vs.length = n) (q : wf zs h P (fun x h2 => E x env h2)) (f : Fol X.K X.mg μ H P Q) :
    spZ X.K X.mg n wf vs H Q (L2.WE (WZ X.K X.mg B E) σ) :=
  ⟨hn, μ, zs, h, P, _, R.heap, r, q, f, fun x h' μ' H' c d ex e1 R1 rx => ⟨x, μ', env, h', R.step e1 R1, rx, ex⟩⟩
theorem ze_call {k n : Nat} {wf : WF} {f : Addr} {x : Str} {e : Expr} {es : List Expr} {wa : WA} {p pos : Pos} (F : FnZ X.prog X.w X.K X.mg X.base k n wf f) (hr : RoomG k X.A) (hg : Gl X x) (hm : X.mg x = some (.ref f)) (ha : ZA X (e :: es) wa)
    (hdb : (x == ("__debug__" : Str)) = false := by decide) (he : starEach (e :: es) X.env = (false, eval e X.env) :: starEach es X.env := by rfl) (hpl : (backTo pos (starEach es X.env)).any (·.1) = false := by rfl) :
    ZE X (.Call (.Name x p) (e :: es) [] pos) (wCall n wf wa) := by
  obtain ⟨fd, ps, hp, ok, kp, hb⟩ := F.ex
  refine ⟨fun B E tk => pe_imp (pe_callG ok hr hg hm kp hb (fun σ => passAt tk σ) (ha.run B E tk) hdb he hpl) fun σ H Q ⟨μ, env, h, P, R, q, f⟩ => ⟨μ, env, h, _, R, q, fun zs h1 μ1 H1 vs ⟨l, p1⟩ e1 R1 r1 => ?_⟩⟩
  exact sp_of (R.step e1 R1) r1 (by rw [← r1.length]; exact l) p1 (f.ext e1)
theorem ze_call0 {k : Nat} {wf : WF} {f : Addr} {x : Str} {p pos : Pos} (F : FnZ X.prog X.w X.K X.mg X.base k 0 wf f) (hr : RoomG k X.A) (hg : Gl X x) (hm : X.mg x = some (.ref f))
    (hdb : (x == ("__debug__" : Str)) = false := by decide) : ZE X (.Call (.Name x p) [] [] pos) (wCall 0 wf wNil) := by
  obtain ⟨fd, ps, hp, ok, kp, hb⟩ := F.ex
  refine ⟨fun B E tk => ⟨fun pins s σ H Q I ⟨μ, env, h, P, R, q, f⟩ => ?_⟩⟩
  refine wpAny_Call_Name_kw (ld_glob I hg hm ?_ hdb)
  exact PySem.W.callWith_K0 I.kIn kp (run_fnG (us := []) (E := L2.WE (WZ X.K X.mg B E)) ok hr hb (passAt tk σ) I .nil (sp_of R .nil rfl q.2 f))
/-- a method of the class c -/
structure MtZ (X : Cx) (c m : Str) (k n : Nat) (wf : WF) : Prop where
  ex : ∃ C f, X.mg c = some (.ref C) ∧ Cls X.K C ∧ Meth X.K C m f ∧ FnZ X.prog X.w X.K X.mg X.base k n wf f
def insZ (c m : Str) (h : ZH) (o : Z) (P : Prop) : Prop := match o with
  | .ref i => (match h[i]? with
    | some (.ins c' fs) => c' = c ∧ fs.lookup m = none ∧ P
    | _ => False)
  | _ => False
def wMeth (c m : Str) (n : Nat) (wf : WF) (wo : WE) (wa : WA) : WE := fun env h P E => wo env h (fun o h1 => insZ c m h1 o (wa env h1 (fun zs h2 => zs.length = n ∧ wf (o :: zs) h2 P (fun x h2 => E x env h2)) E)) E
theorem ze_meth {pl : Sem Bool} {c m : Str} {k n : Nat} {wf : WF} {o e : Expr} {es : List Expr} {wo : WE} {wa : WA} {apos pos : Pos} (M : MtZ X c m k (n + 1) wf) (hr : RoomG k X.A) (ho : ZE X o wo) (ha : ZA X (e :: es) wa)
    (hst : starEach (e :: es) X.env = (false, eval e X.env) :: starEach es X.env := by rfl) (hpl : (backTo pos (starEach es X.env)).any (·.1) = false := by rfl)
    (ht : eval (.Call (.Attribute o m apos) (e :: es) [] pos) X.env = (do
      let ov ← eval o X.env
      standAt apos.atName
      let (f, first) ← holding [ov] (getMethod ov m pl)
      callWith pos f first (backTo pos (starEach (e :: es) X.env)) (backToKw pos (keywordEach [] X.env))) := by rfl) :
    ZE X (.Call (.Attribute o m apos) (e :: es) [] pos) (wMeth c m n wf wo wa) := by
  obtain ⟨C, f, hC, cl, hm, F⟩ := M.ex
  obtain ⟨fd, ps, hp, ok, kp, hb⟩ := F.ex
  refine ⟨fun B E tk => ⟨fun pins s σ H Q I ⟨μ, env, h, P, R, q, f⟩ => ?_⟩⟩
  refine PySem.W.methodCall_KW (pl := pl) (thn ((ho.run B E tk).run pins s σ H (fun x H1 => ∃ a dx fs, x = .ref a ∧ H1 a = some (.ins C dx fs) ∧ fs.lookup m = none ∧ TZa X.K X.mg B wa E σ H1 fun vs H2 => spZ X.K X.mg (n + 1) wf (x :: vs) H2 Q (L2.WE (WZ X.K X.mg B E) σ)) I
    ⟨μ, env, h, _, R, q, fun o h1 μ1 H1 v p1 e1 R1 r1 => ?_⟩) fun u s1 ⟨x, H1, I1, rx, a, dx, fs, ex, ea, l, q⟩ => ?_) ht
  · unfold insZ at p1
    split at p1
    · split at p1
      · rename_i i _ c' fs e2
        obtain ⟨rfl, hl, p1⟩ := p1
        obtain ⟨a, C', dx, vs, rfl, ha', m', hH, p⟩ := ins_of R1 e2 r1
        rw [hC] at m'; cases m'
        have l := fr_look p m
        rw [hl] at l
        have l : vs.lookup m = none := by
          rcases l with ⟨_, e⟩ | ⟨_, _, e, _⟩
          · exact e
          · cases e
        refine ⟨a, dx, vs, rfl, hH, l, μ1, env, h1, _, R.step e1 R1, p1, fun zs h2 μ2 H2 ws ⟨l2, p2⟩ e2 R2 r2 => ?_⟩
        exact sp_of ((R.step e1 R1).step e2 R2) (.cons (r1.mono e2) r2) (by rw [List.length_cons, ← r2.length, l2]) p2 (f.ext (e1.trans e2))
      · exact p1.elim
    · exact p1.elim
  · subst ex
    obtain rfl : u = Value.ref a := rx
    refine getmeth_ok I1 ea cl hm l ?_
    refine PySem.W.callWith_K (first := [.ref a]) (h₀ := X.base) I.ok.mod.kin hm.kp (thn ((ha.run B E tk).run pos pins s1 σ H1 _ I1 q) fun us s2 ⟨vs, H2, I2, r, q2⟩ => ⟨I2.kIn, ?_⟩) hst hpl
    exact run_fnG (us := .ref a :: us) (vs := .ref a :: vs) (E := L2.WE (WZ X.K X.mg B E)) ok hr hb (passAt tk σ) I2 (.cons rfl r) q2
theorem ze_meth0 {pl : Sem Bool} {c m : Str} {k : Nat} {wf : WF} {o : Expr} {wo : WE} {apos pos : Pos} (M : MtZ X c m k 1 wf) (hr : RoomG k X.A) (ho : ZE X o wo)
    (ht : eval (.Call (.Attribute o m apos) [] [] pos) X.env = (do
      let ov ← eval o X.env
      standAt apos.atName
      let (f, first) ← holding [ov] (getMethod ov m pl)
      callWith pos f first (backTo pos (starEach [] X.env)) (backToKw pos (keywordEach [] X.env))) := by rfl) :
    ZE X (.Call (.Attribute o m apos) [] [] pos) (wMeth c m 0 wf wo wNil) := by
  obtain ⟨C, f, hC, cl, hm, F⟩ := M.ex
  obtain ⟨fd, ps, hp, ok, kp, hb⟩ := F.ex
  refine ⟨fun B E tk => ⟨fun pins s σ H Q I ⟨μ, env, h, P, R, q, f⟩ => ?_⟩⟩
  refine PySem.W.methodCall_KW (pl := pl) (thn ((ho.run B E tk).run pins s σ H (fun x H1 => ∃ a dx fs, x = .ref a ∧ H1 a = some (.ins C dx fs) ∧ fs.lookup m = none ∧ spZ X.K X.mg 1 wf [x] H1 Q (L2.WE (WZ X.K X.mg B E) σ)) I
    ⟨μ, env, h, _, R, q, fun o h1 μ1 H1 v p1 e1 R1 r1 => ?_⟩) fun u s1 ⟨x, H1, I1, rx, a, dx, fs, ex, ea, l, q⟩ => ?_) ht
  · unfold insZ at p1
    split at p1
    · split at p1
      · rename_i i _ c' fs e2
        obtain ⟨rfl, hl, p1⟩ := p1
        obtain ⟨a, C', dx, vs, rfl, ha', m', hH, p⟩ := ins_of R1 e2 r1
        rw [hC] at m'; cases m'
        have l := fr_look p m
        rw [hl] at l
        have l : vs.lookup m = none := by
          rcases l with ⟨_, e⟩ | ⟨_, _, e, _⟩
          · exact e
          · cases e
        refine ⟨a, dx, vs, rfl, hH, l, ?_⟩
        exact sp_of (R.step e1 R1) (.cons r1 .nil) rfl p1.2 (f.ext e1)
      · exact p1.elim
    · exact p1.elim
  · subst ex
    obtain rfl : u = Value.ref a := rx
    refine getmeth_ok I1 ea cl hm l ?_
    exact PySem.W.callWith_K0 (first := [.ref a]) I1.kIn hm.kp (run_fnG (us := [.ref a]) (vs := [.ref a]) (E := L2.WE (WZ X.K X.mg B E)) ok hr hb (passAt tk σ) I1 (.cons rfl .nil) q)
/-- C(..) -/
structure MkZ (X : Cx) (c : Str) (k n : Nat) (wf : WF) : Prop where
  ex : ∃ C f, X.mg c = some (.ref C) ∧ Mk X.K C f ∧ FnZ X.prog X.w X.K X.mg X.base k n wf f
def wMake (c : Str) (n : Nat) (wf : WF) (wa : WA) : WE := fun env h P E => wa env h (fun zs h1 => zs.length = n ∧ wf (.ref h1.length :: zs) (h1 ++ [.ins c []]) (fun r h2 => r = .non ∧ P (.ref h1.length) h2) (fun x h2 => E x env h2)) E
theorem run_makeZ {pins : List (Addr × Obj)} {σ : L2.St} {H : Hp} {s : Shared} {Q : VK} {us : List Value} {vs : List V} {c : Str} {k n : Nat} {wf : WF} {E : EZ} {C f : Addr} {fd : FuncData} {ps : List Str} {μ : List Addr} {env : Env} {h : ZH} {zs : List Z} {P : PZ} (hC : X.mg c = some (.ref C)) (M : Mk X.K C f)
    (ok : FnG X.prog X.w X.K X.mg X.base (L2.CX X.prog X.w) k f fd ps (spZ X.K X.mg (n + 1) wf)) (hb : Binds X.K fd ps []) (hr : RoomG (k + 1) X.A) (tk : ZTk X B E) (I : Inv X pins σ H s) (r : Vals vs us) (R : Rel X.K X.mg B μ env h σ H) (rz : RepVs X.K μ H zs vs) (hn : zs.length = n)
    (q : wf (.ref h.length :: zs) (h ++ [.ins c []]) (fun r h2 => r = .non ∧ P (.ref h.length) h2) (fun x h2 => E x env h2)) (f : Fol X.K X.mg μ H P Q) : wpAny (model X.prog X.w) X.A (call (.ref C) us) (EP X pins σ Q) X.xe s := by
  have I2 := Inv.made (C := C) I
  have f0 : H s.heap.objs.size = none := I.hok.fresh (Nat.le_refl _)
  have f1 : H (s.heap.objs.size + 1) = none := I.hok.fresh (Nat.le_succ _)
  generalize hdx : s.heap.objs.size = dx at *
  have ne : dx + 1 ≠ dx := Nat.succ_ne_self dx
  have f1' : (upd H dx (.own (dx + 1))) (dx + 1) = none := by rw [upd_ne ne]; exact f1
  have ex1 : Ext μ H μ (upd H dx (.own (dx + 1))) := ext_new f0
  have ex2 : Ext μ H (μ ++ [dx + 1]) (upd (upd H dx (.own (dx + 1))) (dx + 1) (.ins C dx [])) := ext_app _ (ex1.trans (ext_new f1')) f1
  have R2 : RelH X.K X.mg (μ ++ [dx + 1]) (upd (upd H dx (.own (dx + 1))) (dx + 1) (.ins C dx [])) (h ++ [.ins c []]) := (R.heap.tup (u := .own (dx + 1)) f0).new f1' ⟨C, dx, [], hC, upd_same, .nil⟩
  have rr : RepV X.K (μ ++ [dx + 1]) (upd (upd H dx (.own (dx + 1))) (dx + 1) (.ins C dx [])) (.ref h.length) (.ref (dx + 1)) := by
    unfold RepV
    exact ⟨_, rfl, by rw [← R.heap.len]; simp⟩
  have sp : spZ X.K X.mg (n + 1) wf (V.ref (dx + 1) :: vs) (upd (upd H dx (.own (dx + 1))) (dx + 1) (.ins C dx [])) (fun v H2 => v = .non ∧ Q (.ref (dx + 1)) H2) (L2.WE (WZ X.K X.mg B E) σ) :=
    sp_of (P := fun r h2 => r = .non ∧ P (.ref h.length) h2) (R.step ex2 R2) (.cons rr (rz.mono ex2)) (by rw [List.length_cons, ← rz.length, hn]) q fun z h' μ' H' v ⟨ez, pz⟩ e3 R3 r3 => by
      subst ez
      exact ⟨of_non r3, f _ _ _ _ _ pz (ex2.trans e3) R3 (rr.mono e3)⟩
  have r2 : Vals (V.ref (dx + 1) :: vs) (Value.ref (dx + 1) :: us) := .cons rfl r
  have hl : (Value.ref (dx + 1) :: us).length = ps.length := by rw [← r2.length]; exact ok.len _ _ _ _ sp
  have b := hb _ (Value.ref (dx + 1) :: us) I2.kIn (by rw [List.append_nil]; exact hl)
  rw [List.append_nil] at b
  subst hdx
  refine wpAny_call (make_map I.kIn M.makes M.init (beq_iff_eq.mp M.fn) (codeAny_mono (ok.run _ X.stack _ _ ⟨Value.ref (s.heap.objs.size + 1) :: us, []⟩ (Value.ref (s.heap.objs.size + 1) :: us) _ _ (L2.WE (WZ X.K X.mg B E) σ) (hr.make C us [])
    (I2.env0.make C us []) b r2 sp) fun r s' hq' => ?_))
  cases r with
  | error e => exact passAt tk σ pins _ _ e s' I2 hq'
  | ok fl =>
    cases fl with
    | ret u =>
      obtain ⟨v, H', I3, rv, ev, q3⟩ := I2.after hq'
      subst ev
      exact ⟨rv, ⟨V.ref (s.heap.objs.size + 1), H', I3, rfl, q3⟩⟩
    | next => exact False.elim hq'
    | brk => exact False.elim hq'
    | cont => exact False.elim hq'
theorem ze_make {c : Str} {k n : Nat} {wf : WF} {e : Expr} {es : List Expr} {wa : WA} {p pos : Pos} (M : MkZ X c k (n + 1) wf) (hr : RoomG (k + 1) X.A) (hg : Gl X c) (ha : ZA X (e :: es) wa)
    (hdb : (c == ("__debug__" : Str)) = false := by decide) (he : starEach (e :: es) X.env = (false, eval e X.env) :: starEach es X.env := by rfl) (hpl : (backTo pos (starEach es X.env)).any (·.1) = false := by rfl) :
    ZE X (.Call (.Name c p) (e :: es) [] pos) (wMake c n wf wa) := by
  obtain ⟨C, f, hC, mk, F⟩ := M.ex
  obtain ⟨fd, ps, hp, ok, kp, hb⟩ := F.ex
  refine ⟨fun B E tk => ⟨fun pins s σ H Q I ⟨μ, env, h, P, R, q, f⟩ => ?_⟩⟩
  refine wpAny_Call_Name_kw (ld_glob I hg hC ?_ hdb)
  refine PySem.W.callWith_K (h₀ := X.base) I.ok.mod.kin mk.kp (thn ((ha.run B E tk).run pos pins s σ H (fun vs H1 => ∃ μ1 h1 zs, Rel X.K X.mg B μ1 env h1 σ H1 ∧ RepVs X.K μ1 H1 zs vs ∧ zs.length = n ∧ wf (.ref h1.length :: zs) (h1 ++ [.ins c []]) (fun r h2 => r = .non ∧ P (.ref h1.length) h2) (fun x h2 => E x env h2) ∧ Fol X.K X.mg μ1 H1 P Q) I
    ⟨μ, env, h, _, R, q, fun zs h1 μ1 H1 vs ⟨l, p1⟩ e1 R1 r1 => ⟨μ1, h1, zs, R.step e1 R1, r1, l, p1, f.ext e1⟩⟩) fun us s1 ⟨vs, H1, I1, r, μ1, h1, zs, R1, rz, l, q1, f1⟩ => ⟨I1.kIn, ?_⟩) he hpl
  exact run_makeZ hC mk ok hb hr tk I1 r R1 rz l q1 f1
theorem ze_make0 {c : Str} {k : Nat} {wf : WF} {p pos : Pos} (M : MkZ X c k 1 wf) (hr : RoomG (k + 1) X.A) (hg : Gl X c) (hdb : (c == ("__debug__" : Str)) = false := by decide) :
    ZE X (.Call (.Name c p) [] [] pos) (wMake c 0 wf wNil) := by
  obtain ⟨C, f, hC, mk, F⟩ := M.ex
  obtain ⟨fd, ps, hp, ok, kp, hb⟩ := F.ex
  refine ⟨fun B E tk => ⟨fun pins s σ H Q I ⟨μ, env, h, P, R, q, f⟩ => ?_⟩⟩
  refine wpAny_Call_Name_kw (ld_glob I hg hC ?_ hdb)
  exact PySem.W.callWith_K0 I.kIn mk.kp (run_makeZ (us := []) hC mk ok hb hr tk I .nil R .nil rfl q.2 f)
end
end ZL

namespace ZL
open PySem PySem.Spec PyProof.Rows L2

/-! ### targets -/
abbrev WG := Z → Env → ZH → (Env → ZH → Prop) → EZ → Prop
abbrev WGs := List Z → Env → ZH → (Env → ZH → Prop) → EZ → Prop
section
variable (K : PySem.W.Frag) (mg : Str → Option Value) (B : List Addr × Hp)
def FolS (μ : List Addr) (H : Hp) (P : Env → ZH → Prop) (Q : L2.St → Hp → Prop) : Prop := ∀ env' h' μ' σ' H', P env' h' → Ext μ H μ' H' → Rel K mg B μ' env' h' σ' H' → Q σ' H'
def TZg (w : WG) (E : EZ) : TG := fun v σ H Q => ∃ μ env h z P, Rel K mg B μ env h σ H ∧ RepV K μ H z v ∧ w z env h P E ∧ FolS K mg B μ H P Q
def TZgs (w : WGs) (E : EZ) : TGs := fun vs σ H Q => ∃ μ env h zs P, Rel K mg B μ env h σ H ∧ RepVs K μ H zs vs ∧ w zs env h P E ∧ FolS K mg B μ H P Q
end
structure ZG (X : Cx) (tg : Expr) (w : WG) : Prop where
  run : ∀ B E, ZTk X B E → PG X tg (TZg X.K X.mg B w E)
structure ZGs (X : Cx) (tgs : List Expr) (w : WGs) : Prop where
  run : ∀ B E, ZTk X B E → PGs X tgs (TZgs X.K X.mg B w E)
section
variable {X : Cx}
theorem pg_imp {e : Expr} {t t' : TG} (p : PG X e t) (f : ∀ v σ H Q, t' v σ H Q → t v σ H Q) : PG X e t' := ⟨fun pins s σ H v u Q I r q => p.run pins s σ H v u Q I r (f _ _ _ _ q)⟩
theorem pgs_imp {e : List Expr} {t t' : TGs} (p : PGs X e t) (f : ∀ v σ H Q, t' v σ H Q → t v σ H Q) : PGs X e t' := ⟨fun pins s σ H v u Q I r q => p.run pins s σ H v u Q I r (f _ _ _ _ q)⟩
def wgName (i : Nat) : WG := fun z env h P _ => P (env.set i (some z)) h
theorem zg_name {i : Nat} {x : Str} {pos : Pos} (hN : X.N.Nodup) (hi : X.N[i]? = some x) (hx : Loc X.env.scope x) (hf : X.fn x = true ∨ X.env.scope.names.lookup x = some .local := by first | exact .inl rfl | exact .inr rfl | assumption) : ZG X (.Name x pos) (wgName i) :=
  ⟨fun B E tk => pg_imp (pg_name hN hi hx hf) fun v σ H Q ⟨μ, env, h, z, P, R, r, q, f⟩ => f _ _ _ _ _ q (Ext.refl _ _) (R.put r i)⟩
def wgNil : WGs := fun zs env h P _ => zs = [] ∧ P env h
def wgCons (g : WG) (r : WGs) : WGs := fun zs env h P E => match zs with
  | z :: zs => g z env h (fun env1 h1 => r zs env1 h1 P E) E
  | [] => False
theorem zgs_nil : ZGs X [] wgNil := ⟨fun B E tk => pgs_imp pgs_nil fun vs σ H Q ⟨μ, env, h, zs, P, R, r, q, f⟩ => by
  obtain ⟨rfl, q⟩ := q
  unfold RepVs at r
  exact ⟨r, f _ _ _ _ _ q (Ext.refl _ _) R⟩⟩
theorem zgs_cons {e : Expr} {es : List Expr} {g : WG} {r : WGs} (h1 : ZG X e g) (h2 : ZGs X es r) (hs : (assignEach (e :: es) X.env).map (·.2) = assign e X.env :: (assignEach es X.env).map (·.2) := by rfl) : ZGs X (e :: es) (wgCons g r) :=
  ⟨fun B E tk => pgs_imp (pgs_cons (h1.run B E tk) (h2.run B E tk) hs) fun vs σ H Q ⟨μ, env, h, zs, P, R, rv, q, f⟩ => by
    cases zs with
    | nil => exact q.elim
    | cons z zs =>
      unfold RepVs at rv
      obtain ⟨v, ws, rfl, r1, r2⟩ := rv
      exact ⟨v, ws, rfl, μ, env, h, z, _, R, r1, q, fun env1 h1 μ1 σ1 H1 p1 e1 R1 => ⟨μ1, env1, h1, zs, P, R1, r2.mono e1, p1, fun env2 h2 μ2 σ2 H2 p2 e2 R2 => f _ _ _ _ _ p2 (e1.trans e2) R2⟩⟩⟩
def wgTup (n : Nat) (r : WGs) : WG := fun z env h P E => match z with
  | .tup zs => zs.length = n ∧ r zs env h P E
  | _ => False
theorem zg_tup {es : List Expr} {k : Nat} {r : WGs} {n : Nat} {pos : Pos} (hc : X.calm = true) (h : ZGs X es r) (hn : (assignEach es X.env).length = n := by rfl) (hst : (assignEach es X.env).findIdx? (·.1) = none := by rfl) : ZG X (.Tuple es k pos) (wgTup n r) :=
  ⟨fun B E tk => pg_imp (pg_tup hc (h.run B E tk) hn hst) fun v σ H Q ⟨μ, env, h, z, P, R, r, q, f⟩ => by
    unfold wgTup at q
    split at q
    · obtain ⟨a, vs, rfl, t, rv⟩ := of_tup r
      exact ⟨a, vs, rfl, t.sq, by rw [← rv.length]; exact q.1, μ, env, h, _, P, R, rv, q.2, f⟩
    · exact q.elim⟩
/-- a[i] = v, by values -/
def oSet (a i v : Z) (h : ZH) (P : ZH → Prop) : Prop := match a with
  | .ref n => (match h[n]? with
    | some (.lst zs) => (match i with
      | .int k => ∃ j, ixN zs.length k = some j ∧ P (h.set n (.lst (zs.set j v)))
      | _ => False)
    | some (.dict kvs) => dkey kvs i ∧ kvs.length < sizeLine ∧ P (h.set n (.dict (dput kvs i v)))
    | _ => False)
  | _ => False
theorem set_dict (hu : X.A.units + 1 < cLine) : PSet X (fun o i v H Q => ∃ a H', o = .ref a ∧ DP H a i v H' ∧ Q H') := by
  intro pins s σ H o i v ov iv u Q I ro ri rv h
  obtain ⟨a, H', rfl, g, q⟩ := h
  cases ro
  exact z_set hu I g ri rv fun s' I' => ⟨H', I', q⟩
theorem pset_or {t t' : TSet} (a : PSet X t) (b : PSet X t') : PSet X (fun o i v H Q => t o i v H Q ∨ t' o i v H Q) := by
  intro pins s σ H o i v ov iv u Q I ro ri rv h
  rcases h with h | h
  · exact a pins s σ H o i v ov iv u Q I ro ri rv h
  · exact b pins s σ H o i v ov iv u Q I ro ri rv h
abbrev tSetZ (X : Cx) : TSet := fun o i v H Q => rSetL o i v H Q ∨ ∃ a H', o = .ref a ∧ DP H a i v H' ∧ Q H'
theorem set_z {μ : List Addr} {H : Hp} {h : ZH} {a i z : Z} {x y v : V} {P : ZH → Prop} {Q : Hp → Prop} (R : RelH X.K X.mg μ H h) (ra : RepV X.K μ H a x) (ri : RepV X.K μ H i y) (rz : RepV X.K μ H z v) (o : oSet a i z h P)
    (f : ∀ h' H', P h' → Ext μ H μ H' → RelH X.K X.mg μ H' h' → Q H') : tSetZ X x y v H Q := by
  unfold oSet at o
  split at o
  · rename_i n
    split at o
    · rename_i zs e1
      split at o
      · rename_i k
        obtain ⟨j, hj, p⟩ := o
        obtain ⟨p', vs, rfl, ha, hp, r⟩ := of_lst R e1 ra
        cases of_int ri
        obtain ⟨R2, ex⟩ := fin_set (o := .lst (zs.set j z)) (u := .lst (vs.set j v)) R ha ⟨_, hp, by simp, by simp⟩ fun ex => ⟨_, upd_same, (r.mono ex).set _ (rz.mono ex)⟩
        exact .inl ⟨p', vs, k, j, rfl, rfl, hp, by rw [← r.length]; exact hj, f _ _ p ex R2⟩
      · exact o.elim
    · rename_i kvs e1
      obtain ⟨ok, hl, p⟩ := o
      obtain ⟨p', o', rfl, ha, hp, d⟩ := dict_of R e1 ra
      obtain ⟨u, g, R2, ex⟩ := dict_put R e1 ha hp d ok hl ri rz
      exact .inr ⟨p', _, rfl, g, f _ _ p ex R2⟩
    · exact o.elim
  · exact o.elim
def wgSub (wo wi : WE) : WG := fun v env h P E => wo env h (fun o h1 => wi env h1 (fun i h2 => oSet o i v h2 fun h3 => P env h3) E) E
theorem zg_sub {o i : Expr} {wo wi : WE} {pos : Pos} (hu : X.A.units + 1 < cLine) (ho : ZE X o wo) (hi : ZE X i wi)
    (ha : ∀ v, assign (.Subscript o i pos) X.env v = (do
      let ov ← holding [v] (eval o X.env)
      let iv ← holding [v, ov] (eval i X.env)
      standAt pos
      holding [v, ov, iv] (setItem ov iv v)
      release [v, ov, iv] []) := by intro _; rfl) : ZG X (.Subscript o i pos) (wgSub wo wi) :=
  ⟨fun B E tk => pg_imp (pg_sub (ho.run B E tk) (hi.run B E tk) (pset_or set_list (set_dict hu)) ha) fun v σ H Q ⟨μ, env, h, z, P, R, r, q, f⟩ =>
    ⟨μ, env, h, _, R, q, fun o h1 μ1 H1 x p1 e1 R1 r1 => ⟨μ1, env, h1, _, R.step e1 R1, p1, fun i h2 μ2 H2 y p2 e2 R2 r2 =>
      set_z R2 (r1.mono e2) r2 ((r.mono e1).mono e2) p2 fun h' H' p ex R3 => f _ _ _ _ _ p ((e1.trans e2).trans ex) (((R.step e1 R1).step e2 R2).step ex R3)⟩⟩⟩

/-! ### statements -/
def wsAsg (w : WE) (g : WG) : WS := fun D env h E => w env h (fun z h1 => g z env h1 (fun env2 h2 => D.nx env2 h2) E) E
theorem zs_asg {tg e : Expr} {w : WE} {g : WG} {pos : Pos} (he : ZE X e w) (hg : ZG X tg g) (hs : swapsWithSole [tg] e pos.line X.env = pure false := by rfl) (hw : swappedStores [tg] e X.env = pure none := by rfl)
    (h1 : (assignEach [tg] X.env).map (·.2) = [assign tg X.env] := by rfl) : ZS X (.Assign [tg] e pos) (wsAsg w g) :=
  ⟨fun B E tk => ps_imp (ps_asg (he.run B E tk) (hg.run B E tk) hs hw h1) fun D' σ H ⟨μ, env, h, D, R, q, d⟩ => ⟨μ, env, h, _, R, q, fun z h1 μ1 H1 v p1 e1 R1 r1 =>
    ⟨μ1, env, h1, z, _, R.step e1 R1, r1, p1, fun env2 h2 μ2 σ2 H2 p2 e2 R2 => d.nx _ _ _ _ _ R2 p2⟩⟩⟩
def wsSet (i : Nat) (w : WE) : WS := fun D env h E => w env h (fun z h1 => D.nx (env.set i (some z)) h1) E
theorem zs_set {i : Nat} {x : Str} {e : Expr} {w : WE} {pos pos' : Pos} (hN : X.N.Nodup) (hi : X.N[i]? = some x) (hx : Loc X.env.scope x) (he : ZE X e w) (hs : swapsWith e (some (.Name x pos')) pos.line X.env = pure false := by rfl)
    (hf : X.fn x = true ∨ X.env.scope.names.lookup x = some .local := by first | exact .inl rfl | exact .inr rfl | assumption) : ZS X (.Assign [.Name x pos'] e pos) (wsSet i w) :=
  ⟨fun B E tk => ps_imp (ps_set hN hi hx (he.run B E tk) hs hf) fun D' σ H ⟨μ, env, h, D, R, q, d⟩ => ⟨μ, env, h, _, R, q, fun z h1 μ1 H1 v p1 e1 R1 r1 => d.nx _ _ _ _ _ ((R.step e1 R1).put r1 i) p1⟩⟩
/-- x += e, x -= e -/
def wsAug (o : Z2) (i : Nat) (w : WE) : WS := fun D env h E => match env[i]? with
  | some (some x) => w env h (fun y h1 => o x y h1 fun z h2 => D.nx (env.set i (some z)) h2) E
  | _ => False
def AugZ (X : Cx) (op : Operator) (o : Z2) : Prop :=
  ∃ t, PIp X op t ∧ ∀ μ H h a b x y P Q, RelH X.K X.mg μ H h → RepV X.K μ H a x → RepV X.K μ H b y → o a b h P → Fol X.K X.mg μ H P Q → t x y H Q
theorem zs_aug {i : Nat} {x : Str} {e : Expr} {w : WE} {op : Operator} {o : Z2} {pos pos' : Pos} (ho : AugZ X op o) (hN : X.N.Nodup) (hi : X.N[i]? = some x) (hx : Loc X.env.scope x) (he : ZE X e w)
    (hf : X.fn x = true ∨ X.env.scope.names.lookup x = some .local := by first | exact .inl rfl | exact .inr rfl | assumption) : ZS X (.AugAssign (.Name x pos') op e pos) (wsAug o i w) :=
  let ⟨_, h1, h2⟩ := ho
  ⟨fun B E tk => ps_imp (ps_aug hN hi hx (he.run B E tk) h1 hf) fun D' σ H ⟨μ, env, h, D, R, q, d⟩ => by
    unfold wsAug at q
    split at q
    · rename_i z e0
      obtain ⟨v, e1, r⟩ := R.env i z e0
      exact ⟨v, e1, μ, env, h, _, R, q, fun y h1 μ1 H1 u p1 ex1 R1 r1 => h2 μ1 H1 h1 _ _ _ _ _ _ R1 (r.mono ex1) r1 p1 fun z' h2' μ2 H2 v2 p2 ex2 R2 r2 => d.nx _ _ _ _ _ (((R.step ex1 R1).step ex2 R2).put r2 i) p2⟩
    · exact q.elim⟩
/-- ints, texts -/
def oIadd : Z2 := fun a b h P => match a, b with
  | .int i, .int j => P (.int (i + j)) h
  | .str x, .str y => x.length + y.length ≤ sizeLine ∧ P (.str (x ++ y)) h
  | _, _ => False
theorem aug_add : AugZ X .Add oIadd := by
  refine ⟨_, (iop_add (X := X)).or iop_add_str, fun μ H h a b x y P Q R ra rb o f => ?_⟩
  unfold oIadd at o
  split at o
  · cases of_int ra; cases of_int rb
    exact .inl ⟨_, _, rfl, rfl, f.here R o rep_int⟩
  · cases of_str ra; cases of_str rb
    exact .inr ⟨_, _, rfl, rfl, o.1, f.here R o.2 rep_str⟩
  · exact o.elim
theorem aug_sub : AugZ X .Sub oSub := by
  refine ⟨_, iop_sub (X := X), fun μ H h a b x y P Q R ra rb o f => ?_⟩
  unfold oSub at o
  split at o
  · cases of_int ra; cases of_int rb
    exact ⟨_, _, rfl, rfl, f.here R o rep_int⟩
  · exact o.elim
def wsExpr (w : WE) : WS := fun D env h E => w env h (fun _ h1 => D.nx env h1) E
theorem zs_expr {e : Expr} {w : WE} {pos : Pos} (he : ZE X e w) (hs : swapsWith e none pos.line X.env = pure false := by rfl) : ZS X (.Expr e pos) (wsExpr w) :=
  ⟨fun B E tk => ps_imp (ps_expr (he.run B E tk) hs) fun D' σ H ⟨μ, env, h, D, R, q, d⟩ => ⟨μ, env, h, _, R, q, fun z h1 μ1 H1 v p1 e1 R1 r1 => d.nx _ _ _ _ _ (R.step e1 R1) p1⟩⟩
def wsRet (w : WE) : WS := fun D env h E => w env h D.rt E
theorem zs_ret {e : Expr} {w : WE} {pos : Pos} (he : ZE X e w) : ZS X (.Return (some e) pos) (wsRet w) :=
  ⟨fun B E tk => ps_imp (ps_ret (he.run B E tk)) fun D' σ H ⟨μ, env, h, D, R, q, d⟩ => ⟨μ, env, h, _, R, q, fun z h1 μ1 H1 v p1 e1 R1 r1 => d.rt _ _ _ _ _ (R.ext.trans e1) R1 r1 p1⟩⟩
def wsRetN : WS := fun D env h E => D.rt .non h
theorem zs_retN {pos : Pos} : ZS X (.Return none pos) wsRetN := ⟨fun B E tk => ps_imp ps_retN fun D' σ H ⟨μ, env, h, D, R, q, d⟩ => d.rt _ _ _ _ _ R.ext R.heap rep_non q⟩
def wsNext : WS := fun D env h _ => D.nx env h
theorem zs_pass {pos : Pos} : ZS X (.Pass pos) wsNext := ⟨fun B E tk => ps_imp ps_pass fun D' σ H ⟨μ, env, h, D, R, q, d⟩ => d.nx _ _ _ _ _ R q⟩
theorem zs_doc {x j pos pos'} : ZS X (.Expr (.Constant (.str x) j pos) pos') wsNext := ⟨fun B E tk => ps_imp ps_doc fun D' σ H ⟨μ, env, h, D, R, q, d⟩ => d.nx _ _ _ _ _ R q⟩
def wsBreak : WS := fun D env h _ => D.bk env h
theorem zs_break {pos : Pos} : ZS X (.Break pos) wsBreak := ⟨fun B E tk => ps_imp ps_break fun D' σ H ⟨μ, env, h, D, R, q, d⟩ => d.bk _ _ _ _ _ R q⟩
def wsCont : WS := fun D env h _ => D.ct env h
theorem zs_continue {pos : Pos} : ZS X (.Continue pos) wsCont := ⟨fun B E tk => ps_imp ps_continue fun D' σ H ⟨μ, env, h, D, R, q, d⟩ => d.ct _ _ _ _ _ R q⟩
def wsIf (c : WT) (a b : WS) : WS := fun D env h E => c env h (fun k h1 => if k = true then a D env h1 E else b D env h1 E) E
theorem zs_if {c : Expr} {a b : List Stmt} {wc : WT} {wa wb : WS} {pos : Pos} (hc : ZT X c wc) (ha : ZSs X a wa) (hb : ZSs X b wb) : ZS X (.If c a b pos) (wsIf wc wa wb) :=
  ⟨fun B E tk => ps_imp (ps_if (hc.run B E tk) (ha.run B E tk) (hb.run B E tk)) fun D' σ H ⟨μ, env, h, D, R, q, d⟩ => ⟨μ, env, h, _, R, q, fun k h1 μ1 H1 p1 e1 R1 => by
    cases k with
    | true => exact ⟨μ1, env, h1, D, R.step e1 R1, p1, d⟩
    | false => exact ⟨μ1, env, h1, D, R.step e1 R1, p1, d⟩⟩⟩
theorem zss_nil : ZSs X [] wsNext := ⟨fun B E tk => pss_imp pss_nil fun D' σ H ⟨μ, env, h, D, R, q, d⟩ => d.nx _ _ _ _ _ R q⟩
def wsSeq (a b : WS) : WS := fun D env h E => a { D with nx := fun env1 h1 => b D env1 h1 E } env h E
theorem zss_cons {s : Stmt} {r : List Stmt} {a b : WS} (h1 : ZS X s a) (h2 : ZSs X r b) : ZSs X (s :: r) (wsSeq a b) :=
  ⟨fun B E tk => pss_imp (pss_cons (h1.run B E tk) (h2.run B E tk)) fun D' σ H ⟨μ, env, h, D, R, q, d⟩ => ⟨μ, env, h, _, R, q, ⟨fun μ1 env1 h1 σ1 H1 R1 q1 => ⟨μ1, env1, h1, D, R1, q1, d⟩, d.bk, d.ct, d.rt⟩⟩⟩
theorem zss_one {s : Stmt} {a : WS} (h1 : ZS X s a) : ZSs X [s] a := ⟨fun B E tk => pss_one (h1.run B E tk)⟩
end
end ZL

namespace ZL
open PySem PySem.Spec PyProof.Rows L2

/-! ### rules at any later base -/
section
variable {X : Cx}
theorem pg_any {tg : Expr} {w : WG} {B : List Addr × Hp} {E : EZ} (hg : ZG X tg w) (tk : ZTk X B E) : PG X tg (fun v σ H Q => ∃ B' : List Addr × Hp, Ext B.1 B.2 B'.1 B'.2 ∧ TZg X.K X.mg B' w E v σ H Q) :=
  ⟨fun pins s σ H v u Q I r ⟨B', e, q⟩ => (hg.run B' E (tk.rebase e)).run pins s σ H v u Q I r q⟩
theorem pss_any {b : List Stmt} {w : WS} {B : List Addr × Hp} {E : EZ} (hb : ZSs X b w) (tk : ZTk X B E) : PSs X b (fun D σ H => ∃ B' : List Addr × Hp, Ext B.1 B.2 B'.1 B'.2 ∧ TZs X.K X.mg B' w E D σ H) :=
  ⟨fun pins s σ H D I ⟨B', e, q⟩ => (hb.run B' E (tk.rebase e)).run pins s σ H D I q⟩
theorem pt_any {c : Expr} {w : WT} {B : List Addr × Hp} {E : EZ} (hc : ZT X c w) (tk : ZTk X B E) : PT X c (fun σ H Q => ∃ B' : List Addr × Hp, Ext B.1 B.2 B'.1 B'.2 ∧ TZt X.K X.mg B' w E σ H Q) :=
  ⟨fun pins s σ H Q I ⟨B', e, q⟩ => (hc.run B' E (tk.rebase e)).run pins s σ H Q I q⟩
end

/-! ### while -/
def whileZ (c : WT) (b : WS) (D : ZEnds) (E : EZ) : Nat → Env → ZH → Prop
  | 0 => fun _ _ => False
  | n + 1 => fun env h => c env h (fun k h1 => if k = true then b ⟨whileZ c b D E n, D.rt, D.nx, whileZ c b D E n⟩ env h1 E else D.nx env h1) E
def wsWhile (c : WT) (b : WS) : WS := fun D env h E => ∃ n, whileZ c b D E n env h
section
variable {X : Cx}
theorem zs_while {c : Expr} {body : List Stmt} {wc : WT} {wb : WS} {pos : Pos} (hp : PassesOwn (model X.prog X.w) X.A X.env X.xe) (hc : ZT X c wc) (hb : ZSs X body wb) : ZS X (.While c body [] pos) (wsWhile wc wb) :=
  ⟨fun B E tk => ps_imp (ps_while hp (hc.run B E tk) (hb.run B E tk)) fun D' σ H ⟨μ, env, h, D, R, ⟨n, q⟩, d⟩ => by
    refine ⟨fun m σ H => ∃ μ env h, Rel X.K X.mg B μ env h σ H ∧ whileZ wc wb D E m env h, ⟨n, μ, env, h, R, q⟩, ?_⟩
    rintro m σ H ⟨μ, env, h, R, q⟩
    cases m with
    | zero => exact q.elim
    | succ m =>
      refine ⟨μ, env, h, _, R, q, fun k h1 μ1 H1 p1 e1 R1 => ?_⟩
      cases k with
      | false => rw [if_neg Bool.false_ne_true] at p1 ⊢; exact d.nx _ _ _ _ _ (R.step e1 R1) p1
      | true =>
        rw [if_pos rfl] at p1 ⊢
        refine ⟨fun σ' H' => ∃ μ env h, Rel X.K X.mg B μ env h σ' H' ∧ whileZ wc wb D E m env h, fun σ' H' w => ⟨m, Nat.lt_succ_self _, w⟩, μ1, env, h1, _, R.step e1 R1, p1, ?_⟩
        exact ⟨fun μ2 env2 h2 σ2 H2 R2 q2 => ⟨μ2, env2, h2, R2, q2⟩, fun μ2 env2 h2 σ2 H2 R2 q2 => d.nx _ _ _ _ _ R2 q2, fun μ2 env2 h2 σ2 H2 R2 q2 => ⟨μ2, env2, h2, R2, q2⟩, d.rt⟩⟩
end

/-! ### what is walked -/
/-- the iterator J yields zs while chk stays true of the heap -/
structure ItR (K : PySem.W.Frag) (mg : Str → Option Value) (J : It) (zs : List Z) (chk : ZH → Prop) (μ0 : List Addr) (H0 : Hp) : Prop where
  go : ∀ (i : Nat) (z : Z) μ H h, Ext μ0 H0 μ H → RelH K mg μ H h → chk h → zs[i]? = some z → J.go i H ∧ ∀ x H', J.yld i H x H' → ∃ μ', Ext μ H μ' H' ∧ RelH K mg μ' H' h ∧ RepV K μ' H' z x
  stop : ∀ μ H h, Ext μ0 H0 μ H → RelH K mg μ H h → chk h → J.stop zs.length H
abbrev WI := Env → ZH → (List Z → (ZH → Prop) → ZH → Prop) → EZ → Prop
def TZi (K : PySem.W.Frag) (mg : Str → Option Value) (B : List Addr × Hp) (w : WI) (E : EZ) : TI := fun σ H R => ∃ μ env h P, Rel K mg B μ env h σ H ∧ w env h P E ∧
  ∀ zs chk h' μ' H' J, P zs chk h' → Ext μ H μ' H' → RelH K mg μ' H' h' → ItR K mg J zs chk μ' H' → R J H'
structure ZI (X : Cx) (tg iter : Expr) (w : WI) : Prop where
  run : ∀ B E, ZTk X B E → PI X tg iter (TZi X.K X.mg B w E)
theorem pi_imp {X : Cx} {tg e : Expr} {t t' : TI} (p : PI X tg e t) (f : ∀ σ H Q, t' σ H Q → t σ H Q) : PI X tg e t' := ⟨fun pins s σ H Q I q => p.run pins s σ H Q I (f _ _ _ q)⟩

/-! ### for -/
def forZ (g : WG) (b : WS) (chk : ZH → Prop) (D : ZEnds) (E : EZ) : List Z → Env → ZH → Prop
  | [] => fun env h => chk h ∧ D.nx env h
  | z :: zs => fun env h => chk h ∧ g z env h (fun env1 h1 => b ⟨forZ g b chk D E zs, D.rt, D.nx, forZ g b chk D E zs⟩ env1 h1 E) E
def wsFor (wi : WI) (g : WG) (b : WS) : WS := fun D env h E => wi env h (fun zs chk h1 => forZ g b chk D E zs env h1) E
section
variable {X : Cx}
theorem zs_for {tg iter : Expr} {body : List Stmt} {wi : WI} {g : WG} {wb : WS} {pos : Pos} (hp : PassesOwn (model X.prog X.w) X.A X.env X.xe) (hc : X.calm = true) (hi : ZI X tg iter wi) (hg : ZG X tg g) (hb : ZSs X body wb)
    (hs : ∀ x, foldedSetIterable iter X.env x = pure x := by intro _; rfl) : ZS X (.For tg iter body [] pos) (wsFor wi g wb) :=
  ⟨fun B E tk => ps_imp (ps_for hp hc (hi.run B E tk) (pg_any hg tk) (pss_any hb tk) hs) fun D' σ H ⟨μ, env, h, D, R, q, d⟩ => by
    refine ⟨μ, env, h, _, R, q, fun zs chk h1 μ1 H1 J p1 e1 R1 it => ?_⟩
    have RR := R.step e1 R1
    have eB : Ext B.1 B.2 μ1 H1 := RR.ext
    refine ⟨fun i m σ H => m = zs.length - i ∧ i ≤ zs.length ∧ ∃ μ env h, Rel X.K X.mg (μ1, H1) μ env h σ H ∧ forZ g wb chk D E (zs.drop i) env h, ⟨_, rfl, Nat.zero_le _, μ1, env, h1, RR.based, p1⟩, ?_⟩
    rintro i m σ2 H2 ⟨rfl, hi, μ2, env2, h2, R2, q2⟩
    by_cases hl : i < zs.length
    · rw [List.drop_eq_getElem_cons hl] at q2
      obtain ⟨hk, q2⟩ := q2
      obtain ⟨go, y⟩ := it.go i zs[i] μ2 H2 h2 R2.ext R2.heap hk (by simp [hl])
      refine .inr ⟨go, fun σ' H' => ∃ μ env h, Rel X.K X.mg (μ1, H1) μ env h σ' H' ∧ forZ g wb chk D E (zs.drop (i + 1)) env h, fun σ' H' w => ⟨_, by omega, rfl, hl, w⟩, fun x H3 yl => ?_⟩
      obtain ⟨μ3, e3, R3, r3⟩ := y x H3 yl
      refine ⟨(μ1, H1), eB, μ3, env2, h2, zs[i], _, R2.step e3 R3, r3, q2, fun env4 h4 μ4 σ4 H4 p4 e4 R4 => ⟨(μ1, H1), eB, μ4, env4, h4, _, R4, p4, ?_⟩⟩
      have d' := d.rebase (B' := (μ1, H1)) eB
      exact ⟨fun μ2 env2 h2 σ2 H2 R2 q2 => ⟨μ2, env2, h2, R2, q2⟩, fun μ2 env2 h2 σ2 H2 R2 q2 => d'.nx _ _ _ _ _ R2 q2, fun μ2 env2 h2 σ2 H2 R2 q2 => ⟨μ2, env2, h2, R2, q2⟩, d'.rt⟩
    · have e : i = zs.length := by omega
      subst e
      rw [List.drop_length] at q2
      exact .inl ⟨it.stop μ2 H2 h2 R2.ext R2.heap q2.1, d.nx _ _ _ _ _ (R2.rebase eB) q2.2⟩⟩
end

/-! ### sources -/
theorem drop1 {α : Type} {a : α} {l : List α} : (a :: l).length = l.length + 1 := rfl
section
variable {X : Cx} {K : PySem.W.Frag} {mg : Str → Option Value} {tg : Expr}
/-- the iterator's items, at a list that stays -/
theorem itr_list {a : Addr} {n : Nat} {zs : List Z} {μ0 : List Addr} {H0 : Hp} (ha : μ0[n]? = some a) : ItR K mg (Itl K a) zs (fun h => h[n]? = some (.lst zs)) μ0 H0 := by
  have key : ∀ μ H h, Ext μ0 H0 μ H → RelH K mg μ H h → h[n]? = some (.lst zs) → ∃ vs, SqL K H a vs ∧ RepVs K μ H zs vs ∧ H a = some (.lst vs) := fun μ H h e R c => by
    obtain ⟨b, hb, vs, e1, r⟩ := R.at c
    rw [e.get ha] at hb; cases hb
    exact ⟨vs, SqL.of e1, r, e1⟩
  refine ⟨fun i z μ H h e R c hz => ?_, fun μ H h e R c => ?_⟩
  · obtain ⟨vs, sq, r, _⟩ := key μ H h e R c
    obtain ⟨v, hv, rv⟩ := r.get hz
    refine ⟨⟨vs, v, sq, hv⟩, fun x H' y => ?_⟩
    obtain ⟨rfl, y⟩ := y
    rw [y vs sq] at hv; cases hv
    exact ⟨μ, Ext.refl _ _, R, rv⟩
  · obtain ⟨vs, sq, r, _⟩ := key μ H h e R c
    exact ⟨vs, sq, by rw [r.length]; exact Nat.le_refl _⟩
theorem itr_tup {a : Addr} {zs : List Z} {vs : List V} {μ0 : List Addr} {H0 : Hp} (t : TupA K H0 a vs) (r : RepVs K μ0 H0 zs vs) : ItR K mg (Itt K a) zs (fun _ => True) μ0 H0 := by
  refine ⟨fun i z μ H h e R c hz => ?_, fun μ H h e R c => ?_⟩
  · obtain ⟨v, hv, rv⟩ := (r.mono e).get hz
    refine ⟨⟨vs, v, (e.tupA t).sq, hv⟩, fun x H' y => ?_⟩
    obtain ⟨rfl, y⟩ := y
    rw [y vs (e.tupA t).sq] at hv; cases hv
    exact ⟨μ, Ext.refl _ _, R, rv⟩
  · exact ⟨vs, (e.tupA t).sq, by rw [r.length]; exact Nat.le_refl _⟩
/-- what stands for the script stays -/
theorem scr_stay {μ0 μ : List Addr} {H0 H : Hp} {ns : List Int} {a : Addr} (e : Ext μ0 H0 μ H) (r : RepV K μ0 H0 (.scr ns) (.ref a)) : SqL K H a (ns.map V.int) := by
  obtain ⟨b, eb, sq⟩ := scr_sq (r.mono e)
  cases eb
  exact sq
theorem itr_scr {a : Addr} {ns : List Int} {μ0 : List Addr} {H0 : Hp} (r : RepV K μ0 H0 (.scr ns) (.ref a)) : ItR K mg (Itl K a) (ns.map Z.int) (fun _ => True) μ0 H0 := by
  refine ⟨fun i z μ H h e R c hz => ?_, fun μ H h e R c => ⟨_, scr_stay e r, by simp⟩⟩
  obtain ⟨v, hv, rv⟩ := (RepVs.ints (K := K) (μ := μ) (H := H) ns).get hz
  refine ⟨⟨_, v, scr_stay e r, hv⟩, fun x H' y => ?_⟩
  obtain ⟨rfl, y⟩ := y
  rw [y _ (scr_stay e r)] at hv; cases hv
  exact ⟨μ, Ext.refl _ _, R, rv⟩
def chrs (x : Str) : List Z := x.cps.toList.map fun c => .str ⟨#[c]⟩
theorem itr_str {x : Str} {μ0 : List Addr} {H0 : Hp} : ItR K mg (Its x) (chrs x) (fun _ => True) μ0 H0 := by
  refine ⟨fun i z μ H h e R c hz => ?_, fun μ H h e R c => by show x.cps.size ≤ _; simp [chrs]⟩
  unfold chrs at hz
  rw [List.getElem?_map] at hz
  cases q : x.cps.toList[i]? with
  | none => rw [q] at hz; cases hz
  | some c0 =>
    rw [q] at hz
    cases hz
    have hi : i < x.cps.size := by have := (List.getElem?_eq_some_iff.mp q).1; simpa using this
    refine ⟨hi, fun v H' y => ?_⟩
    obtain ⟨rfl, c1, y1, rfl⟩ := y
    have : c1 = c0 := by
      have q' : x.cps[i]? = some c0 := by simpa using q
      rw [q'] at y1; cases y1; rfl
    subst this
    exact ⟨μ, Ext.refl _ _, R, rep_str⟩
/-- the items of a value -/
def valI (z : Z) (h : ZH) (P : List Z → (ZH → Prop) → ZH → Prop) : Prop := match z with
  | .tup zs => P zs (fun _ => True) h
  | .scr ns => P (ns.map Z.int) (fun _ => True) h
  | .str x => P (chrs x) (fun _ => True) h
  | .ref n => (match h[n]? with
    | some (.lst zs) => P zs (fun h' => h'[n]? = some (.lst zs)) h
    | _ => False)
  | _ => False
def iVal (w : WE) : WI := fun env h P E => w env h (fun z h1 => valI z h1 P) E
/-- a list, a tuple, a text -/
theorem pi_val {e : Expr} {te : TE} (he : PE X e te) : PI X tg e (fun σ H R => te σ H fun v H1 => (∃ a, v = .ref a ∧ (∃ xs, SqL X.K H1 a xs) ∧ R (Itl X.K a) H1) ∨ (∃ a, v = .ref a ∧ (∃ xs, SqT X.K H1 a xs) ∧ R (Itt X.K a) H1) ∨ ∃ x, v = .str x ∧ R (Its x) H1) := by
  refine ⟨fun pins s σ H R I h => ?_⟩
  refine thn (he.run pins s σ H _ I h) fun v s1 ⟨x, H1, I1, r1, q1⟩ => ?_
  rcases q1 with q1 | q1 | q1
  · obtain ⟨a, e, ⟨xs, hq⟩, q⟩ := q1
    subst e
    cases r1
    obtain ⟨its, rv, p, hz⟩ := I1.list hq
    refine wpAny_pyIter_list p.isList ?_
    refine ⟨s1.heap.objs.size, [s1.heap.objs.size], _, _, H1, rfl, I1.kept (t' := s1.toks) fun b o e => Heap.get?_push_of_some _ e, turn_list a _, ⟨_, Heap.get?_push_size _ rfl, rfl, rfl⟩, fun b hb => ?_, q⟩
    have e : b = s1.heap.objs.size := by simpa using hb
    subst e
    exact I1.fpOk (Nat.le_refl _) (I1.hok.fresh (Nat.le_refl _))
  · obtain ⟨a, e, ⟨xs, hq⟩, q⟩ := q1
    subst e
    cases r1
    obtain ⟨its, rv, p, hz⟩ := I1.tuple hq
    refine wpAny_pyIter_tuple (show s1.heap.IsTuple a its.toArray from p) ?_
    refine ⟨s1.heap.objs.size, [s1.heap.objs.size], _, _, H1, rfl, I1.kept (t' := s1.toks) fun b o e => Heap.get?_push_of_some _ e, turn_tuple a _, ⟨_, Heap.get?_push_size _ rfl, rfl, rfl⟩, fun b hb => ?_, q⟩
    have e : b = s1.heap.objs.size := by simpa using hb
    subst e
    exact I1.fpOk (Nat.le_refl _) (I1.hok.fresh (Nat.le_refl _))
  · obtain ⟨x, ex, q⟩ := q1
    subst ex
    obtain ⟨t, rfl⟩ := r1
    cases ha : x.cps.all (· < 128)
    · exact wpAny_pyIter_wide ha (pi_one (tk := s1.toks) I1 _ (turn_str _ x t "str_iterator" (.inr rfl)) ⟨_, Heap.get?_push_size _ rfl, rfl, rfl⟩ q)
    · exact wpAny_pyIter_ascii ha (pi_one (tk := s1.toks) I1 _ (turn_str _ x t "str_ascii_iterator" (.inl rfl)) ⟨_, Heap.get?_push_size _ rfl, rfl, rfl⟩ q)
theorem zi_val {e : Expr} {w : WE} (he : ZE X e w) : ZI X tg e (iVal w) :=
  ⟨fun B E tk => pi_imp (pi_val (he.run B E tk)) fun σ H Q ⟨μ, env, h, P, R, q, f⟩ => ⟨μ, env, h, _, R, q, fun z h1 μ1 H1 x p1 e1 R1 r1 => by
    unfold valI at p1
    split at p1
    · obtain ⟨a, vs, rfl, t, r⟩ := of_tup r1
      exact .inr (.inl ⟨a, rfl, ⟨_, t.sq⟩, f _ _ _ _ _ _ p1 e1 R1 (itr_tup t r)⟩)
    · obtain ⟨a, rfl, sq⟩ := scr_sq r1
      exact .inl ⟨a, rfl, ⟨_, sq⟩, f _ _ _ _ _ _ p1 e1 R1 (itr_scr r1)⟩
    · cases of_str r1
      exact .inr (.inr ⟨_, rfl, f _ _ _ _ _ _ p1 e1 R1 itr_str⟩)
    · split at p1
      · rename_i zs e2
        obtain ⟨a, vs, rfl, ha, hp, r⟩ := of_lst R1 e2 r1
        exact .inl ⟨a, rfl, ⟨_, SqL.of hp⟩, f _ _ _ _ _ _ p1 e1 R1 (itr_list ha)⟩
      · exact p1.elim
    · exact p1.elim⟩⟩
def rngZ (lo : Int) (n : Nat) : List Z := (List.range n).map fun i => .int (lo + (i : Nat))
theorem itr_rng {lo : Int} {n : Nat} {μ0 : List Addr} {H0 : Hp} : ItR K mg (Itr lo n) (rngZ lo n) (fun _ => True) μ0 H0 := by
  refine ⟨fun i z μ H h e R c hz => ?_, fun μ H h e R c => by show n ≤ _; simp [rngZ]⟩
  unfold rngZ at hz
  rw [List.getElem?_map] at hz
  cases q : (List.range n)[i]? with
  | none => rw [q] at hz; cases hz
  | some j =>
    rw [q] at hz
    cases hz
    obtain ⟨hi, e2⟩ := List.getElem?_eq_some_iff.mp q
    simp at hi e2
    subst e2
    refine ⟨hi, fun v H' y => ?_⟩
    obtain ⟨rfl, rfl⟩ := y
    exact ⟨μ, Ext.refl _ _, R, rep_int⟩
def inRng (j : Int) : Prop := -(2 ^ 62) ≤ j ∧ j < 2 ^ 62
theorem one_vals {μ : List Addr} {H : Hp} {zs : List Z} {vs : List V} (r : RepVs K μ H zs vs) {z : Z} (e : zs = [z]) : ∃ v, vs = [v] ∧ RepV K μ H z v := by
  subst e
  unfold RepVs at r
  obtain ⟨v, w, rfl, h1, h2⟩ := r
  unfold RepVs at h2
  exact ⟨v, by rw [h2], h1⟩
theorem two_vals {μ : List Addr} {H : Hp} {zs : List Z} {vs : List V} (r : RepVs K μ H zs vs) {z y : Z} (e : zs = [z, y]) : ∃ v u, vs = [v, u] ∧ RepV K μ H z v ∧ RepV K μ H y u := by
  subst e
  unfold RepVs at r
  obtain ⟨v, w, rfl, h1, h2⟩ := r
  obtain ⟨u, rfl, h3⟩ := one_vals h2 rfl
  exact ⟨v, u, rfl, h1, h3⟩
/-- one argument -/
def w1 (w : WE) : WA := wCons w wNil
theorem za1 {a : Expr} {w : WE} (ha : ZE X a w) (hs : starEach [a] X.env = [(false, eval a X.env)] := by rfl) : ZA X [a] (w1 w) := za_cons ha za_nil hs
def rng1 (zs : List Z) (Q : List Z → Prop) : Prop := match zs with
  | [.int j] => inRng j ∧ Q (rngZ 0 j.toNat)
  | _ => False
def rng2 (zs : List Z) (Q : List Z → Prop) : Prop := match zs with
  | [.int i, .int j] => (inRng i ∧ inRng j) ∧ Q (rngZ i (j - i).toNat)
  | _ => False
def iR1 (w : WA) : WI := fun env h P E => w env h (fun zs h1 => rng1 zs fun l => P l (fun _ => True) h1) E
def iR2 (w : WA) : WI := fun env h P E => w env h (fun zs h1 => rng2 zs fun l => P l (fun _ => True) h1) E
theorem zi_range1 {a : Expr} {w : WA} {p pos : Pos} (hg : Gl X "range") (hm : X.mg "range" = none) (ha : ZA X [a] w) (hs : starEach [a] X.env = [(false, eval a X.env)] := by rfl) : ZI X tg (.Call (.Name "range" p) [a] [] pos) (iR1 w) :=
  ⟨fun B E tk => pi_imp (pi_range1 hg hm (ha.run B E tk) hs) fun σ H Q ⟨μ, env, h, P, R, q, f⟩ => ⟨μ, env, h, _, R, q, fun zs h1 μ1 H1 vs p1 e1 R1 r1 => by
    unfold rng1 at p1
    split at p1
    · obtain ⟨v, rfl, r⟩ := one_vals r1 rfl
      cases of_int r
      exact ⟨_, rfl, p1.1.1, p1.1.2, f _ _ _ _ _ _ p1.2 e1 R1 itr_rng⟩
    · exact p1.elim⟩⟩
theorem zi_range2 {a b : Expr} {w : WA} {p pos : Pos} (hg : Gl X "range") (hm : X.mg "range" = none) (ha : ZA X [a, b] w)
    (hs : starEach [a, b] X.env = [(false, eval a X.env), (false, eval b X.env)] := by rfl) (hs2 : starEach [b] X.env = [(false, eval b X.env)] := by rfl) : ZI X tg (.Call (.Name "range" p) [a, b] [] pos) (iR2 w) :=
  ⟨fun B E tk => pi_imp (pi_range2 hg hm (ha.run B E tk) hs hs2) fun σ H Q ⟨μ, env, h, P, R, q, f⟩ => ⟨μ, env, h, _, R, q, fun zs h1 μ1 H1 vs p1 e1 R1 r1 => by
    unfold rng2 at p1
    split at p1
    · obtain ⟨v, u, rfl, ra, rb⟩ := two_vals r1 rfl
      cases of_int ra; cases of_int rb
      exact ⟨_, _, rfl, ⟨p1.1.1.1, p1.1.1.2, p1.1.2.1, p1.1.2.2⟩, f _ _ _ _ _ _ p1.2 e1 R1 itr_rng⟩
    · exact p1.elim⟩⟩
end
end ZL

namespace ZL
open PySem PySem.Spec PyProof.Rows L2

/-! ### calls of builtins -/
abbrev Z3 := List Z → ZH → PZ → Prop
def CallZ (X : Cx) (f : Value) (o : Z3) : Prop :=
  ∃ r, CallR X f r ∧ ∀ μ H h zs vs P Q, RelH X.K X.mg μ H h → RepVs X.K μ H zs vs → o zs h P → Fol X.K X.mg μ H P Q → r vs H Q
def wCB (o : Z3) (wa : WA) : WE := fun env h P E => wa env h (fun zs h1 => o zs h1 P) E
section
variable {X : Cx} {x : Str} {p pos : Pos} {e : Expr} {es : List Expr} {id T : String} {o : Z3} {wa : WA}
theorem tzCB {B : List Addr × Hp} {E : EZ} {r : List V → Hp → VK → Prop} (ho : ∀ μ H h zs vs P Q, RelH X.K X.mg μ H h → RepVs X.K μ H zs vs → o zs h P → Fol X.K X.mg μ H P Q → r vs H Q) :
    ∀ σ H Q, TZ X.K X.mg B (wCB o wa) E σ H Q → tCB r (TZa X.K X.mg B wa E) σ H Q := fun σ H Q ⟨μ, env, h, P, R, q, f⟩ =>
  ⟨μ, env, h, _, R, q, fun zs h1 μ1 H1 vs p1 e1 R1 r1 => ho μ1 H1 h1 zs vs P Q R1 r1 p1 (f.ext e1)⟩
theorem ze_callB (hc : CallZ X (.builtin id) o) (hv : bootBuiltins x = some (.builtin id)) (hg : Gl X x) (hm : X.mg x = none) (ha : ZA X (e :: es) wa) (hn : x ≠ "__name__" := by decide) (hdb : (x == ("__debug__" : Str)) = false := by decide)
    (he : starEach (e :: es) X.env = (false, eval e X.env) :: starEach es X.env := by rfl) (hpl : (backTo pos (starEach es X.env)).any (·.1) = false := by rfl) : ZE X (.Call (.Name x p) (e :: es) [] pos) (wCB o wa) :=
  let ⟨_, h1, h2⟩ := hc
  ⟨fun B E tk => pe_imp (pe_callB h1 hg hm hv (ha.run B E tk) hn hdb he hpl) (tzCB h2)⟩
theorem ze_callTy (hc : CallZ X (.type T) o) (hv : bootBuiltins x = some (.type T)) (hg : Gl X x) (hm : X.mg x = none) (ha : ZA X (e :: es) wa) (hn : x ≠ "__name__" := by decide) (hdb : (x == ("__debug__" : Str)) = false := by decide)
    (he : starEach (e :: es) X.env = (false, eval e X.env) :: starEach es X.env := by rfl) (hpl : (backTo pos (starEach es X.env)).any (·.1) = false := by rfl) : ZE X (.Call (.Name x p) (e :: es) [] pos) (wCB o wa) :=
  let ⟨_, h1, h2⟩ := hc
  ⟨fun B E tk => pe_imp (pe_callTy h1 hg hm hv (ha.run B E tk) hn hdb he hpl) (tzCB h2)⟩

/-! ### len -/
def oLen : Z3 := fun zs h P => match zs with
  | [.str x] => x.length ≤ sizeLine ∧ P (.int x.length) h
  | [.tup zs] => P (.int zs.length) h
  | [.scr ns] => P (.int ns.length) h
  | [.ref n] => (match h[n]? with
    | some (.lst zs) => P (.int zs.length) h
    | some (.dict kvs) => P (.int kvs.length) h
    | _ => False)
  | _ => False
theorem call_lenZ : CallZ X (.builtin "len") oLen := by
  refine ⟨_, call_len_seq.or (call_len_str.or (call_lenD.or call_len_dT)), fun μ H h zs vs P Q R r o f => ?_⟩
  unfold oLen at o
  split at o
  · obtain ⟨v, rfl, rv⟩ := one_vals r rfl
    cases of_str rv
    exact .inr (.inl ⟨_, rfl, o.1, f.here R o.2 rep_int⟩)
  · obtain ⟨v, rfl, rv⟩ := one_vals r rfl
    obtain ⟨a, ws, rfl, t, rw⟩ := of_tup rv
    rw [rw.length] at o
    exact .inl ⟨a, ws, rfl, .inr t.sq, f.here R o rep_int⟩
  · obtain ⟨v, rfl, rv⟩ := one_vals r rfl
    obtain ⟨a, rfl, sq⟩ := scr_sq rv
    exact .inl ⟨a, _, rfl, .inl sq, by rw [List.length_map]; exact f.here R o rep_int⟩
  · obtain ⟨v, rfl, rv⟩ := one_vals r rfl
    split at o
    · rename_i zs e1
      obtain ⟨a, ws, rfl, _, hp, rw⟩ := of_lst R e1 rv
      rw [rw.length] at o
      exact .inl ⟨a, ws, rfl, .inl (SqL.of hp), f.here R o rep_int⟩
    · rename_i kvs e1
      obtain ⟨a, ho, rfl, _, hp, d⟩ := dict_of R e1 rv
      rcases d with ⟨l, rfl, pr⟩ | ⟨l, rfl, pr⟩
      · rw [paired_len pr] at o
        exact .inr (.inr (.inl ⟨a, l, rfl, hp, f.here R o rep_int⟩))
      · rw [paired_len pr] at o
        exact .inr (.inr (.inr ⟨a, l, rfl, hp, f.here R o rep_int⟩))
    · exact o.elim
  · exact o.elim

/-! ### int, abs, min, max, str, ord -/
def oInt : Z3 := fun zs h P => match zs with
  | [.int i] => P (.int i) h
  | [.bl b] => P (.int (if b then 1 else 0)) h
  | _ => False
theorem call_intZ : CallZ X (.type "int") oInt := by
  refine ⟨_, call_int1, fun μ H h zs vs P Q R r o f => ?_⟩
  unfold oInt at o
  split at o
  · obtain ⟨v, rfl, rv⟩ := one_vals r rfl
    cases of_int rv
    exact .inl ⟨_, rfl, f.here R o rep_int⟩
  · obtain ⟨v, rfl, rv⟩ := one_vals r rfl
    cases of_bl rv
    exact .inr ⟨_, rfl, f.here R o rep_int⟩
  · exact o.elim
theorem abs_bool {prog : Program} {w : World} {A : Around} {E : Value → Shared → Prop} {s : Shared} {b : Bool} {Q : Value → Shared → Prop} (h : ∀ u tk, Q (.int (if b then 1 else 0) u) { s with toks := tk }) : wpAny (model prog w) A (call (.builtin "abs") [.bool b]) Q E s := by
  refine Calls.call_function_entry kind_abs plain_abs entry_abs (args_abs _) ?_
  unfold Builtin.«abs»
  refine wpAny_bind (m := oneArg "abs" _) (wpAny_pure ?_)
  refine wpAny_bind (m := callSpecial? (.bool b) (Str.ofString "__abs__")) (wpAny_callSpecial?_slot (name := Str.ofString "__abs__") rfl PySem.F.slot_bool_abs
    (wpAny_call_entry PySem.F.slot_bool_abs rfl entry_int_abs ?_ (args_int_abs _)))
  cases b with
  | true =>
    exact wpAny_ret_mkInt (wpAny_pure ⟨_, rfl, h s.toks (s.toks + 1)⟩)
  | false => exact wpAny_ret_mkInt (wpAny_pure ⟨_, rfl, h s.toks (s.toks + 1)⟩)
def oAbs : Z3 := fun zs h P => match zs with
  | [.int i] => P (.int (if i < 0 then -i else i)) h
  | [.bl b] => P (.int (if b then 1 else 0)) h
  | _ => False
theorem call_absB : CallR X (.builtin "abs") (fun xs H Q => ∃ b, xs = [.bl b] ∧ Q (.int (if b then 1 else 0)) H) := by
  intro pins s σ H xs us Q I r h
  obtain ⟨b, rfl, q⟩ := h
  obtain ⟨u, rfl, ru⟩ := vals1 r
  cases ru
  exact abs_bool fun u tk => ⟨.int (if b then 1 else 0), H, I.tok _, ⟨_, rfl⟩, q⟩
theorem call_absZ : CallZ X (.builtin "abs") oAbs := by
  refine ⟨_, call_abs.or call_absB, fun μ H h zs vs P Q R r o f => ?_⟩
  unfold oAbs at o
  split at o
  · obtain ⟨v, rfl, rv⟩ := one_vals r rfl
    cases of_int rv
    exact .inl ⟨_, rfl, f.here R o rep_int⟩
  · obtain ⟨v, rfl, rv⟩ := one_vals r rfl
    cases of_bl rv
    exact .inr ⟨_, rfl, f.here R o rep_int⟩
  · exact o.elim
def oOrd : Z3 := fun zs h P => match zs with
  | [.str x] => x.length = 1 ∧ P (.int (x.cps.getD 0 0 : Nat)) h
  | _ => False
theorem call_ordZ : CallZ X (.builtin "ord") oOrd := by
  refine ⟨_, call_ord, fun μ H h zs vs P Q R r o f => ?_⟩
  unfold oOrd at o
  split at o
  · obtain ⟨v, rfl, rv⟩ := one_vals r rfl
    cases of_str rv
    exact ⟨_, rfl, o.1, f.here R o.2 rep_int⟩
  · exact o.elim
def oStr : Z3 := fun zs h P => match zs with
  | [.int i] => i.natAbs.log2 < 1920 ∧ P (.str (toString i)) h
  | _ => False
theorem call_strZ : CallZ X (.type "str") oStr := by
  refine ⟨_, call_str_int, fun μ H h zs vs P Q R r o f => ?_⟩
  unfold oStr at o
  split at o
  · obtain ⟨v, rfl, rv⟩ := one_vals r rfl
    cases of_int rv
    exact ⟨_, rfl, o.1, f.here R o.2 rep_str⟩
  · exact o.elim
theorem all_ints {K : PySem.W.Frag} {μ : List Addr} {H : Hp} : ∀ {ns : List Int} {vs : List V}, RepVs K μ H (ns.map Z.int) vs → vs = ns.map V.int
  | [], vs, r => by unfold RepVs at r; exact r
  | n :: ns, vs, r => by
    rw [List.map_cons] at r
    unfold RepVs at r
    obtain ⟨v, w, rfl, h1, h2⟩ := r
    cases of_int h1
    rw [all_ints h2] <;> rfl
/-- the greatest of two, of a list of ints -/
def intsZ : List Z → Option (List Int)
  | [] => some []
  | .int i :: r => (intsZ r).map (i :: ·)
  | _ => none
theorem intsZ_some : ∀ {zs : List Z} {ns : List Int}, intsZ zs = some ns → zs = ns.map Z.int
  | [], ns, e => by unfold intsZ at e; cases e; rfl
  | .int i :: r, ns, e => by
    unfold intsZ at e
    cases q : intsZ r with
    | none => rw [q] at e; cases e
    | some l => rw [q] at e; cases e; rw [intsZ_some q] <;> rfl
  | .non :: _, _, e => by cases e
  | .bl _ :: _, _, e => by cases e
  | .str _ :: _, _, e => by cases e
  | .tup _ :: _, _, e => by cases e
  | .scr _ :: _, _, e => by cases e
  | .ref _ :: _, _, e => by cases e
theorem intsZ_map : ∀ ns : List Int, intsZ (ns.map Z.int) = some ns
  | [] => rfl
  | n :: ns => by show (intsZ (ns.map Z.int)).map (n :: ·) = _; rw [intsZ_map ns]; rfl
def maxI (ns : List Int) : Int := ns.tail.foldl (fun a b => if b > a then b else a) (ns.headD 0)
def minI (ns : List Int) : Int := ns.tail.foldl (fun a b => if b < a then b else a) (ns.headD 0)
def oMax : Z3 := fun zs h P => match zs with
  | [.int i, .int j] => P (.int (if j > i then j else i)) h
  | [.ref n] => (match h[n]? with
    | some (.lst zs) => ∃ ns, intsZ zs = some ns ∧ 0 < ns.length ∧ ∀ m, m ∈ ns → (∀ y, y ∈ ns → y ≤ m) → P (.int m) h
    | _ => False)
  | _ => False
def oMin : Z3 := fun zs h P => match zs with
  | [.int i, .int j] => P (.int (if j < i then j else i)) h
  | [.ref n] => (match h[n]? with
    | some (.lst zs) => ∃ ns, intsZ zs = some ns ∧ 0 < ns.length ∧ ∀ m, m ∈ ns → (∀ y, y ∈ ns → m ≤ y) → P (.int m) h
    | _ => False)
  | _ => False
theorem call_maxZ (hc : X.calm = true) : CallZ X (.builtin "max") oMax := by
  refine ⟨_, (call_max2 hc).or (cr_max hc), fun μ H h zs vs P Q R r o f => ?_⟩
  unfold oMax at o
  split at o
  · obtain ⟨v, u, rfl, rv, ru⟩ := two_vals r rfl
    cases of_int rv; cases of_int ru
    exact .inl ⟨_, _, rfl, f.here R o rep_int⟩
  · split at o
    · rename_i zs e1
      obtain ⟨v, rfl, rv⟩ := one_vals r rfl
      obtain ⟨a, ws, rfl, _, hp, rw⟩ := of_lst R e1 rv
      obtain ⟨ns, e2, hl, q⟩ := o
      cases intsZ_some e2
      cases all_ints rw
      exact .inr ⟨a, ns, rfl, SqL.of hp, hl, fun m h1 h2 => f.here R (q m h1 h2) rep_int⟩
    · exact o.elim
  · exact o.elim
theorem call_minZ (hc : X.calm = true) : CallZ X (.builtin "min") oMin := by
  refine ⟨_, (call_min2 hc).or (cr_min hc), fun μ H h zs vs P Q R r o f => ?_⟩
  unfold oMin at o
  split at o
  · obtain ⟨v, u, rfl, rv, ru⟩ := two_vals r rfl
    cases of_int rv; cases of_int ru
    exact .inl ⟨_, _, rfl, f.here R o rep_int⟩
  · split at o
    · rename_i zs e1
      obtain ⟨v, rfl, rv⟩ := one_vals r rfl
      obtain ⟨a, ws, rfl, _, hp, rw⟩ := of_lst R e1 rv
      obtain ⟨ns, e2, hl, q⟩ := o
      cases intsZ_some e2
      cases all_ints rw
      exact .inr ⟨a, ns, rfl, SqL.of hp, hl, fun m h1 h2 => f.here R (q m h1 h2) rep_int⟩
    · exact o.elim
  · exact o.elim
def oSum : Z3 := fun zs h P => match zs with
  | [.ref n] => (match h[n]? with
    | some (.lst zs) => ∃ ns, intsZ zs = some ns ∧ P (.int ns.sum) h
    | _ => False)
  | _ => False
theorem call_sumZ (hc : X.calm = true) : CallZ X (.builtin "sum") oSum := by
  refine ⟨_, cr_sum hc, fun μ H h zs vs P Q R r o f => ?_⟩
  unfold oSum at o
  split at o
  · split at o
    · rename_i zs e1
      obtain ⟨v, rfl, rv⟩ := one_vals r rfl
      obtain ⟨a, ws, rfl, _, hp, rw⟩ := of_lst R e1 rv
      obtain ⟨ns, e2, q⟩ := o
      cases intsZ_some e2
      cases all_ints rw
      exact ⟨a, ns, rfl, SqL.of hp, f.here R q rep_int⟩
    · exact o.elim
  · exact o.elim

/-! ### tuple, list -/
def oTuple : Z3 := fun zs h P => match zs with
  | [.tup zs] => P (.tup zs) h
  | [.scr ns] => P (.tup (ns.map Z.int)) h
  | [.ref n] => (match h[n]? with
    | some (.lst zs) => P (.tup zs) h
    | _ => False)
  | _ => False
theorem call_tupleZ : CallZ X (.type "tuple") oTuple := by
  refine ⟨_, ZTS.call_tupleS (kl := keyV), fun μ H h zs vs P Q R r o f => ?_⟩
  unfold oTuple at o
  split at o
  · obtain ⟨v, rfl, rv⟩ := one_vals r rfl
    obtain ⟨a, ws, rfl, t, rw⟩ := of_tup rv
    exact ⟨a, ws, rfl, .inr ⟨t.sq, f.here R o (by unfold RepV; exact ⟨a, ws, rfl, t, rw⟩)⟩⟩
  · obtain ⟨v, rfl, rv⟩ := one_vals r rfl
    obtain ⟨a, rfl, sq⟩ := scr_sq rv
    exact ⟨a, _, rfl, .inl ⟨sq, fol_tup R (RepVs.ints _) o f⟩⟩
  · split at o
    · rename_i zs e1
      obtain ⟨v, rfl, rv⟩ := one_vals r rfl
      obtain ⟨a, ws, rfl, _, hp, rw⟩ := of_lst R e1 rv
      exact ⟨a, ws, rfl, .inl ⟨SqL.of hp, fol_tup R rw o f⟩⟩
    · exact o.elim
  · exact o.elim
def oList : Z3 := fun zs h P => match zs with
  | [.tup zs] => P (.ref h.length) (h ++ [.lst zs])
  | [.scr ns] => P (.ref h.length) (h ++ [.lst (ns.map Z.int)])
  | [.ref n] => (match h[n]? with
    | some (.lst zs) => P (.ref h.length) (h ++ [.lst zs])
    | some (.dict kvs) => (∀ p ∈ kvs, keyOk p.1 = true) ∧ P (.ref h.length) (h ++ [.lst (kvs.map (·.1))])
    | _ => False)
  | _ => False
theorem keys_rep {K : PySem.W.Frag} {μ : List Addr} {H : Hp} {kvs : List (Z × Z)} {l : List (Key × V)} (r : Paired (KR K μ H) kvs l) : RepVs K μ H (kvs.map (·.1)) (l.map fun kv => kV kv.1) := by
  induction r with
  | nil => exact .nil
  | @cons p q l m h r ih =>
    rw [List.map_cons, List.map_cons]
    refine .cons ?_ ih
    rw [h.1]
    cases q.1 with
    | inl i => exact rep_int
    | inr x => exact rep_str
theorem keys_repV {K : PySem.W.Frag} {μ : List Addr} {H : Hp} : ∀ ks : List Key, RepVs K μ H (ks.map keyZ) (ks.map kV)
  | [] => .nil
  | k :: ks => by
    rw [List.map_cons, List.map_cons]
    refine .cons ?_ (keys_repV ks)
    cases k with
    | inl i => exact rep_int
    | inr x => exact rep_str
theorem keyV_of {q : List Key} (h : keyOk (.tup (q.map keyZ)) = true) : keyV (q.map kV) = true := by
  rw [keyV_keys]
  have := (Bool.and_eq_true_iff.mp (show ((ksOf (q.map keyZ)).isSome && keyN (q.map keyZ).length ((q.map keyZ).all textZ)) = true from h)).2
  rwa [List.length_map] at this
theorem keysT_rep {K : PySem.W.Frag} {μ : List Addr} {H : Hp} {kvs : List (Z × Z)} {l : List (List Key × V)} {bs : List Addr} (r : Paired (TR K μ H) kvs l) (k : IsKeys H l bs) (ok : ∀ p ∈ kvs, keyOk p.1 = true) : RepVs K μ H (kvs.map (·.1)) (bs.map V.ref) := by
  unfold IsKeys at k
  induction r generalizing bs with
  | nil => cases k; exact .nil
  | @cons p q l m h r ih =>
    cases k with
    | cons k1 k2 =>
      rw [List.map_cons, List.map_cons]
      have o1 := ok p List.mem_cons_self
      rw [h.1] at o1
      refine .cons ?_ (ih k2 fun y m => ok y (List.mem_cons_of_mem _ m))
      rw [h.1]
      unfold RepV
      exact ⟨_, _, rfl, .inl ⟨keyV_of o1, k1⟩, keys_repV _⟩
theorem call_listZ (hc : X.calm = true) : CallZ X (.type "list") oList := by
  refine ⟨_, call_list_of.or ((call_list_dK hc).or (call_list_dT hc)), fun μ H h zs vs P Q R r o f => ?_⟩
  unfold oList at o
  split at o
  · obtain ⟨v, rfl, rv⟩ := one_vals r rfl
    obtain ⟨a, ws, rfl, t, rw⟩ := of_tup rv
    exact .inl ⟨a, ws, rfl, .inr t.sq, fol_lst R rw o f⟩
  · obtain ⟨v, rfl, rv⟩ := one_vals r rfl
    obtain ⟨a, rfl, sq⟩ := scr_sq rv
    exact .inl ⟨a, _, rfl, .inl sq, fol_lst R (RepVs.ints _) o f⟩
  · obtain ⟨v, rfl, rv⟩ := one_vals r rfl
    split at o
    · rename_i zs e1
      obtain ⟨a, ws, rfl, _, hp, rw⟩ := of_lst R e1 rv
      exact .inl ⟨a, ws, rfl, .inl (SqL.of hp), fol_lst R rw o f⟩
    · rename_i kvs e1
      obtain ⟨a, ho, rfl, _, hp, d⟩ := dict_of R e1 rv
      rcases d with ⟨l, rfl, pr⟩ | ⟨l, rfl, pr⟩
      · exact .inr (.inl ⟨a, l, rfl, hp, fol_lst R (keys_rep pr) o.2 f⟩)
      · exact .inr (.inr ⟨a, l, rfl, .inl hp, fun p bs hn ik => fol_lst R (keysT_rep pr ik o.1) o.2 f p hn⟩)
    · exact o.elim
  · exact o.elim

/-! ### isinstance with a builtin type -/
inductive BT where
  | int | str | bool | tuple | list | dict
def BT.name : BT → String
  | .int => "int" | .str => "str" | .bool => "bool" | .tuple => "tuple" | .list => "list" | .dict => "dict"
/-- whether a value is of a type; of own objects: none is -/
def isiZ (T : BT) (cs : List Str) (h : ZH) (z : Z) (Q : Bool → Prop) : Prop := match z with
  | .non => Q false
  | .bl _ => Q (match T with | .int => true | .bool => true | _ => false)
  | .int _ => Q (match T with | .int => true | _ => false)
  | .str _ => Q (match T with | .str => true | _ => false)
  | .tup _ => Q (match T with | .tuple => true | _ => false)
  | .scr _ => Q (match T with | .list => true | _ => false)
  | .ref n => (match h[n]? with
    | some (.lst _) => Q (match T with | .list => true | _ => false)
    | some (.dict _) => Q (match T with | .dict => true | _ => false)
    | some (.ins c _) => c ∈ cs ∧ Q false
    | _ => False)
  | .err _ => False
/-- the classes cs are of no such type -/
def NoT (K : PySem.W.Frag) (mg : Str → Option Value) (cs : List Str) (T : String) : Prop := ∀ c ∈ cs, ∀ C, mg c = some (.ref C) → Cls K C ∧ PySem.W.findIn K (.ref C) "__class__" = some (some (.builtin "object.__class__")) ∧
  PySem.W.specialIn K (.builtin "object.__class__") "__get__" = some (some (.builtin "getset_descriptor.__get__")) ∧ PySem.W.takesIn K (.builtin "object.__class__") = some true ∧ PySem.W.mroIn K C (.type "object") = some true ∧ PySem.W.kitOne K (.ref C) (.type T) = some false
def wIsi (T : BT) (cs : List Str) (w : WE) : WE := fun env h P E => w env h (fun z h1 => isiZ T cs h1 z fun b => P (.bl b) h1) E
def kN (a : String) (T : BT) : Bool := (kitB a T.name).getD false
theorem kit_all (a : String) (h : a ∈ ["NoneType", "bool", "int", "str", "tuple", "list", "dict"]) (T : BT) : kitB a T.name = some (kN a T) := by
  simp only [List.mem_cons, List.mem_nil_iff, or_false] at h
  rcases h with rfl | rfl | rfl | rfl | rfl | rfl | rfl <;> cases T <;> decide +kernel
theorem isi_core {K : PySem.W.Frag} {mg : Str → Option Value} {T : BT} {cs : List Str} (hn : NoT K mg cs T.name) {μ : List Addr} {H : Hp} {h : ZH} {z : Z} {v : V} {P : PZ} {Q : VK} (R : RelH K mg μ H h) (r : RepV K μ H z v)
    (o : isiZ T cs h z fun b => P (.bl b) h) (f : Fol K mg μ H P Q) : ∃ (t : Value) (b : Bool), TyX K H v t ∧ PySem.W.kitOne K t (.type T.name) = some b ∧ Q (.bl b) H := by
  have go : ∀ (a : String) (b : Bool), a ∈ ["NoneType", "bool", "int", "str", "tuple", "list", "dict"] → kN a T = b → TyX K H v (.type a) → P (.bl b) h → ∃ (t : Value) (b : Bool), TyX K H v t ∧ PySem.W.kitOne K t (.type T.name) = some b ∧ Q (.bl b) H :=
    fun a b ha e ty p => ⟨_, b, ty, by rw [← e]; exact kit_ty (kit_all a ha T), f.here R p rep_bl⟩
  unfold isiZ at o
  split at o
  · cases of_non r
    exact go "NoneType" _ (by decide) (by cases T <;> decide +kernel) (.base .non) o
  · cases of_bl r
    exact go "bool" _ (by decide) (by cases T <;> decide +kernel) (.base (.bl _)) o
  · cases of_int r
    exact go "int" _ (by decide) (by cases T <;> decide +kernel) (.base (.int _)) o
  · cases of_str r
    exact go "str" _ (by decide) (by cases T <;> decide +kernel) (.base (.str _)) o
  · obtain ⟨a, ws, rfl, t, rw⟩ := of_tup r
    rcases t with ⟨_, t⟩ | ⟨_, ob, _, t⟩
    · exact go "tuple" _ (by decide) (by cases T <;> decide +kernel) (.base (.tup t)) o
    · exact go "tuple" _ (by decide) (by cases T <;> decide +kernel) (.fTuple t) o
  · unfold RepV at r
    obtain ⟨a, rfl, ⟨o', e⟩ | e⟩ := r
    · exact go "list" _ (by decide) (by cases T <;> decide +kernel) (.base (.frz e)) o
    · obtain ⟨ob, _, _, e1, e2, _⟩ := e
      exact go "list" _ (by decide) (by cases T <;> decide +kernel) (.kList e1 e2) o
  · split at o
    · rename_i e1
      obtain ⟨a, ws, rfl, _, hp, rw⟩ := of_lst R e1 r
      exact go "list" _ (by decide) (by cases T <;> decide +kernel) (.base (.lst hp)) o
    · rename_i e1
      obtain ⟨a, ho, rfl, _, hp, d⟩ := dict_of R e1 r
      rcases d with ⟨l, rfl, pr⟩ | ⟨l, rfl, pr⟩
      · exact go "dict" _ (by decide) (by cases T <;> decide +kernel) (.base (.dK hp)) o
      · exact go "dict" _ (by decide) (by cases T <;> decide +kernel) (.base (.dT hp)) o
    · rename_i e1
      obtain ⟨a, C, dx, vs, rfl, ha, m, hH, p⟩ := ins_of R e1 r
      obtain ⟨h1, h2, h3, h4, h5, h6⟩ := hn _ o.1 C m
      exact ⟨_, false, .base (.ins hH h1 h2 h3 h4 h5), h6, f.here R o.2 rep_bl⟩
    · exact o.elim
  · exact o.elim
theorem ze_isi {T : BT} {cs : List Str} {w : WE} {e : Expr} {tn : Str} {p p2 pos : Pos} (hn : NoT X.K X.mg cs T.name) (htn : tn = Str.ofString T.name) (hg : Gl X "isinstance") (hm : X.mg "isinstance" = none) (hg2 : Gl X tn) (hm2 : X.mg tn = none) (he : ZE X e w)
    (hs : starEach [e, .Name tn p2] X.env = (false, eval e X.env) :: starEach [.Name tn p2] X.env := by rfl) (hpl : (backTo pos (starEach [.Name tn p2] X.env)).any (·.1) = false := by rfl) (hs2 : starEach [.Name tn p2] X.env = [(false, eval (.Name tn p2) X.env)] := by rfl) :
    ZE X (.Call (.Name "isinstance" p) [e, .Name tn p2] [] pos) (wIsi T cs w) := by
  have hv : bootBuiltins tn = some (.type T.name) := by subst htn; cases T <;> rfl
  have pT : PE X (.Name tn p2) (tC (.ty T.name)) := pe_bltn hg2 hm2 hv rfl (by subst htn; cases T <;> decide) (by subst htn; cases T <;> decide)
  refine ⟨fun B E tk => pe_imp (pe_callB (X := X) (x := "isinstance") (id := "isinstance") call_isi hg hm rfl (pa_cons (he.run B E tk) (pa_cons pT pa_nil hs2) hs) (by decide) (by decide) hs hpl) fun σ H Q ⟨μ, env, h, P, R, q, f⟩ => ⟨μ, env, h, _, R, q, fun z h1 μ1 H1 v p1 e1 R1 r1 => ?_⟩⟩
  obtain ⟨t, b, k1, k2, k3⟩ := isi_core hn R1 r1 p1 (f.ext e1)
  exact ⟨v, .ty T.name, t, .type T.name, b, rfl, .ty _, k1, k2, k3⟩
end
end ZL

namespace ZL
open PySem PySem.Spec PyProof.Rows L2

/-! ### targets of comprehensions -/
inductive Pat where
  | nm (i : Nat) | tup (ps : List Pat)
mutual
def Pat.put : Pat → Z → Env → Option Env
  | .nm i, z, env => some (env.set i (some z))
  | .tup ps, z, env => match z with
    | .tup zs => Pat.puts ps zs env
    | _ => none
def Pat.puts : List Pat → List Z → Env → Option Env
  | [], [], env => some env
  | p :: ps, z :: zs, env => match Pat.put p z env with
    | some e => Pat.puts ps zs e
    | none => none
  | _, _, _ => none
end
mutual
def Pat.slots : Pat → List Nat
  | .nm i => [i]
  | .tup ps => Pat.slotss ps
def Pat.slotss : List Pat → List Nat
  | [] => []
  | p :: ps => Pat.slots p ++ Pat.slotss ps
end
mutual
inductive PutV (H : Hp) : Pat → V → L2.St → L2.St → Prop where
  | nm {i : Nat} {v : V} {σ : L2.St} : PutV H (.nm i) v σ (σ.set i (some v))
  | tup {ps : List Pat} {a : Addr} {vs : List V} {σ σ' : L2.St} (h : Rd H a (.tup vs)) (hl : vs.length = ps.length) (r : PutVs H ps vs σ σ') : PutV H (.tup ps) (.ref a) σ σ'
inductive PutVs (H : Hp) : List Pat → List V → L2.St → L2.St → Prop where
  | nil {σ : L2.St} : PutVs H [] [] σ σ
  | cons {p : Pat} {ps : List Pat} {v : V} {vs : List V} {σ σ1 σ' : L2.St} (h : PutV H p v σ σ1) (r : PutVs H ps vs σ1 σ') : PutVs H (p :: ps) (v :: vs) σ σ'
end
theorem wipe_set {σ : L2.St} {i : Nat} {v : V} : ∀ {vs : List Nat}, i ∈ vs → wipe (σ.set i (some v)) vs = wipe σ vs
  | j :: vs, h => by
    unfold wipe
    by_cases hi : i ∈ vs
    · rw [wipe_set hi]
    · have e : i = j := by simpa [hi] using h
      subst e
      have key : ∀ (ws : List Nat), i ∉ ws → wipe (σ.set i (some v)) ws = (wipe σ ws).set i (some v) := by
        intro ws
        induction ws with
        | nil => intro _; rfl
        | cons k ws ih =>
          intro hn
          simp only [List.mem_cons, not_or] at hn
          unfold wipe
          rw [ih hn.2, List.set_comm _ _ hn.1]
      rw [key vs hi, List.set_set]
theorem wipe_cons (σ : L2.St) (k : Nat) (us : List Nat) : wipe σ (k :: us) = (wipe σ us).set k none := rfl
theorem wipe_in (σ : L2.St) (k : Nat) : ∀ ws : List Nat, k ∈ ws → (wipe σ ws).set k none = wipe σ ws
  | j :: ws, h => by
    rw [wipe_cons]
    by_cases hj : j = k
    · subst hj
      rw [List.set_set]
    · have h' : k ∈ ws := by
        rcases List.mem_cons.mp h with z | z
        · exact absurd z.symm hj
        · exact z
      rw [List.set_comm _ _ hj, wipe_in σ k ws h']
theorem wipe_idem (σ : L2.St) (ws : List Nat) : ∀ us : List Nat, (∀ i ∈ us, i ∈ ws) → wipe (wipe σ ws) us = wipe σ ws
  | [], _ => rfl
  | k :: us, hu => by
    rw [wipe_cons, wipe_idem σ ws us (fun i hi => hu i (List.mem_cons_of_mem _ hi)), wipe_in σ k ws (hu k List.mem_cons_self)]
mutual
theorem PutV.wipe {H : Hp} {p : Pat} {v : V} {σ σ' : L2.St} {vs : List Nat} (h : PutV H p v σ σ') (hs : ∀ i ∈ p.slots, i ∈ vs) : wipe σ' vs = wipe σ vs := by
  cases h with
  | nm => exact wipe_set (hs _ (by unfold Pat.slots; simp))
  | tup _ _ r => exact PutVs.wipe r (fun i hi => hs i (by unfold Pat.slots; exact hi))
theorem PutVs.wipe {H : Hp} {ps : List Pat} {xs : List V} {σ σ' : L2.St} {vs : List Nat} (h : PutVs H ps xs σ σ') (hs : ∀ i ∈ Pat.slotss ps, i ∈ vs) : wipe σ' vs = wipe σ vs := by
  cases h with
  | nil => rfl
  | cons h r => rw [PutVs.wipe r (fun i hi => hs i (by unfold Pat.slotss; exact List.mem_append_right _ hi)), PutV.wipe h (fun i hi => hs i (by unfold Pat.slotss; exact List.mem_append_left _ hi))]
end
mutual
theorem pat_put {K : PySem.W.Frag} {mg : Str → Option Value} {B : List Addr × Hp} {μ : List Addr} {h : ZH} {H : Hp} : ∀ {p : Pat} {z : Z} {v : V} {env env' : Env} {σ : L2.St}, Rel K mg B μ env h σ H → RepV K μ H z v → p.put z env = some env' → ∃ σ', PutV H p v σ σ' ∧ Rel K mg B μ env' h σ' H
  | .nm i, z, v, env, env', σ, R, r, e => by
    unfold Pat.put at e
    cases e
    exact ⟨_, .nm, R.put r i⟩
  | .tup ps, z, v, env, env', σ, R, r, e => by
    unfold Pat.put at e
    cases z with
    | tup zs =>
      obtain ⟨a, vs, rfl, t, rv⟩ := of_tup r
      obtain ⟨σ', h1, h2, hl⟩ := pat_puts (ps := ps) (vs := vs) R rv e
      exact ⟨σ', .tup t.rd hl h1, h2⟩
    | _ => cases e
theorem pat_puts {K : PySem.W.Frag} {mg : Str → Option Value} {B : List Addr × Hp} {μ : List Addr} {h : ZH} {H : Hp} : ∀ {ps : List Pat} {zs : List Z} {vs : List V} {env env' : Env} {σ : L2.St}, Rel K mg B μ env h σ H → RepVs K μ H zs vs → Pat.puts ps zs env = some env' → ∃ σ', PutVs H ps vs σ σ' ∧ Rel K mg B μ env' h σ' H ∧ vs.length = ps.length
  | [], [], vs, env, env', σ, R, r, e => by
    unfold Pat.puts at e
    cases e
    unfold RepVs at r
    subst r
    exact ⟨_, .nil, R, rfl⟩
  | p :: ps, z :: zs, vs, env, env', σ, R, r, e => by
    unfold Pat.puts at e
    unfold RepVs at r
    obtain ⟨v, ws, rfl, r1, r2⟩ := r
    cases q : Pat.put p z env with
    | none => rw [q] at e; cases e
    | some env1 =>
      rw [q] at e
      obtain ⟨σ1, h1, R1⟩ := pat_put R r1 q
      obtain ⟨σ2, h2, R2, hl⟩ := pat_puts R1 r2 e
      exact ⟨σ2, .cons h1 h2, R2, by rw [List.length_cons, List.length_cons, hl]⟩
  | [], _ :: _, _, _, _, _, _, _, e => by cases e
  | _ :: _, [], _, _, _, _, _, _, e => by cases e
end
/-- the assignment itself -/
structure ZP (X : Cx) (tg : Expr) (p : Pat) : Prop where
  run : PG X tg (fun v σ H Q => ∃ σ', PutV H p v σ σ' ∧ Q σ' H)
structure ZPs (X : Cx) (tgs : List Expr) (ps : List Pat) : Prop where
  run : PGs X tgs (fun vs σ H Q => ∃ σ', PutVs H ps vs σ σ' ∧ Q σ' H)
section
variable {X : Cx}
theorem zp_name {i : Nat} {x : Str} {pos : Pos} (hN : X.N.Nodup) (hi : X.N[i]? = some x) (hx : Loc X.env.scope x) (hf : X.fn x = true ∨ X.env.scope.names.lookup x = some .local := by first | exact .inl rfl | exact .inr rfl | assumption) : ZP X (.Name x pos) (.nm i) :=
  ⟨pg_imp (pg_name hN hi hx hf) fun v σ H Q ⟨σ', h, q⟩ => by cases h; exact q⟩
theorem zps_nil : ZPs X [] [] := ⟨pgs_imp pgs_nil fun vs σ H Q ⟨σ', h, q⟩ => by cases h; exact ⟨rfl, q⟩⟩
theorem zps_cons {e : Expr} {es : List Expr} {p : Pat} {ps : List Pat} (h1 : ZP X e p) (h2 : ZPs X es ps) (hs : (assignEach (e :: es) X.env).map (·.2) = assign e X.env :: (assignEach es X.env).map (·.2) := by rfl) : ZPs X (e :: es) (p :: ps) :=
  ⟨pgs_imp (pgs_cons h1.run h2.run hs) fun vs σ H Q ⟨σ', h, q⟩ => by
    cases h with
    | cons h r => exact ⟨_, _, rfl, _, h, _, r, q⟩⟩
theorem zp_tup {es : List Expr} {k : Nat} {ps : List Pat} {n : Nat} {pos : Pos} (hc : X.calm = true) (h : ZPs X es ps) (hl : ps.length = n := by rfl) (hn : (assignEach es X.env).length = n := by rfl) (hst : (assignEach es X.env).findIdx? (·.1) = none := by rfl) : ZP X (.Tuple es k pos) (.tup ps) :=
  ⟨pg_imp (pg_tup hc h.run hn hst) fun v σ H Q ⟨σ', hp, q⟩ => by
    cases hp with
    | tup t hl' r => exact ⟨_, _, rfl, .inl t, by rw [hl', hl], _, r, q⟩⟩
end

/-! ### the block's environment -/
def wipeE (env : Env) : List Nat → Env
  | [] => env
  | v :: vs => (wipeE env vs).set v none
theorem Rel.wipe {K : PySem.W.Frag} {mg : Str → Option Value} {B : List Addr × Hp} {μ : List Addr} {env : Env} {h : ZH} {σ : L2.St} {H : Hp} (R : Rel K mg B μ env h σ H) : ∀ vs : List Nat, Rel K mg B μ (wipeE env vs) h (wipe σ vs) H
  | [] => R
  | v :: vs => by
    have r := Rel.wipe R vs
    refine ⟨r.ext, r.heap, by unfold wipeE L2.wipe; rw [List.length_set, List.length_set]; exact r.len, fun i z q => ?_⟩
    unfold wipeE at q
    unfold L2.wipe
    by_cases hi : v = i
    · subst hi
      by_cases hl : v < (wipeE env vs).length
      · rw [List.getElem?_set_self hl] at q; cases q
      · rw [List.getElem?_eq_none (by simpa using hl)] at q; cases q
    · rw [List.getElem?_set_ne hi] at q ⊢
      exact r.env i z q

/-! ### the comprehension -/
def E0 : EZ := fun _ _ _ => False
theorem takes0 {X : Cx} {B : List Addr × Hp} : ZTk X B E0 := fun u s' ⟨a, C, sI, pins, σ, H, cls, d, e, I, nb, up, sky, na, os, ag, ⟨_, _, _, _, _, _, f⟩⟩ => f.elim
/-- the tests of a clause -/
structure ZTs (X : Cx) (ifs : List Expr) (w : WT) : Prop where
  run : ∀ B E, ZTk X B E → PTs X ifs (TZt X.K X.mg B w E)
def wYes : WT := fun _ h P _ => P true h
theorem pts_imp {X : Cx} {e : List Expr} {t t' : TT} (p : PTs X e t) (f : ∀ σ H Q, t' σ H Q → t σ H Q) : PTs X e t' := ⟨fun pins s σ H Q I q => p.run pins s σ H Q I (f _ _ _ q)⟩
theorem zts_nil {X : Cx} : ZTs X [] wYes := ⟨fun B E tk => pts_imp pts_nil fun σ H Q ⟨μ, env, h, P, R, w, f⟩ => f true h μ H w (Ext.refl _ _) R.heap⟩
theorem zts_one {X : Cx} {c : Expr} {w : WT} (h : ZT X c w) : ZTs X [c] w := ⟨fun B E tk => pts_one (h.run B E tk)⟩
/-- turn by turn -/
def lcZ (p : Pat) (tt : WT) (te : WE) (chk : ZH → Prop) (env : Env) (P : PZ) : List Z → List Z → ZH → Prop
  | [], acc, h => chk h ∧ P (.ref h.length) (h ++ [.lst acc])
  | z :: zs, acc, h => chk h ∧ match p.put z env with
    | some env1 => tt env1 h (fun b h2 => if b = true then te env1 h2 (fun y h3 => acc.length < sizeLine ∧ lcZ p tt te chk env P zs (acc ++ [y]) h3) E0 else lcZ p tt te chk env P zs acc h2) E0
    | none => False
def wLc (wi : WI) (p : Pat) (tt : WT) (te : WE) (vs : List Nat) : WE := fun env h P E => wi env h (fun zs chk h1 => lcZ p tt te chk (wipeE env vs) P zs [] h1) E
theorem lc_cons {p : Pat} {tt : WT} {te : WE} {chk : ZH → Prop} {env : Env} {P : PZ} {z : Z} {zs acc : List Z} {h : ZH} : lcZ p tt te chk env P (z :: zs) acc h = (chk h ∧ match p.put z env with
    | some env1 => tt env1 h (fun b h2 => if b = true then te env1 h2 (fun y h3 => acc.length < sizeLine ∧ lcZ p tt te chk env P zs (acc ++ [y]) h3) E0 else lcZ p tt te chk env P zs acc h2) E0
    | none => False) := rfl
section
variable {K : PySem.W.Frag} {mg : Str → Option Value} {μ μ0 : List Addr} {H H0 : Hp} {h : ZH}
/-- an object that is not ours changes -/
theorem Ext.beside {D : Addr} {u : HO} (e : Ext μ0 H0 μ H) (h0 : H0 D = none) : Ext μ0 H0 μ (upd H D u) :=
  ⟨⟨e.pre, fun a xs q => by rw [upd_ne (ne_of_none q h0)]; exact e.tup a xs q, fun a o xs c q => by rw [upd_ne (ne_of_none q h0)]; exact e.frz a o xs c q⟩,
    fun a o q n => ⟨by rw [upd_ne (ne_of_none q h0)]; exact (e.off a o q n).1, (e.off a o q n).2⟩⟩
theorem ext0_beside {D : Addr} {xs : List V} {u : HO} (hD : H D = some (.lst xs)) : Ext0 μ H μ (upd H D u) :=
  ⟨⟨[], by simp⟩, fun a ys q => by rw [upd_ne (fun z => by rw [z, hD] at q; cases q)]; exact q, fun a o ys _ q => by rw [upd_ne (fun z => by rw [z, hD] at q; cases q)]; exact q⟩
theorem RelH.beside {D : Addr} {xs : List V} {u : HO} (R : RelH K mg μ H h) (hD : H D = some (.lst xs)) (hn : D ∉ μ) : RelH K mg μ (upd H D u) h :=
  ⟨R.len, R.nd, fun n a o e1 e2 => (R.obj n a o e1 e2).keep0 (ext0_beside hD) (upd_ne fun z => hn (z ▸ List.mem_of_getElem? e1))⟩
/-- .. becomes ours -/
theorem RelH.adopt {D : Addr} {zs : List Z} {vs : List V} (R : RelH K mg μ H h) (hD : H D = some (.lst vs)) (hn : D ∉ μ) (r : RepVs K μ H zs vs) : RelH K mg (μ ++ [D]) H (h ++ [.lst zs]) := by
  have ex : Ext0 μ H (μ ++ [D]) H := ⟨⟨[D], rfl⟩, fun _ _ q => q, fun _ _ _ _ q => q⟩
  refine ⟨by simp [R.len], List.nodup_append.mpr ⟨R.nd, by simp, fun a ha b hb => by simp at hb; subst hb; exact fun z => hn (z ▸ ha)⟩, fun n a o' e1 e2 => ?_⟩
  by_cases hl : n < μ.length
  · rw [List.getElem?_append_left hl] at e1
    rw [List.getElem?_append_left (by rw [← R.len]; exact hl)] at e2
    exact (R.obj n a o' e1 e2).keep0 ex rfl
  · have e3 : n = μ.length := by
      have := (List.getElem?_eq_some_iff.mp e1).1
      simp at this; omega
    subst e3
    rw [List.getElem?_append_right (by omega)] at e1
    rw [R.len, List.getElem?_append_right (by omega)] at e2
    simp at e1 e2
    subst e1 e2
    exact ⟨vs, hD, r.mono0 ex⟩
theorem Ext.adopt {D : Addr} (e : Ext μ0 H0 μ H) (h0 : H0 D = none) : Ext μ0 H0 (μ ++ [D]) H := by
  obtain ⟨m, em⟩ := e.pre
  refine ⟨⟨⟨m ++ [D], by rw [em, List.append_assoc]⟩, e.tup, e.frz⟩, fun a o q n => ⟨(e.off a o q n).1, ?_⟩⟩
  rw [List.mem_append, List.mem_singleton]
  exact fun z => z.elim (e.off a o q n).2 fun z => by rw [z, h0] at q; cases q
end
section
variable {X : Cx}
/-- the contexts of a block -/
abbrev AtBlk (X : Cx) (scope : Scope) (P : Cx → Prop) : Prop := ∀ (s : Shared) (H : Hp) (C : Addr) (cl : List (Str × Addr)) (fp : List Addr), P (X.blk s H scope (compEnvC scope cl C X.env) fp)
theorem lc_core {tg iter elt : Expr} {ifs : List Expr} {scope : Scope} {own : List (Str × Nat)} {wi : WI} {p : Pat} {wt : WT} {we : WE} {B : List Addr × Hp} {E : EZ} (hi : ZI X tg iter wi) (hs : (p.slots.all fun i => (own.map (·.2)).contains i) = true) :
    ∀ σ H Q, TZ X.K X.mg B (wLc wi p wt we (own.map (·.2))) E σ H Q → tLc (TZi X.K X.mg B wi E) (fun v σ H Q => ∃ σ', PutV H p v σ σ' ∧ Q σ' H)
      (fun σ H Q => ∃ B' : List Addr × Hp, TZt X.K X.mg B' wt E0 σ H Q) (fun σ H Q => ∃ B' : List Addr × Hp, TZ X.K X.mg B' we E0 σ H Q) (own.map (·.2)) σ H Q := by
  intro σ H Q ⟨μ, env, h, P, R, q, f⟩
  have hsl : ∀ i ∈ p.slots, i ∈ own.map (·.2) := fun i hi => by
    have := List.all_eq_true.mp hs i hi
    exact List.contains_iff_mem.mp this
  refine ⟨μ, env, h, _, R, q, fun zs chk h1 μ1 H1 J p1 e1 R1 it D hD => ?_⟩
  have RR := (R.step e1 R1).based
  -- the turns
  refine ⟨fun i m H2 => m = zs.length - i ∧ i ≤ zs.length ∧ ∃ μ2 h2 acc vs, Ext μ1 H1 μ2 H2 ∧ RelH X.K X.mg μ2 H2 h2 ∧ H2 D = some (.lst vs) ∧ D ∉ μ2 ∧ RepVs X.K μ2 H2 acc vs ∧ lcZ p wt we chk (wipeE env (own.map (·.2))) P (zs.drop i) acc h2,
    ⟨_, rfl, Nat.zero_le _, μ1, h1, [], [], (Ext.refl μ1 H1).beside hD, ?_, upd_same, ?_, .nil, p1⟩, ?_⟩
  · exact R1.tup hD
  · intro hm
    obtain ⟨n, hn, e⟩ := List.mem_iff_getElem.mp hm
    have hh : n < h1.length := by rw [← R1.len]; exact hn
    obtain ⟨w, ew, _⟩ := (R1.obj n D h1[n] (by simp [hn, e]) (by simp [hh])).some
    rw [hD] at ew; cases ew
  rintro i m H2 ⟨rfl, hi2, μ2, h2, acc, vs, e2, R2, hD2, nD, ra, q2⟩
  by_cases hl : i < zs.length
  · rw [List.drop_eq_getElem_cons hl, lc_cons] at q2
    obtain ⟨hk, q2⟩ := q2
    obtain ⟨go, y⟩ := it.go i zs[i] μ2 H2 h2 e2 R2 hk (by simp [hl])
    refine .inr ⟨go, fun H3 => ∃ μ2 h2 acc vs, Ext μ1 H1 μ2 H3 ∧ RelH X.K X.mg μ2 H3 h2 ∧ H3 D = some (.lst vs) ∧ D ∉ μ2 ∧ RepVs X.K μ2 H3 acc vs ∧ lcZ p wt we chk (wipeE env (own.map (·.2))) P (zs.drop (i + 1)) acc h2,
      fun H3 w => ⟨_, by omega, rfl, hl, w⟩, fun x H3 yl => ?_⟩
    obtain ⟨μ3, e3, R3, r3⟩ := y x H3 yl
    split at q2
    · rename_i env1 hput
      have Rw : Rel X.K X.mg (μ3, H3) μ3 (wipeE env (own.map (·.2))) h2 (wipe σ (own.map (·.2))) H3 := by
        have := ((R.step e1 R1).step (e2.trans e3) R3).wipe (own.map (·.2))
        exact this.based
      obtain ⟨σ4, hp4, R4⟩ := pat_put Rw r3 hput
      refine ⟨σ4, hp4, ?_, ?_⟩
      · rw [hp4.wipe hsl]
        exact wipe_idem σ _ _ (fun i hi => hi)
      · refine ⟨(μ3, H3), μ3, env1, h2, _, R4, q2, fun b h5 μ5 H5 p5 e5 R5 => ?_⟩
        have off5 := (e3.trans e5).off D _ hD2 nD
        have ex5 := (e2.trans e3).trans e5
        cases b with
        | false =>
          simp only [Bool.false_eq_true, if_false] at p5 ⊢
          exact ⟨μ5, h5, acc, vs, ex5, R5, off5.1, off5.2, ra.mono (e3.trans e5), p5⟩
        | true =>
          simp only [if_true] at p5 ⊢
          refine ⟨(μ5, H5), μ5, env1, h5, _, (R4.step e5 R5).based, p5, fun z6 h6 μ6 H6 v6 ⟨l6, p6⟩ e6 R6 r6 => ?_⟩
          have off6 := e6.off D _ off5.1 off5.2
          have hlen : acc.length = vs.length := ra.length
          refine ⟨vs, off6.1, by rw [← hlen]; exact l6, μ6, h6, acc ++ [z6], vs ++ [v6], (ex5.trans e6).beside hD, R6.beside off6.1 off6.2, upd_same, off6.2, ?_, p6⟩
          exact ((ra.mono ((e3.trans e5).trans e6)).append (.cons r6 .nil)).mono0 (ext0_beside off6.1)
    · exact q2.elim
  · have e : i = zs.length := by omega
    subst e
    rw [List.drop_length] at q2
    refine .inl ⟨it.stop μ2 H2 h2 e2 R2 q2.1, ?_⟩
    have ex : Ext μ H (μ2 ++ [D]) H2 := (e1.trans (e2.adopt hD))
    refine f _ _ _ _ _ q2.2 ex (R2.adopt hD2 nD ra) ?_
    unfold RepV
    exact ⟨D, rfl, by rw [← R2.len]; simp⟩
theorem ze_lc {elt tg iter : Expr} {ifs : List Expr} {scope : Scope} {own : List (Str × Nat)} {pos : Pos} {wi : WI} {p : Pat} {wt : WT} {we : WE} (hc : X.calm = true) (hN : X.N.Nodup) (hi : ZI X tg iter wi) (ok : BlkOk X.N X.env.scope scope own)
    (hg : AtBlk X scope fun X => ZP X tg p) (ht : AtBlk X scope fun X => ZTs X ifs wt) (he : AtBlk X scope fun X => ZE X elt we) (hsl : (p.slots.all fun i => (own.map (·.2)).contains i) = true := by rfl) (hs : ∀ x, foldedSetIterable iter X.env x = pure x := by intro _; rfl) :
    ZE X (.ListComp elt [⟨tg, iter, ifs, 0⟩] scope pos) (wLc wi p wt we (own.map (·.2))) :=
  ⟨fun B E tk => pe_imp (pe_lc hc hN (hi.run B E tk) ok (fun s H C cl fp => (hg s H C cl fp).run)
    (fun s H C cl fp => ⟨fun pins s' σ H' Q I ⟨B', q⟩ => ((ht s H C cl fp).run B' E0 takes0).run pins s' σ H' Q I q⟩)
    (fun s H C cl fp => ⟨fun pins s' σ H' Q I ⟨B', q⟩ => ((he s H C cl fp).run B' E0 takes0).run pins s' σ H' Q I q⟩) hs) (lc_core (elt := elt) (ifs := ifs) (scope := scope) hi hsl)⟩
/-- name = [..] on one line -/
theorem zs_setLc {i : Nat} {y : Str} {py : Pos} {elt tg iter : Expr} {ifs : List Expr} {scope : Scope} {own : List (Str × Nat)} {pos spos : Pos} {wi : WI} {p : Pat} {wt : WT} {we : WE} (hc : X.calm = true) (hN : X.N.Nodup) (hy : X.N[i]? = some y) (hyl : X.env.scope.names.lookup y = some .local)
    (hsw : swapsWith (.ListComp elt [⟨tg, iter, ifs, 0⟩] scope pos) (some (.Name y py)) spos.line X.env = pure true) (hi : ZI X tg iter wi) (ok : BlkOk X.N X.env.scope scope own)
    (hg : AtBlk X scope fun X => ZP X tg p) (ht : AtBlk X scope fun X => ZTs X ifs wt) (he : AtBlk X scope fun X => ZE X elt we) (hsl : (p.slots.all fun i => (own.map (·.2)).contains i) = true := by rfl) (hs : ∀ x, foldedSetIterable iter X.env x = pure x := by intro _; rfl) :
    ZS X (.Assign [.Name y py] (.ListComp elt [⟨tg, iter, ifs, 0⟩] scope pos) spos) (wsSet i (wLc wi p wt we (own.map (·.2)))) :=
  ⟨fun B E tk => ps_imp (ps_setLc hc hN hy hyl hsw (hi.run B E tk) ok (fun s H C cl fp => (hg s H C cl fp).run)
    (fun s H C cl fp => ⟨fun pins s' σ H' Q I ⟨B', q⟩ => ((ht s H C cl fp).run B' E0 takes0).run pins s' σ H' Q I q⟩)
    (fun s H C cl fp => ⟨fun pins s' σ H' Q I ⟨B', q⟩ => ((he s H C cl fp).run B' E0 takes0).run pins s' σ H' Q I q⟩) hs) fun D' σ H ⟨μ, env, h, D, R, q, d⟩ =>
    lc_core (elt := elt) (ifs := ifs) (scope := scope) hi hsl σ H _ ⟨μ, env, h, _, R, q, fun z h1 μ1 H1 v p1 e1 R1 r1 => d.nx _ _ _ _ _ ((R.step e1 R1).put r1 i) p1⟩⟩
end
end ZL

namespace ZL
open PySem PySem.Spec PyProof.Rows L2

/-! ### defs -/
/-- what a def with the body ws does, m names in all -/
def wfOf (m : Nat) (ws : WS) : WF := fun zs h P EX => ws { nx := fun _ h1 => P .non h1, rt := P } (zs.map some ++ List.replicate (m - zs.length) none) h (fun x _ h1 => EX x h1)
theorem rel_start {K : PySem.W.Frag} {mg : Str → Option Value} {μ : List Addr} {H : Hp} {h : ZH} {zs : List Z} {vs : List V} {N : List Str} (R : RelH K mg μ H h) (r : RepVs K μ H zs vs) : Rel K mg (μ, H) μ (zs.map some ++ List.replicate (N.length - zs.length) none) h (L2.start N vs) H := by
  have hl := r.length
  refine ⟨Ext.refl _ _, R, by unfold L2.start; simp [hl], fun i z q => ?_⟩
  unfold L2.start
  by_cases hi : i < zs.length
  · rw [List.getElem?_append_left (by simpa using hi), List.getElem?_map] at q
    cases e : zs[i]? with
    | none => rw [e] at q; cases q
    | some y =>
      rw [e] at q
      cases q
      obtain ⟨v, e1, e2⟩ := r.get e
      refine ⟨v, ?_, e2⟩
      rw [List.getElem?_append_left (by simp; omega), List.getElem?_map, e1]
      rfl
  · rw [List.getElem?_append_right (by simpa using hi)] at q
    have := List.mem_of_getElem? q
    have := List.eq_of_mem_replicate this
    cases this
/-- the context of a def's body -/
abbrev cxZ (CX : CXT) (P : Program) (w : World) (K : PySem.W.Frag) (mg : Str → Option Value) (base : Heap) (N : List Str) (qual : Str) (scope : Scope) (f : Addr) (cdv : Value) (A : Around) (outer : List PySem.Env) (s : Shared) (H : Hp) (E : XK) : Cx := cxOf CX P w K mg base N qual scope f cdv A outer s H E
section
variable {P : Program} {w : World} {K : PySem.W.Frag} {mg : Str → Option Value} {base : Heap} {x qual : Str} {params : Arguments} {body : List Stmt} {scope : Scope} {f : Addr} {fd : FuncData}
/-- in every context of such a body -/
abbrev InDef (CX : CXT) (P : Program) (w : World) (K : PySem.W.Frag) (mg : Str → Option Value) (base : Heap) (N : List Str) (qual : Str) (scope : Scope) (f : Addr) (k : Nat) (C : Cx → Prop) : Prop :=
  ∀ (cdv : Value) (A : Around) (outer : List PySem.Env) (s : Shared) (H : Hp) (E : XK), RoomG k (A.deeper (envOfC qual scope s.heap.objs.size f cdv)) → C (cxZ CX P w K mg base N qual scope f cdv A outer s H E)
theorem fng_of {CX : CXT} {N ps : List Str} {k : Nat} {sp : Sp} (F : FunD K x qual params body scope [] [] f fd) (S : FnScope N ps scope) (len : ∀ vs H Q E, sp vs H Q E → vs.length = ps.length)
    (hb : ∀ (cdv : Value) (A : Around) (outer : List PySem.Env) (s : Shared) (H : Hp) (vs : List V) (Q : VK) (E : XK), RoomG k (A.deeper (envOfC qual scope s.heap.objs.size f cdv)) → sp vs H Q E →
      ∃ t, PSs (cxOf CX P w K mg base N qual scope f cdv A outer s H E) body t ∧ t { nx := fun _ H' => Q .non H', rt := Q } (L2.start N vs) H) : FnG P w K mg base CX (k + 1) f fd ps sp := by
  obtain ⟨_, _, _, _, _, _, _, cdv, _, _, rfl, lk, hcd, _, _⟩ := F.ex
  refine ⟨len, fun A outer s H args us vs Q E hr e0 bd r hsp => ?_⟩
  have old : ∀ b o, base.get? b = some o → s.heap.get? b = some o := fun b o e => (e0.bs b o e).1
  have kinds : ∀ y ∈ ps.zip us, scope.names.lookup y.1 = some .local ∨ (scope.names.lookup y.1 = some .cell ∧ ((cellsFrom (s.heap.objs.size + 1) scope.names []).lookup y.1).isSome = true) := by
    rintro ⟨n, v⟩ hy
    exact (S.par n (List.of_mem_zip hy).1).elim .inl fun q => .inr ⟨q, PySem.W.cellsFrom_some _ _ _ (.inl q)⟩
  refine codeAny_call_function hr.r.depth (e0.mod.kin.keeps old _ _ lk) rfl S.co S.gen rfl (PySem.W.codeRec_of (e0.mod.kin.keeps old) hcd) (bd _ _ _ _ ?_)
  refine wpAny_newFunctionEnv_cells S.kind kinds fun env he s1 y => ?_
  subst he
  refine ⟨(e0.mod.nolimit.keeps old).keeps y.toInCall.keep, codeAny_func ?_⟩
  obtain ⟨t, ht, hq⟩ := hb cdv A outer s H vs Q E (hr.deeper _) hsp
  have I : Inv (cxOf CX P w K mg base N qual scope f cdv A outer s H E) [] (L2.start N vs) H s1 := inv_start S hr.r.hd e0 (len _ _ _ _ hsp) r y
  refine wpAny_mono (ht.run [] s1 (L2.start N vs) H _ I hq) (fun fl s' hs => ?_) fun e s' z => z
  have fin : ∀ {σ' : L2.St} {H' : Hp} {v : V} {u : Value}, Inv (cxOf CX P w K mg base N qual scope f cdv A outer s H E) [] σ' H' s' → RelV v u → Q v H' → CE outer P w H s Q u s' := fun {σ' H' v u} J rv q => ⟨v, H', J.os, J.bare, J.base, J.hok, rv, q⟩
  cases fl with
  | ret u => obtain ⟨v, σ', H', J, rv, q⟩ := hs; exact fin J rv q
  | next => obtain ⟨σ', H', J, q⟩ := hs; exact fin (v := V.non) (u := Value.none) J rfl q
  | brk => obtain ⟨_, _, _, q⟩ := hs; exact q.elim
  | cont => obtain ⟨_, _, _, q⟩ := hs; exact q.elim
theorem fn_ok {N ps : List Str} {k n : Nat} {ws : WS} (F : FunD K x qual params body scope [] [] f fd) (S : FnScope N ps scope) (hn : ps.length = n) (hbody : InDef (L2.CX P w) P w K mg base N qual scope f k fun X => ZSs X body ws) : FnG P w K mg base (L2.CX P w) (k + 1) f fd ps (spZ K mg n (wfOf N.length ws)) := by
  refine fng_of F S (fun vs H Q E h => by rw [h.1, hn]) fun cdv A outer s H vs Q E hr hsp => ?_
  obtain ⟨hl, μ, zs, h, P', EX, R, r, q, fl, fx⟩ := hsp
  have tk : ZTk (cxZ (L2.CX P w) P w K mg base N qual scope f cdv A outer s H E) (μ, H) (fun x _ h1 => EX x h1) :=
    Takes.imp (takes_of rfl rfl rfl rfl) fun c d σ H' ⟨z, μ', env, h', RR, rx, e⟩ => fx z h' μ' H' c d e RR.ext RR.heap rx
  refine ⟨_, (hbody cdv A outer s H E hr).run (μ, H) _ tk, ?_⟩
  refine ⟨μ, _, h, _, rel_start (N := N) R r, q, ⟨fun μ' env h' σ H' RR p => fl _ _ _ _ _ p RR.ext RR.heap rep_non, fun _ _ _ _ _ _ p => p.elim, fun _ _ _ _ _ _ p => p.elim, fun μ' z h' v H' ex RR rr p => fl _ _ _ _ _ p ex RR rr⟩⟩
theorem fnz_of {N ps : List Str} {k n : Nat} {ws : WS} (F : FunD K x qual params body scope [] [] f fd) (S : FnScope N ps scope) (hb : Binds K fd ps []) (hn : ps.length = n) (hbody : InDef (L2.CX P w) P w K mg base N qual scope f k fun X => ZSs X body ws) : FnZ P w K mg base (k + 1) n (wfOf N.length ws) f :=
  ⟨fd, ps, hn, fn_ok F S hn hbody, F.kp, hb⟩
end

/-! ### the law -/
/-- the script is handed in, True comes out -/
def LawOk (wf : WF) : Prop := ∀ ns : List Int, ns.length ≤ 63 → wf [.scr ns] [] (fun z _ => z = .bl true) (fun _ _ => False)
/-- a def that lets nothing out -/
def spZ0 (K : PySem.W.Frag) (mg : Str → Option Value) (n : Nat) (wf : WF) : Sp := fun vs H Q _ => vs.length = n ∧ ∃ μ zs h P, RelH K mg μ H h ∧ RepVs K μ H zs vs ∧ wf zs h P (fun _ _ => False) ∧ Fol K mg μ H P Q
theorem fn_ok0 {P : Program} {w : World} {K : PySem.W.Frag} {mg : Str → Option Value} {base : Heap} {x qual : Str} {params : Arguments} {body : List Stmt} {scope : Scope} {f : Addr} {fd : FuncData} {N ps : List Str} {k n : Nat} {ws : WS} (F : FunD K x qual params body scope [] [] f fd) (S : FnScope N ps scope) (hn : ps.length = n)
    (hbody : InDef CX0 P w K mg base N qual scope f k fun X => ZSs X body ws) : FnG P w K mg base CX0 (k + 1) f fd ps (spZ0 K mg n (wfOf N.length ws)) := by
  refine fng_of F S (fun vs H Q E h => by rw [h.1, hn]) fun cdv A outer s H vs Q E hr hsp => ?_
  obtain ⟨hl, μ, zs, h, P', R, r, q, fl⟩ := hsp
  refine ⟨_, (hbody cdv A outer s H E hr).run (μ, H) E0 takes0, ?_⟩
  refine ⟨μ, _, h, _, rel_start (N := N) R r, q, ⟨fun μ' env h' σ H' RR p => fl _ _ _ _ _ p RR.ext RR.heap rep_non, fun _ _ _ _ _ _ p => p.elim, fun _ _ _ _ _ _ p => p.elim, fun μ' z h' v H' ex RR rr p => fl _ _ _ _ _ p ex RR rr⟩⟩
theorem law_sp {K : PySem.W.Frag} {mg : Str → Option Value} {wf : WF} (L : LawOk wf) (H : Hp) (a : Addr) (ns : List Int) (hl : ns.length ≤ 63) (hO : Only H) (hS : SqL K H a (ns.map V.int)) : spZ0 K mg 1 wf [.ref a] H (fun v _ => v = .bl true) (fun _ _ _ => False) := by
  refine ⟨rfl, [], [.scr ns], [], _, ⟨rfl, List.nodup_nil, fun n a o e _ => by simp at e⟩, .cons ?_ .nil, L ns hl, fun z h' μ' H' v e _ _ r => ?_⟩
  · unfold RepV
    refine ⟨a, rfl, ?_⟩
    rcases hS with (h | ⟨o, h⟩) | h
    · rcases hO a with z | ⟨o, xs, z⟩
      · rw [z] at h; cases h
      · rw [z] at h; cases h
    · exact .inl ⟨o, h⟩
    · exact .inr h
  · subst e
    exact of_bl r
/-! ### the law's call, from the caller of claims -/
theorem seq_at {ns : List Int} {vs : List Value} {a : Addr} {s : Shared} {P : Program} {w : World} (ha : s.heap.get? a = some { cls := .type "list", data := .seq vs.toArray }) (rv : Vals (ns.map V.int) vs) (hl : ns.length ≤ sizeLine) :
    HOk P w (fun b => if b = a then some (.frz { cls := .type "list", data := .seq vs.toArray } (.lst (ns.map V.int))) else none) s.heap := fun b u z => by
  by_cases hb : b = a
  · subst hb
    have z' := (if_pos rfl).symm.trans z
    cases z'
    exact ⟨ha, by rw [List.length_map]; exact hl, vs, _, rv, ha⟩
  · have z' := (if_neg hb).symm.trans z
    cases z'
section
variable {P : Program} {w : World} {K : PySem.W.Frag} {mg mb : Str → Option Value} {k : Nat} {fa a : Addr} {fd : FuncData} {x : Str} {sp : Sp} {s₁ : Shared} {vs : List Value} {ns : List Int}
/-- over a heap in which at most the script is tracked -/
theorem law_over (KX : K.In s₁.heap) (hns : s₁.heap.Ns mainGlobals mg) (hb : s₁.heap.Ns builtinsNs mb) (hbb : ∀ x : Str, x ≠ "__name__" → mb x = bootBuiltins x) (hlim : s₁.heap.NoLimit) (hg : s₁.gens = #[])
    (ha : s₁.heap.get? a = some { cls := .type "list", data := .seq vs.toArray }) (hr : RoomG k callerA) (F : ∀ base : Heap, K.In base → base.Ns mainGlobals mg → FnG P w K mg base CX0 k fa fd [x] sp) (hbind : ∀ (s : Shared) (u : Value), BindsTo s fd ⟨[u], []⟩ [(x, u)])
    (H : Hp) (hO : Only H) (hsp : sp [.ref a] H (fun v _ => v = .bl true) fun _ _ _ => False) (hok : HOk P w H s₁.heap) (hA : ∀ b, H b ≠ none → b = a) (hK : H a ≠ none → K.lookup a = none) :
    codeAny (model P w) callerA (.call (.ref fa) ⟨[.ref a], []⟩) (fun r s' => r = .ok (.ret (.bool true)) ∧ OldK s₁.heap s'.heap ∧ s'.os = s₁.os ∧ AllBare s'.gens) s₁ := by
  have hid : ∀ {b : Addr} {o : Obj}, s₁.heap.get? b = some o → (∀ its n, o.data ≠ .seq its n) ∨ H b = none → (hidT s₁.heap H).get? b = some o := fun {b o} e n => hidT_get e (by
    rcases n with n | n
    · cases q : H b with
      | none => rfl
      | some u =>
        have e' : b = a := hA b (by rw [q]; simp)
        subst e'
        rw [ha] at e
        cases e
        exact absurd rfl (n _ _)
    · exact n)
  have nsH : ∀ {b : Addr} {m : Str → Option Value}, s₁.heap.Ns b m → (hidT s₁.heap H).Ns b m := fun {b m} ⟨o, es, ep, e, d, r⟩ => ⟨o, es, ep, hid e (.inl fun its n z => by rw [d] at z; cases z), d, r⟩
  have inH : K.In (hidT s₁.heap H) := fun b o e => hid (KX b o e) (by
    cases q : H b with
    | none => exact .inr rfl
    | some u =>
      have e' : b = a := hA b (by rw [q]; simp)
      subst e'
      rw [hK (by rw [q]; simp)] at e
      cases e)
  obtain ⟨mc, l1, l2⟩ := hlim
  have e0 : Env0 P w K mg (hidT s₁.heap H) callerA [] s₁ H := ⟨rfl, ⟨inH, nsH hns, ⟨mb, nsH hb, hbb⟩, ⟨mc, nsH l1, l2⟩⟩, fun b o e => of_hidT e, Nat.le_of_eq (hidT_size _ _), trivial, fun b z => absurd z List.not_mem_nil, hok, .of_eq hg⟩
  refine codeAny_mono ((F _ inH (nsH hns)).run callerA [] s₁ H ⟨[.ref a], []⟩ [.ref a] [.ref a] _ _ hr e0 (hbind s₁ (.ref a)) (.cons rfl .nil) hsp) fun r s' h => ?_
  match r, h with
  | .ok (.ret u), ⟨v, H', os, bare, un, hok', r', q⟩ =>
    have q : v = .bl true := q
    subst q
    obtain rfl : u = Value.bool true := r'
    refine ⟨rfl, OldK.of_keep fun b o e => ?_, os, bare⟩
    cases q : H b with
    | none => exact un.keep b o e q (fun z => absurd z List.not_mem_nil) (by simp)
    | some u =>
      rcases hO b with z | ⟨ob, xs, z⟩
      · rw [q] at z; cases z
      · obtain ⟨e1, _⟩ := hok b _ z
        obtain ⟨e2, _⟩ := hok' b _ (un.frzs b ob _ z)
        rw [e] at e1
        cases e1
        exact e2
theorem walkG {l : PySem.W.OpenLaw} {q : Program} {loose : List Str} {XP : (Str → Option Value) → Heap → Prop} {YP : World → Heap → Prop} {d : DefRec} (hn : l.most = some 63) (hdf : d.params.defaults = []) (hr : Room k callerA)
    (F : ∀ (w : World) (mg : Str → Option Value) (fa : Addr) (h : Heap), YP w h → h.Ns mainGlobals mg → mg d.name = some (.ref fa) → ∃ (K : PySem.W.Frag) (fd : FuncData) (sp : Sp), K.In h ∧ (∀ (s : Shared) (u : Value), BindsTo s fd ⟨[u], []⟩ [(x, u)]) ∧
        (∀ (H : Hp) (a : Addr) (ns : List Int), ns.length ≤ 63 → Only H → SqL K H a (ns.map V.int) → sp [.ref a] H (fun v _ => v = .bl true) fun _ _ _ => False) ∧ ∀ base : Heap, K.In base → base.Ns mainGlobals mg → FnG l.prog w K mg base CX0 k fa fd [x] sp) :
    PySem.W.WalkO q loose XP YP l.row.toRowW d [] (fun f vs => PySem.call f vs) := by
  refine Att.attach_call hn hdf fun w s₀ s₁ mg mb fa o pm cd doc a vs ns G Y ho hd hcd hmg hobj hints hlen hg => ?_
  obtain ⟨K, fd, sp, KX, hb, hsp, hF⟩ := F w mg fa _ Y G.T.g hmg
  have rv := vals_ints hints
  have hl : ns.length ≤ sizeLine := Nat.le_trans hlen (by decide)
  have go := law_over (sp := sp) (a := a) (vs := vs) KX G.T.g G.T.b G.T.builtins G.T.nolimit hg hobj ⟨hr, rfl⟩ hF hb
  cases hk : K.lookup a with
  | some o =>
    have e := KX a o hk
    rw [hobj] at e
    cases e
    exact go (fun _ => none) (fun _ => .inl rfl) (hsp _ a ns hlen (fun _ => .inl rfl) (.inr ⟨_, vs.toArray, _, hk, rfl, rfl, rfl, by rw [List.size_toArray, hints.length]; exact hl, by simpa using rv⟩)) (fun b u z => by have z' : (none : Option HO) = some u := z; cases z') (fun b z => absurd rfl z) fun z => absurd rfl z
  | none =>
    have hO : Only (fun b => if b = a then some (.frz { cls := .type "list", data := .seq vs.toArray } (.lst (ns.map V.int))) else none) := fun b => by
      by_cases hb : b = a
      · exact .inr ⟨_, _, if_pos hb⟩
      · exact .inl (if_neg hb)
    exact go _ hO (hsp _ a ns hlen hO (.inl (.inr ⟨_, if_pos rfl⟩))) (seq_at hobj rv hl) (fun b z => Classical.byContradiction fun n => z (if_neg n)) fun _ => hk
end
theorem wf_mono {wf wf' : WF} {P : Program} {w : World} {K : PySem.W.Frag} {mg : Str → Option Value} {base : Heap} {k n : Nat} {f : Addr} {fd : FuncData} {ps : List Str} (h : ∀ zs h P E, wf' zs h P E → wf zs h P E) (F : FnG P w K mg base (L2.CX P w) k f fd ps (spZ K mg n wf)) : FnG P w K mg base (L2.CX P w) k f fd ps (spZ K mg n wf') :=
  F.imp fun vs H Q E ⟨l, μ, zs, hh, P, EX, R, rv, q, f⟩ => ⟨l, μ, zs, hh, P, EX, R, rv, h _ _ _ _ q, f⟩
end ZL

namespace ZL
open PySem PySem.Spec PyProof.Rows L2
theorem hu64 {A : Around} {k : Nat} (hr : RoomG k A) : A.units + 64 < cLine := by have := hr.r.un; omega
theorem hu65 {A : Around} {k : Nat} (hr : RoomG k A) : A.units + 65 < cLine := by have := hr.r.un; omega
theorem hu1 {A : Around} {k : Nat} (hr : RoomG k A) : A.units + 1 < cLine := by have := hr.r.un; omega
section
variable {X : Cx}
theorem zv (i : Nat) {x : Str} {pos : Pos} (hN : X.N[i]? = some x := by rfl) (hv : Vis X.env.scope x := by first | exact Or.inl rfl | exact Or.inr (Or.inl rfl) | exact Or.inr (Or.inr rfl)) (hd : (x == ("__debug__" : Str)) = false := by decide)
    (hcd : (x == ("__classdict__" : Str)) = false := by decide) : ZE X (.Name x pos) (wVar i) := ze_var hN hv hd hcd
/-- an int by the module's name -/
theorem ze_gint {x : Str} {pos : Pos} {i : Int} (hm : ∃ t, X.mg x = some (.int i t)) (hg : Gl X x := by rfl) (hd : (x == ("__debug__" : Str)) = false := by decide) : ZE X (.Name x pos) (wC (.int i)) := by
  obtain ⟨t, hm⟩ := hm
  exact ze_c (pe_glob hg hm (show RelV (.int i) (.int i t) from ⟨t, rfl⟩) hd) fun _ _ => rep_int
end
/-- more facts by names: an instance's class; isinstance by classes; an exception's class; a tuple of the module -/
inductive Fb where
  | own (x : Str)
  | isn (x : Str) (T : String) (b : Bool)
  | ecx (x : Str)
  | kit (x y : Str) (b : Bool)
  | tupc (x : Str) (vs : List He.Dv)
def clsFact (K : PySem.W.Frag) (C : Addr) : Bool := He.eqO (PySem.W.findIn K (.ref C) "__class__") (some (some (.builtin "object.__class__"))) && (decide (PySem.W.specialIn K (.builtin "object.__class__") "__get__" = some (some (.builtin "getset_descriptor.__get__"))) &&
  (decide (PySem.W.takesIn K (.builtin "object.__class__") = some true) && decide (PySem.W.mroIn K C (.type "object") = some true)))
def Fb.ok (K : PySem.W.Frag) : Fb → Bool
  | .own x => clsFact K (He.ga K x)
  | .isn x T b => decide (PySem.W.kitOne K (.ref (He.ga K x)) (.type T) = some b)
  | .ecx x => clsFact K (He.ga K x) && (He.eqO (PySem.W.findIn K (.ref (He.ga K x)) "__getattribute__") (some (some (.builtin "BaseException.__getattribute__"))) && (He.eqO (PySem.W.findIn K (.ref (He.ga K x)) "__getattr__") (some none) &&
      (decide (PySem.W.subIn K (.ref (He.ga K x)) (.type "BaseException") = some true) && PySem.W.hasDictIn K (He.ga K x))))
  | .kit x y b => decide (PySem.W.kitOne K (.ref (He.ga K x)) (.ref (He.ga K y)) = some b)
  | .tupc x vs => He.tupB K x vs
structure SaysZ (fa : List He.Fa) (fb : List Fb) (fn : List He.DefD) (K : PySem.W.Frag) : Prop where
  d : He.SaysD fa fn K
  b : (fb.all fun f => f.ok K) = true
theorem SaysZ.more {fa : List He.Fa} {fb : List Fb} {fn : List He.DefD} {K : PySem.W.Frag} (c : SaysZ fa fb fn K) (i : Nat) {f : Fb} (h : fb[i]? = some f) : f.ok K = true := List.all_eq_true.mp c.b f (List.mem_of_getElem? h)
def obsZ (n : Nat) (fa : List He.Fa) (fb : List Fb) (fn : List He.DefD) (g : Addr → Option Obj) : He.AlD × Bool := (He.obsDG n fa fn g, fb.all fun f => f.ok (He.frG g (He.asD g n)))
def hookZ (n : Nat) (fa : List He.Fa) (fb : List Fb) (fn : List He.DefD) : PySem.W.Hook where
  α := He.AlD × Bool
  obs := fun s => obsZ n fa fb fn s.heap.get?
  val := fun _ => (He.valD fn, true)
  says := fun _ h => ∃ K : PySem.W.Frag, K.In h ∧ SaysZ fa fb fn K
  of := fun _ _ e => ⟨_, He.frG_in, ⟨congrArg (fun z : He.AlD × Bool => z.1) e, congrArg (fun z : He.AlD × Bool => z.2) e⟩⟩
  keeps := fun _ _ _ ⟨K, hK, c⟩ k => ⟨K, PySem.W.Frag.In.keeps hK k, c⟩
theorem obsZ_eq {n : Nat} {fa : List He.Fa} {fb : List Fb} {fn : List He.DefD} {g : Addr → Option Obj} {s : Shared} (h : ∀ a, g a = s.heap.get? a) : obsZ n fa fb fn g = (hookZ n fa fb fn).obs s := by
  have e : g = s.heap.get? := funext h
  rw [e] <;> rfl
/-- the head's facts -/
structure Txt (fa : List He.Fa) (fb : List Fb) (fn : List He.DefD) (K : PySem.W.Frag) (mg : Str → Option Value) : Prop where
  at_ : ∃ h : Heap, K.In h ∧ h.Ns mainGlobals mg
  says : SaysZ fa fb fn K
section
variable {fa : List He.Fa} {fb : List Fb} {fn : List He.DefD} {K : PySem.W.Frag} {mg : Str → Option Value}
theorem Txt.glo (T : Txt fa fb fn K mg) (i : Nat) {x : Str} (h : fa[i]? = some (.glo x) := by rfl) : mg x = some (.ref (He.ga K x)) := let ⟨_, X, G⟩ := T.at_; He.glo_ok X G (T.says.d.fact i h)
theorem Txt.free (T : Txt fa fb fn K mg) (i : Nat) {x : Str} (h : fa[i]? = some (.free x) := by rfl) : mg x = none := let ⟨_, X, G⟩ := T.at_; He.free_ok X G (T.says.d.fact i h)
theorem Txt.int (T : Txt fa fb fn K mg) (i : Nat) {x : Str} {n : Int} (h : fa[i]? = some (.int x n) := by rfl) : ∃ t, mg x = some (.int n t) := let ⟨_, X, G⟩ := T.at_; He.int_ok X G (T.says.d.fact i h)
theorem Txt.def_ (T : Txt fa fb fn K mg) (i : Nat) {d : He.DefD} (h : fn[i]? = some d := by rfl) : ∃ fd, FunD K d.name d.qual d.params d.body d.scope (d.dvs K) (d.kws K) (He.fAd K d.at_) fd := T.says.d.def_ i h
end
/-- no own objects -/
theorem noT0 {K : PySem.W.Frag} {mg : Str → Option Value} {T : String} : NoT K mg [] T := fun c h => by cases h
end ZL

namespace ZL
open PySem PySem.Spec PyProof.Rows L2

/-! ### methods of lists, of dicts -/
abbrev ZM := Z → List Z → ZH → PZ → Prop
def MthZ (X : Cx) (id : String) (o : ZM) : Prop :=
  ∃ r, MtR X id r ∧ ∀ μ H h a zs x vs P Q, RelH X.K X.mg μ H h → RepV X.K μ H a x → RepVs X.K μ H zs vs → o a zs h P → Fol X.K X.mg μ H P Q → r x vs H Q
def isLst (h : ZH) (a : Z) (P : Prop) : Prop := match a with
  | .ref n => (match h[n]? with
    | some (.lst _) => P
    | _ => False)
  | _ => False
def isDct (h : ZH) (a : Z) (P : Prop) : Prop := match a with
  | .ref n => (match h[n]? with
    | some (.dict _) => P
    | _ => False)
  | _ => False
/-- o.m(..), o a list or a dict (it) -/
def wBM (it : ZH → Z → Prop → Prop) (o : ZM) (wo : WE) (wa : WA) : WE := fun env h P E => wo env h (fun a h1 => it h1 a (wa env h1 (fun zs h2 => o a zs h2 P) E)) E
section
variable {X : Cx} {e o : Expr} {es : List Expr} {wo : WE} {wa : WA} {name : Str} {apos cpos : Pos} {id : String} {om : ZM}
theorem ty_lst {μ : List Addr} {H : Hp} {h : ZH} {a : Z} {v : V} {P : Prop} (R : RelH X.K X.mg μ H h) (r : RepV X.K μ H a v) (p : isLst h a P) : tyV X.K "list" v H ∧ P := by
  unfold isLst at p
  split at p
  · split at p
    · rename_i e
      obtain ⟨q, vs, rfl, _, hp, _⟩ := of_lst R e r
      exact ⟨.inl ⟨rfl, vs, SqL.of hp⟩, p⟩
    · exact p.elim
  · exact p.elim
theorem ty_dct {μ : List Addr} {H : Hp} {h : ZH} {a : Z} {v : V} {P : Prop} (R : RelH X.K X.mg μ H h) (r : RepV X.K μ H a v) (p : isDct h a P) : tyV X.K "dict" v H ∧ P := by
  unfold isDct at p
  split at p
  · split at p
    · rename_i e
      obtain ⟨q, ho, rfl, _, hp, d⟩ := dict_of R e r
      refine ⟨.inr (.inr (.inl ⟨rfl, ?_⟩)), p⟩
      rcases d with ⟨l, rfl, _⟩ | ⟨l, rfl, _⟩
      · exact .inl ⟨_, hp⟩
      · exact .inr ⟨_, hp⟩
    · exact p.elim
  · exact p.elim
theorem tz_bm {T : String} {it : ZH → Z → Prop → Prop} {r : V → List V → Hp → VK → Prop} (ht : ∀ μ H h a v P, RelH X.K X.mg μ H h → RepV X.K μ H a v → it h a P → tyV X.K T v H ∧ P)
    (hr : ∀ μ H h a zs x vs P Q, RelH X.K X.mg μ H h → RepV X.K μ H a x → RepVs X.K μ H zs vs → om a zs h P → Fol X.K X.mg μ H P Q → r x vs H Q) {B : List Addr × Hp} {E : EZ} :
    ∀ σ H Q, TZ X.K X.mg B (wBM it om wo wa) E σ H Q → tBM X.K T r (TZ X.K X.mg B wo E) (TZa X.K X.mg B wa E) σ H Q := fun σ H Q ⟨μ, env, h, P, R, q, f⟩ =>
  ⟨μ, env, h, _, R, q, fun a h1 μ1 H1 x p1 e1 R1 r1 => by
    obtain ⟨t, p1⟩ := ht μ1 H1 h1 a x _ R1 r1 p1
    exact ⟨t, μ1, env, h1, _, R.step e1 R1, p1, fun zs h2 μ2 H2 vs p2 e2 R2 r2 => hr μ2 H2 h2 a zs x vs P Q R2 (r1.mono e2) r2 p2 (f.ext (e1.trans e2))⟩⟩
theorem ze_lm (slot : Slot "list" name id) (hty : typeOf (.builtin id) = pure (.type "method_descriptor")) (hm : MthZ X id om) (ho : ZE X o wo) (ha : ZA X (e :: es) wa)
    (hbase : attributeBase o name X.env (eval o X.env) = eval o X.env := by rfl)
    (hfew : ((backTo cpos (starEach (e :: es) X.env)).all (fun x => !x.1) && (backToKw cpos (keywordEach [] X.env)).all (fun x => x.1.isSome)
      && decide ((e :: es).length + ([] : List Keyword).length + (if ([] : List Keyword).isEmpty then 0 else 1) < 30)) = true := by rfl)
    (hline : (apos.endLine == cpos.line) = true := by rfl) (hs : starEach (e :: es) X.env = (false, eval e X.env) :: starEach es X.env := by rfl) (hplain : (backTo cpos (starEach es X.env)).any (·.1) = false := by rfl) :
    ZE X (.Call (.Attribute o name apos) (e :: es) [] cpos) (wBM isLst om wo wa) :=
  let ⟨_, h1, h2⟩ := hm
  ⟨fun B E tk => pe_imp (pe_bm PySem.F.plainAttrs_list slot hty h1 (ho.run B E tk) (ha.run B E tk) hbase hfew hline hs hplain) (tz_bm (fun _ _ _ _ _ _ R r p => ty_lst R r p) h2)⟩
theorem ze_dm (slot : Slot "dict" name id) (hty : typeOf (.builtin id) = pure (.type "method_descriptor")) (hm : MthZ X id om) (ho : ZE X o wo) (ha : ZA X (e :: es) wa)
    (hbase : attributeBase o name X.env (eval o X.env) = eval o X.env := by rfl)
    (hfew : ((backTo cpos (starEach (e :: es) X.env)).all (fun x => !x.1) && (backToKw cpos (keywordEach [] X.env)).all (fun x => x.1.isSome)
      && decide ((e :: es).length + ([] : List Keyword).length + (if ([] : List Keyword).isEmpty then 0 else 1) < 30)) = true := by rfl)
    (hline : (apos.endLine == cpos.line) = true := by rfl) (hs : starEach (e :: es) X.env = (false, eval e X.env) :: starEach es X.env := by rfl) (hplain : (backTo cpos (starEach es X.env)).any (·.1) = false := by rfl) :
    ZE X (.Call (.Attribute o name apos) (e :: es) [] cpos) (wBM isDct om wo wa) :=
  let ⟨_, h1, h2⟩ := hm
  ⟨fun B E tk => pe_imp (pe_bm PySem.F.plainAttrs_dict slot hty h1 (ho.run B E tk) (ha.run B E tk) hbase hfew hline hs hplain) (tz_bm (fun _ _ _ _ _ _ R r p => ty_dct R r p) h2)⟩
theorem tz_bm0 {T : String} {it : ZH → Z → Prop → Prop} {r : V → List V → Hp → VK → Prop} (ht : ∀ μ H h a v P, RelH X.K X.mg μ H h → RepV X.K μ H a v → it h a P → tyV X.K T v H ∧ P)
    (hr : ∀ μ H h a zs x vs P Q, RelH X.K X.mg μ H h → RepV X.K μ H a x → RepVs X.K μ H zs vs → om a zs h P → Fol X.K X.mg μ H P Q → r x vs H Q) {B : List Addr × Hp} {E : EZ} :
    ∀ σ H Q, TZ X.K X.mg B (wBM it om wo wNil) E σ H Q → tBM0 X.K T r (TZ X.K X.mg B wo E) σ H Q := fun σ H Q ⟨μ, env, h, P, R, q, f⟩ =>
  ⟨μ, env, h, _, R, q, fun a h1 μ1 H1 x p1 e1 R1 r1 => by
    obtain ⟨t, p1⟩ := ht μ1 H1 h1 a x _ R1 r1 p1
    exact ⟨t, hr μ1 H1 h1 a [] x [] P Q R1 r1 .nil p1 (f.ext e1)⟩⟩
theorem ze_lm0 (slot : Slot "list" name id) (hty : typeOf (.builtin id) = pure (.type "method_descriptor")) (hm : MthZ X id om) (ho : ZE X o wo)
    (hbase : attributeBase o name X.env (eval o X.env) = eval o X.env := by rfl) (hline : (apos.endLine == cpos.line) = true := by rfl) :
    ZE X (.Call (.Attribute o name apos) [] [] cpos) (wBM isLst om wo wNil) :=
  let ⟨_, h1, h2⟩ := hm
  ⟨fun B E tk => pe_imp (pe_bm0 PySem.F.plainAttrs_list slot hty h1 (ho.run B E tk) hbase hline) (tz_bm0 (fun _ _ _ _ _ _ R r p => ty_lst R r p) h2)⟩
theorem ze_dm0 (slot : Slot "dict" name id) (hty : typeOf (.builtin id) = pure (.type "method_descriptor")) (hm : MthZ X id om) (ho : ZE X o wo)
    (hbase : attributeBase o name X.env (eval o X.env) = eval o X.env := by rfl) (hline : (apos.endLine == cpos.line) = true := by rfl) :
    ZE X (.Call (.Attribute o name apos) [] [] cpos) (wBM isDct om wo wNil) :=
  let ⟨_, h1, h2⟩ := hm
  ⟨fun B E tk => pe_imp (pe_bm0 PySem.F.plainAttrs_dict slot hty h1 (ho.run B E tk) hbase hline) (tz_bm0 (fun _ _ _ _ _ _ R r p => ty_dct R r p) h2)⟩
end

section
variable {X : Cx} {K : PySem.W.Frag} {mg : Str → Option Value} {μ : List Addr} {H : Hp} {h : ZH}
/-- a list is rewritten -/
theorem fol_set {n : Nat} {a : Addr} {xs ys : List Z} {vs us : List V} {P : PZ} {Q : VK} {z : Z} {v : V} (R : RelH X.K X.mg μ H h) (ha : μ[n]? = some a) (hp : H a = some (.lst vs)) (r : RepVs X.K μ H ys us) (rz : RepV X.K μ H z v) (p : P z (h.set n (.lst ys))) (f : Fol X.K X.mg μ H P Q) :
    Q v (upd H a (.lst us)) := by
  obtain ⟨R2, ex⟩ := fin_set (o := .lst ys) (u := .lst us) R ha ⟨_, hp, by simp, by simp⟩ fun ex => ⟨_, upd_same, r.mono ex⟩
  exact f _ _ _ _ _ p ex R2 (rz.mono ex)
def oAppend : ZM := fun a zs h P => match a, zs with
  | .ref n, [y] => (match h[n]? with
    | some (.lst xs) => xs.length < sizeLine ∧ P .non (h.set n (.lst (xs ++ [y])))
    | _ => False)
  | _, _ => False
theorem m_append : MthZ X "list.append" oAppend := by
  refine ⟨_, mt_append, fun μ H h a zs x vs P Q R ra rz o f => ?_⟩
  unfold oAppend at o
  split at o
  · split at o
    · rename_i e1
      obtain ⟨p, ws, rfl, ha, hp, r⟩ := of_lst R e1 ra
      obtain ⟨v, rfl, rv⟩ := one_vals rz rfl
      exact ⟨p, ws, v, rfl, rfl, hp, by rw [← r.length]; exact o.1, fol_set (xs := []) R ha hp (r.append (.cons rv .nil)) rep_non o.2 f⟩
    · exact o.elim
  · exact o.elim
def oExtend : ZM := fun a zs h P => match a, zs with
  | .ref n, [.ref m] => (match h[n]?, h[m]? with
    | some (.lst xs), some (.lst ys) => xs.length + ys.length ≤ sizeLine ∧ P .non (h.set n (.lst (xs ++ ys)))
    | _, _ => False)
  | _, _ => False
theorem m_extend : MthZ X "list.extend" oExtend := by
  refine ⟨_, mt_extend, fun μ H h a zs x vs P Q R ra rz o f => ?_⟩
  unfold oExtend at o
  split at o
  · split at o
    · rename_i e1 e2
      obtain ⟨p, ws, rfl, ha, hp, r⟩ := of_lst R e1 ra
      obtain ⟨v, rfl, rv⟩ := one_vals rz rfl
      obtain ⟨q, us, rfl, hb, hq, r'⟩ := of_lst R e2 rv
      exact ⟨p, q, ws, us, rfl, rfl, hp, hq, by rw [← r.length, ← r'.length]; exact o.1, fol_set (xs := []) R ha hp (r.append r') rep_non o.2 f⟩
    · exact o.elim
  · exact o.elim
def oPop : ZM := fun a zs h P => match a, zs with
  | .ref n, [] => (match h[n]? with
    | some (.lst xs) => ∃ y, xs[xs.length - 1]? = some y ∧ P y (h.set n (.lst xs.dropLast))
    | _ => False)
  | .ref n, [.int i] => (match h[n]? with
    | some (.lst xs) => -(2 ^ 63) ≤ i ∧ i < 2 ^ 63 ∧ ∃ k y, seqIndex? i xs.length = some k ∧ xs[k]? = some y ∧ P y (h.set n (.lst (xs.eraseIdx k)))
    | _ => False)
  | _, _ => False
theorem mtr_or {id : String} {r r' : V → List V → Hp → VK → Prop} (a : MtR X id r) (b : MtR X id r') : MtR X id (fun x vs H Q => r x vs H Q ∨ r' x vs H Q) := by
  intro pins s σ H x xs v us Q I rx rxs h
  rcases h with h | h
  · exact a pins s σ H x xs v us Q I rx rxs h
  · exact b pins s σ H x xs v us Q I rx rxs h
theorem m_pop : MthZ X "list.pop" oPop := by
  refine ⟨_, mtr_or mt_pop mt_popAt, fun μ H h a zs x vs P Q R ra rz o f => ?_⟩
  unfold oPop at o
  split at o
  · split at o
    · rename_i e1
      obtain ⟨p, ws, rfl, ha, hp, r⟩ := of_lst R e1 ra
      obtain ⟨y, hy, q⟩ := o
      unfold RepVs at rz
      subst rz
      obtain ⟨v, hv, rv⟩ := r.get hy
      exact .inl ⟨p, ws, v, rfl, rfl, hp, by rw [← r.length]; exact hv, fol_set (xs := []) R ha hp r.dropLast rv q f⟩
    · exact o.elim
  · split at o
    · rename_i e1
      obtain ⟨p, ws, rfl, ha, hp, r⟩ := of_lst R e1 ra
      obtain ⟨h1, h2, k, y, hk, hy, q⟩ := o
      obtain ⟨v, rfl, rv⟩ := one_vals rz rfl
      cases of_int rv
      obtain ⟨u, hu, ru⟩ := r.get hy
      exact .inr ⟨p, ws, _, k, u, rfl, rfl, hp, h1, h2, by rw [← r.length]; exact hk, hu, fol_set (xs := []) R ha hp (r.eraseIdx k) ru q f⟩
    · exact o.elim
  · exact o.elim
def oInsert : ZM := fun a zs h P => match a, zs with
  | .ref n, [.int i, y] => (match h[n]? with
    | some (.lst xs) => xs.length < sizeLine ∧ 0 ≤ i ∧ i < 2 ^ 63 ∧ P .non (h.set n (.lst (xs.take i.toNat ++ [y] ++ xs.drop i.toNat)))
    | _ => False)
  | _, _ => False
theorem m_insert : MthZ X "list.insert" oInsert := by
  refine ⟨_, mt_insert, fun μ H h a zs x vs P Q R ra rz o f => ?_⟩
  unfold oInsert at o
  split at o
  · split at o
    · rename_i e1
      obtain ⟨p, ws, rfl, ha, hp, r⟩ := of_lst R e1 ra
      obtain ⟨v, u, rfl, rv, ru⟩ := two_vals rz rfl
      cases of_int rv
      exact ⟨p, ws, _, u, rfl, rfl, hp, by rw [← r.length]; exact o.1, o.2.1, o.2.2.1, fol_set (xs := []) R ha hp (((r.take _).append (.cons ru .nil)).append (r.drop _)) rep_non o.2.2.2 f⟩
    · exact o.elim
  · exact o.elim
/-- d.get(k), d.get(k, z) -/
def oGet : ZM := fun a zs h P => match a, zs with
  | .ref n, [k] => (match h[n]? with
    | some (.dict kvs) => dkey kvs k ∧ P ((dget kvs k).getD .non) h
    | _ => False)
  | .ref n, [k, z] => (match h[n]? with
    | some (.dict kvs) => dkey kvs k ∧ P ((dget kvs k).getD z) h
    | _ => False)
  | _, _ => False
theorem mt_get1 (hu : X.A.units + 1 < cLine) : MtR X "dict.get" (fun x vs H Q => ∃ a y o, x = .ref a ∧ vs = [y] ∧ DG H a y o ∧ Q (o.getD .non) H) := by
  intro pins s σ H x xs v us Q I rx rxs h
  obtain ⟨a, y, o, rfl, rfl, g, q⟩ := h
  cases rx
  obtain ⟨u, rfl, ru⟩ := vals1 rxs
  exact z_get1 hu I g ru fun w' s' I' rw' => ⟨_, H, I', rw', q⟩
theorem mt_get2 (hu : X.A.units + 1 < cLine) : MtR X "dict.get" (fun x vs H Q => ∃ a y d o, x = .ref a ∧ vs = [y, d] ∧ DG H a y o ∧ Q (o.getD d) H) := by
  intro pins s σ H x xs v us Q I rx rxs h
  obtain ⟨a, y, d, o, rfl, rfl, g, q⟩ := h
  cases rx
  obtain ⟨u, w, rfl, ru, rd⟩ := vals2 rxs
  exact z_get2 hu I g ru rd fun w' s' I' rw' => ⟨_, H, I', rw', q⟩
theorem optR_getD {z : Option Z} {o : Option V} {d : Z} {e : V} (r : OptR K μ H z o) (rd : RepV K μ H d e) : RepV K μ H (z.getD d) (o.getD e) := by
  rcases r with ⟨rfl, rfl⟩ | ⟨a, b, rfl, rfl, r⟩
  · exact rd
  · exact r
theorem m_get (hu : X.A.units + 1 < cLine) : MthZ X "dict.get" oGet := by
  refine ⟨_, mtr_or (mt_get1 hu) (mt_get2 hu), fun μ H h a zs x vs P Q R ra rz o f => ?_⟩
  unfold oGet at o
  split at o
  · split at o
    · rename_i e1
      obtain ⟨p, ho, rfl, _, hp, d⟩ := dict_of R e1 ra
      obtain ⟨v, rfl, rv⟩ := one_vals rz rfl
      obtain ⟨q, g, r⟩ := dict_at hp d o.1 rv
      exact .inl ⟨p, v, q, rfl, rfl, g, f.here R o.2 (optR_getD r rep_non)⟩
    · exact o.elim
  · split at o
    · rename_i e1
      obtain ⟨p, ho, rfl, _, hp, d⟩ := dict_of R e1 ra
      obtain ⟨v, u, rfl, rv, ru⟩ := two_vals rz rfl
      obtain ⟨q, g, r⟩ := dict_at hp d o.1 rv
      exact .inr ⟨p, v, u, q, rfl, rfl, g, f.here R o.2 (optR_getD r ru)⟩
    · exact o.elim
  · exact o.elim
end
end ZL

namespace ZL
open PySem PySem.Spec PyProof.Rows L2

theorem noRfl {α : Sort u} {a b : α} (h : a = b) : a = b := h
/-! ### the machine: what follows, by names (nothing is looked at ahead of its turn) -/
section
variable {env : Env} {h h1 h2 : ZH} {P : PZ} {PA : List Z → ZH → Prop} {PT : Bool → ZH → Prop} {PO : Option Int → ZH → Prop} {PS : Env → ZH → Prop} {E : EZ} {D : ZEnds} {z a b x y v : Z} {zs : List Z} {k : Bool} {i j n : Nat} {w wa wb wc we wo wi : WE} {r : WA} {t t2 : WT} {o o2 : Z2} {s s2 : WS} {g : WG} {gs : WGs}
/-! expressions -/
@[simp] theorem m_var : wVar i env h P E = (match env[i]? with | some (some z) => P z h | _ => False) := noRfl rfl
@[simp] theorem m_c : wC z env h P E = P z h := noRfl rfl
def kCons2 (P : List Z → ZH → Prop) (z : Z) : List Z → ZH → Prop := fun zs h => P (z :: zs) h
def kCons (r : WA) (env : Env) (P : List Z → ZH → Prop) (E : EZ) : PZ := fun z h => r env h (kCons2 P z) E
@[simp] theorem m_nil : wNil env h PA E = PA [] h := noRfl rfl
@[simp] theorem m_cons : wCons w r env h PA E = w env h (kCons r env PA E) E := noRfl rfl
@[simp] theorem m_w1 : w1 w env h PA E = w env h (kCons wNil env PA E) E := noRfl rfl
@[simp] theorem m_kCons : kCons r env PA E z h = r env h (kCons2 PA z) E := noRfl rfl
@[simp] theorem m_kCons2 : kCons2 PA z zs h = PA (z :: zs) h := noRfl rfl
def kTup (P : PZ) : List Z → ZH → Prop := fun zs h => zs.length ≤ sizeLine ∧ P (.tup zs) h
def kLst (P : PZ) : List Z → ZH → Prop := fun zs h => zs.length ≤ sizeLine ∧ P (.ref h.length) (h ++ [.lst zs])
@[simp] theorem m_tup : wTup r env h P E = r env h (kTup P) E := noRfl rfl
@[simp] theorem m_lst : wLst r env h P E = r env h (kLst P) E := noRfl rfl
@[simp] theorem m_kTup : kTup P zs h = (zs.length ≤ sizeLine ∧ P (.tup zs) h) := noRfl rfl
@[simp] theorem m_kLst : kLst P zs h = (zs.length ≤ sizeLine ∧ P (.ref h.length) (h ++ [.lst zs])) := noRfl rfl
def k2b (o : Z2) (a : Z) (P : PZ) : PZ := fun b h => o a b h P
def k2 (o : Z2) (wb : WE) (env : Env) (P : PZ) (E : EZ) : PZ := fun a h => wb env h (k2b o a P) E
@[simp] theorem m_w2 : w2 o wa wb env h P E = wa env h (k2 o wb env P E) E := noRfl rfl
@[simp] theorem m_k2 : k2 o wb env P E a h = wb env h (k2b o a P) E := noRfl rfl
@[simp] theorem m_k2b : k2b o a P b h = o a b h P := noRfl rfl
def kB (P : Bool → ZH → Prop) : PZ := fun z h => match z with | .bl b => P b h | _ => False
@[simp] theorem m_wB : wB w env h PT E = w env h (kB PT) E := noRfl rfl
@[simp] theorem m_kB : kB PT (.bl k) h = PT k h := noRfl rfl
def kTru (P : Bool → ZH → Prop) : PZ := fun z h => match truK h z with | some k => P k h | none => False
@[simp] theorem m_wTru : wTru w env h PT E = w env h (kTru PT) E := noRfl rfl
@[simp] theorem m_kTru : kTru PT z h = (match truK h z with | some k => PT k h | none => False) := noRfl rfl
@[simp] theorem tr_non : truK h .non = some false := noRfl rfl
@[simp] theorem tr_bl : truK h (.bl k) = some k := noRfl rfl
@[simp] theorem tr_int {i : Int} : truK h (.int i) = some (i != 0) := noRfl rfl
@[simp] theorem tr_tup : truK h (.tup zs) = some (!zs.isEmpty) := noRfl rfl
@[simp] theorem tr_scr {ns : List Int} : truK h (.scr ns) = some (!ns.isEmpty) := noRfl rfl
def kAnd (t : WT) (env : Env) (P : Bool → ZH → Prop) (E : EZ) : Bool → ZH → Prop := fun k h => if k = true then t env h P E else P false h
def kOr (t : WT) (env : Env) (P : Bool → ZH → Prop) (E : EZ) : Bool → ZH → Prop := fun k h => if k = true then P true h else t env h P E
def kNot (P : Bool → ZH → Prop) : Bool → ZH → Prop := fun k h => P (!k) h
@[simp] theorem m_and : wAnd t t2 env h PT E = t env h (kAnd t2 env PT E) E := noRfl rfl
@[simp] theorem m_or : wOr t t2 env h PT E = t env h (kOr t2 env PT E) E := noRfl rfl
@[simp] theorem m_not : wNot t env h PT E = t env h (kNot PT) E := noRfl rfl
@[simp] theorem m_kAnd_t : kAnd t env PT E true h = t env h PT E := noRfl rfl
@[simp] theorem m_kAnd_f : kAnd t env PT E false h = PT false h := noRfl rfl
@[simp] theorem m_kOr_t : kOr t env PT E true h = PT true h := noRfl rfl
@[simp] theorem m_kOr_f : kOr t env PT E false h = t env h PT E := noRfl rfl
@[simp] theorem m_kNot : kNot PT k h = PT (!k) h := noRfl rfl
def kAndV (w : WE) (env : Env) (P : PZ) (E : EZ) : PZ := fun z h => match z with | .bl k => (if k = true then w env h P E else P (.bl false) h) | _ => False
def kOrV (w : WE) (env : Env) (P : PZ) (E : EZ) : PZ := fun z h => match z with | .bl k => (if k = true then P (.bl true) h else w env h P E) | _ => False
def kNotV (P : PZ) : PZ := fun z h => match z with | .bl k => P (.bl (!k)) h | _ => False
@[simp] theorem m_andV : wAndV wa wb env h P E = wa env h (kAndV wb env P E) E := noRfl rfl
@[simp] theorem m_orV : wOrV wa wb env h P E = wa env h (kOrV wb env P E) E := noRfl rfl
@[simp] theorem m_notV : wNotV wa env h P E = wa env h (kNotV P) E := noRfl rfl
@[simp] theorem m_kAndV_t : kAndV w env P E (.bl true) h = w env h P E := noRfl rfl
@[simp] theorem m_kAndV_f : kAndV w env P E (.bl false) h = P (.bl false) h := noRfl rfl
@[simp] theorem m_kOrV_t : kOrV w env P E (.bl true) h = P (.bl true) h := noRfl rfl
@[simp] theorem m_kOrV_f : kOrV w env P E (.bl false) h = w env h P E := noRfl rfl
@[simp] theorem m_kNotV : kNotV P (.bl k) h = P (.bl (!k)) h := noRfl rfl
def kIfE (a b : WE) (env : Env) (P : PZ) (E : EZ) : Bool → ZH → Prop := fun k h => if k = true then a env h P E else b env h P E
@[simp] theorem m_if : wIf t wa wb env h P E = t env h (kIfE wa wb env P E) E := noRfl rfl
@[simp] theorem m_kIfE_t : kIfE wa wb env P E true h = wa env h P E := noRfl rfl
@[simp] theorem m_kIfE_f : kIfE wa wb env P E false h = wb env h P E := noRfl rfl
def kNeg (P : PZ) : PZ := fun z h => match z with | .int i => P (.int (-i)) h | _ => False
@[simp] theorem m_neg : wNeg w env h P E = w env h (kNeg P) E := noRfl rfl
@[simp] theorem m_kNeg {i : Int} : kNeg P (.int i) h = P (.int (-i)) h := noRfl rfl
def kChD (o' : Z2) (b : Z) (P : PZ) : PZ := fun c h => o' b c h P
def kChC (o' : Z2) (wc : WE) (b : Z) (env : Env) (P : PZ) (E : EZ) : PZ := fun z h => match z with
  | .bl k => (if k = true then wc env h (kChD o' b P) E else P (.bl false) h)
  | _ => False
def kChB (o o' : Z2) (wc : WE) (a : Z) (env : Env) (P : PZ) (E : EZ) : PZ := fun b h => o a b h (kChC o' wc b env P E)
def kChA (o o' : Z2) (wb wc : WE) (env : Env) (P : PZ) (E : EZ) : PZ := fun a h => wb env h (kChB o o' wc a env P E) E
@[simp] theorem m_chain : wChain o o2 wa wb wc env h P E = wa env h (kChA o o2 wb wc env P E) E := noRfl rfl
@[simp] theorem m_kChA : kChA o o2 wb wc env P E a h = wb env h (kChB o o2 wc a env P E) E := noRfl rfl
@[simp] theorem m_kChB : kChB o o2 wc a env P E b h = o a b h (kChC o2 wc b env P E) := noRfl rfl
@[simp] theorem m_kChC_t : kChC o wc b env P E (.bl true) h = wc env h (kChD o b P) E := noRfl rfl
@[simp] theorem m_kChC_f : kChC o wc b env P E (.bl false) h = P (.bl false) h := noRfl rfl
@[simp] theorem m_kChD : kChD o b P a h = o b a h P := noRfl rfl
/-! slices -/
def kPart (P : Option Int → ZH → Prop) : PZ := fun z h => match z with | .int i => P (some i) h | _ => False
@[simp] theorem m_noPart : wNoPart env h PO E = PO none h := noRfl rfl
@[simp] theorem m_part : wPart w env h PO E = w env h (kPart PO) E := noRfl rfl
@[simp] theorem m_kPart {i : Int} : kPart PO (.int i) h = PO (some i) h := noRfl rfl
def kSl3 (a : Z) (lo : Option Int) (P : PZ) : Option Int → ZH → Prop := fun hi h => oSl a lo hi h P
def kSl2 (a : Z) (wh : WO) (env : Env) (P : PZ) (E : EZ) : Option Int → ZH → Prop := fun lo h => wh env h (kSl3 a lo P) E
def kSl1 (wl wh : WO) (env : Env) (P : PZ) (E : EZ) : PZ := fun a h => wl env h (kSl2 a wh env P E) E
@[simp] theorem m_sl {wl wh : WO} : wSl w wl wh env h P E = w env h (kSl1 wl wh env P E) E := noRfl rfl
@[simp] theorem m_kSl1 {wl wh : WO} : kSl1 wl wh env P E a h = wl env h (kSl2 a wh env P E) E := noRfl rfl
@[simp] theorem m_kSl2 {wh : WO} {lo : Option Int} : kSl2 a wh env P E lo h = wh env h (kSl3 a lo P) E := noRfl rfl
@[simp] theorem m_kSl3 {lo hi : Option Int} : kSl3 a lo P hi h = oSl a lo hi h P := noRfl rfl
def kRev (P : PZ) : PZ := fun a h1 => match a with
  | .ref n => (match h1[n]? with
    | some (.lst zs) => P (.ref h1.length) (h1 ++ [.lst zs.reverse])
    | _ => False)
  | _ => False
@[simp] theorem m_rev : wRev w env h P E = w env h (kRev P) E := noRfl rfl
@[simp] theorem m_kRev : kRev P (.ref n) h = (match h[n]? with
    | some (.lst zs) => P (.ref h.length) (h ++ [.lst zs.reverse])
    | _ => False) := noRfl rfl
/-! fields, calls -/
def kFld (cs : List Str) (f : Str) (P : PZ) : PZ := fun z h => fldZ cs f h z fun v => P v h
@[simp] theorem m_fld {cs : List Str} {f : Str} : wFld cs f w env h P E = w env h (kFld cs f P) E := noRfl rfl
@[simp] theorem m_kFld {cs : List Str} {f : Str} : kFld cs f P (.ref n) h = (match h[n]? with
    | some (.ins c fs) => c ∈ cs ∧ (match fs.lookup f with
      | some v => P v h
      | none => False)
    | _ => False) := noRfl rfl
def kEx (env : Env) (E : EZ) : XZ → ZH → Prop := fun x h => E x env h
def kCall (n : Nat) (wf : WF) (env : Env) (P : PZ) (E : EZ) : List Z → ZH → Prop := fun zs h1 => zs.length = n ∧ wf zs h1 P (kEx env E)
@[simp] theorem m_call {wf : WF} : wCall n wf r env h P E = r env h (kCall n wf env P E) E := noRfl rfl
@[simp] theorem m_kCall {wf : WF} : kCall n wf env P E zs h = (zs.length = n ∧ wf zs h P (kEx env E)) := noRfl rfl
@[simp] theorem m_kEx {x : XZ} : kEx env E x h = E x env h := noRfl rfl
def kMeth2 (n : Nat) (wf : WF) (o : Z) (env : Env) (P : PZ) (E : EZ) : List Z → ZH → Prop := fun zs h2 => zs.length = n ∧ wf (o :: zs) h2 P (kEx env E)
def kMeth (c m : Str) (n : Nat) (wf : WF) (wa : WA) (env : Env) (P : PZ) (E : EZ) : PZ := fun o h1 => insZ c m h1 o (wa env h1 (kMeth2 n wf o env P E) E)
@[simp] theorem m_meth {c m : Str} {wf : WF} : wMeth c m n wf wo r env h P E = wo env h (kMeth c m n wf r env P E) E := noRfl rfl
@[simp] theorem m_kMeth {c m : Str} {wf : WF} : kMeth c m n wf r env P E (.ref i) h = (match h[i]? with
    | some (.ins c' fs) => c' = c ∧ fs.lookup m = none ∧ r env h (kMeth2 n wf (.ref i) env P E) E
    | _ => False) := noRfl rfl
@[simp] theorem m_kMeth2 {wf : WF} : kMeth2 n wf a env P E zs h = (zs.length = n ∧ wf (a :: zs) h P (kEx env E)) := noRfl rfl
def kNew (n : Nat) (P : PZ) : PZ := fun r h2 => r = .non ∧ P (.ref n) h2
def kMake (c : Str) (n : Nat) (wf : WF) (env : Env) (P : PZ) (E : EZ) : List Z → ZH → Prop := fun zs h1 => zs.length = n ∧ wf (.ref h1.length :: zs) (h1 ++ [.ins c []]) (kNew h1.length P) (kEx env E)
@[simp] theorem m_make {c : Str} {wf : WF} : wMake c n wf r env h P E = r env h (kMake c n wf env P E) E := noRfl rfl
@[simp] theorem m_kMake {c : Str} {wf : WF} : kMake c n wf env P E zs h = (zs.length = n ∧ wf (.ref h.length :: zs) (h ++ [.ins c []]) (kNew h.length P) (kEx env E)) := noRfl rfl
@[simp] theorem m_kNew : kNew n P .non h = P (.ref n) h := by show (Z.non = Z.non ∧ _) = _; simp
def kCB (o : Z3) (P : PZ) : List Z → ZH → Prop := fun zs h => o zs h P
@[simp] theorem m_CB {o : Z3} : wCB o r env h P E = r env h (kCB o P) E := noRfl rfl
@[simp] theorem m_kCB {o : Z3} : kCB o P zs h = o zs h P := noRfl rfl
def kIsi (T : BT) (cs : List Str) (P : PZ) : PZ := fun z h => isiZ T cs h z fun b => P (.bl b) h
@[simp] theorem m_isi {T : BT} {cs : List Str} : wIsi T cs w env h P E = w env h (kIsi T cs P) E := noRfl rfl
@[simp] theorem m_kIsi {T : BT} {cs : List Str} : kIsi T cs P z h = isiZ T cs h z fun b => P (.bl b) h := noRfl rfl
def kBM2 (o : ZM) (a : Z) (P : PZ) : List Z → ZH → Prop := fun zs h => o a zs h P
def kBM (it : ZH → Z → Prop → Prop) (o : ZM) (r : WA) (env : Env) (P : PZ) (E : EZ) : PZ := fun a h => it h a (r env h (kBM2 o a P) E)
@[simp] theorem m_BM {it : ZH → Z → Prop → Prop} {o : ZM} : wBM it o w r env h P E = w env h (kBM it o r env P E) E := noRfl rfl
@[simp] theorem m_kBM {it : ZH → Z → Prop → Prop} {o : ZM} : kBM it o r env P E a h = it h a (r env h (kBM2 o a P) E) := noRfl rfl
@[simp] theorem m_kBM2 {o : ZM} : kBM2 o a P zs h = o a zs h P := noRfl rfl
@[simp] theorem m_isLst {p : Prop} : isLst h (.ref n) p = (match h[n]? with | some (.lst _) => p | _ => False) := noRfl rfl
@[simp] theorem m_isDct {p : Prop} : isDct h (.ref n) p = (match h[n]? with | some (.dict _) => p | _ => False) := noRfl rfl
/-! comprehensions -/
def kLc (p : Pat) (tt : WT) (te : WE) (vs : List Nat) (env : Env) (P : PZ) : List Z → (ZH → Prop) → ZH → Prop := fun zs chk h1 => lcZ p tt te chk (wipeE env vs) P zs [] h1
@[simp] theorem m_lc {wi : WI} {p : Pat} {vs : List Nat} : wLc wi p t we vs env h P E = wi env h (kLc p t we vs env P) E := noRfl rfl
@[simp] theorem m_kLc {p : Pat} {vs : List Nat} {chk : ZH → Prop} : kLc p t we vs env P zs chk h = lcZ p t we chk (wipeE env vs) P zs [] h := noRfl rfl
@[simp] theorem m_yes : wYes env h PT E = PT true h := noRfl rfl
/-! what is walked -/
def kVal (P : List Z → (ZH → Prop) → ZH → Prop) : PZ := fun z h => valI z h P
def Always : ZH → Prop := fun _ => True
def Stays (n : Nat) (zs : List Z) : ZH → Prop := fun h' => h'[n]? = some (.lst zs)
section
variable {PI : List Z → (ZH → Prop) → ZH → Prop}
@[simp] theorem m_iVal : iVal w env h PI E = w env h (kVal PI) E := noRfl rfl
@[simp] theorem m_kVal_t : kVal PI (.tup zs) h = PI zs Always h := noRfl rfl
@[simp] theorem m_kVal_s {ns : List Int} : kVal PI (.scr ns) h = PI (ns.map Z.int) Always h := noRfl rfl
@[simp] theorem m_kVal_x {x : Str} : kVal PI (.str x) h = PI (chrs x) Always h := noRfl rfl
@[simp] theorem m_kVal_r : kVal PI (.ref n) h = (match h[n]? with | some (.lst zs) => PI zs (Stays n zs) h | _ => False) := noRfl rfl
def kR1 (P : List Z → (ZH → Prop) → ZH → Prop) : List Z → ZH → Prop := fun zs h => rng1 zs fun l => P l Always h
def kR2 (P : List Z → (ZH → Prop) → ZH → Prop) : List Z → ZH → Prop := fun zs h => rng2 zs fun l => P l Always h
@[simp] theorem m_iR1 : iR1 r env h PI E = r env h (kR1 PI) E := noRfl rfl
@[simp] theorem m_iR2 : iR2 r env h PI E = r env h (kR2 PI) E := noRfl rfl
@[simp] theorem m_kR1 {i : Int} : kR1 PI [.int i] h = (inRng i ∧ PI (rngZ 0 i.toNat) Always h) := noRfl rfl
@[simp] theorem m_kR2 {i j : Int} : kR2 PI [.int i, .int j] h = ((inRng i ∧ inRng j) ∧ PI (rngZ i (j - i).toNat) Always h) := noRfl rfl
end
/-! targets -/
def kG (g : WG) (P : Env → ZH → Prop) (env : Env) (E : EZ) : PZ := fun z h => g z env h P E
@[simp] theorem m_gName : wgName i z env h PS E = PS (env.set i (some z)) h := noRfl rfl
@[simp] theorem m_gNil : wgNil [] env h PS E = PS env h := by show ([] = [] ∧ _) = _; simp
def kGs (gs : WGs) (zs : List Z) (P : Env → ZH → Prop) (E : EZ) : Env → ZH → Prop := fun env h => gs zs env h P E
@[simp] theorem m_gCons : wgCons g gs (z :: zs) env h PS E = g z env h (kGs gs zs PS E) E := noRfl rfl
@[simp] theorem m_kGs : kGs gs zs PS E env h = gs zs env h PS E := noRfl rfl
@[simp] theorem m_gTup : wgTup n gs (.tup zs) env h PS E = (zs.length = n ∧ gs zs env h PS E) := noRfl rfl
def kEnv (P : Env → ZH → Prop) (env : Env) : ZH → Prop := fun h => P env h
@[simp] theorem m_kEnv : kEnv PS env h = PS env h := noRfl rfl
def kGsub2 (o v : Z) (P : Env → ZH → Prop) (env : Env) : PZ := fun i h => oSet o i v h (kEnv P env)
def kGsub1 (wi : WE) (v : Z) (P : Env → ZH → Prop) (env : Env) (E : EZ) : PZ := fun o h => wi env h (kGsub2 o v P env) E
@[simp] theorem m_gSub : wgSub wo wi v env h PS E = wo env h (kGsub1 wi v PS env E) E := noRfl rfl
@[simp] theorem m_kGsub1 : kGsub1 wi v PS env E a h = wi env h (kGsub2 a v PS env) E := noRfl rfl
@[simp] theorem m_kGsub2 : kGsub2 a v PS env b h = oSet a b v h (kEnv PS env) := noRfl rfl
/-! statements -/
@[simp] theorem m_kG : kG g PS env E z h = g z env h PS E := noRfl rfl
@[simp] theorem m_asg : wsAsg w g D env h E = w env h (kG g D.nx env E) E := noRfl rfl
def kSet (i : Nat) (P : Env → ZH → Prop) (env : Env) : PZ := fun z h => P (env.set i (some z)) h
@[simp] theorem m_set : wsSet i w D env h E = w env h (kSet i D.nx env) E := noRfl rfl
@[simp] theorem m_kSet : kSet i PS env z h = PS (env.set i (some z)) h := noRfl rfl
def kAug (o : Z2) (x : Z) (i : Nat) (P : Env → ZH → Prop) (env : Env) : PZ := fun y h => o x y h (kSet i P env)
@[simp] theorem m_aug : wsAug o i w D env h E = (match env[i]? with
  | some (some x) => w env h (kAug o x i D.nx env) E
  | _ => False) := noRfl rfl
@[simp] theorem m_kAug : kAug o x i PS env y h = o x y h (kSet i PS env) := noRfl rfl
def kExpr (P : Env → ZH → Prop) (env : Env) : PZ := fun _ h => P env h
@[simp] theorem m_expr : wsExpr w D env h E = w env h (kExpr D.nx env) E := noRfl rfl
@[simp] theorem m_kExpr : kExpr PS env z h = PS env h := noRfl rfl
@[simp] theorem m_ret : wsRet w D env h E = w env h D.rt E := noRfl rfl
@[simp] theorem m_retN : wsRetN D env h E = D.rt .non h := noRfl rfl
@[simp] theorem m_next : wsNext D env h E = D.nx env h := noRfl rfl
@[simp] theorem m_break : wsBreak D env h E = D.bk env h := noRfl rfl
@[simp] theorem m_cont : wsCont D env h E = D.ct env h := noRfl rfl
def kIf (a b : WS) (D : ZEnds) (env : Env) (E : EZ) : Bool → ZH → Prop := fun k h => if k = true then a D env h E else b D env h E
@[simp] theorem m_sif : wsIf t s s2 D env h E = t env h (kIf s s2 D env E) E := noRfl rfl
@[simp] theorem m_kIf_t : kIf s s2 D env E true h = s D env h E := noRfl rfl
@[simp] theorem m_kIf_f : kIf s s2 D env E false h = s2 D env h E := noRfl rfl
def kSeq (b : WS) (D : ZEnds) (E : EZ) : Env → ZH → Prop := fun env h => b D env h E
@[simp] theorem m_seq : wsSeq s s2 D env h E = s ⟨kSeq s2 D E, D.rt, D.bk, D.ct⟩ env h E := noRfl rfl
@[simp] theorem m_kSeq : kSeq s D E env h = s D env h E := noRfl rfl
def kFor (g : WG) (b : WS) (D : ZEnds) (env : Env) (E : EZ) : List Z → (ZH → Prop) → ZH → Prop := fun zs chk h => forZ g b chk D E zs env h
@[simp] theorem m_for {wi : WI} : wsFor wi g s D env h E = wi env h (kFor g s D env E) E := noRfl rfl
@[simp] theorem m_kFor {chk : ZH → Prop} : kFor g s D env E zs chk h = forZ g s chk D E zs env h := noRfl rfl
def kFldS2 (cs : List Str) (f : Str) (v : Z) (P : Env → ZH → Prop) (env : Env) : PZ := fun o h => setFZ cs f h o v (kEnv P env)
def kFldS (cs : List Str) (f : Str) (wo : WE) (P : Env → ZH → Prop) (env : Env) (E : EZ) : PZ := fun v h => wo env h (kFldS2 cs f v P env) E
@[simp] theorem m_sfld {cs : List Str} {f : Str} : wsFld cs f wo we D env h E = we env h (kFldS cs f wo D.nx env E) E := noRfl rfl
@[simp] theorem m_kFldS {cs : List Str} {f : Str} : kFldS cs f wo PS env E v h = wo env h (kFldS2 cs f v PS env) E := noRfl rfl
@[simp] theorem m_kFldS2 {cs : List Str} {f : Str} : kFldS2 cs f v PS env (.ref n) h = (match h[n]? with
    | some (.ins c fs) => c ∈ cs ∧ fs.length < 1000 ∧ PS env (h.set n (.ins c (zput f v fs)))
    | _ => False) := noRfl rfl

/-! operators -/
@[simp] theorem oAdd_i {i j : Int} : oAdd (.int i) (.int j) h P = P (.int (i + j)) h := noRfl rfl
@[simp] theorem oAdd_s {x y : Str} : oAdd (.str x) (.str y) h P = (x.length + y.length ≤ sizeLine ∧ P (.str (x ++ y)) h) := noRfl rfl
@[simp] theorem oAdd_t {xs ys : List Z} : oAdd (.tup xs) (.tup ys) h P = (xs.length + ys.length ≤ sizeLine ∧ P (.tup (xs ++ ys)) h) := noRfl rfl
@[simp] theorem oAdd_r {n m : Nat} : oAdd (.ref n) (.ref m) h P = (match h[n]?, h[m]? with
    | some (.lst xs), some (.lst ys) => xs.length + ys.length ≤ sizeLine ∧ P (.ref h.length) (h ++ [.lst (xs ++ ys)])
    | _, _ => False) := noRfl rfl
@[simp] theorem oSub_i {i j : Int} : oSub (.int i) (.int j) h P = P (.int (i - j)) h := noRfl rfl
@[simp] theorem oMul_i {i j : Int} : oMul (.int i) (.int j) h P = (CMul i j ∧ P (.int (i * j)) h) := noRfl rfl
@[simp] theorem oMul_s {x : Str} {n : Int} : oMul (.str x) (.int n) h P = (0 ≤ n ∧ x.length * n.toNat ≤ sizeLine ∧ n < 2 ^ 62 ∧ P (.str (strRep x n.toNat)) h) := noRfl rfl
@[simp] theorem oMul_t {xs : List Z} {n : Int} : oMul (.tup xs) (.int n) h P = (xs ≠ [] ∧ 0 ≤ n ∧ n ≤ 1000 ∧ xs.length ≤ 1000 ∧ P (.tup (List.replicate n.toNat xs).flatten) h) := noRfl rfl
@[simp] theorem oMod_i {i j : Int} : oMod (.int i) (.int j) h P = (0 < j ∧ P (.int (i % j)) h) := noRfl rfl
@[simp] theorem oFdiv_i {i j : Int} : oFdiv (.int i) (.int j) h P = (CDiv i j ∧ P (.int (i / j)) h) := noRfl rfl
@[simp] theorem oPow_i {i j : Int} : oPow (.int i) (.int j) h P = (CPow i j ∧ P (.int (i ^ j.toNat)) h) := noRfl rfl
@[simp] theorem oEq_i {i j : Int} : oEq (.int i) (.int j) h P = P (.bl (decide (i = j))) h := noRfl rfl
@[simp] theorem oEq_s {i j : Str} : oEq (.str i) (.str j) h P = P (.bl (decide (i = j))) h := noRfl rfl
@[simp] theorem oEq_b {i j : Bool} : oEq (.bl i) (.bl j) h P = P (.bl (decide (i = j))) h := noRfl rfl
@[simp] theorem oNe_i {i j : Int} : oNe (.int i) (.int j) h P = P (.bl (!decide (i = j))) h := noRfl rfl
@[simp] theorem oNe_s {i j : Str} : oNe (.str i) (.str j) h P = P (.bl (!decide (i = j))) h := noRfl rfl
@[simp] theorem oNe_b {i j : Bool} : oNe (.bl i) (.bl j) h P = P (.bl (!decide (i = j))) h := noRfl rfl
@[simp] theorem oLt_i {i j : Int} : oLt (.int i) (.int j) h P = P (.bl (decide (i < j))) h := noRfl rfl
@[simp] theorem oLt_s {i j : Str} : oLt (.str i) (.str j) h P = P (.bl (decide (i.cps.toList < j.cps.toList))) h := noRfl rfl
@[simp] theorem oLe_i {i j : Int} : oLe (.int i) (.int j) h P = P (.bl (decide (i ≤ j))) h := noRfl rfl
@[simp] theorem oLe_s {i j : Str} : oLe (.str i) (.str j) h P = P (.bl (!decide (j.cps.toList < i.cps.toList))) h := noRfl rfl
@[simp] theorem oGt_i {i j : Int} : oGt (.int i) (.int j) h P = P (.bl (decide (j < i))) h := noRfl rfl
@[simp] theorem oGe_i {i j : Int} : oGe (.int i) (.int j) h P = P (.bl (decide (j ≤ i))) h := noRfl rfl
@[simp] theorem oIsN_n : oIsN z .non h P = P (.bl (zNone z)) h := noRfl rfl
@[simp] theorem oNotN_n : oNotN z .non h P = P (.bl (!zNone z)) h := noRfl rfl
@[simp] theorem oIx_t {i : Int} : oIx (.tup zs) (.int i) h P = ∃ z, L2.atI zs i = some z ∧ P z h := noRfl rfl
@[simp] theorem oIx_s {ns : List Int} {i : Int} : oIx (.scr ns) (.int i) h P = ∃ n, L2.atI ns i = some n ∧ P (.int n) h := noRfl rfl
@[simp] theorem oIx_x {x : Str} {i : Int} : oIx (.str x) (.int i) h P = (x.length ≤ sizeLine ∧ ∃ c, L2.atI x.cps.toList i = some c ∧ P (.str ⟨#[c]⟩) h) := noRfl rfl
@[simp] theorem oIx_r : oIx (.ref n) z h P = (match h[n]? with
    | some (.lst zs) => (match z with
      | .int i => ∃ z, L2.atI zs i = some z ∧ P z h
      | _ => False)
    | some (.dict kvs) => dkey kvs z ∧ ∃ v, dget kvs z = some v ∧ P v h
    | some (.dictL kvs) => dkey kvs z ∧ ∃ v, dget kvs z = some v ∧ P v h
    | _ => False) := by cases z <;> rfl
@[simp] theorem oSl_t {l u : Option Int} : oSl (.tup zs) l u h P = P (.tup (cutZ zs l u)) h := noRfl rfl
@[simp] theorem oSl_x {x : Str} {l u : Option Int} : oSl (.str x) l u h P = (x.length ≤ sizeLine ∧ P (.str ⟨(cutZ x.cps.toList l u).toArray⟩) h) := noRfl rfl
@[simp] theorem oSl_s {ns : List Int} {l u : Option Int} : oSl (.scr ns) l u h P = P (.ref h.length) (h ++ [.lst ((cutZ ns l u).map Z.int)]) := noRfl rfl
@[simp] theorem oSl_r {l u : Option Int} : oSl (.ref n) l u h P = (match h[n]? with
    | some (.lst zs) => P (.ref h.length) (h ++ [.lst (cutZ zs l u)])
    | _ => False) := noRfl rfl
@[simp] theorem oLen_x {x : Str} : oLen [.str x] h P = (x.length ≤ sizeLine ∧ P (.int x.length) h) := noRfl rfl
@[simp] theorem oLen_t : oLen [.tup zs] h P = P (.int zs.length) h := noRfl rfl
@[simp] theorem oLen_s {ns : List Int} : oLen [.scr ns] h P = P (.int ns.length) h := noRfl rfl
@[simp] theorem oLen_r : oLen [.ref n] h P = (match h[n]? with
    | some (.lst zs) => P (.int zs.length) h
    | some (.dict kvs) => P (.int kvs.length) h
    | _ => False) := noRfl rfl
@[simp] theorem oInt_i {i : Int} : oInt [.int i] h P = P (.int i) h := noRfl rfl
@[simp] theorem oInt_b : oInt [.bl k] h P = P (.int (if k then 1 else 0)) h := noRfl rfl
@[simp] theorem oAbs_i {i : Int} : oAbs [.int i] h P = P (.int (if i < 0 then -i else i)) h := noRfl rfl
@[simp] theorem oAbs_b : oAbs [.bl k] h P = P (.int (if k then 1 else 0)) h := noRfl rfl
@[simp] theorem oOrd_x {x : Str} : oOrd [.str x] h P = (x.length = 1 ∧ P (.int (x.cps.getD 0 0 : Nat)) h) := noRfl rfl
@[simp] theorem oMax_2 {i j : Int} : oMax [.int i, .int j] h P = P (.int (if j > i then j else i)) h := noRfl rfl
@[simp] theorem oMin_2 {i j : Int} : oMin [.int i, .int j] h P = P (.int (if j < i then j else i)) h := noRfl rfl
@[simp] theorem oTuple_t : oTuple [.tup zs] h P = P (.tup zs) h := noRfl rfl
@[simp] theorem oTuple_s {ns : List Int} : oTuple [.scr ns] h P = P (.tup (ns.map Z.int)) h := noRfl rfl
@[simp] theorem oTuple_r : oTuple [.ref n] h P = (match h[n]? with
    | some (.lst zs) => P (.tup zs) h
    | _ => False) := noRfl rfl
@[simp] theorem oList_t : oList [.tup zs] h P = P (.ref h.length) (h ++ [.lst zs]) := noRfl rfl
@[simp] theorem oList_s {ns : List Int} : oList [.scr ns] h P = P (.ref h.length) (h ++ [.lst (ns.map Z.int)]) := noRfl rfl
@[simp] theorem oList_r : oList [.ref n] h P = (match h[n]? with
    | some (.lst zs) => P (.ref h.length) (h ++ [.lst zs])
    | some (.dict kvs) => (∀ p ∈ kvs, keyOk p.1 = true) ∧ P (.ref h.length) (h ++ [.lst (kvs.map (·.1))])
    | _ => False) := noRfl rfl
@[simp] theorem oAppend_r : oAppend (.ref n) [y] h P = (match h[n]? with
    | some (.lst xs) => xs.length < sizeLine ∧ P .non (h.set n (.lst (xs ++ [y])))
    | _ => False) := noRfl rfl
@[simp] theorem oExtend_r {m : Nat} : oExtend (.ref n) [.ref m] h P = (match h[n]?, h[m]? with
    | some (.lst xs), some (.lst ys) => xs.length + ys.length ≤ sizeLine ∧ P .non (h.set n (.lst (xs ++ ys)))
    | _, _ => False) := noRfl rfl
@[simp] theorem oGet_1 : oGet (.ref n) [z] h P = (match h[n]? with
    | some (.dict kvs) => dkey kvs z ∧ P ((dget kvs z).getD .non) h
    | _ => False) := noRfl rfl
@[simp] theorem oGet_2 : oGet (.ref n) [z, v] h P = (match h[n]? with
    | some (.dict kvs) => dkey kvs z ∧ P ((dget kvs z).getD v) h
    | _ => False) := noRfl rfl
/-! isinstance -/
section
variable {T : BT} {cs : List Str} {Q : Bool → Prop}
@[simp] theorem isi_non : isiZ T cs h .non Q = Q false := noRfl rfl
@[simp] theorem isi_bl : isiZ T cs h (.bl k) Q = Q (match T with | .int => true | .bool => true | _ => false) := noRfl rfl
@[simp] theorem isi_int {i : Int} : isiZ T cs h (.int i) Q = Q (match T with | .int => true | _ => false) := noRfl rfl
@[simp] theorem isi_str {i : Str} : isiZ T cs h (.str i) Q = Q (match T with | .str => true | _ => false) := noRfl rfl
@[simp] theorem isi_tup : isiZ T cs h (.tup zs) Q = Q (match T with | .tuple => true | _ => false) := noRfl rfl
@[simp] theorem isi_scr {ns : List Int} : isiZ T cs h (.scr ns) Q = Q (match T with | .list => true | _ => false) := noRfl rfl
@[simp] theorem isi_ref : isiZ T cs h (.ref n) Q = (match h[n]? with
    | some (.lst _) => Q (match T with | .list => true | _ => false)
    | some (.dict _) => Q (match T with | .dict => true | _ => false)
    | some (.ins c _) => c ∈ cs ∧ Q false
    | _ => False) := noRfl rfl
end
end

/-! ### loops by induction -/
theorem forZ_ind {g : WG} {b : WS} {chk : ZH → Prop} {D : ZEnds} {E : EZ} (I : List Z → Env → ZH → Prop) (h0 : ∀ env h, I [] env h → chk h ∧ D.nx env h)
    (hs : ∀ z zs env h (N : Env → ZH → Prop), (∀ env h, I zs env h → N env h) → I (z :: zs) env h → chk h ∧ g z env h (kSeq b ⟨N, D.rt, D.nx, N⟩ E) E) : ∀ zs env h, I zs env h → forZ g b chk D E zs env h
  | [], env, h, i => h0 env h i
  | z :: zs, env, h, i => hs z zs env h _ (fun env h i => forZ_ind I h0 hs zs env h i) i
def kWh (b : WS) (N : Env → ZH → Prop) (D : ZEnds) (env : Env) (E : EZ) : Bool → ZH → Prop := fun k h => if k = true then b ⟨N, D.rt, D.nx, N⟩ env h E else D.nx env h
@[simp] theorem m_kWh_t {b : WS} {N : Env → ZH → Prop} {D : ZEnds} {env : Env} {E : EZ} {h : ZH} : kWh b N D env E true h = b ⟨N, D.rt, D.nx, N⟩ env h E := noRfl rfl
@[simp] theorem m_kWh_f {b : WS} {N : Env → ZH → Prop} {D : ZEnds} {env : Env} {E : EZ} {h : ZH} : kWh b N D env E false h = D.nx env h := noRfl rfl
theorem whileZ_ind {c : WT} {b : WS} {D : ZEnds} {E : EZ} (I : Nat → Env → ZH → Prop) (hs : ∀ m env h (N : Env → ZH → Prop), (∀ m' env h, m' < m → I m' env h → N env h) → I m env h → c env h (kWh b N D env E) E) {m : Nat} {env : Env} {h : ZH} (i : I m env h) : wsWhile c b D env h E := by
  refine ⟨m + 1, ?_⟩
  have key : ∀ m m' env h, m' ≤ m → I m' env h → whileZ c b D E (m + 1) env h := by
    intro m
    induction m with
    | zero =>
      intro m' env h hm i
      have e : m' = 0 := by omega
      subst e
      exact hs 0 env h _ (fun _ _ _ z => absurd z (Nat.not_lt_zero _)) i
    | succ m ih =>
      intro m' env h hm i
      exact hs m' env h _ (fun m'' env h hl i => ih m'' env h (by omega) i) i
  exact key m m env h (Nat.le_refl _) i
/-- turn by turn -/
def kLt2 (p : Pat) (tt : WT) (te : WE) (chk : ZH → Prop) (env : Env) (N : List Z → ZH → Prop) (acc : List Z) : PZ := fun y h => acc.length < sizeLine ∧ N (acc ++ [y]) h
def kLt (te : WE) (env1 : Env) (N : List Z → ZH → Prop) (acc : List Z) : Bool → ZH → Prop := fun b h => if b = true then te env1 h (fun y h3 => acc.length < sizeLine ∧ N (acc ++ [y]) h3) E0 else N acc h
def kAcc (N : List Z → ZH → Prop) (acc : List Z) : PZ := fun y h3 => acc.length < sizeLine ∧ N (acc ++ [y]) h3
@[simp] theorem m_kAcc {N : List Z → ZH → Prop} {acc : List Z} {y : Z} {h : ZH} : kAcc N acc y h = (acc.length < sizeLine ∧ N (acc ++ [y]) h) := noRfl rfl
@[simp] theorem m_kLt_t {te : WE} {env1 : Env} {N : List Z → ZH → Prop} {acc : List Z} {h : ZH} : kLt te env1 N acc true h = te env1 h (kAcc N acc) E0 := noRfl rfl
@[simp] theorem m_kLt_f {te : WE} {env1 : Env} {N : List Z → ZH → Prop} {acc : List Z} {h : ZH} : kLt te env1 N acc false h = N acc h := noRfl rfl
theorem lcZ_ind {p : Pat} {tt : WT} {te : WE} {chk : ZH → Prop} {env : Env} {P : PZ} (I : List Z → List Z → ZH → Prop) (h0 : ∀ acc h, I [] acc h → chk h ∧ P (.ref h.length) (h ++ [.lst acc]))
    (hs : ∀ z zs acc h (N : List Z → ZH → Prop), (∀ acc h, I zs acc h → N acc h) → I (z :: zs) acc h → chk h ∧ ∃ env1, p.put z env = some env1 ∧ tt env1 h (kLt te env1 N acc) E0) : ∀ zs acc h, I zs acc h → lcZ p tt te chk env P zs acc h
  | [], acc, h, i => h0 acc h i
  | z :: zs, acc, h, i => by
    obtain ⟨c, env1, e, q⟩ := hs z zs acc h _ (fun acc h i => lcZ_ind I h0 hs zs acc h i) i
    rw [lc_cons, e]
    exact ⟨c, q⟩
/-! ### heaps that have grown -/
def Pre (h h' : ZH) : Prop := ∃ g, h' = h ++ g
theorem Pre.refl (h : ZH) : Pre h h := ⟨[], by simp⟩
theorem Pre.trans {a b c : ZH} (x : Pre a b) (y : Pre b c) : Pre a c := by
  obtain ⟨g, rfl⟩ := x
  obtain ⟨g', rfl⟩ := y
  exact ⟨g ++ g', by simp⟩
theorem Pre.app (h g : ZH) : Pre h (h ++ g) := ⟨g, rfl⟩
theorem Pre.more {h h' : ZH} (x : Pre h h') (g : ZH) : Pre h (h' ++ g) := x.trans (.app _ _)
theorem Pre.get {h h' : ZH} (x : Pre h h') {n : Nat} {o : ZO} (e : h[n]? = some o) : h'[n]? = some o := by
  obtain ⟨g, rfl⟩ := x
  rw [List.getElem?_append_left (List.getElem?_eq_some_iff.mp e).1]
  exact e
theorem Pre.le {h h' : ZH} (x : Pre h h') : h.length ≤ h'.length := by
  obtain ⟨g, rfl⟩ := x
  simp
/-- an object that came later changes -/
theorem Pre.set {h h' : ZH} (x : Pre h h') {n : Nat} (hn : h.length ≤ n) (o : ZO) : Pre h (h'.set n o) := by
  obtain ⟨g, rfl⟩ := x
  refine ⟨g.set (n - h.length) o, ?_⟩
  rw [List.set_append_right _ _ hn]
/-- a comprehension of a pure element -/
theorem lcZ_map {i : Pat} {te : WE} {chk : ZH → Prop} {env : Env} {P : PZ} (f : Z → Z) (S : Z → Prop) (C : ZH → Prop) (hC : ∀ h h', C h → Pre h h' → C h') (hchk : ∀ h, C h → chk h) {zs acc : List Z} {h : ZH} (hl : acc.length + zs.length ≤ sizeLine) (c : C h) (hS : ∀ z ∈ zs, S z)
    (he : ∀ z, S z → ∃ env1, i.put z env = some env1 ∧ ∀ h (K : PZ), C h → (∀ h', Pre h h' → K (f z) h') → te env1 h K E0) (hP : ∀ h', Pre h h' → P (.ref h'.length) (h' ++ [.lst (acc ++ zs.map f)])) : lcZ i wYes te chk env P zs acc h := by
  refine lcZ_ind (fun zs' acc' h' => Pre h h' ∧ C h' ∧ acc' ++ zs'.map f = acc ++ zs.map f ∧ acc'.length + zs'.length ≤ sizeLine ∧ ∀ z ∈ zs', S z) ?_ ?_ zs acc h ⟨.refl h, c, rfl, hl, hS⟩
  · rintro acc' h' ⟨p, c', e, _, _⟩
    refine ⟨hchk _ c', ?_⟩
    have := hP h' p
    rw [← e] at this
    simpa using this
  · rintro z zs' acc' h' N hN ⟨p, c', e, l, s⟩
    refine ⟨hchk _ c', ?_⟩
    obtain ⟨env1, e1, q⟩ := he z (s z List.mem_cons_self)
    refine ⟨env1, e1, ?_⟩
    show te env1 h' (kAcc N acc') E0
    refine q h' _ c' fun h'' p' => ?_
    rw [List.length_cons] at l
    exact ⟨by omega, hN _ _ ⟨p.trans p', hC _ _ c' p', by simp at e ⊢; exact e, by simp; omega, fun y hy => s y (List.mem_cons_of_mem _ hy)⟩⟩
end ZL

namespace ZL
open PySem PySem.Spec PyProof.Rows L2

/-! ### dict displays -/
def wDict0 : WE := fun env h P E => P (.ref h.length) (h ++ [.dict []])
section
variable {X : Cx}
theorem fol_dict {K : PySem.W.Frag} {mg : Str → Option Value} {μ : List Addr} {H : Hp} {h : ZH} {P : PZ} {Q : VK} {kvs : List (Z × Z)} {o : HO} (R : RelH K mg μ H h) (d : DictR K μ H kvs o) (p : P (.ref h.length) (h ++ [.dict kvs])) (f : Fol K mg μ H P Q) :
    ∀ a, H a = none → Q (.ref a) (upd H a o) := fun a ha => by
  have ex : Ext μ H (μ ++ [a]) (upd H a o) := ext_app a (ext_new ha) ha
  refine f _ _ _ _ _ p ex (R.new ha ⟨o, upd_same, d.mono ex⟩) ?_
  unfold RepV
  exact ⟨a, rfl, by rw [← R.len]; simp⟩
theorem ze_dict0 {pos : Pos} : ZE X (.Dict [] [] pos) wDict0 :=
  ⟨fun B E tk => pe_imp pe_dnewK fun σ H Q ⟨μ, env, h, P, R, q, f⟩ => fol_dict R.heap (.inl ⟨[], rfl, .nil⟩) q f⟩
/-- {k: v, ..}: keys that are ints or texts -/
def wPairs : List (WE × WE) → Env → ZH → (List (Z × Z) → ZH → Prop) → EZ → Prop
  | [], env, h, P, E => P [] h
  | (wk, wv) :: r, env, h, P, E => wk env h (fun k h1 => wv env h1 (fun v h2 => wPairs r env h2 (fun ps h3 => P ((k, v) :: ps) h3) E) E) E
def wDisp (ps : List (WE × WE)) : WE := fun env h P E => wPairs ps env h (fun kvs h1 => kvs.length ≤ 15 ∧ (∀ p ∈ kvs, isT p.1 = false ∧ keyOk p.1 = true) ∧ P (.ref h1.length) (h1 ++ [.dict (kvs.foldl (fun acc p => dput acc p.1 p.2) [])])) E
structure ZPP (X : Cx) (pos : Pos) (keys : List (Option Expr)) (values : List Expr) (ws : List (WE × WE)) : Prop where
  run : ∀ B E, ZTk X B E → PPs X pos keys values (ws.map fun p => (TZ X.K X.mg B p.1 E, TZ X.K X.mg B p.2 E))
theorem zpp_nil {pos : Pos} : ZPP X pos [] [] [] := ⟨fun B E tk => pps_nil⟩
theorem zpp_cons {pos : Pos} {k v : Expr} {ks : List (Option Expr)} {vs : List Expr} {wk wv : WE} {ws : List (WE × WE)} (hk : ZE X k wk) (hv : ZE X v wv) (hr : ZPP X pos ks vs ws) : ZPP X pos (some k :: ks) (v :: vs) ((wk, wv) :: ws) :=
  ⟨fun B E tk => pps_cons (hk.run B E tk) (hv.run B E tk) (hr.run B E tk)⟩
def KVR (K : PySem.W.Frag) (μ : List Addr) (H : Hp) (p : Z × Z) (q : V × V) : Prop := RepV K μ H p.1 q.1 ∧ RepV K μ H p.2 q.2
theorem tz_pairs {K : PySem.W.Frag} {mg : Str → Option Value} {B : List Addr × Hp} {E : EZ} {D : Addr} {H0 : Hp} : ∀ (ws : List (WE × WE)) {μ : List Addr} {env : Env} {h : ZH} {σ : L2.St} {H : Hp} {P : List (Z × Z) → ZH → Prop} {Q : List (V × V) → Hp → Prop},
    Rel K mg B μ env h σ H → wPairs ws env h P E → (∀ kvs h' μ' H' ps, P kvs h' → Ext μ H μ' H' → RelH K mg μ' H' h' → Paired (KVR K μ' H') kvs ps → Q ps H') → tPairs (ws.map fun p => (TZ K mg B p.1 E, TZ K mg B p.2 E)) σ H Q
  | [], μ, env, h, σ, H, P, Q, R, w, f => f [] h μ H [] w (Ext.refl _ _) R.heap .nil
  | (wk, wv) :: r, μ, env, h, σ, H, P, Q, R, w, f => by
    refine ⟨μ, env, h, _, R, w, fun k h1 μ1 H1 x p1 e1 R1 r1 => ⟨μ1, env, h1, _, R.step e1 R1, p1, fun v h2 μ2 H2 y p2 e2 R2 r2 => ?_⟩⟩
    exact tz_pairs (H0 := H0) (D := D) r ((R.step e1 R1).step e2 R2) p2 fun kvs h' μ' H' ps p3 e3 R3 r3 => f _ h' μ' H' _ p3 ((e1.trans e2).trans e3) R3 (.cons ⟨(r1.mono e2).mono e3, r2.mono e3⟩ r3)
theorem leaf_of {K : PySem.W.Frag} {μ : List Addr} {H : Hp} {k : Z} {y : V} (t : isT k = false) (ok : keyOk k = true) (r : RepV K μ H k y) : ∃ q : Key, k = keyZ q ∧ y = kV q := by
  rcases key_cases ok r with ⟨_, q⟩ | ⟨t', _⟩
  · exact q
  · rw [t] at t'; cases t'
theorem leafs_of {K : PySem.W.Frag} {μ : List Addr} {H : Hp} : ∀ {kvs : List (Z × Z)} {ps : List (V × V)}, (∀ p ∈ kvs, isT p.1 = false ∧ keyOk p.1 = true) → Paired (KVR K μ H) kvs ps → ∃ l : List (Key × V), ps = l.map (fun kv => (kV kv.1, kv.2)) ∧ Paired (KR K μ H) kvs l
  | _, _, _, .nil => ⟨[], rfl, .nil⟩
  | p :: kvs, (x, y) :: ps, h, .cons a r => by
    obtain ⟨k, v⟩ := p
    obtain ⟨q, e1, e2⟩ := leaf_of (h _ List.mem_cons_self).1 (h _ List.mem_cons_self).2 a.1
    obtain ⟨l, e3, r3⟩ := leafs_of (fun p hp => h p (List.mem_cons_of_mem _ hp)) r
    exact ⟨(q, y) :: l, by rw [List.map_cons, ← e3]; exact congrArg (fun z => (z, y) :: ps) e2, .cons ⟨e1, a.2⟩ r3⟩
theorem merge_rep {K : PySem.W.Frag} {μ : List Addr} {H : Hp} : ∀ {more : List (Z × Z)} {l : List (Key × V)} {kvs : List (Z × Z)} {l0 : List (Key × V)}, Paired (KR K μ H) more l → Paired (KR K μ H) kvs l0 → Paired (KR K μ H) (more.foldl (fun acc p => dput acc p.1 p.2) kvs) (mergeK l0 l)
  | _, _, _, _, .nil, r0 => r0
  | p :: more, q :: l, kvs, l0, .cons a r, r0 => by
    obtain ⟨k, z⟩ := p
    obtain ⟨k', v⟩ := q
    obtain ⟨e, rz⟩ := a
    cases e
    have := merge_rep (more := more) (l := l) r (pr_put (F := keyZ) (G := RepV K μ H) (fun a b => keyZ_inj) r0 k' rz)
    exact this
theorem ze_disp {pos : Pos} {keys : List (Option Expr)} {values : List Expr} {ws : List (WE × WE)} (hp : ZPP X pos keys values ws) (hall : keys.all (·.isSome) = true := by rfl) (hl : keys.length = values.length := by rfl) (h0 : keys ≠ [] := by exact List.cons_ne_nil _ _) (h15 : keys.length ≤ 15 := by decide) : ZE X (.Dict keys values pos) (wDisp ws) :=
  ⟨fun B E tk => pe_imp (pe_disp (hp.run B E tk) hall hl h0 h15) fun σ H Q ⟨μ, env, h, P, R, q, f⟩ => by
    intro D hD
    have Rb : RelH X.K X.mg μ (upd H D (.dK [])) h := R.heap.tup hD
    have ex : Ext μ H μ (upd H D (.dK [])) := ext_new hD
    have nD : D ∉ μ := fun hm => by
      obtain ⟨n, hn, e⟩ := List.mem_iff_getElem.mp hm
      have hh : n < h.length := by rw [← R.heap.len]; exact hn
      obtain ⟨w, ew, _⟩ := (R.heap.obj n D h[n] (by simp [hn, e]) (by simp [hh])).some
      rw [hD] at ew; cases ew
    refine tz_pairs (H0 := H) (D := D) ws (R.step ex Rb) q fun kvs h' μ' H' ps ⟨l15, lf, p⟩ e1 R1 r1 => ?_
    obtain ⟨eD, nD'⟩ := e1.off D _ upd_same nD
    obtain ⟨l, rfl, rl⟩ := leafs_of lf r1
    refine ⟨eD, l, rfl, by rw [← paired_len rl]; exact l15, ?_⟩
    have e0 : Ext0 μ' H' (μ' ++ [D]) (upd H' D (.dK (mergeK [] l))) := ⟨⟨[D], rfl⟩, fun a xs z => by rw [upd_ne (fun w => by rw [w, eD] at z; cases z)]; exact z, fun a o xs _ z => by rw [upd_ne (fun w => by rw [w, eD] at z; cases z)]; exact z⟩
    have R2 : RelH X.K X.mg (μ' ++ [D]) (upd H' D (.dK (mergeK [] l))) (h' ++ [.dict (kvs.foldl (fun acc p => dput acc p.1 p.2) [])]) := by
      refine ⟨by simp [R1.len], List.nodup_append.mpr ⟨R1.nd, by simp, fun a ha b hb => by simp at hb; subst hb; exact fun z => nD' (z ▸ ha)⟩, fun n a o' z1 z2 => ?_⟩
      by_cases hl : n < μ'.length
      · rw [List.getElem?_append_left hl] at z1
        rw [List.getElem?_append_left (by rw [← R1.len]; exact hl)] at z2
        exact (R1.obj n a o' z1 z2).keep0 e0 (upd_ne fun w => nD' (by rw [← w]; exact List.mem_of_getElem? z1))
      · have e3 : n = μ'.length := by
          have := (List.getElem?_eq_some_iff.mp z1).1
          simp at this; omega
        subst e3
        rw [List.getElem?_append_right (by omega)] at z1
        rw [R1.len, List.getElem?_append_right (by omega)] at z2
        simp at z1 z2
        subst z1 z2
        exact ⟨_, upd_same, .inl ⟨_, rfl, paired_mono (fun p q x => ⟨x.1, x.2.mono0 e0⟩) (merge_rep rl .nil)⟩⟩
    have eF : Ext μ H (μ' ++ [D]) (upd H' D (.dK (mergeK [] l))) := (ex.trans e1).beside hD |>.adopt hD
    refine f _ _ _ _ _ p eF R2 ?_
    unfold RepV
    exact ⟨D, rfl, by rw [← R1.len]; simp⟩⟩
end
/-! the machine -/
section
variable {env : Env} {h : ZH} {P : PZ} {E : EZ} {ws : List (WE × WE)} {wk wv : WE} {PP : List (Z × Z) → ZH → Prop} {k v : Z} {kvs : List (Z × Z)}
@[simp] theorem m_dict0 : wDict0 env h P E = P (.ref h.length) (h ++ [.dict []]) := noRfl rfl
def kP3 (k v : Z) (P : List (Z × Z) → ZH → Prop) : List (Z × Z) → ZH → Prop := fun ps h => P ((k, v) :: ps) h
def kP2 (r : List (WE × WE)) (k : Z) (env : Env) (P : List (Z × Z) → ZH → Prop) (E : EZ) : PZ := fun v h => wPairs r env h (kP3 k v P) E
def kP1 (r : List (WE × WE)) (wv : WE) (env : Env) (P : List (Z × Z) → ZH → Prop) (E : EZ) : PZ := fun k h => wv env h (kP2 r k env P E) E
def kDisp (P : PZ) : List (Z × Z) → ZH → Prop := fun kvs h1 => kvs.length ≤ 15 ∧ (∀ p ∈ kvs, isT p.1 = false ∧ keyOk p.1 = true) ∧ P (.ref h1.length) (h1 ++ [.dict (kvs.foldl (fun acc p => dput acc p.1 p.2) [])])
@[simp] theorem m_disp : wDisp ws env h P E = wPairs ws env h (kDisp P) E := noRfl rfl
@[simp] theorem m_pairs0 : wPairs [] env h PP E = PP [] h := noRfl rfl
@[simp] theorem m_pairs : wPairs ((wk, wv) :: ws) env h PP E = wk env h (kP1 ws wv env PP E) E := noRfl rfl
@[simp] theorem m_kP1 : kP1 ws wv env PP E k h = wv env h (kP2 ws k env PP E) E := noRfl rfl
@[simp] theorem m_kP2 : kP2 ws k env PP E v h = wPairs ws env h (kP3 k v PP) E := noRfl rfl
@[simp] theorem m_kP3 : kP3 k v PP kvs h = PP ((k, v) :: kvs) h := noRfl rfl
@[simp] theorem m_kDisp : kDisp P kvs h = (kvs.length ≤ 15 ∧ (∀ p ∈ kvs, isT p.1 = false ∧ keyOk p.1 = true) ∧ P (.ref h.length) (h ++ [.dict (kvs.foldl (fun acc p => dput acc p.1 p.2) [])])) := noRfl rfl
end
end ZL

namespace ZL
open PySem PySem.Spec PyProof.Rows L2
section
variable {fa : List He.Fa} {fb : List Fb} {fn : List He.DefD} {K : PySem.W.Frag} {mg : Str → Option Value}
theorem Txt.cls (T : Txt fa fb fn K mg) (i : Nat) {x : Str} (h : fa[i]? = some (.cls x) := by rfl) : Cls K (He.ga K x) := He.cls_ok (T.says.d.fact i h)
theorem Txt.noat (T : Txt fa fb fn K mg) (i : Nat) {x f : Str} (h : fa[i]? = some (.noat x f) := by rfl) : NoAttr K (He.ga K x) f := He.noat_ok (T.says.d.fact i h)
theorem Txt.meth (T : Txt fa fb fn K mg) (i : Nat) {x m : Str} (h : fa[i]? = some (.meth x m) := by rfl) : Meth K (He.ga K x) m (He.ma K (He.ga K x) m) := He.meth_ok (T.says.d.fact i h)
theorem Txt.mkr (T : Txt fa fb fn K mg) (i : Nat) {x : Str} (h : fa[i]? = some (.mkr x) := by rfl) : Mk K (He.ga K x) (He.ma K (He.ga K x) "__init__") := He.mkr_ok (T.says.d.fact i h)
theorem fok_nil {f : Str} : FOk K mg [] f := fun c h => by cases h
theorem fok_cons {c f : Str} {C : Addr} {cs : List Str} (g : mg c = some (.ref C)) (cl : Cls K C) (n : NoAttr K C f) (r : FOk K mg cs f) : FOk K mg (c :: cs) f := fun c' hc C' hC => by
  rcases List.mem_cons.mp hc with e | hc
  · subst e
    rw [g] at hC
    cases hC
    exact ⟨cl, n⟩
  · exact r c' hc C' hC
end
section
variable {X : Cx} {c m : Str} {k n : Nat} {wf : WF} {C f : Addr}
theorem mtz (g : X.mg c = some (.ref C)) (cl : Cls X.K C) (hm : Meth X.K C m f) (F : FnZ X.prog X.w X.K X.mg X.base k n wf f) : MtZ X c m k n wf := ⟨C, f, g, cl, hm, F⟩
theorem mkz (g : X.mg c = some (.ref C)) (mk : Mk X.K C f) (F : FnZ X.prog X.w X.K X.mg X.base k n wf f) : MkZ X c k n wf := ⟨C, f, g, mk, F⟩
end
end ZL

namespace ZL
open PySem PySem.Spec PyProof.Rows L2

/-! ### an own exception without own __init__, made of any value -/
section
variable {X : Cx} {C : Addr} {bmB : List Value} {Bs newId initId : String}
theorem pmk_any {x : Str} {e : Expr} {ta : TA} {p pos : Pos} (F : ExcBaseFacts Bs newId initId bmB) (q : PySem.W.excIn X.K C bmB newId = true) (gC : X.mg x = some (.ref C)) (kC : PySem.W.keepIn X.K (.ref C) = true) (r : Raises X (.ref C)) (hg : Gl X x) (ha : PA X [e] ta)
    (hdb : (x == ("__debug__" : Str)) = false := by decide) (he : starEach [e] X.env = (false, eval e X.env) :: starEach [] X.env := by rfl) (hpl : (backTo pos (starEach [] X.env)).any (·.1) = false := by rfl) :
    PMk X (.Call (.Name x p) [e] [] pos) (fun σ H Q => ta σ H fun vs H1 => vs.length = 1 ∧ Q (.ref C) none H1) := by
  intro pins s σ H Q I h
  refine wpAny_Call_Name_kw (ld_glob I hg gC ?_ hdb)
  refine PySem.W.callWith_K (h₀ := X.base) I.ok.mod.kin kC (thn (ha.run pos pins s σ H _ I h) fun us s1 hh => ?_) he hpl
  obtain ⟨vs, H1, I1, r1, ev, q1⟩ := hh
  refine ⟨I1.kIn, ?_⟩
  have hl : us.length = 1 := by rw [← r1.length]; exact ev
  match us, hl with
  | [u], _ =>
    show wpAny _ _ (call (.ref C) [u]) _ _ _
    obtain ⟨bm, N, nm, qn, bs, hdct, sn, sub, ab, col, dd, k0, k1, k2, k3, k5, mN, hC, hN, hni, T⟩ := exc_obj I1.kIn q
    refine wpAny_call_exc_subT F T hC hN hni (fun h' e hm => ?_) (by show 1 ≤ sizeLine; rw [sizeLine_eq]; omega)
    exact mk_of I1 hm r q1 (I1.hok.gone hm.new)
end
def wsRaise (c : Str) (w : WA) : WS := fun D env h E => w env h (fun zs h1 => zs.length = 1 ∧ E ⟨c, []⟩ env h1) E
section
variable {X : Cx}
theorem zs_raise {x : Str} {e : Expr} {w : WE} {C : Addr} {p pos pos2 : Pos} (hc : X.calm = true) (fx : PySem.W.excIn X.K C He.veBase "ValueError.__new__" = true ∧ PySem.W.keepIn X.K (.ref C) = true ∧ PySem.W.subIn X.K (.ref C) (.type "BaseException") = some true ∧ PySem.W.typeIn X.K (.ref C) = some (.type "type"))
    (gC : X.mg x = some (.ref C)) (hg : Gl X x) (he : ZE X e w)
    (hdb : (x == ("__debug__" : Str)) = false := by decide) (hs : starEach [e] X.env = (false, eval e X.env) :: starEach [] X.env := by rfl) (hpl : (backTo pos (starEach [] X.env)).any (·.1) = false := by rfl) (hs1 : starEach [e] X.env = [(false, eval e X.env)] := by rfl) :
    ZS X (.Raise (some (.Call (.Name x p) [e] [] pos)) none pos2) (wsRaise x (w1 w)) :=
  ⟨fun B E tk => ps_imp (ps_raise hc tk (pmk_any F.excBase_ValueError fx.1 gC fx.2.1 (raises_own fx.2.2.1 fx.2.2.2) hg ((za1 he hs1).run B E tk) hdb hs hpl)) fun D' σ H ⟨μ, env, h, D, R, q, d⟩ =>
    ⟨μ, env, h, _, R, q, fun zs h1 μ1 H1 vs p1 e1 R1 r1 => ⟨by rw [← r1.length]; exact p1.1, ⟨x, []⟩, μ1, env, h1, R.step e1 R1, ⟨C, gC, rfl, .inl ⟨rfl, rfl⟩⟩, p1.2⟩⟩⟩
end

/-! ### try: body, except C (as n): suite -/
/-- classes and whether the clause names them -/
abbrev Tab := List (Str × Bool)
def ExT (K : PySem.W.Frag) (mg : Str → Option Value) (t : Tab) (c : Value) : Prop := ∀ cls b C, t.lookup cls = some b → mg cls = some (.ref C) → PySem.W.exmOne K (.ref C) c = some b
theorem ext_nil {K : PySem.W.Frag} {mg : Str → Option Value} {c : Value} : ExT K mg [] c := fun cls b C h => by cases h
theorem ext_cons {K : PySem.W.Frag} {mg : Str → Option Value} {c : Value} {x : Str} {b : Bool} {C : Addr} {t : Tab} (g : mg x = some (.ref C)) (e : PySem.W.exmOne K (.ref C) c = some b) (r : ExT K mg t c) : ExT K mg ((x, b) :: t) c := fun cls b' C' h m => by
  rw [List.lookup_cons] at h
  by_cases q : cls = x
  · subst q
    simp at h
    subst h
    rw [g] at m
    cases m
    exact e
  · have : (cls == x) = false := by simpa using q
    rw [this] at h
    exact r cls b' C' h m
def clr (i : Option Nat) (env : Env) : Env := match i with
  | some i => env.set i none
  | none => env
def hold (i : Option Nat) (a : Addr) (env : Env) : Env := match i with
  | some i => env.set i (some (.err a))
  | none => env
def asD (i : Option Nat) (D : ZEnds) : ZEnds := ⟨fun env h => D.nx (clr i env) h, D.rt, fun env h => D.bk (clr i env) h, fun env h => D.ct (clr i env) h⟩
def asE (t : Tab) (ws : Addr → XZ → WS) (i : Option Nat) (D : ZEnds) (E : EZ) : EZ := fun x env h => ∃ b, t.lookup x.cls = some b ∧ (b = true → ∀ a, ws a x (asD i D) (hold i a env) h E0) ∧ (b = false → E x env h)
def wsTry (t : Tab) (wb : WS) (ws : Addr → XZ → WS) (i : Option Nat) : WS := fun D env h E => wb D env h (asE t ws i D E)
section
variable {X : Cx}
theorem Rel.wipe1 {K : PySem.W.Frag} {mg : Str → Option Value} {B : List Addr × Hp} {μ : List Addr} {env : Env} {h : ZH} {σ : L2.St} {H : Hp} (R : Rel K mg B μ env h σ H) (i : Nat) : Rel K mg B μ (env.set i none) h (σ.set i none) H :=
  ⟨R.ext, R.heap, by simp [R.len], fun j z q => by
    by_cases hj : i = j
    · subst hj
      by_cases hl : i < env.length
      · rw [List.getElem?_set_self hl] at q; cases q
      · rw [List.getElem?_eq_none (by simpa using hl)] at q; cases q
    · rw [List.getElem?_set_ne hj] at q ⊢
      exact R.env j z q⟩
/-- what a suite knows of the exception at a -/
def SuiteOk (X : Cx) (b₀ : Stmt) (suite : List Stmt) (ws : Addr → XZ → WS) : Prop := ∀ (a : Addr) (oe : Obj) (C : Addr) (d : Option Addr) (pn : List (Addr × Obj)) (x : XZ), X.mg x.cls = some (.ref C) → Zc (.ref C) d oe → (∃ vs, oe.data = .fields vs) → (x.fs = [] → d = none) → ZSs (X.suite a ((a, oe) :: pn)) (b₀ :: suite) (ws a x)
/-- what the body stands in -/
def BodyOk (X : Cx) (body : List Stmt) (wb : WS) : Prop := ∀ (pn : List (Addr × Obj)) (xe : Value → Shared → Prop), PassesOwn (model X.prog X.w) X.A X.env xe → ZSs (X.tr pn xe) body wb
def tSuite (K : PySem.W.Frag) (mg : Str → Option Value) (ws : Addr → XZ → WS) : Addr → Value → Option Addr → TS := fun a cls d D' σ H => ∃ (B' : List Addr × Hp) (x : XZ) (C : Addr), mg x.cls = some (.ref C) ∧ cls = .ref C ∧ (x.fs = [] → d = none) ∧ TZs K mg B' (ws a x) E0 D' σ H
def tBody (K : PySem.W.Frag) (mg : Str → Option Value) (wb : WS) (W : WX) : TS := fun D σ H => ∃ (B' : List Addr × Hp) (E' : EZ), (∀ c d σ H, WZ K mg B' E' c d σ H → W c d σ H) ∧ TZs K mg B' wb E' D σ H
theorem body_run {body : List Stmt} {wb : WS} (hb : BodyOk X body wb) (W : WX) (pn : List (Addr × Obj)) (xe : Value → Shared → Prop) (tk : Takes (X.tr pn xe) W) (hp : PassesOwn (model X.prog X.w) X.A X.env xe) : PSs (X.tr pn xe) body (tBody X.K X.mg wb W) :=
  ⟨fun pins s σ H D I ⟨B', E', hW, q⟩ => ((hb pn xe hp).run B' E' (Takes.imp tk hW)).run pins s σ H D I q⟩
theorem suite_run {b₀ : Stmt} {suite : List Stmt} {ws : Addr → XZ → WS} (hs : SuiteOk X b₀ suite ws) (a : Addr) (oe : Obj) (cls : Value) (d : Option Addr) (pn : List (Addr × Obj)) (hz : Zc cls d oe) (hf : ∃ vs, oe.data = .fields vs) : PSs (X.suite a ((a, oe) :: pn)) (b₀ :: suite) (tSuite X.K X.mg ws a cls d) :=
  ⟨fun pins s σ H D I ⟨B', x, C, g, e, hd, q⟩ => by
    subst e
    exact ((hs a oe C d pn x g hz hf hd).run B' E0 takes0).run pins s σ H D I q⟩
theorem rep_err {K : PySem.W.Frag} {μ : List Addr} {H : Hp} {a : Addr} : RepV K μ H (.err a) (.ref a) := by unfold RepV; rfl
theorem relx_none {K : PySem.W.Frag} {mg : Str → Option Value} {μ : List Addr} {H : Hp} {x : XZ} {c : Value} {d : Option Addr} (r : RelX K mg μ H x c d) : ∃ C, mg x.cls = some (.ref C) ∧ c = .ref C ∧ (x.fs = [] → d = none) := by
  obtain ⟨C, g, e, r⟩ := r
  refine ⟨C, g, e, fun h => ?_⟩
  rcases r with ⟨_, r⟩ | ⟨_, _, n, _⟩
  · exact r
  · exact absurd h n
theorem zs_try_as {x n : Str} {c : Value} {i : Nat} {body suite : List Stmt} {b₀ : Stmt} {np pos pos' : Pos} {t : Tab} {wb : WS} {ws : Addr → XZ → WS} (ht : ExT X.K X.mg t c) (hN : X.N.Nodup) (hi : X.N[i]? = some n) (hln : X.env.kindOf n = some .local) (hc : Names X x c) (hb : BodyOk X body wb) (hsu : SuiteOk X b₀ suite ws)
    (hs : X.stack = X.env :: X.outer := by rfl) (hf : X.env.frame = some X.env.locals := by rfl) : ZS X (.Try body [.ExceptHandler (some (.Name x np)) (some n) (b₀ :: suite) pos'] [] [] pos) (wsTry t wb ws (some i)) :=
  ⟨fun B E tk => ps_imp (ps_try_as (tb := tBody X.K X.mg wb) (ts := tSuite X.K X.mg ws) (Wout := WZ X.K X.mg B E) hs hf hN hi hln hc tk (body_run hb) (suite_run hsu)) fun D' σ H ⟨μ, env, h, D, R, q, d⟩ =>
    ⟨B, asE t ws (some i) D E, fun cls dd σ1 H1 ⟨z, μ1, env1, h1, R1, rx, b, e1, hy, hn⟩ => by
      obtain ⟨C, g, rfl, hd⟩ := relx_none rx
      refine ⟨b, ht _ _ _ e1 g, fun hb a ha => ⟨B, z, C, g, rfl, hd, μ1, _, h1, _, R1.put (rep_err (a := a)) i, hy hb a, ?_⟩, fun hb => ⟨z, μ1, env1, h1, R1, rx, hn hb⟩⟩
      exact ⟨fun μ2 env2 h2 σ2 H2 R2 q2 => d.nx _ _ _ _ _ (R2.wipe1 i) q2, fun μ2 env2 h2 σ2 H2 R2 q2 => d.bk _ _ _ _ _ (R2.wipe1 i) q2, fun μ2 env2 h2 σ2 H2 R2 q2 => d.ct _ _ _ _ _ (R2.wipe1 i) q2, d.rt⟩,
    μ, env, h, D, R, q, d⟩⟩
theorem zs_try_only {x : Str} {c : Value} {body suite : List Stmt} {b₀ : Stmt} {np pos pos' : Pos} {t : Tab} {wb : WS} {ws : Addr → XZ → WS} (ht : ExT X.K X.mg t c) (hc : Names X x c) (hb : BodyOk X body wb) (hsu : SuiteOk X b₀ suite ws)
    (hs : X.stack = X.env :: X.outer := by rfl) (hf : X.env.frame = some X.env.locals := by rfl) : ZS X (.Try body [.ExceptHandler (some (.Name x np)) none (b₀ :: suite) pos'] [] [] pos) (wsTry t wb ws none) :=
  ⟨fun B E tk => ps_imp (ps_try_only (tb := tBody X.K X.mg wb) (ts := tSuite X.K X.mg ws) (Wout := WZ X.K X.mg B E) hs hf hc tk (body_run hb) (suite_run hsu)) fun D' σ H ⟨μ, env, h, D, R, q, d⟩ =>
    ⟨B, asE t ws none D E, fun cls dd σ1 H1 ⟨z, μ1, env1, h1, R1, rx, b, e1, hy, hn⟩ => by
      obtain ⟨C, g, rfl, hd⟩ := relx_none rx
      exact ⟨b, ht _ _ _ e1 g, fun hb a ha => ⟨B, z, C, g, rfl, hd, μ1, _, h1, _, R1, hy hb a, ⟨d.nx, d.bk, d.ct, d.rt⟩⟩, fun hb => ⟨z, μ1, env1, h1, R1, rx, hn hb⟩⟩,
    μ, env, h, D, R, q, d⟩⟩
/-! isinstance of the caught one -/
def KtT (K : PySem.W.Frag) (mg : Str → Option Value) (t : Tab) (c : Value) : Prop := ∀ cls b C, t.lookup cls = some b → mg cls = some (.ref C) → ExcC K C ∧ PySem.W.kitOne K (.ref C) c = some b
theorem ktt_nil {K : PySem.W.Frag} {mg : Str → Option Value} {c : Value} : KtT K mg [] c := fun cls b C h => by cases h
theorem ktt_cons {K : PySem.W.Frag} {mg : Str → Option Value} {c : Value} {x : Str} {b : Bool} {C : Addr} {t : Tab} (g : mg x = some (.ref C)) (ec : ExcC K C) (e : PySem.W.kitOne K (.ref C) c = some b) (r : KtT K mg t c) : KtT K mg ((x, b) :: t) c := fun cls b' C' h m => by
  rw [List.lookup_cons] at h
  by_cases q : cls = x
  · subst q
    simp at h
    subst h
    rw [g] at m
    cases m
    exact ⟨ec, e⟩
  · have : (cls == x) = false := by simpa using q
    rw [this] at h
    exact r cls b' C' h m
def wIsE (a : Addr) (x : XZ) (t : Tab) (w : WE) : WE := fun env h P E => w env h (fun z h1 => x.fs = [] ∧ z = .err a ∧ ∃ b, t.lookup x.cls = some b ∧ P (.bl b) h1) E
theorem call_isD {a C : Addr} {oe : Obj} {d : Option Addr} {pn : List (Addr × Obj)} (hz : Zc (.ref C) d oe) (hf : ∃ vs, oe.data = .fields vs) : CallR (X.suite a ((a, oe) :: pn)) (.builtin "isinstance") (fun xs H Q => d = none ∧ ExcC X.K C ∧ rIsE X.K C a xs H Q) := by
  intro pins s σ H xs us Q I r h
  obtain ⟨rfl, ec, h⟩ := h
  exact call_isE ec hz hf pins s σ H xs us Q I r h
theorem ze_isE {a C : Addr} {oe : Obj} {d : Option Addr} {pn : List (Addr × Obj)} {x : XZ} {t : Tab} {c : V} {cv : Value} {e ce : Expr} {w : WE} {p pos : Pos} (ht : KtT X.K X.mg t cv) (g : X.mg x.cls = some (.ref C)) (hz : Zc (.ref C) d oe) (hf : ∃ vs, oe.data = .fields vs) (hd : x.fs = [] → d = none)
    (hcv : ∀ u, RelV c u → u = cv) (hg : Gl (X.suite a ((a, oe) :: pn)) "isinstance") (hm : X.mg "isinstance" = none) (he : ZE (X.suite a ((a, oe) :: pn)) e w) (hce : PE (X.suite a ((a, oe) :: pn)) ce (tC c))
    (hs : starEach [e, ce] X.env = (false, eval e X.env) :: starEach [ce] X.env := by rfl) (hpl : (backTo pos (starEach [ce] X.env)).any (·.1) = false := by rfl) (hs2 : starEach [ce] X.env = [(false, eval ce X.env)] := by rfl) :
    ZE (X.suite a ((a, oe) :: pn)) (.Call (.Name "isinstance" p) [e, ce] [] pos) (wIsE a x t w) :=
  ⟨fun B E tk => pe_imp (pe_callB (X := X.suite a ((a, oe) :: pn)) (x := "isinstance") (id := "isinstance") (call_isD hz hf) hg hm rfl (pa_cons (he.run B E tk) (pa_cons hce pa_nil hs2) hs) (by decide) (by decide) hs hpl) fun σ H Q ⟨μ, env, h, P, R, q, f⟩ =>
    ⟨μ, env, h, _, R, q, fun z h1 μ1 H1 v p1 e1 R1 r1 => by
      obtain ⟨hn, rfl, b, hb, p1⟩ := p1
      unfold RepV at r1
      subst r1
      obtain ⟨ec, ek⟩ := ht _ _ _ hb g
      exact ⟨hd hn, ec, c, cv, b, rfl, hcv, ek, f _ _ _ _ _ p1 e1 R1 rep_bl⟩⟩⟩
end
/-! facts, the machine -/
section
variable {fa : List He.Fa} {fb : List Fb} {fn : List He.DefD} {K : PySem.W.Frag} {mg : Str → Option Value}
theorem Txt.exc (T : Txt fa fb fn K mg) (i : Nat) {x : Str} (h : fa[i]? = some (.exc x) := by rfl) : PySem.W.excIn K (He.ga K x) He.veBase "ValueError.__new__" = true ∧ PySem.W.keepIn K (.ref (He.ga K x)) = true ∧ PySem.W.subIn K (.ref (He.ga K x)) (.type "BaseException") = some true ∧ PySem.W.typeIn K (.ref (He.ga K x)) = some (.type "type") := He.exc_ok (T.says.d.fact i h)
theorem Txt.exm (T : Txt fa fb fn K mg) (i : Nat) {x y : Str} {b : Bool} (h : fa[i]? = some (.exm x y b) := by rfl) : PySem.W.exmOne K (.ref (He.ga K x)) (.ref (He.ga K y)) = some b := He.exm_ok (T.says.d.fact i h)
theorem clsFact_ok {C : Addr} (c : clsFact K C = true) : PySem.W.findIn K (.ref C) "__class__" = some (some (.builtin "object.__class__")) ∧ PySem.W.specialIn K (.builtin "object.__class__") "__get__" = some (some (.builtin "getset_descriptor.__get__")) ∧
    PySem.W.takesIn K (.builtin "object.__class__") = some true ∧ PySem.W.mroIn K C (.type "object") = some true := by
  unfold clsFact at c
  obtain ⟨c1, c⟩ := He.ba c
  obtain ⟨c2, c⟩ := He.ba c
  obtain ⟨c3, c4⟩ := He.ba c
  exact ⟨He.eqO_ok c1, of_decide_eq_true c2, of_decide_eq_true c3, of_decide_eq_true c4⟩
theorem Txt.ecx (T : Txt fa fb fn K mg) (i : Nat) {x : Str} (h : fb[i]? = some (.ecx x) := by rfl) : ExcC K (He.ga K x) := by
  have c : (clsFact K (He.ga K x) && (He.eqO (PySem.W.findIn K (.ref (He.ga K x)) "__getattribute__") (some (some (.builtin "BaseException.__getattribute__"))) && (He.eqO (PySem.W.findIn K (.ref (He.ga K x)) "__getattr__") (some none) &&
      (decide (PySem.W.subIn K (.ref (He.ga K x)) (.type "BaseException") = some true) && PySem.W.hasDictIn K (He.ga K x))))) = true := T.says.more i h
  obtain ⟨c1, c⟩ := He.ba c
  obtain ⟨c2, c⟩ := He.ba c
  obtain ⟨c3, c⟩ := He.ba c
  obtain ⟨c4, c5⟩ := He.ba c
  obtain ⟨a1, a2, a3, a4⟩ := clsFact_ok c1
  exact ⟨He.eqO_ok c2, He.eqO_ok c3, of_decide_eq_true c4, c5, a1, a2, a3, a4⟩
theorem Txt.kit (T : Txt fa fb fn K mg) (i : Nat) {x y : Str} {b : Bool} (h : fb[i]? = some (.kit x y b) := by rfl) : PySem.W.kitOne K (.ref (He.ga K x)) (.ref (He.ga K y)) = some b := of_decide_eq_true (T.says.more i h)
theorem Txt.isn (T : Txt fa fb fn K mg) (i : Nat) {x : Str} {t : String} {b : Bool} (h : fb[i]? = some (.isn x t b) := by rfl) : PySem.W.kitOne K (.ref (He.ga K x)) (.type t) = some b := of_decide_eq_true (T.says.more i h)
theorem Txt.own (T : Txt fa fb fn K mg) (i : Nat) {x : Str} (h : fb[i]? = some (.own x) := by rfl) : PySem.W.findIn K (.ref (He.ga K x)) "__class__" = some (some (.builtin "object.__class__")) ∧ PySem.W.specialIn K (.builtin "object.__class__") "__get__" = some (some (.builtin "getset_descriptor.__get__")) ∧
    PySem.W.takesIn K (.builtin "object.__class__") = some true ∧ PySem.W.mroIn K (He.ga K x) (.type "object") = some true := clsFact_ok (K := K) (C := He.ga K x) (T.says.more i h)
theorem noT_cons {T : String} {c : Str} {C : Addr} {cs : List Str} (g : mg c = some (.ref C)) (cl : Cls K C) (o : PySem.W.findIn K (.ref C) "__class__" = some (some (.builtin "object.__class__")) ∧ PySem.W.specialIn K (.builtin "object.__class__") "__get__" = some (some (.builtin "getset_descriptor.__get__")) ∧
    PySem.W.takesIn K (.builtin "object.__class__") = some true ∧ PySem.W.mroIn K C (.type "object") = some true) (k : PySem.W.kitOne K (.ref C) (.type T) = some false) (r : NoT K mg cs T) : NoT K mg (c :: cs) T := fun c' hc C' hC => by
  rcases List.mem_cons.mp hc with e | hc
  · subst e
    rw [g] at hC
    cases hC
    exact ⟨cl, o.1, o.2.1, o.2.2.1, o.2.2.2, k⟩
  · exact r c' hc C' hC
end
section
variable {env : Env} {h : ZH} {P : PZ} {E : EZ} {D : ZEnds} {z : Z} {zs : List Z} {w : WE} {r : WA} {c : Str} {a : Addr} {x : XZ} {t : Tab} {wb : WS} {ws : Addr → XZ → WS} {i : Option Nat}
def kRaise (c : Str) (env : Env) (E : EZ) : List Z → ZH → Prop := fun zs h => zs.length = 1 ∧ E ⟨c, []⟩ env h
@[simp] theorem m_raise : wsRaise c r D env h E = r env h (kRaise c env E) E := noRfl rfl
@[simp] theorem m_kRaise : kRaise c env E zs h = (zs.length = 1 ∧ E ⟨c, []⟩ env h) := noRfl rfl
def kIsE (a : Addr) (x : XZ) (t : Tab) (P : PZ) : PZ := fun z h1 => x.fs = [] ∧ z = .err a ∧ ∃ b, t.lookup x.cls = some b ∧ P (.bl b) h1
@[simp] theorem m_isE : wIsE a x t w env h P E = w env h (kIsE a x t P) E := noRfl rfl
@[simp] theorem m_kIsE : kIsE a x t P z h = (x.fs = [] ∧ z = .err a ∧ ∃ b, t.lookup x.cls = some b ∧ P (.bl b) h) := noRfl rfl
@[simp] theorem m_try : wsTry t wb ws i D env h E = wb D env h (asE t ws i D E) := noRfl rfl
@[simp] theorem m_asE : asE t ws i D E x env h = ∃ b, t.lookup x.cls = some b ∧ (b = true → ∀ a, ws a x (asD i D) (hold i a env) h E0) ∧ (b = false → E x env h) := noRfl rfl
@[simp] theorem m_hold {i : Nat} : hold (some i) a env = env.set i (some (.err a)) := noRfl rfl
@[simp] theorem m_hold0 : hold none a env = env := noRfl rfl
@[simp] theorem m_clr {i : Nat} : clr (some i) env = env.set i none := noRfl rfl
@[simp] theorem m_clr0 : clr none env = env := noRfl rfl
end
end ZL

namespace ZL
open PySem PySem.Spec PyProof.Rows L2
section
variable {X : Cx}
/-- o[i], of a list, a dict -/
theorem get_l : PGet X (fun x y H Q => ∃ p xs i v, x = .ref p ∧ y = .int i ∧ SqL X.K H p xs ∧ L2.atI xs i = some v ∧ Q v H) := by
  intro pins s σ H x y v u Q I rx ry h
  obtain ⟨p, xs, i, z, rfl, rfl, hq, he, q⟩ := h
  cases rx
  obtain ⟨t, rfl⟩ := ry
  obtain ⟨its, r, pl, hz⟩ := I.list hq
  obtain ⟨j, h1, h2, h3, h4, h5⟩ := L2.atI_get he
  obtain ⟨w, ew, rw'⟩ := r.get h2
  have hl := r.length
  have hn := line63
  have fin : EP X pins σ Q w s := ⟨z, H, I, rw', q⟩
  by_cases h0 : 0 ≤ i
  · have hj : i.toNat = j := by
      rw [seqIndex_of h0 h5] at h1
      exact Option.some.inj h1
    exact wpAny_getItem_list pl.isList h0 (by omega) (by rw [hj]; simpa using ew) fin
  · have hj : (i + (its.toArray.size : Int)).toNat = j := by
      rw [seqIndex_neg (by omega) h4] at h1
      rw [List.size_toArray, ← hl]
      exact Option.some.inj h1
    exact wpAny_getItem_list_neg pl.isList (by omega) (by rw [List.size_toArray] <;> omega) (by omega) (by rw [hj]; simpa using ew) fin
theorem get_d (hu : X.A.units + 1 < cLine) : PGet X (fun x y H Q => ∃ a v, x = .ref a ∧ DGet H a y (some v) ∧ Q v H) := by
  intro pins s σ H x y v u Q I rx ry h
  obtain ⟨a, z, rfl, g, q⟩ := h
  cases rx
  exact d_getItem hu I g ry fun w' s' I' rw' => ⟨z, H, I', rw', q⟩
def tGetZ (X : Cx) : V → V → Hp → VK → Prop := fun x y H Q => (∃ p xs i v, x = .ref p ∧ y = .int i ∧ SqL X.K H p xs ∧ L2.atI xs i = some v ∧ Q v H) ∨ ∃ a v, x = .ref a ∧ DGet H a y (some v) ∧ Q v H
theorem get_z' (hu : X.A.units + 1 < cLine) : PGet X (tGetZ X) := by
  intro pins s σ H o i ov iv Q I ro ri h
  rcases h with h | h
  · exact get_l pins s σ H o i ov iv Q I ro ri h
  · exact get_d hu pins s σ H o i ov iv Q I ro ri h
/-- o[i] of a list, a dict of ours -/
def ixR (a i : Z) (h : ZH) (P : Z → Prop) : Prop := match a with
  | .ref n => (match h[n]? with
    | some (.lst zs) => (match i with
      | .int k => ∃ z, L2.atI zs k = some z ∧ P z
      | _ => False)
    | some (.dict kvs) => dkey kvs i ∧ ∃ z, dget kvs i = some z ∧ P z
    | _ => False)
  | _ => False
theorem get_of {μ : List Addr} {H : Hp} {h : ZH} {a i : Z} {x y : V} {P : Z → Prop} {Q : VK} (R : RelH X.K X.mg μ H h) (ra : RepV X.K μ H a x) (ri : RepV X.K μ H i y) (p : ixR a i h P) (f : ∀ z v, P z → RepV X.K μ H z v → Q v H) : tGetZ X x y H Q := by
  unfold ixR at p
  split at p
  · split at p
    · rename_i zs e
      split at p
      · obtain ⟨p', vs, rfl, _, hp, r⟩ := of_lst R e ra
        cases of_int ri
        obtain ⟨z, ez, p3⟩ := p
        obtain ⟨v, ev, rv⟩ := r.atI ez
        exact .inl ⟨p', vs, _, v, rfl, rfl, SqL.of hp, ev, f z v p3 rv⟩
      · exact p.elim
    · rename_i kvs e
      obtain ⟨ok, z, ez, p3⟩ := p
      obtain ⟨p', ho, rfl, _, hp, dd⟩ := dict_of R e ra
      obtain ⟨qv, g, r⟩ := dict_at hp dd ok ri
      rw [ez] at r
      obtain ⟨v, rfl, rv⟩ := optR_some r
      exact .inr ⟨p', v, rfl, dg_some g, f z v p3 rv⟩
    · exact p.elim
  · exact p.elim
/-- o[i] op= e -/
def wsAugS (o : Z2) (wo wi we : WE) : WS := fun D env h E => wo env h (fun a h1 => wi env h1 (fun i h2 => ixR a i h2 fun x => we env h2 (fun y h4 => o x y h4 fun z h5 => oSet a i z h5 fun h6 => D.nx env h6) E) E) E
theorem zs_augS {op : Operator} {o : Z2} {a i e : Expr} {wo wi we : WE} {tpos pos : Pos} (hu : X.A.units + 1 < cLine) (hop : AugZ X op o) (ha : ZE X a wo) (hi : ZE X i wi) (he : ZE X e we)
    (hs : ∀ ov iv new, augStore i ov iv new = (do holding [new, ov, iv] (setItem ov iv new); release [new, ov, iv] []; pure .next) := by intros; rfl) : ZS X (.AugAssign (.Subscript a i tpos) op e pos) (wsAugS o wo wi we) :=
  let ⟨_, h1, h2⟩ := hop
  ⟨fun B E tk => ps_imp (ps_augS (ha.run B E tk) (hi.run B E tk) (get_z' hu) (he.run B E tk) h1 (pset_or set_list (set_dict hu)) hs) fun D' σ H ⟨μ, env, h, D, R, q, d⟩ =>
    ⟨μ, env, h, _, R, q, fun z1 g1 μ1 H1 x1 p1 e1 R1 r1 => ⟨μ1, env, g1, _, R.step e1 R1, p1, fun z2 g2 μ2 H2 x2 p2 e2 R2 r2 => by
      have q1 := r1.mono e2
      have RR := (R.step e1 R1).step e2 R2
      refine get_of R2 q1 r2 p2 fun z v p3 rv => ?_
      exact ⟨μ2, env, g2, _, RR, p3, fun w g4 μ4 H4 x4 p4 e4 R4 r4 => h2 μ4 H4 g4 z w v x4 _ _ R4 (rv.mono e4) r4 p4 fun y g5 μ5 H5 x5 p5 e5 R5 r5 =>
          set_z R5 ((q1.mono e4).mono e5) ((r2.mono e4).mono e5) r5 p5 fun h' H' p ex R6 => d.nx _ _ _ _ _ (((RR.step e4 R4).step e5 R5).step ex R6) p⟩⟩⟩⟩
end
/-! the machine -/
section
variable {env : Env} {h : ZH} {P : Z → Prop} {PZ' : PZ} {PS : Env → ZH → Prop} {E : EZ} {D : ZEnds} {a i x y z : Z} {wo wi we : WE} {o : Z2} {n : Nat}
def kAS4 (a i : Z) (P : Env → ZH → Prop) (env : Env) : PZ := fun z h => oSet a i z h (kEnv P env)
def kAS3 (o : Z2) (a i x : Z) (P : Env → ZH → Prop) (env : Env) : PZ := fun y h => o x y h (kAS4 a i P env)
def kAS2 (o : Z2) (a : Z) (we : WE) (P : Env → ZH → Prop) (env : Env) (E : EZ) : PZ := fun i h => ixR a i h fun x => we env h (kAS3 o a i x P env) E
def kAS1 (o : Z2) (wi we : WE) (P : Env → ZH → Prop) (env : Env) (E : EZ) : PZ := fun a h => wi env h (kAS2 o a we P env E) E
@[simp] theorem m_augS : wsAugS o wo wi we D env h E = wo env h (kAS1 o wi we D.nx env E) E := noRfl rfl
@[simp] theorem m_kAS1 : kAS1 o wi we PS env E a h = wi env h (kAS2 o a we PS env E) E := noRfl rfl
@[simp] theorem m_kAS2 : kAS2 o a we PS env E i h = ixR a i h fun x => we env h (kAS3 o a i x PS env) E := noRfl rfl
@[simp] theorem m_kAS3 : kAS3 o a i x PS env y h = o x y h (kAS4 a i PS env) := noRfl rfl
@[simp] theorem m_kAS4 : kAS4 a i PS env z h = oSet a i z h (kEnv PS env) := noRfl rfl
@[simp] theorem m_ixR : ixR (.ref n) i h P = (match h[n]? with
    | some (.lst zs) => (match i with
      | .int k => ∃ z, L2.atI zs k = some z ∧ P z
      | _ => False)
    | some (.dict kvs) => dkey kvs i ∧ ∃ z, dget kvs i = some z ∧ P z
    | _ => False) := noRfl rfl
@[simp] theorem m_oSet {Q : ZH → Prop} : oSet (.ref n) i z h Q = (match h[n]? with
    | some (.lst zs) => (match i with
      | .int k => ∃ j, ixN zs.length k = some j ∧ Q (h.set n (.lst (zs.set j z)))
      | _ => False)
    | some (.dict kvs) => dkey kvs i ∧ kvs.length < sizeLine ∧ Q (h.set n (.dict (dput kvs i z)))
    | _ => False) := noRfl rfl
@[simp] theorem m_iadd {i j : Int} : oIadd (.int i) (.int j) h PZ' = PZ' (.int (i + j)) h := noRfl rfl
@[simp] theorem m_iaddS {i j : Str} : oIadd (.str i) (.str j) h PZ' = (i.length + j.length ≤ sizeLine ∧ PZ' (.str (i ++ j)) h) := noRfl rfl
end
end ZL

namespace ZL
open PySem PySem.Spec PyProof.Rows L2
/-! ### a tuple of strings of the module, asked for what is in it -/
section
variable {X : Cx} {B : Env → Prop} {a : Expr} {wa : WE} {pos p2 : Pos} {x : Str} {ss : List Str}
theorem dps {K : PySem.W.Frag} {H : Hp} : ∀ ss : List Str, DpAll K H (ss.map V.str) ((ss.map Z.str).map Z.toD)
  | [] => .nil
  | s :: ss => .cons (.str s) (dps ss)
theorem tupc_dp {K : PySem.W.Frag} (h : He.tupB K x (ss.map He.Dv.str) = true) (H : Hp) : Dp K H (.ref (He.ga K x)) (.tuple ((ss.map Z.str).map Z.toD)) := by
  refine .tup (He.tupB_ok h H) ?_
  rw [List.map_map]
  exact dps ss
theorem zt_inG (hu : X.A.units + 65 < cLine) (hm : X.mg x = some (.ref (He.ga X.K x))) (hf : He.tupB X.K x (ss.map He.Dv.str) = true) (ha : ZE X a wa) (hg : Gl X x := by rfl) (hd : (x == ("__debug__" : Str)) = false := by decide) (hb : behindInMarks .In (.Name x p2) = false := by rfl) :
    ZT X (.Compare a [.In] [.Name x p2] pos) (wB (w2 oIn wa (wC (.tup (ss.map Z.str))))) :=
  ⟨fun B E tk => pt_imp (pt_cmpR (op_inT hu) (ha.run B E tk) (pe_glob hg hm (show RelV (.ref (He.ga X.K x)) (.ref (He.ga X.K x)) from rfl) hd) hb) (tzB fun σ H Q ⟨μ, env, h, P, R, q, f⟩ =>
    ⟨μ, env, h, _, R, q, fun z h1 μ1 H1 v p1 e1 R1 r1 => by
      have e : dOf h1 (.tup (ss.map Z.str)) = .tuple ((ss.map Z.str).map Z.toD) := by show Z.toD (.tup _) = _; unfold Z.toD; rw [toDs_map]
      obtain ⟨o1, o2, o3⟩ := p1
      show ∃ d ds, Dp X.K H1 v d ∧ Dp X.K H1 (.ref (He.ga X.K x)) (.tuple ds) ∧ SeqAt.shaped d = true ∧ SeqAt.shaped (.tuple ds) = true ∧ _
      refine ⟨dOf h1 z, (ss.map Z.str).map Z.toD, dpo_of R1 (SeqAt.canLay_of_shaped o1) r1, tupc_dp hf H1, o1, by rw [← e]; exact o2, ?_⟩
      rw [List.any_map]
      exact (f.ext e1).here R1 o3 rep_bl⟩)⟩
theorem zt_notinG (hu : X.A.units + 65 < cLine) (hm : X.mg x = some (.ref (He.ga X.K x))) (hf : He.tupB X.K x (ss.map He.Dv.str) = true) (ha : ZE X a wa) (hg : Gl X x := by rfl) (hd : (x == ("__debug__" : Str)) = false := by decide) (hb : behindInMarks .NotIn (.Name x p2) = false := by rfl) :
    ZT X (.Compare a [.NotIn] [.Name x p2] pos) (wB (w2 oNotIn wa (wC (.tup (ss.map Z.str))))) :=
  ⟨fun B E tk => pt_imp (pt_cmpR (op_notInT hu) (ha.run B E tk) (pe_glob hg hm (show RelV (.ref (He.ga X.K x)) (.ref (He.ga X.K x)) from rfl) hd) hb) (tzB fun σ H Q ⟨μ, env, h, P, R, q, f⟩ =>
    ⟨μ, env, h, _, R, q, fun z h1 μ1 H1 v p1 e1 R1 r1 => by
      have e : dOf h1 (.tup (ss.map Z.str)) = .tuple ((ss.map Z.str).map Z.toD) := by show Z.toD (.tup _) = _; unfold Z.toD; rw [toDs_map]
      obtain ⟨o1, o2, o3⟩ := p1
      show ∃ d ds, Dp X.K H1 v d ∧ Dp X.K H1 (.ref (He.ga X.K x)) (.tuple ds) ∧ SeqAt.shaped d = true ∧ SeqAt.shaped (.tuple ds) = true ∧ _
      refine ⟨dOf h1 z, (ss.map Z.str).map Z.toD, dpo_of R1 (SeqAt.canLay_of_shaped o1) r1, tupc_dp hf H1, o1, by rw [← e]; exact o2, ?_⟩
      rw [List.any_map]
      exact (f.ext e1).here R1 o3 rep_bl⟩)⟩
end
theorem Txt.tupc {fa : List He.Fa} {fb : List Fb} {fn : List He.DefD} {K : PySem.W.Frag} {mg : Str → Option Value} (T : Txt fa fb fn K mg) (i : Nat) {x : Str} {ss : List Str} (h : fb[i]? = some (.tupc x (ss.map He.Dv.str)) := by rfl) : He.tupB K x (ss.map He.Dv.str) = true := T.says.more i h
end ZL

namespace ZL
open PySem PySem.Spec PyProof.Rows L2
/-! ### repr -/
section
variable {prog : Program} {w : World} {A : Around} {E : Value → Shared → Prop} {s : Shared} {Q : Value → Shared → Prop} {h₀ : Heap}
theorem repr_tuple {as : List Addr} {d : Nat} {a : Addr} {o : Obj} {items : Array Value} {n : Nat} {ts : List Str}
    (ha : h₀.get? a = some o) (hc : o.cls = .type "tuple") (hd : o.data = .seq items n) (hna : a ∉ as) (hT : ReprAllK prog w as h₀ d items.toList ts)
    (hg : A.guards = some []) (hu : A.units + 1 + (d + 1) < cLine) (hk0 : ∀ b o, h₀.get? b = some o → s.heap.get? b = some o)
    (hQ : ∀ h' u tk, (∀ b o, s.heap.get? b = some o → h'.get? b = some o) → Q (.str (tupleText ts) u) { s with heap := h', toks := tk })
    (hsz : (tupleText ts).length ≤ sizeLine) : wpAny (model prog w) A (call (.builtin "repr") [.ref a]) Q E s := by
  have hTy : s.TypeIs (.ref a) "tuple" := ⟨o, hk0 _ _ ha, hc⟩
  refine Calls.call_function_entry PySem.F.kind_repr PySem.F.plain_repr PySem.F.entry_repr (PySem.F.args_repr1 _) ?_
  unfold Builtin.«repr»
  refine wpAny_bind (m := oneArg "repr" _) (wpAny_pure ?_)
  refine wpAny_bind (wpAny_cRoomFor (show A.in1.units < cLine from by show A.units + 1 < cLine; omega) ?_)
  refine wpAny_bind (wpAny_specialOf (name := Str.ofString "__repr__") hTy PySem.F.slot_tuple_repr.lookup ?_)
  refine wpAny_bind (m := callSpecialIfBound? (.ref a) (Str.ofString "__repr__")) (wpAny_callSpecialIfBound?_slotG (name := Str.ofString "__repr__") hTy PySem.F.slot_tuple_repr
    (call_tuple_reprK (A := A.in1) ha hc hd hna hT hg (fun b _ => Clear.nil b) hu hk0 (fun h' u tk hk => ?_) hsz))
  refine wpAny_bind (wpAny_isInstance (T := "str") (b := true) rfl isSubtype_str_str ?_)
  exact wpAny_pure ⟨_, rfl, hQ h' u tk hk⟩
theorem repr_list {as : List Addr} {d : Nat} {a : Addr} {oa : Obj} {x : Value} {l : List Value} {na : Nat} {ts : List Str}
    (ha : h₀.get? a = some oa) (hc : oa.cls = .type "list") (hda : oa.data = .seq (x :: l).toArray na) (hna : a ∉ as) (hlen : ts.length = (x :: l).toArray.size)
    (hT : ∀ (i : Nat) (y : Value), (x :: l).toArray[i]? = some y → ∃ t, ts[i]? = some t ∧ ReprK prog w as h₀ d y t)
    (hg : A.guards = some []) (hu : A.units + 1 + (d + 1) < cLine) (hk0 : ∀ b o, h₀.get? b = some o → s.heap.get? b = some o)
    (hQ : ∀ h' u tk, (∀ b o, s.heap.get? b = some o → h'.get? b = some o) → Q (.str (listText ts) u) { s with heap := h', toks := tk })
    (hsz : (listText ts).length ≤ sizeLine) : wpAny (model prog w) A (call (.builtin "repr") [.ref a]) Q E s := by
  have hTy : s.TypeIs (.ref a) "list" := ⟨oa, hk0 _ _ ha, hc⟩
  refine Calls.call_function_entry PySem.F.kind_repr PySem.F.plain_repr PySem.F.entry_repr (PySem.F.args_repr1 _) ?_
  unfold Builtin.«repr»
  refine wpAny_bind (m := oneArg "repr" _) (wpAny_pure ?_)
  refine wpAny_bind (wpAny_cRoomFor (show A.in1.units < cLine from by show A.units + 1 < cLine; omega) ?_)
  refine wpAny_bind (wpAny_specialOf (name := Str.ofString "__repr__") hTy PySem.F.slot_list_repr.lookup ?_)
  refine wpAny_bind (m := callSpecialIfBound? (.ref a) (Str.ofString "__repr__")) (wpAny_callSpecialIfBound?_slot (name := Str.ofString "__repr__") hTy PySem.F.slot_list_repr
    (call_list_reprK (A := A.in1) ha hc hda hna hlen hT hg (fun b _ => Clear.nil b) hu hk0 (fun h' u tk hk => ?_) hsz))
  refine wpAny_bind (wpAny_isInstance (T := "str") (b := true) rfl isSubtype_str_str ?_)
  exact wpAny_pure ⟨_, rfl, hQ h' u tk hk⟩
theorem repr_list0 {a : Addr} {o : Obj} {n : Nat} (hTy : s.TypeIs (.ref a) "list") (ha : s.heap.get? a = some o) (hd : o.data = .seq #[] n) (hu : A.units + 1 < cLine)
    (hQ : Q (.str "[]" s.toks) { s with toks := s.toks + 1 }) : wpAny (model prog w) A (call (.builtin "repr") [.ref a]) Q E s := by
  refine Calls.call_function_entry PySem.F.kind_repr PySem.F.plain_repr PySem.F.entry_repr (PySem.F.args_repr1 _) ?_
  unfold Builtin.«repr»
  refine wpAny_bind (m := oneArg "repr" _) (wpAny_pure ?_)
  refine wpAny_bind (wpAny_cRoomFor (show A.in1.units < cLine from hu) ?_)
  refine wpAny_bind (wpAny_specialOf (name := Str.ofString "__repr__") hTy PySem.F.slot_list_repr.lookup ?_)
  refine wpAny_bind (m := callSpecialIfBound? (.ref a) (Str.ofString "__repr__")) (wpAny_callSpecialIfBound?_slot (name := Str.ofString "__repr__") hTy PySem.F.slot_list_repr
    (call_list_repr_empty (A := A.in1) hTy ha hd ?_))
  refine wpAny_bind (wpAny_isInstance (T := "str") (b := true) rfl isSubtype_str_str ?_)
  exact wpAny_pure ⟨_, rfl, hQ⟩
theorem repr_top {v : Value} {d : PyData} {as : List Addr} (r : Reads h₀ v d as) (hs : d.showable = true) (hx : d.hasDict = false) (hz : d.shown.length ≤ sizeLine) (hg : A.guards = some []) (hu : A.units + 1 + d.depth < cLine) (hk0 : ∀ b o, h₀.get? b = some o → s.heap.get? b = some o)
    (hQ : ∀ h' u tk, (∀ b o, s.heap.get? b = some o → h'.get? b = some o) → Q (.str d.shown u) { s with heap := h', toks := tk }) : wpAny (model prog w) A (call (.builtin "repr") [v]) Q E s := by
  cases r with
  | none =>
    simp only [PyData.shown] at hQ
    exact P.repr_of_none (hQ s.heap _ _ fun _ _ e => e)
  | bool b =>
    simp only [PyData.shown] at hQ
    exact P.repr_of_bool (hQ s.heap _ _ fun _ _ e => e)
  | int i t =>
    simp only [PyData.shown] at hQ
    exact P.repr_of_int (by simpa [PyData.showable] using hs) (hQ s.heap _ _ fun _ _ e => e)
  | str x t =>
    simp only [PyData.shown] at hQ
    exact P.repr_of_str (hQ s.heap _ _ fun _ _ e => e) (by simpa only [PyData.shown] using hz)
  | list h1 h2 h3 h4 =>
    rename_i a _ vs _ xs _
    have hz' : (listText (PyData.shownAll xs)).length ≤ sizeLine := by simpa only [PyData.shown] using hz
    obtain ⟨bs, hb, hk⟩ := ReprAllK.of_readsAll (prog := prog) (w := w) h4 (by simpa [PyData.showable] using hs) (fun q _ => by simp [PyData.hasDict] at hx; rw [hx] at q; cases q) (fun t ht => Nat.le_trans (listText_mem_le ht) hz')
    have r : Reads h₀ (.ref a) (.list xs) _ := .list h1 h2 h3 h4
    have hna : a ∉ bs := not_mem_of_deeper r (by simp only [PyData.depth]; omega) hb
    simp only [PyData.depth] at hu
    simp only [PyData.shown] at hQ
    obtain ⟨l⟩ := vs
    cases l with
    | nil =>
      have h4' : ReadsAll h₀ [] xs _ := h4
      cases h4'
      simp only [PyData.shownAll, listText_nil] at hQ
      exact repr_list0 ⟨_, hk0 _ _ h1, h2⟩ (hk0 _ _ h1) h3 (by omega) (hQ s.heap _ _ fun _ _ e => e)
    | cons x l => exact repr_list h1 h2 h3 hna (by simpa using hk.length_eq) (fun i y e => hk.item i y (by simpa using e)) hg (by omega) hk0 hQ hz'
  | tuple h1 h2 h3 h4 =>
    rename_i a _ vs _ xs
    have hz' : (tupleText (PyData.shownAll xs)).length ≤ sizeLine := by simpa only [PyData.shown] using hz
    obtain ⟨bs, hb, hk⟩ := ReprAllK.of_readsAll (prog := prog) (w := w) h4 (by simpa [PyData.showable] using hs) (fun q _ => by simp [PyData.hasDict] at hx; rw [hx] at q; cases q) (fun t ht => Nat.le_trans (tupleText_mem_le ht) hz')
    have r : Reads h₀ (.ref a) (.tuple xs) _ := .tuple h1 h2 h3 h4
    have hna : a ∉ bs := not_mem_of_deeper r (by simp only [PyData.depth]; omega) hb
    simp only [PyData.depth] at hu
    simp only [PyData.shown] at hQ
    exact repr_tuple h1 h2 h3 hna hk hg (by omega) hk0 hQ hz'
  | dict => simp [PyData.hasDict] at hx
end
section
variable {X : Cx}
theorem call_repr (hg : X.A.guards = some []) (hu : X.A.units + 66 < cLine) : CallR X (.builtin "repr") (fun xs H Q => ∃ v d, xs = [v] ∧ Dp X.K H v d ∧ SeqAt.shaped d = true ∧ d.showable = true ∧ d.hasDict = false ∧ d.shown.length ≤ sizeLine ∧ Q (.str d.shown) H) := by
  intro pins s σ H xs us Q I rv h
  obtain ⟨v, d, rfl, hd, sd, hs, hx, hz, q⟩ := h
  cases rv with
  | cons r1 r2 =>
    cases r2
    obtain ⟨as, rd⟩ := Dp.reads I d v _ hd r1
    have hdep : d.depth ≤ 64 := by
      unfold SeqAt.shaped at sd
      have := (Bool.and_eq_true_iff.mp sd).2
      simpa using this
    exact repr_top rd hs hx hz hg (by omega) (fun _ _ e => e) fun h' u tk hk => ⟨.str d.shown, H, I.kept hk, ⟨_, rfl⟩, q⟩
def oRepr : Z3 := fun zs h P => match zs with
  | [z] => okD h z ∧ (dOf h z).showable = true ∧ (dOf h z).hasDict = false ∧ (dOf h z).shown.length ≤ sizeLine ∧ P (.str (dOf h z).shown) h
  | _ => False
theorem call_reprZ (hg : X.A.guards = some []) (hu : X.A.units + 66 < cLine) : CallZ X (.builtin "repr") oRepr := by
  refine ⟨_, call_repr hg hu, fun μ H h zs vs P Q R r o f => ?_⟩
  unfold oRepr at o
  split at o
  · obtain ⟨v, rfl, rv⟩ := one_vals r rfl
    obtain ⟨o1, o2, o3, o4, p⟩ := o
    exact ⟨v, _, rfl, dpo_of R (SeqAt.canLay_of_shaped o1) rv, o1, o2, o3, o4, f.here R p rep_str⟩
  · exact o.elim
end
@[simp] theorem oRepr_1 {z : Z} {h : ZH} {P : PZ} : oRepr [z] h P = (okD h z ∧ (dOf h z).showable = true ∧ (dOf h z).hasDict = false ∧ (dOf h z).shown.length ≤ sizeLine ∧ P (.str (dOf h z).shown) h) := noRfl rfl
theorem hu66 {A : Around} {k : Nat} (hr : RoomG k A) : A.units + 66 < cLine := by have := hr.r.un; omega
/-- .. where an exception is handled -/
theorem hu1m {A : Around} {k : Nat} {v : Option Value} (hr : RoomG k A) : (A.mark v).units + 1 < cLine := show A.units + 1 < cLine from hu1 hr
theorem hu64m {A : Around} {k : Nat} {v : Option Value} (hr : RoomG k A) : (A.mark v).units + 64 < cLine := show A.units + 64 < cLine from hu64 hr
theorem hu65m {A : Around} {k : Nat} {v : Option Value} (hr : RoomG k A) : (A.mark v).units + 65 < cLine := show A.units + 65 < cLine from hu65 hr
theorem hu66m {A : Around} {k : Nat} {v : Option Value} (hr : RoomG k A) : (A.mark v).units + 66 < cLine := show A.units + 66 < cLine from hu66 hr
theorem gum {A : Around} {k : Nat} {v : Option Value} (hr : RoomG k A) : (A.mark v).guards = some [] := hr.g
end ZL

namespace ZL
open PySem PySem.Spec PyProof.Rows L2
/-! ### a def that calls itself: no promise at the end of its turns -/
section
variable {P : Program} {w : World} {K : PySem.W.Frag} {mg : Str → Option Value} {base : Heap} {x qual : Str} {params : Arguments} {body : List Stmt} {scope : Scope} {f : Addr} {fd : FuncData}
theorem fnz_never {ps : List Str} {k n : Nat} (F : FunD K x qual params body scope [] [] f fd) (hb : Binds K fd ps []) (hn : ps.length = n) : FnZ P w K mg base k n (fun _ _ _ _ => False) f :=
  ⟨fd, ps, hn, ⟨fun vs H Q E ⟨_, _, _, _, _, _, _, _, q, _⟩ => q.elim, fun A outer s H args us vs Q E _ _ _ _ ⟨_, _, _, _, _, _, _, _, q, _⟩ => q.elim⟩, F.kp, hb⟩
end
end ZL
namespace ZL
open PySem PySem.Spec PyProof.Rows L2
/-! ### is True, is False -/
section
variable {X : Cx}
def oIsB : Z2 := fun a b h P => match a, b with
  | .bl i, .bl j => P (.bl (decide (i = j))) h
  | _, _ => False
def oNotB : Z2 := fun a b h P => match a, b with
  | .bl i, .bl j => P (.bl (!decide (i = j))) h
  | _, _ => False
theorem op_isB : OpZ X (compareOp .Is) oIsB := by
  refine ⟨_, op_is_bl, fun μ H h a b x y P Q R ra rb o f => ?_⟩
  unfold oIsB at o
  split at o
  · cases of_bl ra; cases of_bl rb
    exact ⟨_, _, rfl, rfl, f.here R o rep_bl⟩
  · exact o.elim
theorem op_notB : OpZ X (compareOp .IsNot) oNotB := by
  refine ⟨_, op_isnot_bl, fun μ H h a b x y P Q R ra rb o f => ?_⟩
  unfold oNotB at o
  split at o
  · cases of_bl ra; cases of_bl rb
    exact ⟨_, _, rfl, rfl, f.here R o rep_bl⟩
  · exact o.elim
@[simp] theorem oIsB_b {i j : Bool} {h : ZH} {P : PZ} : oIsB (.bl i) (.bl j) h P = P (.bl (decide (i = j))) h := noRfl rfl
@[simp] theorem oNotB_b {i j : Bool} {h : ZH} {P : PZ} : oNotB (.bl i) (.bl j) h P = P (.bl (!decide (i = j))) h := noRfl rfl
end
end ZL

/-! ### enumerate(t), t a tuple -/
namespace ZEn
open PySem
abbrev tIt (t : Addr) : Obj := { cls := .type "tuple_iterator", data := .fields #[.ref t, .int 0 0] }
abbrev eOb (it : Addr) : Obj := { cls := .type "enumerate", data := .fields #[.none, .bool false, .ref it, rawInt 0, .none, .none] }
theorem newT (t : Addr) (o : Obj) (items : Array Value) (n : Nat) (hc : o.cls = .type "tuple") (hd : o.data = .seq items n) :
    Meets (Builtin.«enumerate.__new__» ⟨[.type "enumerate", .ref t], []⟩) (fun _ R s => s.heap.get? t = some o ∧ R (.ok (.ret (.ref (s.heap.push (tIt t)).objs.size))) { s with heap := (s.heap.push (tIt t)).push (eOb s.heap.objs.size) }) :=
  .of_wp fun prog w A R s h => by
    obtain ⟨hp, g, d, tk, os⟩ := s
    obtain ⟨hl, h⟩ := h
    have subE := sub_enumerate
    have hT : Heap.IsTuple (Shared.heap ⟨hp, g, d, tk, os⟩) t items := ⟨o, hl, hc, n, hd⟩
    wp_walk using AutoSeq1.wpAny_loadPart' hl
    refine wpAny_stack_any fun st => wpAny_pure ?_
    split
    · rename_i c _ _ _ _ _
      cases (c == Value.type "enumerate") <;> (wp_walk using AutoSeq1.wpAny_loadPart' hl, wpAny_pyIter_tuple hT; exact ⟨_, rfl, h⟩)
    · wp_walk using AutoSeq1.wpAny_loadPart' hl, wpAny_pyIter_tuple hT
      exact ⟨_, rfl, h⟩
section
variable {prog : Program} {w : World} {A : Around} {E : Value → Shared → Prop} {s : Shared}
theorem callT {t : Addr} {items : Array Value} {Q : Value → Shared → Prop} (hT : s.heap.IsTuple t items)
    (q : ∀ h', IsEnum h' (s.heap.objs.size + 1) s.heap.objs.size 0 .none → h'.IsTupleIter s.heap.objs.size t 0 → (∀ b o, s.heap.get? b = some o → h'.get? b = some o) → Q (.ref (s.heap.objs.size + 1)) { s with heap := h' }) :
    wpAny (model prog w) A (call (.type "enumerate") [.ref t]) Q E s := by
  obtain ⟨o, ho, hc, n, hd⟩ := hT
  refine callType_new F.called_enumerate (by decide) (F.typeCall_enumerate_1 _) (F.newCall_enumerate_1 _) (fun ob => F.args_object_init_2 ob _) F.entry_enumerate_new (newT t o items n hc hd) ⟨ho, ?_⟩
  have z1 : (s.heap.push (tIt t)).objs.size = s.heap.objs.size + 1 := Heap.size_push ..
  have e1 : ((s.heap.push (tIt t)).push (eOb s.heap.objs.size)).get? (s.heap.objs.size + 1) = some (eOb s.heap.objs.size) := by
    rw [← z1]; exact Heap.get?_push_size _ rfl
  show _ ∧ _
  rw [z1]
  exact ⟨⟨_, e1, rfl⟩, q _ e1 ⟨_, Heap.get?_push_of_some _ (Heap.get?_push_size _ rfl), rfl, rfl⟩ fun b o x => Heap.get?_push_of_some _ (Heap.get?_push_of_some _ x)⟩
theorem endT {e it l : Addr} {i : Nat} {items : Array Value} {old : Value} {Q : Option Value → Shared → Prop} (hh : A.handled = none) (he : IsEnum s.heap e it i old) (hit : s.heap.IsTupleIter it l i) (hl : s.heap.IsTuple l items) (hx : items[i]? = none)
    (q : ∀ g, Heap.ExtBut it s.heap g → Q none { s with heap := g }) : wpAny (model prog w) A (pyNext (.ref e)) Q E s := by
  have tE : s.TypeIs (.ref e) "enumerate" := ⟨_, he, rfl⟩
  unfold pyNext
  have sl := F.slot_enumerate_next
  refine wpAny_bind (wpAny_attempt (wpAny_callSpecial?_slot (name := Str.ofString "__next__") tE sl (wpAny_call_entry sl tE F.entry_enumerate_next ?_ (F.args_enumerate_next_1 _))))
  show wpAny _ _ (field (.ref e) 2 >>= _) _ _ s
  refine wpAny_bind (wpAny_field he rfl (x := .ref it) rfl (wpAny_bind (RZ.nextOf_tuple_end hh hit hl hx fun g y eb ⟨o, ho, hc⟩ => ?_)))
  exact wpAny_bind (wpAny_isInstance (T := "StopIteration") (b := true) ⟨o, ho, hc⟩ isSubtype_stop (wpAny_pure (q _ eb)))
end
end ZEn
namespace ZTS
open PySem PySem.Spec PyProof.Rows L2
theorem LaidT.ne {kl : List V → Bool} {H H' : Hp} {p b : Addr} {xs : List V} (l : LaidT kl H p xs H') (h : b ≠ p) : H' b = H b := by
  unfold LaidT at l
  split at l
  · rw [l, upd_ne h]
  · obtain ⟨o, _, rfl⟩ := l
    rw [upd_ne h]
end ZTS
namespace ZEn
open PySem PySem.Spec PyProof.Rows L2
/-- the tuple at a as it stands at each turn, each item in a new pair -/
def IteT (K : PySem.W.Frag) (a : Addr) : It :=
  ⟨fun i H => ∃ (xs : List V) (x : V), SqT K H a xs ∧ xs[i]? = some x, fun i H v H' => ∃ T x, v = .ref T ∧ H T = none ∧ ZTS.LaidT ZL.keyV H T [.int (i : Nat), x] H' ∧ ∀ xs, SqT K H a xs → xs[i]? = some x, fun i H => ∃ xs : List V, SqT K H a xs ∧ xs.length ≤ i⟩
theorem turnT {P : Program} {w : World} {K : PySem.W.Frag} {es : List Expr} {kk : Nat} {tp : Pos} (a e it : Addr) :
    Turn P w K (.Tuple es kk tp) (IteT K a) [e, it] e (fun i h => (∃ old, IsEnum h e it ((i : Nat) : Int) old) ∧ h.IsTupleIter it a i ∧ e ≠ it) where
  mem := List.mem_cons_self
  obj := fun i h st b hb => by
    obtain ⟨⟨old, he⟩, ⟨o, ho, hc, hd⟩, _⟩ := st
    rcases (by simpa using hb : b = e ∨ b = it) with rfl | rfl
    · exact ⟨_, he, fun v q => nomatch q⟩
    · exact ⟨o, ho, fun v q => by rw [hd] at q; cases q⟩
  keep := fun i h h' st k => by
    obtain ⟨⟨old, he⟩, hi, ne⟩ := st
    exact ⟨⟨old, k e (by simp) _ he⟩, hi.at fun o q => k it (by simp) o q, ne⟩
  item := by
    intro X hP hw hK hc i pins s σ H E I hf st hg
    subst hP hw hK
    obtain ⟨⟨old, he⟩, hit, ne⟩ := st
    obtain ⟨xs, x, hq, hx⟩ := hg
    obtain ⟨its, rv, pl, hz⟩ := I.tuple hq
    obtain ⟨u, hu, ru⟩ := rv.get hx
    have le : e < s.heap.objs.size := Heap.lt_size he
    have li : it < s.heap.objs.size := by obtain ⟨_, q, _⟩ := hit; exact Heap.lt_size q
    have nai : a ≠ it := fun z => by
      obtain ⟨o1, e1, c1, _⟩ := pl
      obtain ⟨o2, e2, c2, _⟩ := hit
      rw [z, e2] at e1
      cases e1
      rw [c2] at c1
      simp at c1
    have nae : e ≠ a := fun z => by
      obtain ⟨o1, e1, c1, _⟩ := pl
      rw [← z, he] at e1
      cases e1
      simp at c1
    have isz : i < its.toArray.size := by
      have := (List.getElem?_eq_some_iff.mp hu).1
      simpa using this
    have D := Draws.tuple (prog := X.prog) (w := X.w) (A := X.A.in1) (I.ok.hd hc) it a nai its.toArray
    refine wpAny_pyNext_enum_itemD D he ⟨hit, pl⟩ isz ne (by simp [ne, nae]) fun y h' tk hy ho hst hT hsz hk => ?_
    obtain ⟨hit', _⟩ := hst
    have ey : y = u := by
      have e2 : its[i]? = some y := by simpa using hy
      rw [hu] at e2
      exact (Option.some.inj e2).symm
    subst ey
    refine ⟨_, rfl, wpAny_letOwnedTupleGo_enum (s := { s with heap := h', toks := tk + 1 }) ho fun g he' sb => ?_⟩
    have gT : g.get? s.heap.objs.size = some { cls := .type "tuple", data := .seq #[.int i tk, y] } := (sb.2 _ (Nat.ne_of_gt le)).trans hT
    have kept : ∀ b ob, b ∉ [e, it] → s.heap.get? b = some ob → g.get? b = some ob := fun b ob hb q => by
      have n1 : b ≠ e := fun z => hb (by simp [z])
      have n2 : b ≠ it := fun z => hb (by simp [z])
      exact (sb.2 b n1).trans (hk b ob n1 n2 q)
    have z2 : ([V.int (i : Nat), x] : List V).length ≤ sizeLine := by show 2 ≤ sizeLine; decide
    have vv : Vals [V.int (i : Nat), x] [.int i tk, y] := .cons ⟨_, rfl⟩ (.cons ru .nil)
    obtain ⟨H', la, J⟩ : ∃ H', ZTS.LaidT ZL.keyV H s.heap.objs.size [.int (i : Nat), x] H' ∧ Inv X pins σ H' { s with heap := g, toks := tk + 1 } := by
      unfold ZTS.LaidT
      cases c : ZL.keyV [V.int (i : Nat), x] with
      | true => exact ⟨upd H s.heap.objs.size (.tup [.int (i : Nat), x]), by simp, I.turnedNew (ob := .tup [.int (i : Nat), x]) (ch := [e, it]) kept hf (Nat.le_refl _) ⟨z2, _, vv, ⟨_, gT, rfl, _, rfl⟩⟩⟩
      | false =>
        refine ⟨upd H s.heap.objs.size (.frz { cls := .type "tuple", data := .seq #[.int i tk, y] } (.tup [.int (i : Nat), x])), ?_, I.turnedNew (ob := .frz { cls := .type "tuple", data := .seq #[.int i tk, y] } (.tup [.int (i : Nat), x])) (ch := [e, it]) kept hf (Nat.le_refl _) ⟨gT, z2, _, vv, ⟨_, gT, rfl, _, rfl⟩⟩⟩
        simp
        exact ⟨_, rfl, rfl⟩
    refine ⟨.ref s.heap.objs.size, H', J, rfl, ⟨_, x, rfl, I.hok.fresh (Nat.le_refl _), la, fun ys hy2 => by rw [I.tuple_inj hy2 hq]; exact hx⟩, ⟨⟨y, ?_⟩, hit'.at fun o q => (sb.2 it ne.symm).trans q, ne⟩, fun b hb => ?_⟩
    · rw [show ((i + 1 : Nat) : Int) = (i : Int) + 1 by omega]
      exact he'
    · have lb : b < s.heap.objs.size := by
        rcases (by simpa using hb : b = e ∨ b = it) with rfl | rfl
        · exact le
        · exact li
      rw [la.ne (Nat.ne_of_lt lb)]
      exact (hf b hb).1
  done := by
    intro X hP hw hK hc i pins s σ H E I hf st hg
    subst hP hw hK
    obtain ⟨⟨old, he⟩, hit, ne⟩ := st
    obtain ⟨xs, hq, hx⟩ := hg
    obtain ⟨its, rv, pl, hz⟩ := I.tuple hq
    obtain ⟨f0, f1, f2, f3, f4, f5⟩ := hf it (by simp)
    have hl := rv.length
    exact endT (I.ok.hd hc) he hit pl (by simp; omega) fun g eb => ⟨rfl, I.turned (t' := s.toks) (fun b o hb q => eb b o hb q) f0 f1 f3 f4 f5⟩
  self := fun A i s Q E st h => by
    obtain ⟨⟨_, he⟩, _⟩ := st
    exact wpAny_pyIter_enum he h
end ZEn
namespace ZEn
open PySem PySem.Spec PyProof.Rows L2
def iEnumA (K : PySem.W.Frag) (ta : TA) : TI := fun σ H R => ta σ H fun vs H1 => ∃ a xs, vs = [.ref a] ∧ SqT K H1 a xs ∧ R (IteT K a) H1
theorem pi_enumA {X : Cx} {e : Expr} {ta : TA} {p pos tp : Pos} {es : List Expr} {kk : Nat} (hg : Gl X "enumerate") (hm : X.mg "enumerate" = none) (ha : PA X [e] ta) (hs : starEach [e] X.env = [(false, eval e X.env)] := by rfl) :
    PI X (.Tuple es kk tp) (.Call (.Name "enumerate" p) [e] [] pos) (iEnumA X.K ta) := by
  refine ⟨fun pins s σ H R I h => ?_⟩
  refine Call_ (ld_blt I hg hm boot_enumerate (PyProof.Rows.callWith_type1 (thn (ha.run pos pins s σ H _ I h) fun us s1 ⟨vs, H1, I1, r1, a, xs, ev, q⟩ => ?_) hs rfl))
  subst ev
  have fp : ∀ b ∈ [s1.heap.objs.size + 1, s1.heap.objs.size], FpOk X pins H1 b := fun b hb => by
    have lb : s1.heap.objs.size ≤ b := by
      rcases (by simpa using hb : b = s1.heap.objs.size + 1 ∨ b = s1.heap.objs.size) with rfl | rfl <;> omega
    exact I1.fpOk lb (I1.hok.fresh lb)
  cases r1 with
  | cons r rr =>
    cases rr
    cases r
    obtain ⟨hq, q⟩ := q
    obtain ⟨its, rv, pl, hz⟩ := I1.tuple hq
    refine callT (show s1.heap.IsTuple a its.toArray from pl) fun g he hit hk => wpAny_pyIter_enum he ?_
    exact ⟨s1.heap.objs.size + 1, [s1.heap.objs.size + 1, s1.heap.objs.size], _, _, H1, rfl, I1.kept (t' := s1.toks) hk, turnT a (s1.heap.objs.size + 1) s1.heap.objs.size, ⟨⟨.none, he⟩, hit, Nat.succ_ne_self _⟩, fp, q⟩
end ZEn
namespace ZL
open PySem PySem.Spec PyProof.Rows L2 ZEn
section
variable {X : Cx} {K : PySem.W.Frag} {mg : Str → Option Value}
/-- the pairs of enumerate, from k on -/
def enP : Nat → List Z → List Z
  | _, [] => []
  | k, x :: xs => .tup [.int (k : Nat), x] :: enP (k + 1) xs
theorem enP_len : ∀ {k : Nat} {xs : List Z}, (enP k xs).length = xs.length
  | _, [] => rfl
  | k, x :: xs => by unfold enP; simp [enP_len]
theorem enP_at : ∀ {k i : Nat} {xs : List Z} {z : Z}, (enP k xs)[i]? = some z → ∃ x, xs[i]? = some x ∧ z = .tup [.int ((k + i : Nat) : Int), x]
  | _, _, [], _, h => by simp [enP] at h
  | k, 0, x :: xs, z, h => by
    unfold enP at h
    simp at h
    exact ⟨x, rfl, h.symm⟩
  | k, i + 1, x :: xs, z, h => by
    unfold enP at h
    obtain ⟨y, h1, h2⟩ := enP_at (k := k + 1) (i := i) (xs := xs) (by simpa using h)
    exact ⟨y, by simpa using h1, by rw [h2, show k + 1 + i = k + (i + 1) by omega]⟩
def enZ (zs : List Z) (h : ZH) (Q : List Z → (ZH → Prop) → Prop) : Prop := match zs with
  | [.tup xs] => Q (enP 0 xs) (fun _ => True)
  | _ => False
def iEnumW (w : WA) : WI := fun env h P E => w env h (fun zs h1 => enZ zs h1 fun l c => P l c h1) E
theorem pair_newS {μ : List Addr} {H H' : Hp} {h : ZH} {T : Addr} {x y : Z} {v u : V} (R : RelH K mg μ H h) (hT : H T = none) (l : ZTS.LaidT keyV H T [v, u] H') (rx : RepV K μ H x v) (ry : RepV K μ H y u) :
    Ext μ H μ H' ∧ RelH K mg μ H' h ∧ RepV K μ H' (.tup [x, y]) (.ref T) := by
  unfold ZTS.LaidT at l
  cases c : keyV [v, u] with
  | true =>
    rw [c] at l
    simp at l
    subst l
    have ex : Ext μ H μ (upd H T (.tup [v, u])) := ext_new hT
    refine ⟨ex, R.tup hT, ?_⟩
    unfold RepV
    exact ⟨T, _, rfl, .inl ⟨c, upd_same⟩, .cons (rx.mono ex) (.cons (ry.mono ex) .nil)⟩
  | false =>
    rw [c] at l
    simp at l
    obtain ⟨o, d, rfl⟩ := l
    have ex : Ext μ H μ (upd H T (.frz o (.tup [v, u]))) := ext_new hT
    refine ⟨ex, R.tup hT, ?_⟩
    unfold RepV
    exact ⟨T, _, rfl, .inr ⟨c, o, d, upd_same⟩, .cons (rx.mono ex) (.cons (ry.mono ex) .nil)⟩
theorem itr_enT {a : Addr} {xs : List Z} {vs : List V} {μ0 : List Addr} {H0 : Hp} (ta : TupA K H0 a vs) (ra : RepVs K μ0 H0 xs vs) : ItR K mg (IteT K a) (enP 0 xs) (fun _ => True) μ0 H0 := by
  refine ⟨fun i z μ H h e R c hz => ?_, fun μ H h e R c => ?_⟩
  · obtain ⟨x, ex, rfl⟩ := enP_at hz
    obtain ⟨v, hv, rv⟩ := (ra.mono e).get ex
    refine ⟨⟨vs, v, (e.tupA ta).sq, hv⟩, fun w H' y => ?_⟩
    obtain ⟨T, x', rfl, hT, la, y1⟩ := y
    rw [y1 _ (e.tupA ta).sq] at hv; cases hv
    obtain ⟨k1, k2, k3⟩ := pair_newS (x := .int ((0 + i : Nat) : Int)) (v := .int (i : Nat)) R hT la (by rw [Nat.zero_add]; exact rep_int) rv
    exact ⟨μ, k1, k2, k3⟩
  · refine ⟨vs, (e.tupA ta).sq, ?_⟩
    rw [← ra.length, enP_len]
    exact Nat.le_refl _
theorem zi_enum {e : Expr} {w : WA} {p pos tp : Pos} {es : List Expr} {kk : Nat} (hg : Gl X "enumerate") (hm : X.mg "enumerate" = none) (ha : ZA X [e] w) (hs : starEach [e] X.env = [(false, eval e X.env)] := by rfl) :
    ZI X (.Tuple es kk tp) (.Call (.Name "enumerate" p) [e] [] pos) (iEnumW w) :=
  ⟨fun B E tk => pi_imp (pi_enumA hg hm (ha.run B E tk) hs) fun σ H Q ⟨μ, env, h, P, R, q, f⟩ => ⟨μ, env, h, _, R, q, fun zs h1 μ1 H1 vs p1 e1 R1 r1 => by
    unfold enZ at p1
    split at p1
    · obtain ⟨v, rfl, ra⟩ := one_vals r1 rfl
      obtain ⟨a, ws, rfl, ta, r⟩ := of_tup ra
      exact ⟨a, ws, rfl, ta.sq, f _ _ _ _ _ _ p1 e1 R1 (itr_enT ta r)⟩
    · exact p1.elim⟩⟩
section
variable {env : Env} {h : ZH} {P : List Z → (ZH → Prop) → ZH → Prop} {xs : List Z} {n : Nat}
end
end
end ZL

/-! ### sorted(t), t a tuple of ints -/
namespace PyProof.Rows
open PySem PySem.Spec PySem.Calls
section
variable {prog : Program} {w : World} {A : Around} {E : Value → Shared → Prop} {s : Shared}
theorem collect_tuple {l : Addr} {vs : List Value} {o : Obj} {n : Nat} {Q : List Value → Shared → Prop} (ho : s.heap.get? l = some o) (hc : o.cls = .type "tuple") (hd : o.data = .seq vs.toArray n)
    (h : Q vs { s with heap := (s.heap.push (seqObj "list" #[] 0)).update s.heap.objs.size (Obj.mapSeq (· ++ vs.toArray)) }) (hsz : vs.length ≤ sizeLine := by size_fits) :
    wpAny (model prog w) A (collect (.ref l)) Q E s := by
  unfold collect
  refine wpAny_bind (wpAny_runValue (codeAny_builtin entry_proto_collect' ?_))
  show wpAny _ _ (do again (.builtin "list.__iadd__" ⟨[← newList [], .ref l], []⟩)) _ _ s
  refine wpAny_bind (wpAny_newList (wpAny_pure ⟨Code.quiet_builtin _ (by decide +kernel), codeAny_builtin entry_list_iadd' ?_⟩))
  show wpAny _ _ (Builtin.List.listExtendWith (.ref s.heap.objs.size) (.ref l) (.ref s.heap.objs.size)) _ _ { s with heap := s.heap.push (seqObj "list" #[] 0) }
  unfold Builtin.List.listExtendWith
  have ho' : (s.heap.push (seqObj "list" #[] 0)).get? l = some o := Heap.get?_push_of_some _ ho
  refine wpAny_bind (wpAny_typeOf (T := "tuple") ⟨o, ho', hc⟩ ?_)
  have ht : (Value.type "tuple" == Value.type "tuple") = true := by rfl
  rw [if_pos (by rw [ht]; simp)]
  refine wpAny_bind (listItems_at ho' hd ?_)
  refine wpAny_bind (listItems_at (xs := #[]) (n := 0) (Heap.get?_push_size _ rfl) rfl ?_)
  rw [if_neg (by simp)]
  refine wpAny_bind (listUpdate_at (xs := #[]) (n := 0) (Heap.get?_push_size _ rfl) rfl ?_ (Nat.zero_le _) (by show (#[] ++ vs.toArray).size ≤ sizeLine + 1; simp only [Array.size_append, List.size_toArray, List.length_nil]; omega))
  refine wpAny_pure ?_
  show wpAny (model prog w) A (do
      let o ← load s.heap.objs.size
      match o.data with
      | .seq xs _ => pure xs.toList
      | _ => unsupported "internal:collect") Q E { s with heap := (s.heap.push (seqObj "list" #[] 0)).update s.heap.objs.size (Obj.mapSeq (· ++ vs.toArray)) }
  refine wpAny_bind (wpAny_load (get?_update_seq (Heap.get?_push_size _ rfl) _) ?_)
  show wpAny _ _ (pure ((#[] : Array Value) ++ vs.toArray).toList) Q E _
  rw [show ((#[] : Array Value) ++ vs.toArray).toList = vs by simp]
  exact wpAny_pure h
end
end PyProof.Rows
namespace SrtO
open PySem PySem.Spec PyProof.Rows PySem.Calls
section
variable {prog : Program} {w : World} {A : Around} {E : Value → Shared → Prop} {s : Shared}
theorem sorted_ordT {l : Addr} {vs : List Value} {ltv : Value → Value → Bool} {ol : Obj} {nl : Nat} {Q : Value → Shared → Prop} (O : Swo ltv) (ho : s.heap.get? l = some ol) (hc : ol.cls = .type "tuple") (hd : ol.data = .seq vs.toArray nl) (hz : vs.length ≤ sizeLine)
    (hS : 2 ≤ vs.length → ∀ (h₁ : Heap) (a : Addr), h₁.get? a = some (seqObj "list" vs.toArray 0) → (∀ b o, s.heap.get? b = some o → b ≠ a ∧ h₁.get? b = some o) → SortableO prog w A.in1.in1 { s with heap := h₁ } a vs ltv)
    (h : ∀ out : List Value, Srtd ltv out → Stb ltv out vs → Q (.ref (s.heap.objs.size + 1)) { s with heap := sortedAll s.heap vs out.toArray }) :
    wpAny (model prog w) A (call (.builtin "sorted") [.ref l]) Q E s := by
  refine Calls.call_function_entry kind_sorted plain_sorted entry_sorted (args_sorted1 _) ?_
  unfold Builtin.«sorted»
  refine wpAny_bind (m := checkCount "sorted" 1 1 _) (wpAny_pure ?_)
  refine wpAny_bind (collect_tuple ho hc hd ?_ hz)
  refine wpAny_bind (wpAny_newList ?_ hz)
  have hsz : ((s.heap.push (seqObj "list" #[] 0)).update s.heap.objs.size (Obj.mapSeq (· ++ vs.toArray))).objs.size = s.heap.objs.size + 1 := by
    rw [Heap.size_update, size_push']
  have hoL : (((s.heap.push (seqObj "list" #[] 0)).update s.heap.objs.size (Obj.mapSeq (· ++ vs.toArray))).push (seqObj "list" vs.toArray 0)).get? (s.heap.objs.size + 1) = some (seqObj "list" vs.toArray 0) := by
    rw [← hsz]; exact Heap.get?_push_size _ rfl
  have keep : ∀ b o, s.heap.get? b = some o → b ≠ s.heap.objs.size + 1 ∧ (((s.heap.push (seqObj "list" #[] 0)).update s.heap.objs.size (Obj.mapSeq (· ++ vs.toArray))).push (seqObj "list" vs.toArray 0)).get? b = some o := fun b o q => by
    have hlt : b < s.heap.objs.size := Heap.lt_size q
    refine ⟨Nat.ne_of_lt (Nat.lt_succ_of_lt hlt), Heap.get?_push_of_some _ ?_⟩
    rw [Heap.get?_update_ne _ _ _ _ (Nat.ne_of_lt hlt)]
    exact Heap.get?_push_of_some _ q
  show wpAny _ _ _ _ _ { s with heap := ((s.heap.push (seqObj "list" #[] 0)).update s.heap.objs.size (Obj.mapSeq (· ++ vs.toArray))).push (seqObj "list" vs.toArray 0) }
  rw [hsz]
  refine wpAny_bind (wpAny_holding (wpAny_call_entry slot_list_sort ⟨_, hoL, rfl⟩ entry_list_sort (list_sort_ord O hoL hz (fun h2 => hS h2 _ _ hoL keep) fun out hs hb => ⟨_, rfl, ?_⟩) (args_list_sort _)))
  exact wpAny_pure ⟨_, rfl, h out hs hb⟩
end
end SrtO
namespace L2
open PySem PySem.Spec PyProof.Rows
section
variable {X : Cx}
/-- sorted(t), t a tuple of ints -/
def rSortedTI (K : PySem.W.Frag) : List V → Hp → VK → Prop := fun vs H Q => ∃ (a : Addr) (ns : List Int), vs = [V.ref a] ∧ SqT K H a (ns.map V.int) ∧
  ∀ (ns' : List Int) (p : Addr), ns'.Perm ns → ns'.Pairwise (· ≤ ·) → H p = none → Q (.ref p) (upd H p (.lst (ns'.map V.int)))
theorem cr_sortedTI : CallR X (.builtin "sorted") (rSortedTI X.K) := by
  intro pins s σ H vs us Q I r h
  obtain ⟨a, ns, rfl, hs, q⟩ := h
  obtain ⟨its, rv, ⟨ol, ho, hc, nl, hd⟩, hz⟩ := I.tuple hs
  rw [Vals.ref1 r]
  have hi := rv.ints
  refine SrtO.sorted_ordT SrtO.swo_int ho hc hd (by rw [← rv.length]; exact hz) (fun h2 h₁ a' _ _ => SrtO.ints_sortable hi h2) fun out h1 h2 => ?_
  obtain ⟨k1, k2, k3⟩ := SrtO.ints_out hi h1 h2
  obtain ⟨ep, he'⟩ := PyProof.Rows.sortedAll_at s.heap its out.toArray
  have hlen : ((out.map SrtO.iv).map V.int).length ≤ sizeLine := by
    rw [List.length_map, k2.length_eq]
    rw [List.length_map] at hz
    exact hz
  exact ⟨.ref _, upd H (s.heap.objs.size + 1) (.lst ((out.map SrtO.iv).map V.int)), I.laid (t' := s.toks) (fun _ _ => PyProof.Rows.sortedAll_old) (Nat.le_succ _) ⟨hlen, out, ep, vals_of_ints k1, he'⟩, rfl, q _ _ k2 k3 (I.hok.fresh (Nat.le_succ _))⟩
/-! ### t.count(x) -/
def rCntD (K : PySem.W.Frag) : V → List V → Hp → VK → Prop := fun x xs H Q => ∃ (a : Addr) (y : V) (d : PyData) (ds : List PyData), x = V.ref a ∧ xs = [y] ∧ Dp K H (V.ref a) (.tuple ds) ∧ Dp K H y d ∧
  SeqAt.shaped (.tuple ds) = true ∧ SeqAt.shaped d = true ∧ Q (.int ((ds.countP fun z => PyData.eqv z d : Nat) : Int)) H
theorem mt_tcount (hu : X.A.units + 65 < cLine) : MtR X "tuple.count" (rCntD X.K) := by
  intro pins s σ H x xs v us Q I rx rxs h
  obtain ⟨a, y, d, ds, rfl, rfl, hl, hy, sl, sd, q⟩ := h
  cases rx
  cases rxs with
  | cons ry rt =>
    rename_i uy ut
    cases rt
    obtain ⟨bs, r1⟩ := Dp.reads I d y uy hy ry
    have hxs : PyData.canLayAll0 ds = true := SeqAt.canLay_of_shaped sl
    have hroom : X.A.units + 1 + min (PyData.depthAll ds) d.depth < cLine := room_in_shaped sd hu
    cases hl with
    | tup hs ha =>
      obtain ⟨its, rv, ⟨⟨cls, dd, data, sls⟩, ho, hc, n, hdt⟩, hlen⟩ := I.tuple hs
      simp only at hc hdt
      subst hc hdt
      obtain ⟨as, h4⟩ := Dp.readsAll I ds _ its ha rv
      have hmap : its.map (SeqAt.readOf s.heap) = ds := SeqAt.readsAll_map ds its as hxs h4
      refine call_meets PySem.F.slot_tuple_count ⟨_, ho, rfl⟩ PySem.F.entry_tuple_count (PySem.F.args_tuple_count_2 _ _)
        (SeqAt.tuple_countAt a its.toArray n dd sls uy (fun u => PyData.eqv (SeqAt.readOf s.heap u) d)) ⟨ho, SeqAt.items_eqAt (vs := its.toArray) (show ReadsAll s.heap its.toArray.toList ds as from h4) r1 hxs (SeqAt.canLay_of_shaped sd) hroom, ?_⟩
      have ec : its.toArray.toList.countP (fun u => PyData.eqv (SeqAt.readOf s.heap u) d) = ds.countP fun z => PyData.eqv z d := by
        rw [← hmap, List.countP_map]; rfl
      exact ⟨.int _, H, I.tok _, ⟨s.toks, by rw [ec]⟩, q⟩
/-- o.m(..), o a strong tuple -/
def tBMT (K : PySem.W.Frag) (r : V → List V → Hp → VK → Prop) (to : TE) (t : TA) : TE := fun σ H Q => to σ H fun x H1 => (∃ p ys ob, x = .ref p ∧ H1 p = some (.frz ob (.tup ys)) ∧ ob.dict = none) ∧ t σ H1 fun xs H2 => r x xs H2 Q
variable {o e : Expr} {es : List Expr} {to : TE} {t : TA} {name : Str} {apos cpos : Pos} {id : String} {r : V → List V → Hp → VK → Prop}
theorem pe_bmT (pa : PlainAttrs "tuple") (slot : Slot "tuple" name id) (hty : typeOf (.builtin id) = pure (.type "method_descriptor")) (hm : MtR X id r) (ho : PE X o to) (ha : PA X (e :: es) t)
    (hbase : attributeBase o name X.env (eval o X.env) = eval o X.env := by rfl)
    (hfew : ((backTo cpos (starEach (e :: es) X.env)).all (fun x => !x.1) && (backToKw cpos (keywordEach [] X.env)).all (fun x => x.1.isSome)
      && decide ((e :: es).length + ([] : List Keyword).length + (if ([] : List Keyword).isEmpty then 0 else 1) < 30)) = true := by rfl)
    (hline : (apos.endLine == cpos.line) = true := by rfl) (hs : starEach (e :: es) X.env = (false, eval e X.env) :: starEach es X.env := by rfl) (hplain : (backTo cpos (starEach es X.env)).any (·.1) = false := by rfl) :
    PE X (.Call (.Attribute o name apos) (e :: es) [] cpos) (tBMT X.K r to t) := by
  refine ⟨fun pins s σ H Q I h => ?_⟩
  refine wpAny_Call_method_late hbase hfew hline rfl (thn (ho.run pins s σ H _ I h) fun v s1 ⟨x, H1, I1, r1, ty, q1⟩ => ?_)
  obtain ⟨p, ys, ob, rfl, hp, hd⟩ := ty
  cases r1
  obtain ⟨eo, _, its, rv, o2, eo2, hc, n, hdt⟩ := (show ObjOk X.prog X.w H1 s1.heap p (.frz ob (.tup ys)) from I1.hok p _ hp)
  rw [eo] at eo2
  cases eo2
  refine ⟨"tuple", id, pa, slot, hty, ⟨ob, eo, hc⟩, fun a z => ?_, ?_⟩
  · cases z
    exact ⟨ob, eo, hd⟩
  · have hA := ha.run cpos pins s1 σ H1 _ I1 q1
    rw [hs] at hA ⊢
    refine Calls.callWith_builtin (by show (false || (backTo cpos (starEach es X.env)).any (·.1)) = false; rw [hplain] <;> rfl) (Calls.evalArgs_plain (thn hA fun us s2 ⟨vs, H2, I2, r2, q2⟩ => hm pins s2 σ H2 (.ref p) vs (.ref p) us Q I2 rfl r2 q2))
end
end L2
namespace ZL
open PySem PySem.Spec PyProof.Rows L2
/-! ### methods of strong tuples -/
def leafZ : Z → Bool
  | .int _ => true
  | .str _ => true
  | _ => false
def keyT (zs : List Z) : Bool := zs.all leafZ && keyN zs.length (zs.all textZ)
theorem leaf_rep {K : PySem.W.Frag} {μ : List Addr} {H : Hp} {z : Z} {v : V} (r : RepV K μ H z v) : leafK v = leafZ z ∧ textK v = textZ z := by
  cases z with
  | non => cases of_non r; exact ⟨rfl, rfl⟩
  | bl b => cases of_bl r; exact ⟨rfl, rfl⟩
  | int i => cases of_int r; exact ⟨rfl, rfl⟩
  | str x => cases of_str r; exact ⟨rfl, rfl⟩
  | tup zs => obtain ⟨a, vs, rfl, _⟩ := of_tup r; exact ⟨rfl, rfl⟩
  | scr ns => unfold RepV at r; obtain ⟨a, rfl, _⟩ := r; exact ⟨rfl, rfl⟩
  | ref n => unfold RepV at r; obtain ⟨a, rfl, _⟩ := r; exact ⟨rfl, rfl⟩
  | err a => unfold RepV at r; subst r; exact ⟨rfl, rfl⟩
theorem all_rep {K : PySem.W.Frag} {μ : List Addr} {H : Hp} : ∀ {zs : List Z} {vs : List V}, RepVs K μ H zs vs → vs.all leafK = zs.all leafZ ∧ vs.all textK = zs.all textZ
  | [], _, r => by unfold RepVs at r; subst r; exact ⟨rfl, rfl⟩
  | z :: zs, _, r => by
    unfold RepVs at r
    obtain ⟨v, w, rfl, h1, h2⟩ := r
    obtain ⟨a, b⟩ := leaf_rep h1
    obtain ⟨c, d⟩ := all_rep h2
    simp only [List.all_cons, a, b, c, d, and_self]
theorem keyT_rep {K : PySem.W.Frag} {μ : List Addr} {H : Hp} {zs : List Z} {vs : List V} (r : RepVs K μ H zs vs) : keyV vs = keyT zs := by
  obtain ⟨a, b⟩ := all_rep r
  unfold keyV keyT
  rw [a, b, r.length]
def isTup (h : ZH) (a : Z) (P : Prop) : Prop := match a with
  | .tup zs => keyT zs = false ∧ P
  | _ => False
def oTCount : ZM := fun a ys h P => match a, ys with
  | .tup zs, [y] => okD h y ∧ okD h (.tup zs) ∧ P (.int ((zs.countP fun z => PyData.eqv z.toD (dOf h y) : Nat) : Int)) h
  | _, _ => False
section
variable {X : Cx} {e o : Expr} {es : List Expr} {wo : WE} {wa : WA} {name : Str} {apos cpos : Pos} {id : String} {om : ZM}
theorem m_tcount (hu : X.A.units + 65 < cLine) : MthZ X "tuple.count" oTCount := by
  refine ⟨_, mt_tcount hu, fun μ H h a zs x vs P Q R ra rs o f => ?_⟩
  unfold oTCount at o
  split at o
  · rename_i us y
    obtain ⟨o1, o2, o3⟩ := o
    obtain ⟨p, ws, rfl, t, rw⟩ := of_tup ra
    obtain ⟨u, rfl, ru⟩ := one_vals rs rfl
    have e : dOf h (.tup us) = .tuple (us.map Z.toD) := by show Z.toD (.tup us) = _; unfold Z.toD; rw [toDs_map]
    refine ⟨p, u, _, us.map Z.toD, rfl, rfl, by rw [← e]; exact dpo_of R (SeqAt.canLay_of_shaped o2) ra, dpo_of R (SeqAt.canLay_of_shaped o1) ru, by rw [← e]; exact o2, o1, ?_⟩
    rw [List.countP_map]
    exact f.here R o3 rep_int
  · exact o.elim
theorem ze_tm (slot : Slot "tuple" name id) (hty : typeOf (.builtin id) = pure (.type "method_descriptor")) (hm : MthZ X id om) (ho : ZE X o wo) (ha : ZA X (e :: es) wa)
    (hbase : attributeBase o name X.env (eval o X.env) = eval o X.env := by rfl)
    (hfew : ((backTo cpos (starEach (e :: es) X.env)).all (fun x => !x.1) && (backToKw cpos (keywordEach [] X.env)).all (fun x => x.1.isSome)
      && decide ((e :: es).length + ([] : List Keyword).length + (if ([] : List Keyword).isEmpty then 0 else 1) < 30)) = true := by rfl)
    (hline : (apos.endLine == cpos.line) = true := by rfl) (hs : starEach (e :: es) X.env = (false, eval e X.env) :: starEach es X.env := by rfl) (hplain : (backTo cpos (starEach es X.env)).any (·.1) = false := by rfl) :
    ZE X (.Call (.Attribute o name apos) (e :: es) [] cpos) (wBM isTup om wo wa) :=
  let ⟨_, h1, h2⟩ := hm
  ⟨fun B E tk => pe_imp (pe_bmT PySem.F.plainAttrs_tuple slot hty h1 (ho.run B E tk) (ha.run B E tk) hbase hfew hline hs hplain) fun σ H Q ⟨μ, env, h, P, R, q, f⟩ =>
    ⟨μ, env, h, _, R, q, fun a h1' μ1 H1 x p1 e1 R1 r1 => by
      unfold isTup at p1
      split at p1
      · rename_i zs
        obtain ⟨p, vs, rfl, t, rv⟩ := of_tup r1
        refine ⟨?_, μ1, env, h1', _, R.step e1 R1, p1.2, fun zs' h2' μ2 H2 vs' p2 e2 R2 r2 => h2 μ2 H2 h2' _ zs' _ vs' P Q R2 (r1.mono e2) r2 p2 (f.ext (e1.trans e2))⟩
        rcases t with ⟨c, _⟩ | ⟨_, ob, d, t⟩
        · rw [keyT_rep rv, p1.1] at c; cases c
        · exact ⟨p, vs, ob, rfl, t, d⟩
      · exact p1.elim⟩⟩
end
end ZL
namespace ZL
open PySem PySem.Spec PyProof.Rows L2
/-! ### sorted of ints -/
def oSorted : Z3 := fun zs h P => match zs with
  | [.tup us] => ∃ ns, intsZ us = some ns ∧ ∀ ns' : List Int, ns'.Perm ns → ns'.Pairwise (· ≤ ·) → P (.ref h.length) (h ++ [.lst (ns'.map Z.int)])
  | [.ref n] => (match h[n]? with
    | some (.lst us) => ∃ ns, intsZ us = some ns ∧ ∀ ns' : List Int, ns'.Perm ns → ns'.Pairwise (· ≤ ·) → P (.ref h.length) (h ++ [.lst (ns'.map Z.int)])
    | _ => False)
  | _ => False
section
variable {X : Cx}
theorem call_sortedZ : CallZ X (.builtin "sorted") oSorted := by
  refine ⟨_, cr_sortedI.or cr_sortedTI, fun μ H h zs vs P Q R r o f => ?_⟩
  unfold oSorted at o
  split at o
  · obtain ⟨v, rfl, rv⟩ := one_vals r rfl
    obtain ⟨a, ws, rfl, t, rw⟩ := of_tup rv
    obtain ⟨ns, e2, q⟩ := o
    cases intsZ_some e2
    cases all_ints rw
    exact .inr ⟨a, ns, rfl, t.sq, fun ns' p h1 h2 hn => fol_lst R (RepVs.ints ns') (q ns' h1 h2) f p hn⟩
  · split at o
    · rename_i us e1
      obtain ⟨v, rfl, rv⟩ := one_vals r rfl
      obtain ⟨a, ws, rfl, _, hp, rw⟩ := of_lst R e1 rv
      obtain ⟨ns, e2, q⟩ := o
      cases intsZ_some e2
      cases all_ints rw
      exact .inl ⟨a, ns, rfl, SqL.of hp, fun ns' p h1 h2 hn => fol_lst R (RepVs.ints ns') (q ns' h1 h2) f p hn⟩
    · exact o.elim
  · exact o.elim
end
end ZL
namespace ZL
open PySem PySem.Spec PyProof.Rows L2
section
variable {env : Env} {h : ZH} {P : PZ} {PI : List Z → (ZH → Prop) → ZH → Prop} {E : EZ} {r : WA} {zs us : List Z} {y : Z} {n : Nat} {p : Prop}
@[simp] theorem m_isTup : isTup h (.tup zs) p = (keyT zs = false ∧ p) := noRfl rfl
@[simp] theorem oTCount_1 : oTCount (.tup zs) [y] h P = (okD h y ∧ okD h (.tup zs) ∧ P (.int ((zs.countP fun z => PyData.eqv z.toD (dOf h y) : Nat) : Int)) h) := noRfl rfl
@[simp] theorem oSorted_t : oSorted [.tup us] h P = (∃ ns, intsZ us = some ns ∧ ∀ ns' : List Int, ns'.Perm ns → ns'.Pairwise (· ≤ ·) → P (.ref h.length) (h ++ [.lst (ns'.map Z.int)])) := noRfl rfl
@[simp] theorem oSorted_r : oSorted [.ref n] h P = (match h[n]? with
    | some (.lst us) => ∃ ns, intsZ us = some ns ∧ ∀ ns' : List Int, ns'.Perm ns → ns'.Pairwise (· ≤ ·) → P (.ref h.length) (h ++ [.lst (ns'.map Z.int)])
    | _ => False) := noRfl rfl
def kEn (P : List Z → (ZH → Prop) → ZH → Prop) : List Z → ZH → Prop := fun zs h => enZ zs h fun l c => P l c h
@[simp] theorem m_iEn : iEnumW r env h PI E = r env h (kEn PI) E := noRfl rfl
@[simp] theorem m_kEn : kEn PI [.tup zs] h = PI (enP 0 zs) Always h := noRfl rfl
end
end ZL

namespace ZTS
open PySem PySem.Spec PyProof.Rows L2
section
variable {X : Cx} {e : Expr} {te : L2.St → Hp → (Int → Int → Hp → Prop) → Prop} {kl : List V → Bool}
def tTupRgS (kl : List V → Bool) (te : L2.St → Hp → (Int → Int → Hp → Prop) → Prop) : TE := fun σ H Q => te σ H fun a b H1 => RgOk a b ∧ ∀ q H', H1 q = none → LaidT kl H1 q (rgV a b) H' → Q (.ref q) H'
theorem pe_tupRgS {p pos : Pos} (hc : X.calm = true) (hg : Gl X "tuple") (hm : X.mg "tuple" = none) (he : PRg X e te) (na : starEach [e] X.env = (false, eval e X.env) :: starEach [] X.env := by rfl) : PE X (.Call (.Name "tuple" p) [e] [] pos) (tTupRgS kl te) := by
  refine ⟨fun pins s σ H Q I h => Call_ (ld_blt I hg hm boot_tuple (PyProof.Rows.callWith_type1 (args_cons (thn (he pins s σ H _ I h) fun x s1 ⟨r, a, b, t, u, v, H1, ex, hr, I1, ok, q⟩ => args_nil ?_) na) na))⟩
  subst ex
  obtain ⟨b1, b2, b3, b4, b5⟩ := ok
  refine call_tuple_range (n := (b - a).toNat) (I1.ok.hd hc) hr (small_one b1 b2 b3 b4) (rangeSize_nat a b) b5 fun g tk acc hk hi => ?_
  have I2 : Inv X pins σ H1 { s1 with heap := g, toks := tk } := I1.kept hk
  have hz : (rgV a b).length ≤ sizeLine := by rw [rgV_length, sizeLine_eq]; omega
  obtain ⟨H', la, J⟩ := laid_inv (tk := tk) (p := g.objs.size) kl I2 (its := acc.toList) (n := 0) (g := g.push { cls := .type "tuple", data := .seq acc }) (fun c o e => Heap.get?_push_of_some _ e) (Nat.le_refl _) (by rw [Array.toArray_toList]; exact Heap.get?_push_size _ rfl) (vals_rg hi) hz
  exact ⟨.ref g.objs.size, H', J, rfl, q _ H' (I2.hok.fresh (Nat.le_refl _)) la⟩
end
end ZTS
namespace ZL
open PySem PySem.Spec PyProof.Rows L2
section
variable {X : Cx} {a b : Expr}
def wTupRg (wa wb : WE) : WE := fun env h P E => wa env h (fun x h1 => wb env h1 (fun y h2 => match x, y with
  | .int i, .int j => RgOk i j ∧ P (.tup (rngZ i (j - i).toNat)) h2
  | _, _ => False) E) E
def wLstRg (wa wb : WE) : WE := fun env h P E => wa env h (fun x h1 => wb env h1 (fun y h2 => match x, y with
  | .int i, .int j => RgOk i j ∧ P (.ref h2.length) (h2 ++ [.lst (rngZ i (j - i).toNat)])
  | _, _ => False) E) E
theorem rep_rg {K : PySem.W.Frag} {μ : List Addr} {H : Hp} {i j : Int} : RepVs K μ H (rngZ i (j - i).toNat) (rgV i j) := by
  have := RepVs.ints (K := K) (μ := μ) (H := H) ((List.range (j - i).toNat).map fun k => i + ((k : Nat) : Int))
  rw [List.map_map, List.map_map] at this
  exact this
variable {wa wb : WE} {p p2 pos pos2 : Pos}
theorem ze_tupRg (hc : X.calm = true) (hg : Gl X "tuple") (hm : X.mg "tuple" = none) (hg2 : Gl X "range") (hm2 : X.mg "range" = none) (ha : ZE X a wa) (hb : ZE X b wb)
    (na : starEach [a, b] X.env = (false, eval a X.env) :: starEach [b] X.env := by rfl) (nb : starEach [b] X.env = (false, eval b X.env) :: starEach [] X.env := by rfl) (hp : (backTo pos2 (starEach [b] X.env)).any (·.1) = false := by rfl)
    (nc : starEach [.Call (.Name "range" p2) [a, b] [] pos2] X.env = (false, eval (.Call (.Name "range" p2) [a, b] [] pos2) X.env) :: starEach [] X.env := by rfl) :
    ZE X (.Call (.Name "tuple" p) [.Call (.Name "range" p2) [a, b] [] pos2] [] pos) (wTupRg wa wb) :=
  ⟨fun B E tk => pe_imp (ZTS.pe_tupRgS (kl := keyV) hc hg hm (prg_2 hg2 hm2 (ha.run B E tk) (hb.run B E tk) na nb hp) nc) fun σ H Q ⟨μ, env, h, P, R, q, f⟩ =>
    ⟨μ, env, h, _, R, q, fun x h1 μ1 H1 vx p1 e1 R1 r1 => ⟨μ1, env, h1, _, R.step e1 R1, p1, fun y h2 μ2 H2 vy p2 e2 R2 r2 => by
      split at p2
      · cases of_int r1; cases of_int r2
        exact ⟨_, _, rfl, rfl, p2.1, fol_tup R2 rep_rg p2.2 (f.ext (e1.trans e2))⟩
      · exact p2.elim⟩⟩⟩
theorem ze_lstRg (hc : X.calm = true) (hg : Gl X "list") (hm : X.mg "list" = none) (hg2 : Gl X "range") (hm2 : X.mg "range" = none) (ha : ZE X a wa) (hb : ZE X b wb)
    (na : starEach [a, b] X.env = (false, eval a X.env) :: starEach [b] X.env := by rfl) (nb : starEach [b] X.env = (false, eval b X.env) :: starEach [] X.env := by rfl) (hp : (backTo pos2 (starEach [b] X.env)).any (·.1) = false := by rfl)
    (nc : starEach [.Call (.Name "range" p2) [a, b] [] pos2] X.env = (false, eval (.Call (.Name "range" p2) [a, b] [] pos2) X.env) :: starEach [] X.env := by rfl) :
    ZE X (.Call (.Name "list" p) [.Call (.Name "range" p2) [a, b] [] pos2] [] pos) (wLstRg wa wb) :=
  ⟨fun B E tk => pe_imp (pe_listRg hc hg hm (prg_2 hg2 hm2 (ha.run B E tk) (hb.run B E tk) na nb hp) nc) fun σ H Q ⟨μ, env, h, P, R, q, f⟩ =>
    ⟨μ, env, h, _, R, q, fun x h1 μ1 H1 vx p1 e1 R1 r1 => ⟨μ1, env, h1, _, R.step e1 R1, p1, fun y h2 μ2 H2 vy p2 e2 R2 r2 => by
      split at p2
      · cases of_int r1; cases of_int r2
        exact ⟨_, _, rfl, rfl, p2.1, fol_lst R2 rep_rg p2.2 (f.ext (e1.trans e2))⟩
      · exact p2.elim⟩⟩⟩
end
section
variable {env : Env} {h : ZH} {P : PZ} {E : EZ} {wa wb : WE} {i j : Int}
def kRg2 (P : PZ) (i : Z) : PZ := fun y h2 => match i, y with
  | .int i, .int j => RgOk i j ∧ P (.tup (rngZ i (j - i).toNat)) h2
  | _, _ => False
def kRg1 (wb : WE) (env : Env) (P : PZ) (E : EZ) : PZ := fun x h1 => wb env h1 (kRg2 P x) E
@[simp] theorem m_tupRg : wTupRg wa wb env h P E = wa env h (kRg1 wb env P E) E := noRfl rfl
@[simp] theorem m_kRg1 {x : Z} : kRg1 wb env P E x h = wb env h (kRg2 P x) E := noRfl rfl
@[simp] theorem m_kRg2 : kRg2 P (.int i) (.int j) h = (RgOk i j ∧ P (.tup (rngZ i (j - i).toNat)) h) := noRfl rfl
def kLg2 (P : PZ) (i : Z) : PZ := fun y h2 => match i, y with
  | .int i, .int j => RgOk i j ∧ P (.ref h2.length) (h2 ++ [.lst (rngZ i (j - i).toNat)])
  | _, _ => False
def kLg1 (wb : WE) (env : Env) (P : PZ) (E : EZ) : PZ := fun x h1 => wb env h1 (kLg2 P x) E
@[simp] theorem m_lstRg : wLstRg wa wb env h P E = wa env h (kLg1 wb env P E) E := noRfl rfl
@[simp] theorem m_kLg1 {x : Z} : kLg1 wb env P E x h = wb env h (kLg2 P x) E := noRfl rfl
@[simp] theorem m_kLg2 : kLg2 P (.int i) (.int j) h = (RgOk i j ∧ P (.ref h.length) (h ++ [.lst (rngZ i (j - i).toNat)])) := noRfl rfl
end
end ZL

namespace ZL
open PySem PySem.Spec PyProof.Rows L2

/-! ### the draws of a law -/
def wDraw : WS := (wsSeq (wsIf (wNot (wTru (wVar 0))) (wsRet (w2 oMod (w2 oMul (wVar 1) (wC (.int 5))) (wC (.int 7)))) wsNext) (wsSeq (wsSet 2 (wCB oInt (wCons (w2 oIx (wVar 0) (w2 oMod (wVar 1) (wCB oLen (wCons (wVar 0) wNil)))) wNil))) (wsSeq (wsSet 3 (w2 oFdiv (wVar 1) (wCB oLen (wCons (wVar 0) wNil)))) (wsSeq (wsIf (wB (w2 oGe (wVar 2) (wC (.int 1000000000000000000)))) (wsSeq (wsFor (iR1 (wCons (wCB oMin (wCons (wVar 3) (wCons (wC (.int 60)) wNil))) wNil)) (wgName 4) (wsSet 2 (w2 oFdiv (wVar 2) (wC (.int 100003))))) (wsRet (w2 oMod (wVar 2) (wC (.int 100003))))) wsNext) (wsRet (w2 oMod (w2 oMul (w2 oMod (w2 oAdd (w2 oAdd (w2 oMul (wVar 2) (wC (.int 48271))) (w2 oMul (wVar 1) (wC (.int 69621)))) (wC (.int 13))) (wC (.int 2147483647))) (wC (.int 16807))) (wC (.int 2147483629))))))))
def fDraw : WF := wfOf 5 wDraw
def divs : Nat → Int → Int
  | 0, c => c
  | n + 1, c => divs n (c / 100003)
/-- the k-th draw -/
def draw (ns : List Int) (k : Nat) : Int :=
  if ns.length = 0 then (k : Int) * 5 % 7 else
    if 1000000000000000000 ≤ ns.getD (k % ns.length) 0 then divs (min (k / ns.length) 60) (ns.getD (k % ns.length) 0) % 100003
    else ((ns.getD (k % ns.length) 0 * 48271 + (k : Int) * 69621 + 13) % 2147483647 * 16807) % 2147483629
theorem draw_nonneg (ns : List Int) (k : Nat) : 0 ≤ draw ns k := by
  unfold draw
  split
  · omega
  · split <;> omega
theorem draw_lt (ns : List Int) (k : Nat) : draw ns k < 2147483629 := by
  unfold draw
  split
  · omega
  · split <;> omega
theorem cmul_r {i j : Int} (h : -(2 ^ 64) < j) (h' : j < 2 ^ 64) : CMul i j := .inr ⟨h, h'⟩
theorem len_scr (ns : List Int) (hn : ns.length ≤ 63) : (0 : Int) ≤ ns.length ∧ (ns.length : Int) ≤ 63 := ⟨by omega, by omega⟩
theorem atI_nat {α : Type} {xs : List α} {k : Nat} (h : k < xs.length) : L2.atI xs (k : Int) = some xs[k] := by
  unfold L2.atI L2.ixN
  rw [if_pos (by omega), if_pos (by omega)]
  simp [h]
theorem fDraw_ok {ns : List Int} (hn : ns.length ≤ 63) {k : Nat} (hk : k < 2 ^ 40) {h : ZH} {P : PZ} {E : XZ → ZH → Prop} (q : P (.int (draw ns k)) h) : fDraw [.scr ns, .int (k : Int)] h P E := by
  unfold draw at q
  unfold fDraw wfOf wDraw
  simp
  cases ns with
  | nil =>
    simp
    exact ⟨cmul_r (by omega) (by omega), by simpa using q⟩
  | cons n0 ns =>
    have hl : (n0 :: ns).length = ns.length + 1 := rfl
    rw [if_neg (by simp)] at q
    generalize hns : (n0 :: ns) = l at *
    have hp : 0 < l.length := by omega
    have hm : k % l.length < l.length := Nat.mod_lt _ hp
    have hne : l.isEmpty = false := by rw [← hns] <;> rfl
    simp [hne]
    refine ⟨by omega, l[k % l.length], ?_, ⟨by omega, by omega⟩, ?_⟩
    · rw [← Int.natCast_emod, atI_nat hm]
    have eg : l.getD (k % l.length) 0 = l[k % l.length] := by simp [List.getD, hm]
    rw [eg] at q
    by_cases hc : 1000000000000000000 ≤ l[k % l.length]
    · rw [if_pos hc] at q
      simp [hc]
      have e1 : (if (60 : Int) < (k : Int) / (l.length : Int) then (60 : Int) else (k : Int) / (l.length : Int)) = ((min (k / l.length) 60 : Nat) : Int) := by
        rw [← Int.natCast_ediv]
        split <;> omega
      rw [e1]
      have ht : min (k / l.length) 60 ≤ 60 := by omega
      generalize min (k / l.length) 60 = t at q ht ⊢
      refine ⟨⟨by omega, by omega⟩, ?_⟩
      refine forZ_ind (fun zs env h' => h' = h ∧ ∃ (c : Int) (v : Option Z), env = [some (.scr l), some (.int k), some (.int c), some (.int ((k : Int) / (l.length : Int))), v] ∧ divs zs.length c = divs t l[k % l.length]) ?_ ?_ _ _ _ ⟨rfl, _, _, rfl, by simp [rngZ]⟩
      · rintro env h' ⟨rfl, c, v, rfl, e⟩
        have e : c = divs t l[k % l.length] := e
        subst e
        simp [Always]
        exact q
      · rintro z zs env h' N hN ⟨rfl, c, v, rfl, e⟩
        simp [Always]
        exact ⟨⟨by omega, by omega⟩, hN _ _ ⟨rfl, _, _, rfl, e⟩⟩
    · rw [if_neg hc] at q
      simp [hc]
      exact ⟨cmul_r (by omega) (by omega), cmul_r (by omega) (by omega), cmul_r (by omega) (by omega), q⟩
end ZL
namespace ZL
theorem draw_i {ns : List Int} (hn : ns.length ≤ 63) {k : Int} (h0 : 0 ≤ k) (hk : k < 2 ^ 40) {h : ZH} {P : PZ} {E : XZ → ZH → Prop} (q : ∀ d : Int, d = draw ns k.toNat → 0 ≤ d → d < 2147483629 → P (.int d) h) : fDraw [.scr ns, .int k] h P E := by
  obtain ⟨n, rfl⟩ := Int.eq_ofNat_of_zero_le h0
  exact fDraw_ok hn (by omega) (q _ (by simp) (draw_nonneg _ _) (draw_lt _ _))
end ZL

namespace ZL
open PySem PySem.Spec PyProof.Rows L2

/-! ### plain values as data -/
mutual
def okZ : Z → Bool
  | .non => true
  | .bl _ => true
  | .int _ => true
  | .str x => PyData.strOk x
  | .tup zs => okZs zs
  | .scr _ => false
  | .ref _ => false
  | .err _ => false
def okZs : List Z → Bool
  | [] => true
  | z :: zs => okZ z && okZs zs
end
mutual
def depZ : Z → Nat
  | .tup zs => depZs zs + 1
  | _ => 0
def depZs : List Z → Nat
  | [] => 0
  | z :: zs => max (depZ z) (depZs zs)
end
mutual
theorem lay_of : ∀ {z : Z}, okZ z = true → z.toD.canLay0 = true ∧ z.toD.depth = depZ z
  | .non, _ => ⟨rfl, rfl⟩
  | .bl _, _ => ⟨rfl, rfl⟩
  | .int _, _ => ⟨rfl, rfl⟩
  | .str x, h => ⟨h, rfl⟩
  | .tup zs, h => by
    unfold okZ at h
    obtain ⟨h1, h2⟩ := lays_of h
    unfold Z.toD depZ PyData.canLay0 PyData.depth
    exact ⟨h1, by rw [h2]⟩
  | .scr _, h => by cases h
  | .ref _, h => by cases h
  | .err _, h => by cases h
theorem lays_of : ∀ {zs : List Z}, okZs zs = true → PyData.canLayAll0 (Z.toDs zs) = true ∧ PyData.depthAll (Z.toDs zs) = depZs zs
  | [], _ => ⟨rfl, rfl⟩
  | z :: zs, h => by
    unfold okZs at h
    obtain ⟨a, b⟩ := Bool.and_eq_true_iff.mp h
    obtain ⟨h1, h2⟩ := lay_of a
    obtain ⟨h3, h4⟩ := lays_of b
    unfold Z.toDs depZs PyData.canLayAll0 PyData.depthAll
    rw [h1, h2, h3, h4]
    exact ⟨rfl, rfl⟩
end
theorem okZs_all : ∀ {zs : List Z}, okZs zs = true ↔ ∀ z ∈ zs, okZ z = true
  | [] => by simp [okZs]
  | z :: zs => by unfold okZs; rw [Bool.and_eq_true, okZs_all]; simp
theorem depZs_le : ∀ {zs : List Z} {n : Nat}, (∀ z ∈ zs, depZ z ≤ n) → depZs zs ≤ n
  | [], n, _ => Nat.zero_le n
  | z :: zs, n, h => by
    unfold depZs
    exact Nat.max_le.mpr ⟨h z List.mem_cons_self, depZs_le fun y hy => h y (List.mem_cons_of_mem _ hy)⟩
theorem dOf_tup {h : ZH} {zs : List Z} : dOf h (.tup zs) = .tuple (zs.map Z.toD) := by
  show Z.toD (.tup zs) = _
  unfold Z.toD
  rw [toDs_map]
theorem dOf_ok {h : ZH} {z : Z} (o : okZ z = true) : dOf h z = z.toD := by
  cases z with
  | ref n => cases o
  | err n => cases o
  | _ => rfl
theorem okD_of {h : ZH} {z : Z} (o : okZ z = true) (d : depZ z ≤ 64) : okD h z := by
  obtain ⟨h1, h2⟩ := lay_of o
  show SeqAt.shaped (dOf h z) = true
  rw [dOf_ok o]
  unfold SeqAt.shaped
  rw [h1, h2]
  simpa using d
theorem strOk_app {x y : Str} (hx : PyData.strOk x = true) (hy : PyData.strOk y = true) : PyData.strOk (x ++ y) = true := by
  show (x.cps ++ y.cps).all _ = true
  unfold PyData.strOk at hx hy
  rw [Array.all_append, hx, hy]
  rfl
theorem strOk_rep {x : Str} (hx : PyData.strOk x = true) (n : Nat) : PyData.strOk (strRep x n) = true := by
  unfold PyData.strOk strRep at *
  rw [List.all_toArray] at *
  simp only [List.all_flatten]
  rw [List.all_eq_true]
  intro l hl
  have := List.eq_of_mem_replicate hl
  subst this
  exact hx
theorem len_app {x y : Str} : (x ++ y).length = x.length + y.length := by
  show (x.cps ++ y.cps).size = _
  rw [Array.size_append]
  rfl
theorem len_rep {x : Str} {n : Nat} : (strRep x n).length = x.length * n := by
  show (List.replicate n x.cps.toList).flatten.toArray.size = _
  simp [Str.length]
  rw [Nat.mul_comm]
theorem eqv_tup {xs ys : List Z} : PyData.eqv (.tuple (xs.map Z.toD)) (.tuple (ys.map Z.toD)) = PyData.eqvAll (xs.map Z.toD) (ys.map Z.toD) := by
  conv => lhs; unfold PyData.eqv
theorem big_line : 16777216 = sizeLine := by rw [sizeLine_eq]
/-- a list's items, by the place -/
theorem atI_mem {α : Type} {xs : List α} {i : Int} (h0 : 0 ≤ i) (h : i < xs.length) : ∃ x, L2.atI xs i = some x ∧ x ∈ xs := by
  obtain ⟨k, rfl⟩ := Int.eq_ofNat_of_zero_le h0
  have hk : k < xs.length := by omega
  exact ⟨xs[k], atI_nat hk, List.getElem_mem hk⟩
end ZL
namespace ZL
open PySem PySem.Spec PyProof.Rows L2
theorem kIf_via {a b : WS} {D : ZEnds} {env : Env} {E : EZ} {k : Bool} {h : ZH} (R : Env → ZH → Prop) (h1 : ∀ N : Env → ZH → Prop, (∀ env h, R env h → N env h) → k = true → a ⟨N, D.rt, D.bk, D.ct⟩ env h E)
    (h2 : ∀ N : Env → ZH → Prop, (∀ env h, R env h → N env h) → k = false → b ⟨N, D.rt, D.bk, D.ct⟩ env h E) (hr : ∀ env h, R env h → D.nx env h) : kIf a b D env E k h := by
  cases k with
  | true => exact h1 _ hr rfl
  | false => exact h2 _ hr rfl
theorem seq_via {a b : WS} {D : ZEnds} {env : Env} {E : EZ} {h : ZH} (R : Env → ZH → Prop) (h1 : ∀ N : Env → ZH → Prop, (∀ env h, R env h → N env h) → a ⟨N, D.rt, D.bk, D.ct⟩ env h E) (h2 : ∀ env h, R env h → b D env h E) : wsSeq a b D env h E := h1 _ h2
theorem kIf_of {a b : WS} {D : ZEnds} {env : Env} {E : EZ} {k : Bool} {h : ZH} (h1 : k = true → a D env h E) (h2 : k = false → b D env h E) : kIf a b D env E k h := by
  cases k with
  | true => exact h1 rfl
  | false => exact h2 rfl
theorem kIfE_of {a b : WE} {env : Env} {P : PZ} {E : EZ} {k : Bool} {h : ZH} (h1 : k = true → a env h P E) (h2 : k = false → b env h P E) : kIfE a b env P E k h := by
  cases k with
  | true => exact h1 rfl
  | false => exact h2 rfl
theorem kAnd_of {t : WT} {env : Env} {P : Bool → ZH → Prop} {E : EZ} {k : Bool} {h : ZH} (h1 : k = true → t env h P E) (h2 : k = false → P false h) : kAnd t env P E k h := by
  cases k with
  | true => exact h1 rfl
  | false => exact h2 rfl
theorem kOr_of {t : WT} {env : Env} {P : Bool → ZH → Prop} {E : EZ} {k : Bool} {h : ZH} (h1 : k = true → P true h) (h2 : k = false → t env h P E) : kOr t env P E k h := by
  cases k with
  | true => exact h1 rfl
  | false => exact h2 rfl
end ZL
namespace ZL
theorem pick {α : Type} {xs : List α} {i : Int} {Q : α → Prop} (h0 : 0 ≤ i) (h : i < xs.length) (q : ∀ z ∈ xs, Q z) : ∃ z, L2.atI xs i = some z ∧ Q z :=
  let ⟨z, e, m⟩ := atI_mem h0 h
  ⟨z, e, q z m⟩
end ZL
namespace ZL
open PySem PySem.Spec PyProof.Rows L2
section
variable {xs ys : List Z} {h : ZH} {P : PZ}
theorem oLt_t : oLt (.tup xs) (.tup ys) h P = (okD h (.tup xs) ∧ okD h (.tup ys) ∧ ∃ k, ltDs (xs.map Z.toD) (ys.map Z.toD) = some k ∧ P (.bl k) h) := by
  have e : ∀ xs ys : List PyData, ltD (.tuple xs) (.tuple ys) = ltDs xs ys := fun xs ys => by conv => lhs; unfold ltD
  rw [← e, ← dOf_tup (h := h), ← dOf_tup (h := h)]
  rfl
theorem oEq_t : oEq (.tup xs) (.tup ys) h P = (okD h (.tup xs) ∧ okD h (.tup ys) ∧ P (.bl (PyData.eqvAll (xs.map Z.toD) (ys.map Z.toD))) h) := by
  rw [← eqv_tup, ← dOf_tup (h := h), ← dOf_tup (h := h)]
  rfl
theorem oNe_t : oNe (.tup xs) (.tup ys) h P = (okD h (.tup xs) ∧ okD h (.tup ys) ∧ P (.bl (!PyData.eqvAll (xs.map Z.toD) (ys.map Z.toD))) h) := by
  rw [← eqv_tup, ← dOf_tup (h := h), ← dOf_tup (h := h)]
  rfl
theorem okD_tup {n : Nat} (o : ∀ z ∈ xs, okZ z = true) (d : ∀ z ∈ xs, depZ z ≤ n) (hn : n < 64) : okD h (.tup xs) := by
  refine okD_of ?_ ?_
  · unfold okZ; exact okZs_all.mpr o
  · unfold depZ
    have := depZs_le d
    omega
end
end ZL

namespace ZL
open PySem PySem.Spec PyProof.Rows L2

/-! ### is_within -/
def wWithinI (cs : List Str) : WS := (wsSeq (wsSet 2 (wLst (wCons (wTup (wCons (wVar 0) (wCons (wC (.int 0)) wNil))) wNil))) (wsSeq (wsWhile (wTru (wVar 2)) (wsSeq (wsAsg (wBM isLst oPop (wVar 2) wNil) (wgTup 2 (wgCons (wgName 3) (wgCons (wgName 4) wgNil)))) (wsIf (wTru (wIsi .tuple cs (wVar 3))) (wsSeq (wsIf (wB (w2 oGe (wVar 4) (wVar 1))) (wsRet (wC (.bl false))) wsNext) (wsExpr (wBM isLst oExtend (wVar 2) (wCons (wLc (iVal (wVar 3)) (.nm 5) wYes (wTup (wCons (wVar 5) (wCons (w2 oAdd (wVar 4) (wC (.int 1))) wNil))) [5]) wNil)))) (wsIf (wTru (wIsi .int cs (wVar 3))) (wsIf (wB (w2 oGe (wCB oAbs (wCons (wVar 3) wNil)) (wC (.int 1000000000000000000000000000000000000000000000000000000000000)))) (wsRet (wC (.bl false))) wsNext) (wsIf (wAnd (wB (w2 oNotN (wVar 3) (wC .non))) (wNot (wTru (wIsi .str cs (wVar 3))))) (wsRet (wC (.bl false))) wsNext))))) (wsRet (wC (.bl true)))))
def fWithinI (cs : List Str) : WF := wfOf 6 (wWithinI cs)
abbrev fWithin : WF := fWithinI []
@[simp] theorem oPop_0 {n : Nat} {h : ZH} {P : PZ} : oPop (.ref n) [] h P = (match h[n]? with
    | some (.lst xs) => ∃ y, xs[xs.length - 1]? = some y ∧ P y (h.set n (.lst xs.dropLast))
    | _ => False) := noRfl rfl
mutual
/-- plain, in at most d tuples -/
def plainB : Nat → Z → Bool
  | 0, .tup _ => false
  | d + 1, .tup zs => plainBs d zs
  | _, .int i => decide (i.natAbs < 1000000000000000000000000000000000000000000000000000000000000)
  | _, .bl _ => true
  | _, .non => true
  | _, .str _ => true
  | _, .scr _ => false
  | _, .ref _ => false
  | _, .err _ => false
def plainBs : Nat → List Z → Bool
  | _, [] => true
  | d, z :: zs => plainB d z && plainBs d zs
end
theorem pl_non (d : Nat) : plainB d .non = true := by cases d <;> rfl
theorem pl_bl (d : Nat) (b : Bool) : plainB d (.bl b) = true := by cases d <;> rfl
theorem pl_str (d : Nat) (x : Str) : plainB d (.str x) = true := by cases d <;> rfl
theorem pl_scr (d : Nat) (ns : List Int) : plainB d (.scr ns) = false := by cases d <;> rfl
theorem pl_ref (d : Nat) (n : Nat) : plainB d (.ref n) = false := by cases d <;> rfl
theorem pl_int (d : Nat) (i : Int) : plainB d (.int i) = decide (i.natAbs < 1000000000000000000000000000000000000000000000000000000000000) := by cases d <;> rfl
theorem pl_tup0 (zs : List Z) : plainB 0 (.tup zs) = false := rfl
theorem plainBs_all : ∀ {d : Nat} {zs : List Z}, plainBs d zs = zs.all (plainB d)
  | d, [] => by unfold plainBs; rfl
  | d, z :: zs => by unfold plainBs; rw [plainBs_all]; rfl
mutual
def sizeZ : Z → Nat
  | .tup zs => sizeZs zs + 1
  | _ => 1
def sizeZs : List Z → Nat
  | [] => 0
  | z :: zs => sizeZ z + sizeZs zs
end
theorem sizeZs_app : ∀ {xs ys : List Z}, sizeZs (xs ++ ys) = sizeZs xs + sizeZs ys
  | [], ys => by simp [sizeZs]
  | x :: xs, ys => by simp only [List.cons_append, sizeZs]; rw [sizeZs_app]; omega
theorem sizeZ_pos (z : Z) : 0 < sizeZ z := by
  cases z <;> simp [sizeZ]
theorem len_sizeZs : ∀ zs : List Z, zs.length ≤ sizeZs zs
  | [] => Nat.zero_le _
  | z :: zs => by
    unfold sizeZs
    have := len_sizeZs zs
    have := sizeZ_pos z
    rw [List.length_cons]
    omega
mutual
/-- the objects that a value names are lists or dicts -/
def refsI (cs : List Str) (h : ZH) : Z → Prop
  | .ref n => (∃ zs, h[n]? = some (.lst zs)) ∨ (∃ kvs, h[n]? = some (.dict kvs)) ∨ ∃ c fs, h[n]? = some (.ins c fs) ∧ c ∈ cs
  | .tup zs => refsIs cs h zs
  | .err _ => False
  | _ => True
def refsIs (cs : List Str) (h : ZH) : List Z → Prop
  | [] => True
  | z :: zs => refsI cs h z ∧ refsIs cs h zs
end
abbrev refsOk (h : ZH) (z : Z) (cs : List Str := []) : Prop := refsI cs h z
abbrev refsOks (h : ZH) (zs : List Z) (cs : List Str := []) : Prop := refsIs cs h zs
section
variable {cs : List Str}
theorem refsOks_all {h : ZH} : ∀ {zs : List Z}, refsOks h zs cs ↔ ∀ z ∈ zs, refsOk h z cs
  | [] => by simp [refsIs]
  | z :: zs => by show (refsI cs h z ∧ refsOks h zs cs) ↔ _; rw [refsOks_all]; simp
abbrev Item := Z × Nat
def itZ (p : Item) : Z := .tup [p.1, .int p.2]
theorem sizes_last {items : List Item} {p : Item} : sizeZs ((items ++ [p]).map (·.1)) = sizeZs (items.map (·.1)) + sizeZ p.1 := by
  rw [List.map_append, sizeZs_app]
  simp [sizeZs]
theorem last_of {items : List Item} (h : items ≠ []) : ∃ r p, items = r ++ [p] := ⟨items.dropLast, items.getLast h, (List.dropLast_concat_getLast h).symm⟩
mutual
theorem refsOk_pre {h h' : ZH} (p : Pre h h') : ∀ {z : Z}, refsOk h z cs → refsOk h' z cs
  | .ref n, r => by
    unfold refsOk refsI at r ⊢
    rcases r with ⟨zs, e⟩ | ⟨kvs, e⟩ | ⟨c, fs, e, m⟩
    · exact .inl ⟨zs, p.get e⟩
    · exact .inr (.inl ⟨kvs, p.get e⟩)
    · exact .inr (.inr ⟨c, fs, p.get e, m⟩)
  | .tup zs, r => by
    unfold refsOk refsI at r ⊢
    exact refsOks_pre p r
  | .non, _ => by unfold refsOk refsI; trivial
  | .bl _, _ => by unfold refsOk refsI; trivial
  | .int _, _ => by unfold refsOk refsI; trivial
  | .str _, _ => by unfold refsOk refsI; trivial
  | .scr _, _ => by unfold refsOk refsI; trivial
  | .err _, r => by unfold refsOk refsI at r; exact r.elim
theorem refsOks_pre {h h' : ZH} (p : Pre h h') : ∀ {zs : List Z}, refsOks h zs cs → refsOks h' zs cs
  | [], _ => by unfold refsOks refsIs; trivial
  | z :: zs, r => by
    unfold refsOks refsIs at r ⊢
    exact ⟨refsOk_pre p r.1, refsOks_pre p r.2⟩
end
theorem within_ok {v : Z} {m : Nat} {h : ZH} (hv : sizeZ v ≤ 1000000) (hr : refsOk h v cs) {P : PZ} {E : XZ → ZH → Prop} (q : ∀ h', Pre h h' → P (.bl (plainB m v)) h') : fWithinI cs [v, .int (m : Int)] h P E := by
  unfold fWithinI wfOf wWithinI
  have bl := big_line
  simp
  refine ⟨by omega, by omega, ?_⟩
  refine whileZ_ind (fun k env h' => ∃ (items : List Item) (a b c : Option Z), env = [some v, some (.int m), some (.ref h.length), a, b, c] ∧ h'[h.length]? = some (.lst (items.map itZ)) ∧ Pre h h' ∧ k = sizeZs (items.map (·.1)) ∧ k ≤ 1000000 ∧
    (items.all fun p => plainB (m - p.2) p.1) = plainB m v ∧ ∀ p ∈ items, p.2 ≤ m ∧ refsOk h p.1 cs) ?_ (m := sizeZ v) ⟨[(v, 0)], none, none, none, rfl, by simp [itZ], .app _ _, by simp [sizeZs], hv, by simp, by simp [hr]⟩
  rintro k env h' N hN ⟨items, a, b, c, rfl, hs, pr, hk, hk6, hall, hit⟩
  cases items with
  | nil =>
    simp [hs]
    simp [truK, hs]
    have e : plainB m v = true := by rw [← hall]; rfl
    rw [e] at q
    exact q _ pr
  | cons p0 ps =>
    have et : truK h' (.ref h.length) = some true := by simp [truK, hs]
    simp [et]
    obtain ⟨r, p, er⟩ := last_of (items := p0 :: ps) (by simp)
    rw [er] at hs hall hk hit
    clear er
    obtain ⟨z, d⟩ := p
    obtain ⟨hd, hz⟩ := hit (z, d) (by simp)
    have hit' : ∀ p ∈ r, p.2 ≤ m ∧ refsOk h p.1 cs := fun p hp => hit p (by simp [hp])
    have lt : h.length < h'.length := (List.getElem?_eq_some_iff.mp hs).1
    have hs1 : (h'.set h.length (.lst (r.map itZ)))[h.length]? = some (.lst (r.map itZ)) := by rw [List.getElem?_set_self lt]
    have pr1 : Pre h (h'.set h.length (.lst (r.map itZ))) := pr.set (Nat.le_refl _) _
    rw [sizes_last] at hk
    simp only at hk
    have hkr : sizeZs (r.map (·.1)) < k := by have := sizeZ_pos z; omega
    simp [hs]
    simp [itZ]
    have hall2 : (r.all fun p => plainB (m - p.2) p.1) = true → plainB (m - d) z = plainB m v := fun e => by
      rw [List.all_append, e] at hall
      simpa using hall
    have hall3 : plainB (m - d) z = true → (r.all fun p => plainB (m - p.2) p.1) = plainB m v := fun e => by
      rw [List.all_append] at hall
      simp [e] at hall
      exact hall
    have hall4 : plainB (m - d) z = false → plainB m v = false := fun e => by
      rw [List.all_append] at hall
      simp [e] at hall
      exact hall.symm ▸ rfl
    -- on with the rest
    have go : ∀ (x y c : Option Z), plainB (m - d) z = true → N [some v, some (.int m), some (.ref h.length), x, y, c] (h'.set h.length (.lst (r.map itZ))) := fun x y c e => hN _ _ _ hkr ⟨r, x, y, c, rfl, hs1, pr1, rfl, by omega, hall3 e, hit'⟩
    have stop : plainB (m - d) z = false → P (.bl false) (h'.set h.length (.lst (r.map itZ))) := fun e => by
      have := q _ pr1
      rw [hall4 e] at this
      exact this
    generalize hg : h'.set h.length (.lst (r.map itZ)) = g at hs1 pr1 go stop ⊢
    cases z with
    | non =>
      simp [zNone]
      exact go _ _ _ (pl_non _)
    | bl x =>
      cases x
      · simp
        exact go _ _ _ (pl_bl _ _)
      · simp
        exact go _ _ _ (pl_bl _ _)
    | str x =>
      simp [zNone]
      exact go _ _ _ (pl_str _ _)
    | scr ns =>
      simp [zNone]
      exact stop (pl_scr _ _)
    | err a => unfold refsOk refsI at hz; exact hz.elim
    | int i =>
      simp
      refine kIf_of (fun e => ?_) (fun e => ?_)
      · simp
        refine stop ?_
        have e := of_decide_eq_true e
        rw [pl_int, decide_eq_false_iff_not]
        split at e <;> omega
      · simp
        refine go _ _ _ ?_
        have e := of_decide_eq_false e
        rw [pl_int, decide_eq_true_eq]
        split at e <;> omega
    | ref n =>
      have rn := refsOk_pre pr1 hz
      unfold refsOk refsI at rn
      rcases rn with ⟨zs, e⟩ | ⟨kvs, e⟩ | ⟨c, fs, e, m⟩
      · simp [e, zNone]
        exact stop (pl_ref _ _)
      · simp [e, zNone]
        exact stop (pl_ref _ _)
      · simp [e, zNone, m]
        exact stop (pl_ref _ _)
    | tup zs =>
      simp
      have hzs : ∀ y ∈ zs, refsOk h y cs := refsOks_all.mp (by have := hz; unfold refsOk refsI at this; exact this)
      have hsz : sizeZ (.tup zs) = sizeZs zs + 1 := by simp [sizeZ]
      by_cases hdm : m ≤ d
      · simp [hdm]
        have e : m - d = 0 := by omega
        exact stop (by rw [e]; exact pl_tup0 _)
      · simp [hdm, hs1]
        have hl2 := len_sizeZs zs
        refine lcZ_map (f := fun y => itZ (y, d + 1)) (S := fun _ => True) (C := fun _ => True) (fun _ _ _ _ => trivial) (fun _ _ => trivial) (by simp; omega) trivial (fun _ _ => trivial) (fun y _ => ⟨_, rfl, fun h1 K _ hK => ?_⟩) fun h2 p2 => ?_
        · simp [wipeE]
          exact ⟨by omega, hK _ (.refl _)⟩
        · have e2 := p2.get hs1
          have lt2 : h.length < h2.length := (List.getElem?_eq_some_iff.mp e2).1
          have e3 : (h2 ++ [ZO.lst (zs.map fun y => itZ (y, d + 1))])[h.length]? = some (.lst (r.map itZ)) := (Pre.app h2 _).get e2
          simp [e3]
          have hlr := len_sizeZs (r.map (·.1))
          rw [List.length_map] at hlr
          refine ⟨by omega, ?_⟩
          have hsz2 : sizeZs ((r ++ zs.map fun y => (y, d + 1)).map (·.1)) = sizeZs (r.map (·.1)) + sizeZs zs := by
            rw [List.map_append, sizeZs_app, List.map_map]
            congr 2
            exact List.map_id' zs
          refine hN _ _ _ ?_ ⟨r ++ zs.map fun y => (y, d + 1), _, _, _, rfl, ?_, ?_, rfl, ?_, ?_, ?_⟩
          · rw [hsz2]; omega
          · rw [List.getElem?_set_self (by simp; omega), List.map_append, List.map_map]
            rfl
          · exact ((pr1.trans p2).more _).set (Nat.le_refl _) _
          · rw [hsz2]; omega
          · have e4 : m - d = (m - (d + 1)) + 1 := by omega
            have e5 : plainB (m - d) (.tup zs) = zs.all (plainB (m - (d + 1))) := by
              rw [e4]
              show plainBs (m - (d + 1)) zs = _
              rw [plainBs_all]
            rw [List.all_append] at hall ⊢
            simp only [List.all_cons, List.all_nil, Bool.and_true, List.all_map] at hall ⊢
            rw [e5] at hall
            exact hall
          · intro p hp
            rcases List.mem_append.mp hp with hp | hp
            · exact hit' p hp
            · obtain ⟨y, hy, rfl⟩ := List.mem_map.mp hp
              exact ⟨by simp; omega, hzs y hy⟩
end
end ZL

namespace ZL
open PySem PySem.Spec PyProof.Rows L2
mutual
/-- all texts are of real signs, and not long -/
def okS : Z → Bool
  | .str x => PyData.strOk x && decide (x.length ≤ 1000)
  | .tup zs => okSs zs
  | _ => true
def okSs : List Z → Bool
  | [] => true
  | z :: zs => okS z && okSs zs
end
theorem okSs_all : ∀ {zs : List Z}, okSs zs = zs.all okS
  | [] => by unfold okSs; rfl
  | z :: zs => by unfold okSs; rw [okSs_all]; rfl
mutual
theorem plain_ok : ∀ {d : Nat} {z : Z}, plainB d z = true → okS z = true → okZ z = true ∧ depZ z ≤ d
  | d, .non, _, _ => ⟨rfl, Nat.zero_le _⟩
  | d, .bl _, _, _ => ⟨rfl, Nat.zero_le _⟩
  | d, .int _, _, _ => ⟨rfl, Nat.zero_le _⟩
  | d, .str x, _, h => ⟨(Bool.and_eq_true_iff.mp h).1, Nat.zero_le _⟩
  | d, .scr _, h, _ => by rw [pl_scr] at h; cases h
  | d, .ref _, h, _ => by rw [pl_ref] at h; cases h
  | d, .err _, h, _ => by cases d <;> cases h
  | 0, .tup zs, h, _ => by cases h
  | d + 1, .tup zs, h, s => by
    unfold plainB at h
    unfold okS at s
    obtain ⟨a, b⟩ := plains_ok h s
    unfold okZ depZ
    exact ⟨a, Nat.succ_le_succ b⟩
theorem plains_ok : ∀ {d : Nat} {zs : List Z}, plainBs d zs = true → okSs zs = true → okZs zs = true ∧ depZs zs ≤ d
  | d, [], _, _ => ⟨rfl, Nat.zero_le _⟩
  | d, z :: zs, h, s => by
    unfold plainBs at h
    unfold okSs at s
    obtain ⟨h1, h2⟩ := Bool.and_eq_true_iff.mp h
    obtain ⟨s1, s2⟩ := Bool.and_eq_true_iff.mp s
    obtain ⟨a1, a2⟩ := plain_ok h1 s1
    obtain ⟨b1, b2⟩ := plains_ok h2 s2
    unfold okZs depZs
    rw [a1, b1]
    exact ⟨rfl, Nat.max_le.mpr ⟨a2, b2⟩⟩
end
/-- what is_within may be asked for -/
structure Fit (n : Nat) (h : ZH) (z : Z) (cs : List Str := []) : Prop where
  sz : sizeZ z ≤ n
  rf : refsOk h z cs
  st : okS z = true
section
variable {cs : List Str}
mutual
theorem refsOk_mono {h h' : ZH} (H : ∀ n, refsOk h (.ref n) cs → refsOk h' (.ref n) cs) : ∀ {z : Z}, refsOk h z cs → refsOk h' z cs
  | .ref n, r => H n r
  | .tup zs, r => by
    unfold refsOk refsI at r ⊢
    exact refsOks_mono H r
  | .non, _ => by unfold refsOk refsI; trivial
  | .bl _, _ => by unfold refsOk refsI; trivial
  | .int _, _ => by unfold refsOk refsI; trivial
  | .str _, _ => by unfold refsOk refsI; trivial
  | .scr _, _ => by unfold refsOk refsI; trivial
  | .err _, r => by unfold refsOk refsI at r; exact r.elim
theorem refsOks_mono {h h' : ZH} (H : ∀ n, refsOk h (.ref n) cs → refsOk h' (.ref n) cs) : ∀ {zs : List Z}, refsOks h zs cs → refsOks h' zs cs
  | [], _ => by unfold refsOks refsIs; trivial
  | z :: zs, r => by
    unfold refsOks refsIs at r ⊢
    exact ⟨refsOk_mono H r.1, refsOks_mono H r.2⟩
end
theorem Fit.setL {m n : Nat} {h : ZH} {z : Z} (f : Fit m h z cs) (ys : List Z) : Fit m (h.set n (.lst ys)) z cs := ⟨f.sz, refsOk_mono (fun i r => by
  unfold refsOk refsI at r ⊢
  by_cases e : n = i
  · subst e
    have l : n < h.length := by
      rcases r with ⟨zs, e⟩ | ⟨kvs, e⟩ | ⟨c, fs, e, m⟩
      · exact (List.getElem?_eq_some_iff.mp e).1
      · exact (List.getElem?_eq_some_iff.mp e).1
      · exact (List.getElem?_eq_some_iff.mp e).1
    exact .inl ⟨ys, List.getElem?_set_self l⟩
  · rw [List.getElem?_set_ne e]
    exact r) f.rf, f.st⟩
theorem Fit.pre {n : Nat} {h h' : ZH} {z : Z} (f : Fit n h z cs) (p : Pre h h') : Fit n h' z cs := ⟨f.sz, refsOk_pre p f.rf, f.st⟩
theorem Fit.le {n m : Nat} {h : ZH} {z : Z} (f : Fit n h z cs) (l : n ≤ m) : Fit m h z cs := ⟨Nat.le_trans f.sz l, f.rf, f.st⟩
theorem Fit.tup {n : Nat} {h : ZH} : ∀ {zs : List Z}, (∀ z ∈ zs, Fit n h z cs) → Fit (n * zs.length + 1) h (.tup zs) cs := fun {zs} hz => by
  have key : ∀ zs : List Z, (∀ z ∈ zs, Fit n h z cs) → sizeZs zs ≤ n * zs.length := by
    intro zs
    induction zs with
    | nil => intro _; exact Nat.le_refl _
    | cons z zs ih =>
      intro hz
      have a := (hz z List.mem_cons_self).sz
      have b := ih fun y hy => hz y (List.mem_cons_of_mem _ hy)
      unfold sizeZs
      rw [List.length_cons, Nat.mul_succ]
      omega
  refine ⟨?_, ?_, ?_⟩
  · unfold sizeZ
    exact Nat.succ_le_succ (key zs hz)
  · unfold refsOk refsI
    exact refsOks_all.mpr fun z m => (hz z m).rf
  · unfold okS
    rw [okSs_all, List.all_eq_true]
    exact fun z m => (hz z m).st
theorem fit_int {h : ZH} {i : Int} : Fit 1 h (.int i) cs := ⟨Nat.le_refl _, by unfold refsOk refsI; trivial, rfl⟩
theorem fit_bl {h : ZH} {i : Bool} : Fit 1 h (.bl i) cs := ⟨Nat.le_refl _, by unfold refsOk refsI; trivial, rfl⟩
theorem fit_non {h : ZH} : Fit 1 h .non cs := ⟨Nat.le_refl _, by unfold refsOk refsI; trivial, rfl⟩
theorem okS_str {x : Str} (o : PyData.strOk x = true) (l : x.length ≤ 1000) : okS (.str x) = true := Bool.and_eq_true_iff.mpr ⟨o, decide_eq_true l⟩
theorem fit_str {h : ZH} {x : Str} (o : PyData.strOk x = true) (l : x.length ≤ 1000) : Fit 1 h (.str x) cs := ⟨Nat.le_refl _, by unfold refsOk refsI; trivial, okS_str o l⟩
theorem okS_mem {zs : List Z} (o : okS (.tup zs) = true) {z : Z} (m : z ∈ zs) : okS z = true := by
  unfold okS at o
  rw [okSs_all, List.all_eq_true] at o
  exact o z m
theorem fit_lst {h : ZH} {n : Nat} {zs : List Z} (e : h[n]? = some (.lst zs)) : Fit 1 h (.ref n) cs := ⟨Nat.le_refl _, by unfold refsOk refsI; exact .inl ⟨_, e⟩, rfl⟩
theorem fit_dict {h : ZH} {n : Nat} {zs : List (Z × Z)} (e : h[n]? = some (.dict zs)) : Fit 1 h (.ref n) cs := ⟨Nat.le_refl _, by unfold refsOk refsI; exact .inr (.inl ⟨_, e⟩), rfl⟩
theorem fit_ins {h : ZH} {n : Nat} {c : Str} {fs : List (Str × Z)} (e : h[n]? = some (.ins c fs)) (m : c ∈ cs) : Fit 1 h (.ref n) cs := ⟨Nat.le_refl _, by unfold refsOk refsI; exact .inr (.inr ⟨_, _, e, m⟩), rfl⟩
theorem okD_plain {h : ZH} {z : Z} {d : Nat} (p : plainB d z = true) (s : okS z = true) (hd : d ≤ 64) : okD h z := okD_of (plain_ok p s).1 (Nat.le_trans (plain_ok p s).2 hd)
end
end ZL

namespace ZL
open PySem PySem.Spec PyProof.Rows L2
/-! ### heaps that change at some places alone -/
structure Keep (h h' : ZH) (D : List Nat) : Prop where
  le : h.length ≤ h'.length
  at_ : ∀ n, n < h.length → n ∉ D → h'[n]? = h[n]?
theorem Keep.refl (h : ZH) (D : List Nat) : Keep h h D := ⟨Nat.le_refl _, fun _ _ _ => rfl⟩
theorem Keep.get {h h' : ZH} {D : List Nat} (k : Keep h h' D) {n : Nat} {o : ZO} (e : h[n]? = some o) (hn : n ∉ D) : h'[n]? = some o := by
  rw [k.at_ n (List.getElem?_eq_some_iff.mp e).1 hn]
  exact e
theorem Keep.trans {a b c : ZH} {D : List Nat} (x : Keep a b D) (y : Keep b c D) : Keep a c D := ⟨Nat.le_trans x.le y.le, fun n hn hd => by rw [y.at_ n (Nat.lt_of_lt_of_le hn x.le) hd, x.at_ n hn hd]⟩
theorem Keep.mono {a b : ZH} {D D' : List Nat} (x : Keep a b D) (s : ∀ n, n < a.length → n ∈ D → n ∈ D') : Keep a b D' := ⟨x.le, fun n hn hd => x.at_ n hn fun m => hd (s n hn m)⟩
theorem Keep.of_pre {a b : ZH} {D : List Nat} (p : Pre a b) : Keep a b D := ⟨p.le, fun n hn _ => by
  obtain ⟨g, rfl⟩ := p
  rw [List.getElem?_append_left hn]⟩
theorem Keep.app {a b : ZH} {D : List Nat} (x : Keep a b D) (g : ZH) : Keep a (b ++ g) D := ⟨by have := x.le; simp; omega, fun n hn hd => by rw [List.getElem?_append_left (Nat.lt_of_lt_of_le hn x.le)]; exact x.at_ n hn hd⟩
theorem Keep.set {a b : ZH} {D : List Nat} (x : Keep a b D) {n : Nat} (o : ZO) (hn : n < a.length → n ∈ D) : Keep a (b.set n o) D := ⟨by have := x.le; simp; exact this, fun m hm hd => by
  rw [List.getElem?_set_ne (fun e => by subst e; exact hd (hn hm))]
  exact x.at_ m hm hd⟩
theorem lt_of_get {h : ZH} {n : Nat} {o : ZO} (e : h[n]? = some o) : n < h.length := (List.getElem?_eq_some_iff.mp e).1
theorem get_set {h : ZH} {n : Nat} {o x : ZO} (e : h[n]? = some o) : (h.set n x)[n]? = some x := List.getElem?_set_self (lt_of_get e)
theorem get_app {h g : ZH} {n : Nat} {o : ZO} (e : h[n]? = some o) : (h ++ g)[n]? = some o := by rw [List.getElem?_append_left (lt_of_get e)]; exact e
theorem ne_of_get {h : ZH} {n m : Nat} {o x : ZO} (e : h[n]? = some o) (f : h[m]? = some x) (d : o ≠ x) : n ≠ m := fun z => by subst z; rw [e] at f; exact d (Option.some.inj f)
end ZL
namespace ZL
open PySem PySem.Spec PyProof.Rows L2
section
variable {env : Env} {h : ZH} {PS : Env → ZH → Prop} {E : EZ} {D : ZEnds} {wo we : WE} {sg : Bool} {cs : List Str} {f : Str} {n : Nat} {x y : Z}
def kFA2 (sg : Bool) (f c : Str) (n : Nat) (x : Z) (P : Env → ZH → Prop) (env : Env) : PZ := fun y h2 => match x, y with
        | .int i, .int j => (match h2[n]? with
          | some (.ins c2 fs2) => c2 = c ∧ fs2.length < 1000 ∧ P env (h2.set n (.ins c2 (zput f (.int (if sg = true then i + j else i - j)) fs2)))
          | _ => False)
        | _, _ => False
def kFA1 (sg : Bool) (cs : List Str) (f : Str) (we : WE) (P : Env → ZH → Prop) (env : Env) (E : EZ) : PZ := fun o h1 => match o with
  | .ref n => (match h1[n]? with
    | some (.ins c fs) => c ∈ cs ∧ (match fs.lookup f with
      | some x => we env h1 (kFA2 sg f c n x P env) E
      | none => False)
    | _ => False)
  | _ => False
@[simp] theorem m_fldAug : wsFldAug sg cs f wo we D env h E = wo env h (kFA1 sg cs f we D.nx env E) E := noRfl rfl
@[simp] theorem m_kFA1 : kFA1 sg cs f we PS env E (.ref n) h = (match h[n]? with
    | some (.ins c fs) => c ∈ cs ∧ (match fs.lookup f with
      | some x => we env h (kFA2 sg f c n x PS env) E
      | none => False)
    | _ => False) := noRfl rfl
@[simp] theorem m_kFA2 {c : Str} {i j : Int} : kFA2 sg f c n (.int i) PS env (.int j) h = (match h[n]? with
          | some (.ins c2 fs2) => c2 = c ∧ fs2.length < 1000 ∧ PS env (h.set n (.ins c2 (zput f (.int (if sg = true then i + j else i - j)) fs2)))
          | _ => False) := noRfl rfl
end
end ZL

namespace ZL
open PySem PySem.Spec PyProof.Rows L2
/-! ### items at known places -/
section
variable {α : Type} {a b c d e f : α} {r : List α}
@[simp] theorem at_0 : L2.atI (a :: r) 0 = some a := atI_nat (k := 0) (xs := a :: r) (by simp)
@[simp] theorem at_1 : L2.atI (a :: b :: r) 1 = some b := atI_nat (k := 1) (xs := a :: b :: r) (by simp)
@[simp] theorem at_2 : L2.atI (a :: b :: c :: r) 2 = some c := atI_nat (k := 2) (xs := a :: b :: c :: r) (by simp)
@[simp] theorem at_3 : L2.atI (a :: b :: c :: d :: r) 3 = some d := atI_nat (k := 3) (xs := a :: b :: c :: d :: r) (by simp)
@[simp] theorem at_4 : L2.atI (a :: b :: c :: d :: e :: r) 4 = some e := atI_nat (k := 4) (xs := a :: b :: c :: d :: e :: r) (by simp)
@[simp] theorem at_5 : L2.atI (a :: b :: c :: d :: e :: f :: r) 5 = some f := atI_nat (k := 5) (xs := a :: b :: c :: d :: e :: f :: r) (by simp)
@[simp] theorem ix_0 {n : Nat} : L2.ixN (n + 1) 0 = some 0 := by unfold L2.ixN; rw [if_pos (by omega), if_pos (by omega)]; rfl
@[simp] theorem ix_1 {n : Nat} : L2.ixN (n + 1 + 1) 1 = some 1 := by unfold L2.ixN; rw [if_pos (by omega), if_pos (by omega)]; rfl
@[simp] theorem ix_2 {n : Nat} : L2.ixN (n + 1 + 1 + 1) 2 = some 2 := by unfold L2.ixN; rw [if_pos (by omega), if_pos (by omega)]; rfl
@[simp] theorem ix_3 {n : Nat} : L2.ixN (n + 1 + 1 + 1 + 1) 3 = some 3 := by unfold L2.ixN; rw [if_pos (by omega), if_pos (by omega)]; rfl
end
/-! ### lists compared -/
theorem dL_ok {d : Z → PyData} {h : ZH} {z : Z} (o : okZ z = true) : dL d h z = z.toD := by
  cases z with
  | ref n => cases o
  | err n => cases o
  | _ => rfl
def OkL (zs : List Z) : Prop := ∀ z ∈ zs, okZ z = true ∧ depZ z ≤ 60
theorem dOf_lst {h : ZH} {n : Nat} {zs : List Z} (e : h[n]? = some (.lst zs)) (o : OkL zs) : dOf h (.ref n) = .list (zs.map Z.toD) := by
  rw [dOf, dL_lst e]
  congr 1
  exact List.map_congr_left fun z hz => dL_ok (o z hz).1
theorem okL_all {zs : List Z} (o : OkL zs) : okZs zs = true ∧ depZs zs ≤ 60 := ⟨okZs_all.mpr fun z hz => (o z hz).1, depZs_le fun z hz => (o z hz).2⟩
theorem okD_lst {h : ZH} {n : Nat} {zs : List Z} (e : h[n]? = some (.lst zs)) (o : OkL zs) : okD h (.ref n) := by
  show SeqAt.shaped (dOf h (.ref n)) = true
  rw [dOf_lst e o]
  obtain ⟨a, b⟩ := okL_all o
  obtain ⟨c, d⟩ := lays_of a
  rw [toDs_map] at c d
  unfold SeqAt.shaped PyData.canLay0 PyData.depth
  rw [c, d]
  simp
  omega
theorem eqv_lst {xs ys : List PyData} : PyData.eqv (.list xs) (.list ys) = PyData.eqvAll xs ys := by conv => lhs; unfold PyData.eqv
theorem ne_lists {h : ZH} {n m : Nat} {xs ys : List Z} (e1 : h[n]? = some (.lst xs)) (e2 : h[m]? = some (.lst ys)) (o1 : OkL xs) (o2 : OkL ys) {P : PZ} (q : P (.bl (!PyData.eqvAll (xs.map Z.toD) (ys.map Z.toD))) h) : oNe (.ref n) (.ref m) h P := by
  refine ⟨okD_lst e1 o1, okD_lst e2 o2, ?_⟩
  show P (.bl (!PyData.eqv (dOf h (.ref n)) (dOf h (.ref m)))) h
  rw [dOf_lst e1 o1, dOf_lst e2 o2, eqv_lst]
  exact q
theorem eq_lists {h : ZH} {n m : Nat} {xs ys : List Z} (e1 : h[n]? = some (.lst xs)) (e2 : h[m]? = some (.lst ys)) (o1 : OkL xs) (o2 : OkL ys) {P : PZ} (q : P (.bl (PyData.eqvAll (xs.map Z.toD) (ys.map Z.toD))) h) : oEq (.ref n) (.ref m) h P := by
  refine ⟨okD_lst e1 o1, okD_lst e2 o2, ?_⟩
  show P (.bl (PyData.eqv (dOf h (.ref n)) (dOf h (.ref m)))) h
  rw [dOf_lst e1 o1, dOf_lst e2 o2, eqv_lst]
  exact q
theorem eqvAll_nil {xs : List PyData} : PyData.eqvAll xs [] = xs.isEmpty := by cases xs <;> rfl
theorem ne_same {h : ZH} {n m : Nat} {xs : List Z} (e1 : h[n]? = some (.lst xs)) (e2 : h[m]? = some (.lst xs)) (o : OkL xs) {P : PZ} (q : P (.bl false) h) : oNe (.ref n) (.ref m) h P := by
  refine ne_lists e1 e2 o o ?_
  obtain ⟨a, b⟩ := okL_all o
  obtain ⟨c, d⟩ := lays_of a
  rw [toDs_map] at c
  rw [SeqAt.eqvAll_refl _ c]
  exact q
theorem okL_ints (ns : List Int) : OkL (ns.map Z.int) := by
  intro z hz
  obtain ⟨i, _, rfl⟩ := List.mem_map.mp hz
  exact ⟨rfl, Nat.zero_le _⟩
theorem okL_nil : OkL [] := fun z hz => by cases hz
theorem okL_app {xs ys : List Z} (a : OkL xs) (b : OkL ys) : OkL (xs ++ ys) := fun z hz => (List.mem_append.mp hz).elim (a z) (b z)
theorem okL_take {xs : List Z} (a : OkL xs) {l u : Option Int} : OkL (cutZ xs l u) := fun z hz => a z (by
  unfold cutZ at hz
  exact List.mem_of_mem_drop (List.mem_of_mem_take hz))
theorem okL_filter {xs : List Z} (a : OkL xs) {p : Z → Bool} : OkL (xs.filter p) := fun z hz => a z (List.mem_filter.mp hz |>.1)
/-- `[..] == []` of a list that has just been made -/
theorem eq_nil {h : ZH} {n : Nat} {xs : List Z} (e : h[n]? = some (.lst xs)) (o : OkL xs) {m : Nat} (e2 : h[m]? = some (.lst [])) {P : PZ} (q : P (.bl xs.isEmpty) h) : oEq (.ref n) (.ref m) h P := by
  refine eq_lists e e2 o okL_nil ?_
  rw [List.map_nil, eqvAll_nil]
  cases xs <;> exact q
/-! ### a comprehension that picks -/
theorem lcZ_filter {i : Nat} {tt : WT} {chk : ZH → Prop} {env : Env} {P : PZ} (p : Z → Bool) (S : Z → Prop) (C : ZH → Prop) (hC : ∀ h h', C h → Pre h h' → C h') (hchk : ∀ h, C h → chk h) {zs acc : List Z} {h : ZH} (hl : acc.length + zs.length ≤ sizeLine) (c : C h) (hS : ∀ z ∈ zs, S z) (hi : i < env.length)
    (ht : ∀ z, S z → ∀ h (K : Bool → ZH → Prop), C h → (∀ h', Pre h h' → K (p z) h') → tt (env.set i (some z)) h K E0) (hP : ∀ h', Pre h h' → P (.ref h'.length) (h' ++ [.lst (acc ++ zs.filter p)])) : lcZ (.nm i) tt (wVar i) chk env P zs acc h := by
  refine lcZ_ind (fun zs' acc' h' => Pre h h' ∧ C h' ∧ acc' ++ zs'.filter p = acc ++ zs.filter p ∧ acc'.length + zs'.length ≤ sizeLine ∧ ∀ z ∈ zs', S z) ?_ ?_ zs acc h ⟨.refl h, c, rfl, hl, hS⟩
  · rintro acc' h' ⟨p', c', e, _, _⟩
    refine ⟨hchk _ c', ?_⟩
    have := hP h' p'
    rw [← e] at this
    simpa using this
  · rintro z zs' acc' h' N hN ⟨p', c', e, l, s⟩
    rw [List.length_cons] at l
    refine ⟨hchk _ c', env.set i (some z), rfl, ht z (s z List.mem_cons_self) h' _ c' fun h'' p'' => ?_⟩
    have s' : ∀ y ∈ zs', S y := fun y hy => s y (List.mem_cons_of_mem _ hy)
    cases hp : p z with
    | true =>
      simp [List.getElem?_set_self hi]
      refine ⟨by omega, hN _ _ ⟨p'.trans p'', hC _ _ c' p'', ?_, ?_, s'⟩⟩
      · rw [← e, List.filter_cons, if_pos hp, List.append_assoc]; rfl
      · simp; omega
    | false =>
      simp
      refine hN _ _ ⟨p'.trans p'', hC _ _ c' p'', ?_, by omega, s'⟩
      rw [← e, List.filter_cons, if_neg (by simp [hp])]
/-! ### the two ways of a truth -/
theorem kNot_of {P : Bool → ZH → Prop} {k : Bool} {h : ZH} (q : P (!k) h) : kNot P k h := q
theorem kAndV_of {w : WE} {env : Env} {P : PZ} {E : EZ} {k : Bool} {h : ZH} (h1 : k = true → w env h P E) (h2 : k = false → P (.bl false) h) : kAndV w env P E (.bl k) h := by
  cases k with
  | true => exact h1 rfl
  | false => exact h2 rfl
theorem kOrV_of {w : WE} {env : Env} {P : PZ} {E : EZ} {k : Bool} {h : ZH} (h1 : k = true → P (.bl true) h) (h2 : k = false → w env h P E) : kOrV w env P E (.bl k) h := by
  cases k with
  | true => exact h1 rfl
  | false => exact h2 rfl
theorem kChC_of {o : Z2} {wc : WE} {b : Z} {env : Env} {P : PZ} {E : EZ} {k : Bool} {h : ZH} (h1 : k = true → wc env h (kChD o b P) E) (h2 : k = false → P (.bl false) h) : kChC o wc b env P E (.bl k) h := by
  cases k with
  | true => exact h1 rfl
  | false => exact h2 rfl
theorem kAndIf_via {t : WT} {a b : WS} {D : ZEnds} {env : Env} {E : EZ} {k : Bool} {h : ZH} (R : Env → ZH → Prop) (h1 : ∀ N : Env → ZH → Prop, (∀ env h, R env h → N env h) → k = true → t env h (kIf a b ⟨N, D.rt, D.bk, D.ct⟩ env E) E)
    (h2 : ∀ N : Env → ZH → Prop, (∀ env h, R env h → N env h) → k = false → kIf a b ⟨N, D.rt, D.bk, D.ct⟩ env E false h) (hr : ∀ env h, R env h → D.nx env h) : kAnd t env (kIf a b D env E) E k h := by
  cases k with
  | true => exact h1 _ hr rfl
  | false => exact h2 _ hr rfl
theorem filter_none {zs : List Z} {p : Z → Bool} : (zs.filter fun z => !p z).isEmpty = zs.all p := by
  induction zs with
  | nil => rfl
  | cons z zs ih =>
    rw [List.filter_cons, List.all_cons]
    cases hp : p z with
    | true => simpa using ih
    | false => simp
end ZL

namespace ZS
open PySem PySem.Spec
/-! ### what repr shows tells the value -/
def niceC (c : Nat) : Bool := (decide (32 ≤ c) && decide (c ≤ 126)) || c == 10 || c == 13 || c == 9
mutual
def niceD : PyData → Bool
  | .none => true
  | .bool _ => true
  | .int _ => true
  | .str x => x.cps.toList.all niceC
  | .tuple xs => niceDs xs
  | .list _ => false
  | .dict _ => false
def niceDs : List PyData → Bool
  | [] => true
  | x :: xs => niceD x && niceDs xs
end
abbrev code (d : PyData) : List Nat := d.shown.cps.toList
/-- what may follow -/
def Stop (s : List Nat) : Prop := ∀ c r, s = c :: r → c = 44 ∨ c = 41
theorem stop_nil : Stop [] := fun c r h => by cases h
theorem stop_44 (r : List Nat) : Stop (44 :: r) := fun c r' h => by cases h; exact .inl rfl
theorem stop_41 (r : List Nat) : Stop (41 :: r) := fun c r' h => by cases h; exact .inr rfl
/-! numbers -/
def digs (n : Nat) : List Nat := (Nat.toDigits 10 n).map Char.toNat
theorem char_inj {a b : Char} (h : a.toNat = b.toNat) : a = b := Char.ext (UInt32.toNat_inj.mp h)
theorem map_char_inj : ∀ {a b : List Char}, a.map Char.toNat = b.map Char.toNat → a = b
  | [], [], _ => rfl
  | [], _ :: _, h => by cases h
  | _ :: _, [], h => by cases h
  | x :: xs, y :: ys, h => by
    simp only [List.map_cons, List.cons.injEq] at h
    rw [char_inj h.1, map_char_inj h.2]
theorem digs_inj {n m : Nat} (h : digs n = digs m) : n = m := by
  have e := map_char_inj h
  have := congrArg (fun l => Nat.ofDigitChars 10 l 0) e
  simpa using this
theorem digs_digit {n c : Nat} (h : c ∈ digs n) : 48 ≤ c ∧ c ≤ 57 := by
  unfold digs at h
  obtain ⟨d, hd, rfl⟩ := List.mem_map.mp h
  have := Nat.isDigit_of_mem_toDigits (by decide) (by decide) hd
  simp only [Char.isDigit, Bool.and_eq_true, decide_eq_true_eq, ge_iff_le] at this
  obtain ⟨a, b⟩ := this
  exact ⟨UInt32.le_iff_toNat_le.mp a, UInt32.le_iff_toNat_le.mp b⟩
theorem digs_ne (n : Nat) : digs n ≠ [] := by
  unfold digs
  simp [Nat.toDigits_ne_nil]
/-- a run of digits ends where none stands -/
theorem run_inj : ∀ {a b s t : List Nat}, (∀ c ∈ a, 48 ≤ c ∧ c ≤ 57) → (∀ c ∈ b, 48 ≤ c ∧ c ≤ 57) → Stop s → Stop t → a ++ s = b ++ t → a = b ∧ s = t
  | [], [], _, _, _, _, _, _, h => ⟨rfl, h⟩
  | [], y :: ys, s, t, _, hb, hs, _, h => by
    have := hb y List.mem_cons_self
    have := hs y (ys ++ t) h
    omega
  | x :: xs, [], s, t, ha, _, _, ht, h => by
    have := ha x List.mem_cons_self
    have := ht x (xs ++ s) h.symm
    omega
  | x :: xs, y :: ys, s, t, ha, hb, hs, ht, h => by
    simp only [List.cons_append, List.cons.injEq] at h
    obtain ⟨rfl, h⟩ := h
    obtain ⟨e1, e2⟩ := run_inj (fun c m => ha c (List.mem_cons_of_mem _ m)) (fun c m => hb c (List.mem_cons_of_mem _ m)) hs ht h
    exact ⟨by rw [e1], e2⟩
theorem ofString_list (s : String) : (Str.ofString s).cps.toList = s.toList.map Char.toNat := by
  exact PyProof.Rows.signs_ofString s
theorem code_nat (n : Nat) : code (.int n) = digs n := by
  show (PyData.shown (.int (n : Int))).cps.toList = _
  rw [PyData.shown_int]
  show (Str.ofString (toString (n : Int))).cps.toList = _
  rw [ofString_list]
  show ((toString n).toList).map Char.toNat = _
  rw [Nat.toString_eq_ofList_toDigits]
  simp [digs]
theorem code_neg (n : Nat) : code (.int (Int.negSucc n)) = 45 :: digs (n + 1) := by
  show (PyData.shown (.int (Int.negSucc n))).cps.toList = _
  rw [PyData.shown_int]
  show (Str.ofString (toString (Int.negSucc n))).cps.toList = _
  rw [ofString_list]
  show (("-" ++ (Nat.succ n).repr : String).toList).map Char.toNat = _
  rw [String.toList_append, Nat.toList_repr]
  simp [digs]
theorem int_inj {i j : Int} {s t : List Nat} (hs : Stop s) (ht : Stop t) (h : code (.int i) ++ s = code (.int j) ++ t) : i = j ∧ s = t := by
  cases i with
  | ofNat n =>
    rw [show Int.ofNat n = (n : Int) from rfl, code_nat] at h
    cases j with
    | ofNat m =>
      rw [show Int.ofNat m = (m : Int) from rfl, code_nat] at h
      obtain ⟨e1, e2⟩ := run_inj (fun c => digs_digit) (fun c => digs_digit) hs ht h
      exact ⟨by rw [digs_inj e1], e2⟩
    | negSucc m =>
      rw [code_neg] at h
      cases hd : digs n with
      | nil => exact absurd hd (digs_ne n)
      | cons x xs =>
        rw [hd] at h
        have e := (List.cons.inj h).1
        have := digs_digit (n := n) (c := x) (by rw [hd]; exact List.mem_cons_self)
        omega
  | negSucc n =>
    rw [code_neg] at h
    cases j with
    | ofNat m =>
      rw [show Int.ofNat m = (m : Int) from rfl, code_nat] at h
      cases hd : digs m with
      | nil => exact absurd hd (digs_ne m)
      | cons x xs =>
        rw [hd] at h
        have e := (List.cons.inj h).1
        have := digs_digit (n := m) (c := x) (by rw [hd]; exact List.mem_cons_self)
        omega
    | negSucc m =>
      rw [code_neg] at h
      obtain ⟨e1, e2⟩ := run_inj (fun c => digs_digit) (fun c => digs_digit) hs ht (List.cons.inj h).2
      have := digs_inj e1
      exact ⟨by congr 1; omega, e2⟩
theorem int_len {i : Int} {k : Nat} (hk : 0 < k) (h : i.natAbs < 10 ^ k) : (PyData.shown (.int i)).length ≤ k + 1 := by
  show (PyData.shown (.int i)).cps.size ≤ _
  rw [← Array.length_toList]
  show (code (.int i)).length ≤ _
  have key : ∀ n, n < 10 ^ k → (digs n).length ≤ k := fun n hn => by
    unfold digs
    rw [List.length_map]
    exact (Nat.length_toDigits_le_iff (by decide) hk).mpr hn
  cases i with
  | ofNat n =>
    rw [show Int.ofNat n = (n : Int) from rfl, code_nat]
    have := key n h
    omega
  | negSucc n =>
    rw [code_neg, List.length_cons]
    have := key (n + 1) h
    omega
/-! texts -/
def sign (q c : Nat) : List Nat := if c == q || c == 92 then [92, c] else if c == 10 then [92, 110] else if c == 13 then [92, 114] else if c == 9 then [92, 116] else [c]
theorem print_all : ∀ c, c < 127 → 32 ≤ c → Unicode.isPrintable c = true := by decide +kernel
theorem sign_eq {q c : Nat} (h : niceC c = true) : Builtin.Str.reprChar q c = sign q c := by
  unfold Builtin.Str.reprChar sign
  unfold niceC at h
  simp only [Bool.or_eq_true, Bool.and_eq_true, decide_eq_true_eq, beq_iff_eq] at h
  have hp : c ≠ 10 → c ≠ 13 → c ≠ 9 → Unicode.isPrintable c = true := fun a b d => print_all c (by omega) (by omega)
  by_cases h1 : (c == q || c == 92) = true
  · simp only [h1, if_true]
  · simp only [h1]
    by_cases h2 : c = 10
    · subst h2; rfl
    by_cases h3 : c = 13
    · subst h3; rfl
    by_cases h4 : c = 9
    · subst h4; rfl
    have e := hp h2 h3 h4
    simp [h2, h3, h4, e]
def signs (q : Nat) : List Nat → List Nat
  | [] => []
  | c :: r => sign q c ++ signs q r
theorem fold_signs {q : Nat} : ∀ (l : List Nat) (acc : Array Nat), (∀ c ∈ l, niceC c = true) → (l.foldl (fun out c => out ++ (Builtin.Str.reprChar q c).toArray) acc).toList = acc.toList ++ signs q l
  | [], acc, _ => by simp [signs]
  | c :: r, acc, h => by
    rw [List.foldl_cons, fold_signs r _ (fun d m => h d (List.mem_cons_of_mem _ m)), sign_eq (h c List.mem_cons_self)]
    simp [signs]
theorem code_str {x : Str} (h : niceD (.str x) = true) : code (.str x) = reprQuote x :: (signs (reprQuote x) x.cps.toList ++ [reprQuote x]) := by
  unfold niceD at h
  rw [List.all_eq_true] at h
  show (PyData.shown (.str x)).cps.toList = _
  rw [PyData.shown_str]
  unfold reprText
  rw [Array.toList_push, ← Array.foldl_toList, fold_signs _ _ h]
  simp
theorem quote_is (x : Str) : reprQuote x = 34 ∨ reprQuote x = 39 := by
  unfold reprQuote
  split
  · exact .inl rfl
  · exact .inr rfl
theorem sign_head {q : Nat} (hq : q = 34 ∨ q = 39) {c : Nat} (hc : niceC c = true) : ∃ a r, sign q c = a :: r ∧ a ≠ q := by
  unfold sign
  split
  · exact ⟨_, _, rfl, by omega⟩
  · rename_i h
    simp at h
    split
    · exact ⟨_, _, rfl, by omega⟩
    · split
      · exact ⟨_, _, rfl, by omega⟩
      · split
        · exact ⟨_, _, rfl, by omega⟩
        · exact ⟨_, _, rfl, by omega⟩
theorem sign_inj {q : Nat} (hq : q = 34 ∨ q = 39) {c d : Nat} {s t : List Nat} (h : sign q c ++ s = sign q d ++ t) : c = d ∧ s = t := by
  unfold sign at h
  simp only [Bool.or_eq_true, beq_iff_eq] at h
  repeat' split at h
  all_goals
    simp only [List.cons_append, List.nil_append, List.cons.injEq] at h
    first
    | (exfalso; omega)
    | exact ⟨by omega, h.2.2⟩
    | exact ⟨h.1, h.2⟩
theorem signs_inj {q : Nat} (hq : q = 34 ∨ q = 39) : ∀ {x y s t : List Nat}, x.all niceC = true → y.all niceC = true → signs q x ++ (q :: s) = signs q y ++ (q :: t) → x = y ∧ s = t
  | [], [], s, t, _, _, h => ⟨rfl, (List.cons.inj h).2⟩
  | [], d :: y, s, t, _, hy, h => by
    rw [List.all_cons, Bool.and_eq_true] at hy
    obtain ⟨a, r, e, n⟩ := sign_head hq hy.1
    unfold signs at h
    rw [e] at h
    exact absurd (List.cons.inj h).1.symm n
  | c :: x, [], s, t, hx, _, h => by
    rw [List.all_cons, Bool.and_eq_true] at hx
    obtain ⟨a, r, e, n⟩ := sign_head hq hx.1
    have h : sign q c ++ signs q x ++ (q :: s) = q :: t := h
    rw [e] at h
    exact absurd (List.cons.inj h).1 n
  | c :: x, d :: y, s, t, hx, hy, h => by
    rw [List.all_cons, Bool.and_eq_true] at hx hy
    have h : sign q c ++ signs q x ++ (q :: s) = sign q d ++ signs q y ++ (q :: t) := h
    rw [List.append_assoc, List.append_assoc] at h
    obtain ⟨e1, h2⟩ := sign_inj hq h
    subst e1
    obtain ⟨rfl, e⟩ := signs_inj hq hx.2 hy.2 h2
    exact ⟨rfl, e⟩
theorem str_inj {x y : Str} {s t : List Nat} (hx : niceD (.str x) = true) (hy : niceD (.str y) = true) (h : code (.str x) ++ s = code (.str y) ++ t) : x = y ∧ s = t := by
  rw [code_str hx, code_str hy] at h
  have e := (List.cons.inj h).1
  have h : (signs (reprQuote x) x.cps.toList ++ [reprQuote x]) ++ s = (signs (reprQuote y) y.cps.toList ++ [reprQuote y]) ++ t := (List.cons.inj h).2
  rw [← e] at h
  rw [List.append_assoc, List.append_assoc] at h
  unfold niceD at hx hy
  obtain ⟨a, b⟩ := signs_inj (quote_is x) hx hy h
  obtain ⟨⟨x⟩⟩ := x
  obtain ⟨⟨y⟩⟩ := y
  simp at a
  subst a
  exact ⟨rfl, b⟩
/-! tuples -/
def rest : List PyData → List Nat
  | [] => [41]
  | x :: r => 44 :: 32 :: (code x ++ rest r)
theorem stop_rest : ∀ (xs : List PyData) (s : List Nat), Stop (rest xs ++ s)
  | [], s => stop_41 s
  | x :: r, s => stop_44 _
theorem join_code : ∀ (x : PyData) (r : List PyData), (Str.join ", " (PyData.shownAll (x :: r))).cps.toList ++ [41] = code x ++ rest r
  | x, [] => rfl
  | x, y :: r => by
    show (x.shown ++ Str.ofString ", " ++ Str.join ", " (PyData.shownAll (y :: r))).cps.toList ++ [41] = _
    rw [show (x.shown ++ Str.ofString ", " ++ Str.join ", " (PyData.shownAll (y :: r))).cps = x.shown.cps ++ (Str.ofString ", ").cps ++ (Str.join ", " (PyData.shownAll (y :: r))).cps from rfl]
    rw [Array.toList_append, Array.toList_append, List.append_assoc, join_code y r]
    show x.shown.cps.toList ++ [44, 32] ++ _ = _
    rw [List.append_assoc]
    rfl
theorem code_tup0 : code (.tuple []) = [40, 41] := by
  show (PyData.shown (.tuple [])).cps.toList = _
  simp only [PyData.shown, PyData.shownAll]
  rfl
theorem code_tup1 (x : PyData) : code (.tuple [x]) = 40 :: (code x ++ [44, 41]) := by
  show (PyData.shown (.tuple [x])).cps.toList = _
  simp only [PyData.shown, PyData.shownAll]
  show ((Str.ofString "(" ++ x.shown) ++ Str.ofString ",)").cps.toList = _
  rw [show ((Str.ofString "(" ++ x.shown) ++ Str.ofString ",)").cps = (Str.ofString "(").cps ++ x.shown.cps ++ (Str.ofString ",)").cps from rfl]
  rw [Array.toList_append, Array.toList_append]
  rfl
theorem code_tup2 (x y : PyData) (r : List PyData) : code (.tuple (x :: y :: r)) = 40 :: (code x ++ rest (y :: r)) := by
  show (PyData.shown (.tuple (x :: y :: r))).cps.toList = _
  rw [← join_code]
  rw [show PyData.shown (.tuple (x :: y :: r)) = tupleText (PyData.shownAll (x :: y :: r)) by simp only [PyData.shown]]
  unfold tupleText
  have e : ((PyData.shownAll (x :: y :: r)).length == 1) = false := by
    simp only [PyData.shownAll, List.length_cons]
    simp
  rw [e]
  show (("(" : Str) ++ Str.join ", " (PyData.shownAll (x :: y :: r)) ++ (")" : Str)).cps.toList = _
  rw [show (("(" : Str) ++ Str.join ", " (PyData.shownAll (x :: y :: r)) ++ (")" : Str)).cps = (Str.ofString "(").cps ++ (Str.join ", " (PyData.shownAll (x :: y :: r))).cps ++ (Str.ofString ")").cps from rfl]
  rw [Array.toList_append, Array.toList_append]
  rfl
/-! what a value begins with -/
def kind : PyData → Nat
  | .none => 0
  | .bool true => 1
  | .bool false => 2
  | .int _ => 3
  | .str _ => 4
  | .tuple _ => 5
  | _ => 6
def kindC (c : Nat) : Nat := if c = 78 then 0 else if c = 84 then 1 else if c = 70 then 2 else if c = 45 ∨ (48 ≤ c ∧ c ≤ 57) then 3 else if c = 34 ∨ c = 39 then 4 else if c = 40 then 5 else 7
theorem code_none : code .none = [78, 111, 110, 101] := by
  show (PyData.shown .none).cps.toList = _
  rw [PyData.shown_none]; rfl
theorem code_true : code (.bool true) = [84, 114, 117, 101] := by
  show (PyData.shown (.bool true)).cps.toList = _
  simp only [PyData.shown]; rfl
theorem code_false : code (.bool false) = [70, 97, 108, 115, 101] := by
  show (PyData.shown (.bool false)).cps.toList = _
  simp only [PyData.shown]; rfl
theorem head_kind : ∀ {x : PyData}, niceD x = true → ∃ c r, code x = c :: r ∧ kindC c = kind x
  | .none, _ => ⟨_, _, code_none, rfl⟩
  | .bool true, _ => ⟨_, _, code_true, rfl⟩
  | .bool false, _ => ⟨_, _, code_false, rfl⟩
  | .int (.ofNat n), _ => by
    rw [show Int.ofNat n = (n : Int) from rfl, code_nat]
    cases hd : digs n with
    | nil => exact absurd hd (digs_ne n)
    | cons x xs =>
      have := digs_digit (n := n) (c := x) (by rw [hd]; exact List.mem_cons_self)
      refine ⟨_, _, rfl, ?_⟩
      unfold kindC kind
      rw [if_neg (by omega), if_neg (by omega), if_neg (by omega), if_pos (by omega)]
  | .int (.negSucc n), _ => ⟨_, _, code_neg n, rfl⟩
  | .str x, h => by
    refine ⟨_, _, code_str h, ?_⟩
    rcases quote_is x with e | e <;> rw [e] <;> rfl
  | .tuple [], _ => ⟨_, _, code_tup0, rfl⟩
  | .tuple [x], _ => ⟨_, _, code_tup1 x, rfl⟩
  | .tuple (x :: y :: r), _ => ⟨_, _, code_tup2 x y r, rfl⟩
  | .list _, h => by unfold niceD at h; cases h
  | .dict _, h => by unfold niceD at h; cases h
theorem kind_eq {x y : PyData} {s t : List Nat} (hx : niceD x = true) (hy : niceD y = true) (h : code x ++ s = code y ++ t) : kind x = kind y := by
  obtain ⟨c, r, e1, k1⟩ := head_kind hx
  obtain ⟨d, u, e2, k2⟩ := head_kind hy
  rw [e1, e2] at h
  have := (List.cons.inj h).1
  rw [← k1, ← k2, this]
theorem not_41 {y : PyData} (hy : niceD y = true) {s t : List Nat} : 41 :: s ≠ code y ++ t := fun h => by
  obtain ⟨d, u, e2, k2⟩ := head_kind hy
  rw [e2] at h
  have e := (List.cons.inj h).1
  rw [← e] at k2
  have : kindC 41 = 7 := rfl
  rw [this] at k2
  cases y with
  | bool b => cases b <;> cases k2
  | _ => cases k2
mutual
theorem code_inj : ∀ {x y : PyData} {s t : List Nat}, niceD x = true → niceD y = true → Stop s → Stop t → code x ++ s = code y ++ t → x = y ∧ s = t
  | .none, y, s, t, hx, hy, hs, ht, h => by
    have k := kind_eq hx hy h
    cases y with
    | none => exact ⟨rfl, List.append_cancel_left h⟩
    | bool b => cases b <;> cases k
    | _ => cases k
  | .bool true, y, s, t, hx, hy, hs, ht, h => by
    have k := kind_eq hx hy h
    cases y with
    | bool b =>
      cases b with
      | true => exact ⟨rfl, List.append_cancel_left h⟩
      | false => cases k
    | _ => cases k
  | .bool false, y, s, t, hx, hy, hs, ht, h => by
    have k := kind_eq hx hy h
    cases y with
    | bool b =>
      cases b with
      | false => exact ⟨rfl, List.append_cancel_left h⟩
      | true => cases k
    | _ => cases k
  | .int i, y, s, t, hx, hy, hs, ht, h => by
    have k := kind_eq hx hy h
    cases y with
    | int j =>
      obtain ⟨e, e2⟩ := int_inj hs ht h
      exact ⟨by rw [e], e2⟩
    | bool b => cases b <;> cases k
    | _ => cases k
  | .str x, y, s, t, hx, hy, hs, ht, h => by
    have k := kind_eq hx hy h
    cases y with
    | str j =>
      obtain ⟨e, e2⟩ := str_inj hx hy h
      exact ⟨by rw [e], e2⟩
    | bool b => cases b <;> cases k
    | _ => cases k
  | .tuple xs, y, s, t, hx, hy, hs, ht, h => by
    have k := kind_eq hx hy h
    cases y with
    | tuple ys =>
      unfold niceD at hx hy
      match xs, ys with
      | [], [] => exact ⟨rfl, List.append_cancel_left h⟩
      | [], y :: ys =>
        unfold niceDs at hy
        rw [Bool.and_eq_true] at hy
        rw [code_tup0] at h
        cases ys with
        | nil =>
          rw [code_tup1] at h
          have h : 41 :: s = (code y ++ [44, 41]) ++ t := (List.cons.inj h).2
          rw [List.append_assoc] at h
          exact absurd h (not_41 hy.1)
        | cons z ys =>
          rw [code_tup2] at h
          have h : 41 :: s = (code y ++ rest (z :: ys)) ++ t := (List.cons.inj h).2
          rw [List.append_assoc] at h
          exact absurd h (not_41 hy.1)
      | x :: xs, [] =>
        unfold niceDs at hx
        rw [Bool.and_eq_true] at hx
        rw [code_tup0] at h
        cases xs with
        | nil =>
          rw [code_tup1] at h
          have h : (code x ++ [44, 41]) ++ s = 41 :: t := (List.cons.inj h).2
          rw [List.append_assoc] at h
          exact absurd h.symm (not_41 hx.1)
        | cons z ys =>
          rw [code_tup2] at h
          have h : (code x ++ rest (z :: ys)) ++ s = 41 :: t := (List.cons.inj h).2
          rw [List.append_assoc] at h
          exact absurd h.symm (not_41 hx.1)
      | [x], [y] =>
        unfold niceDs at hx hy
        rw [Bool.and_eq_true] at hx hy
        rw [code_tup1, code_tup1] at h
        have h : (code x ++ [44, 41]) ++ s = (code y ++ [44, 41]) ++ t := (List.cons.inj h).2
        rw [List.append_assoc, List.append_assoc] at h
        obtain ⟨rfl, e⟩ := code_inj hx.1 hy.1 (stop_44 _) (stop_44 _) h
        exact ⟨rfl, (List.cons.inj (List.cons.inj e).2).2⟩
      | [x], y :: z :: ys =>
        unfold niceDs at hx hy
        rw [Bool.and_eq_true] at hx hy
        rw [code_tup1, code_tup2] at h
        have h : (code x ++ [44, 41]) ++ s = (code y ++ rest (z :: ys)) ++ t := (List.cons.inj h).2
        rw [List.append_assoc, List.append_assoc] at h
        obtain ⟨rfl, e⟩ := code_inj hx.1 hy.1 (stop_44 _) (stop_rest _ _) h
        exact absurd (List.cons.inj (List.cons.inj e).2).1 (by decide)
      | x :: z :: xs, [y] =>
        unfold niceDs at hx hy
        rw [Bool.and_eq_true] at hx hy
        rw [code_tup2, code_tup1] at h
        have h : (code x ++ rest (z :: xs)) ++ s = (code y ++ [44, 41]) ++ t := (List.cons.inj h).2
        rw [List.append_assoc, List.append_assoc] at h
        obtain ⟨rfl, e⟩ := code_inj hx.1 hy.1 (stop_rest _ _) (stop_44 _) h
        exact absurd (List.cons.inj (List.cons.inj e).2).1 (by decide)
      | x :: z :: xs, y :: z' :: ys =>
        unfold niceDs at hx hy
        rw [Bool.and_eq_true] at hx hy
        rw [code_tup2, code_tup2] at h
        have h : (code x ++ rest (z :: xs)) ++ s = (code y ++ rest (z' :: ys)) ++ t := (List.cons.inj h).2
        rw [List.append_assoc, List.append_assoc] at h
        obtain ⟨rfl, e⟩ := code_inj hx.1 hy.1 (stop_rest _ _) (stop_rest _ _) h
        obtain ⟨e1, e2⟩ := rest_inj hx.2 hy.2 e
        exact ⟨by rw [e1], e2⟩
    | bool b => cases b <;> cases k
    | _ => cases k
  | .list _, _, _, _, h, _, _, _, _ => by unfold niceD at h; cases h
  | .dict _, _, _, _, h, _, _, _, _ => by unfold niceD at h; cases h
theorem rest_inj : ∀ {xs ys : List PyData} {s t : List Nat}, niceDs xs = true → niceDs ys = true → rest xs ++ s = rest ys ++ t → xs = ys ∧ s = t
  | [], [], s, t, _, _, h => ⟨rfl, (List.cons.inj h).2⟩
  | [], y :: ys, s, t, _, _, h => absurd (List.cons.inj h).1 (by decide)
  | x :: xs, [], s, t, _, _, h => absurd (List.cons.inj h).1 (by decide)
  | x :: xs, y :: ys, s, t, hx, hy, h => by
    unfold niceDs at hx hy
    rw [Bool.and_eq_true] at hx hy
    have h : 44 :: 32 :: (code x ++ rest xs) ++ s = 44 :: 32 :: (code y ++ rest ys) ++ t := h
    have h := (List.cons.inj (List.cons.inj h).2).2
    have h : (code x ++ rest xs) ++ s = (code y ++ rest ys) ++ t := h
    rw [List.append_assoc, List.append_assoc] at h
    obtain ⟨rfl, e⟩ := code_inj hx.1 hy.1 (stop_rest _ _) (stop_rest _ _) h
    obtain ⟨e1, e2⟩ := rest_inj hx.2 hy.2 e
    exact ⟨by rw [e1], e2⟩
end
theorem shown_inj {x y : PyData} (hx : niceD x = true) (hy : niceD y = true) : x.shown = y.shown ↔ x = y := by
  constructor
  · intro h
    exact (code_inj (s := []) (t := []) hx hy stop_nil stop_nil (by rw [show code x = code y from by unfold code; rw [h]])).1
  · rintro rfl; rfl
end ZS

namespace ZL
open PySem PySem.Spec PyProof.Rows L2
/-! ### repr of a value -/
theorem shw_int {i : Int} (h : i.natAbs < 1000000000000000000000000000000000000000000000000000000000000) : (PyData.int i).showable = true ∧ (PyData.int i).shown.length ≤ 62 := by
  constructor
  · unfold PyData.showable
    have : i.natAbs.log2 < 1920 := by
      rcases Nat.eq_zero_or_pos i.natAbs with e | e
      · rw [e]; decide
      · exact (Nat.log2_lt (by omega)).mpr (Nat.lt_trans h (by decide +kernel))
    simpa using this
  · exact Nat.le_trans (ZS.int_len (k := 60) (by decide) (Nat.lt_of_lt_of_le h (by decide +kernel))) (by decide)
mutual
/-- no text of repr is longer -/
def tlenZ : Z → Nat
  | .non => 4
  | .bl _ => 5
  | .int _ => 62
  | .str x => 10 * x.length + 2
  | .tup zs => tlenZs zs + 3
  | _ => 0
def tlenZs : List Z → Nat
  | [] => 0
  | z :: zs => tlenZ z + 2 + tlenZs zs
end
mutual
theorem shown_plain : ∀ {d : Nat} {z : Z}, plainB d z = true → okS z = true → z.toD.showable = true ∧ z.toD.shown.length ≤ tlenZ z
  | d, .non, _, _ => ⟨rfl, by decide +kernel⟩
  | d, .bl b, _, _ => ⟨rfl, by cases b <;> decide +kernel⟩
  | d, .int i, p, _ => by
    rw [pl_int] at p
    exact shw_int (of_decide_eq_true p)
  | d, .str x, _, s => by
    unfold okS at s
    have s := (Bool.and_eq_true_iff.mp s).1
    refine ⟨rfl, ?_⟩
    show (PyData.str x).shown.length ≤ 10 * x.length + 2
    rw [PyData.shown_str]
    refine StrLaws.reprText_len x fun c hc => ?_
    unfold PyData.strOk at s
    rw [Array.all_eq_true_iff_forall_mem] at s
    have := s c (by simpa using hc)
    simp only [decide_eq_true_eq] at this
    omega
  | d, .scr _, p, _ => by rw [pl_scr] at p; cases p
  | d, .ref _, p, _ => by rw [pl_ref] at p; cases p
  | d, .err _, p, _ => by cases d <;> cases p
  | 0, .tup zs, p, _ => by cases p
  | d + 1, .tup zs, p, s => by
    unfold plainB at p
    unfold okS at s
    obtain ⟨a, b⟩ := showns_plain p s
    show PyData.showable (.tuple (Z.toDs zs)) = true ∧ (PyData.tuple (Z.toDs zs)).shown.length ≤ tlenZs zs + 3
    refine ⟨by unfold PyData.showable; exact a, ?_⟩
    unfold PyData.shown
    have := tupleText_len_le (PyData.shownAll (Z.toDs zs))
    have e := PyData.shownAll_length (Z.toDs zs)
    omega
theorem showns_plain : ∀ {d : Nat} {zs : List Z}, plainBs d zs = true → okSs zs = true → PyData.showableAll (Z.toDs zs) = true ∧ ((PyData.shownAll (Z.toDs zs)).map (·.length)).sum + 2 * (Z.toDs zs).length ≤ tlenZs zs
  | d, [], _, _ => ⟨rfl, by simp [Z.toDs, PyData.shownAll, tlenZs]⟩
  | d, z :: zs, p, s => by
    unfold plainBs at p
    unfold okSs at s
    obtain ⟨p1, p2⟩ := Bool.and_eq_true_iff.mp p
    obtain ⟨s1, s2⟩ := Bool.and_eq_true_iff.mp s
    obtain ⟨a1, b1⟩ := shown_plain p1 s1
    obtain ⟨a2, b2⟩ := showns_plain p2 s2
    unfold Z.toDs PyData.showableAll PyData.shownAll tlenZs
    rw [a1, a2]
    refine ⟨rfl, ?_⟩
    simp only [List.map_cons, List.sum_cons, List.length_cons]
    omega
end
/-- the text of repr -/
def shw (z : Z) : Str := z.toD.shown
theorem repr_plain {d : Nat} {z : Z} {h : ZH} (p : plainB d z = true) (s : okS z = true) (hd : d ≤ 60) (l : tlenZ z ≤ 16777216) {P : PZ} (q : P (.str (shw z)) h) : oRepr [z] h P := by
  obtain ⟨a, b⟩ := plain_ok p s
  obtain ⟨c, e⟩ := shown_plain p s
  have f := dOf_ok (h := h) a
  refine ⟨okD_of a (by omega), ?_⟩
  rw [f]
  refine ⟨c, PyData.hasDict_of_canLay _ (lay_of a).1, ?_, q⟩
  rw [sizeLine_eq]; omega
/-- .. of a list of such -/
theorem repr_lst {d n : Nat} {zs : List Z} {h : ZH} (e : h[n]? = some (.lst zs)) (p : zs.all (plainB d) = true) (s : zs.all okS = true) (hd : d ≤ 60) (l : tlenZs zs + 3 ≤ 16777216) {P : PZ} (q : P (.str (PyData.shown (.list (zs.map Z.toD)))) h) : oRepr [.ref n] h P := by
  have o : OkL zs := fun z hz => by
    rw [List.all_eq_true] at p s
    obtain ⟨a, b⟩ := plain_ok (p z hz) (s z hz)
    exact ⟨a, by omega⟩
  rw [← plainBs_all] at p
  rw [← okSs_all] at s
  obtain ⟨a, b⟩ := showns_plain p s
  have f := dOf_lst e o
  refine ⟨okD_lst e o, ?_⟩
  rw [f]
  obtain ⟨o1, _⟩ := okL_all o
  obtain ⟨c, _⟩ := lays_of o1
  rw [toDs_map] at a b c
  refine ⟨by unfold PyData.showable; exact a, ?_, ?_, q⟩
  · unfold PyData.hasDict
    exact PyData.hasDictAll_of_canLayAll _ c
  · unfold PyData.shown
    have := listText_len_le (PyData.shownAll (zs.map Z.toD))
    have e := PyData.shownAll_length (zs.map Z.toD)
    rw [sizeLine_eq]
    omega
/-! ### repr tells apart -/
mutual
def niceZ : Z → Bool
  | .non => true
  | .bl _ => true
  | .int _ => true
  | .str x => x.cps.toList.all ZS.niceC
  | .tup zs => niceZs zs
  | _ => false
def niceZs : List Z → Bool
  | [] => true
  | z :: zs => niceZ z && niceZs zs
end
theorem niceZs_all : ∀ {zs : List Z}, niceZs zs = zs.all niceZ
  | [] => by unfold niceZs; rfl
  | z :: zs => by unfold niceZs; rw [niceZs_all]; rfl
mutual
theorem nice_toD : ∀ {z : Z}, niceZ z = true → ZS.niceD z.toD = true
  | .non, _ => by unfold Z.toD ZS.niceD; rfl
  | .bl _, _ => by unfold Z.toD ZS.niceD; rfl
  | .int _, _ => by unfold Z.toD ZS.niceD; rfl
  | .str x, h => by unfold Z.toD ZS.niceD; unfold niceZ at h; exact h
  | .tup zs, h => by
    unfold Z.toD ZS.niceD
    unfold niceZ at h
    exact nices_toD h
  | .scr _, h => by unfold niceZ at h; cases h
  | .ref _, h => by unfold niceZ at h; cases h
  | .err _, h => by unfold niceZ at h; cases h
theorem nices_toD : ∀ {zs : List Z}, niceZs zs = true → ZS.niceDs (Z.toDs zs) = true
  | [], _ => by unfold Z.toDs ZS.niceDs; rfl
  | z :: zs, h => by
    unfold Z.toDs ZS.niceDs
    unfold niceZs at h
    obtain ⟨a, b⟩ := Bool.and_eq_true_iff.mp h
    rw [nice_toD a, nices_toD b]
    rfl
end
mutual
theorem toD_inj : ∀ {x y : Z}, niceZ x = true → niceZ y = true → x.toD = y.toD → x = y
  | .non, y, _, hy, h => by cases y <;> unfold Z.toD at h <;> first | rfl | cases h | (unfold niceZ at hy; cases hy)
  | .bl _, y, _, hy, h => by cases y <;> unfold Z.toD at h <;> first | (cases h; rfl) | cases h | (unfold niceZ at hy; cases hy)
  | .int _, y, _, hy, h => by cases y <;> unfold Z.toD at h <;> first | (cases h; rfl) | cases h | (unfold niceZ at hy; cases hy)
  | .str _, y, _, hy, h => by cases y <;> unfold Z.toD at h <;> first | (cases h; rfl) | cases h | (unfold niceZ at hy; cases hy)
  | .tup xs, y, hx, hy, h => by
    cases y with
    | tup ys =>
      unfold Z.toD at h
      unfold niceZ at hx hy
      rw [toDs_inj hx hy (PyData.tuple.inj h)]
    | scr _ => unfold niceZ at hy; cases hy
    | ref _ => unfold niceZ at hy; cases hy
    | err _ => unfold niceZ at hy; cases hy
    | _ => unfold Z.toD at h; cases h
  | .scr _, _, h, _, _ => by unfold niceZ at h; cases h
  | .ref _, _, h, _, _ => by unfold niceZ at h; cases h
  | .err _, _, h, _, _ => by unfold niceZ at h; cases h
theorem toDs_inj : ∀ {xs ys : List Z}, niceZs xs = true → niceZs ys = true → Z.toDs xs = Z.toDs ys → xs = ys
  | [], [], _, _, _ => rfl
  | [], _ :: _, _, _, h => by unfold Z.toDs at h; cases h
  | _ :: _, [], _, _, h => by unfold Z.toDs at h; cases h
  | x :: xs, y :: ys, hx, hy, h => by
    unfold Z.toDs at h
    unfold niceZs at hx hy
    obtain ⟨a1, a2⟩ := Bool.and_eq_true_iff.mp hx
    obtain ⟨b1, b2⟩ := Bool.and_eq_true_iff.mp hy
    obtain ⟨e1, e2⟩ := List.cons.inj h
    rw [toD_inj a1 b1 e1, toDs_inj a2 b2 e2]
end
theorem shw_inj {x y : Z} (hx : niceZ x = true) (hy : niceZ y = true) : shw x = shw y ↔ x = y := by
  constructor
  · intro h
    exact toD_inj hx hy ((ZS.shown_inj (nice_toD hx) (nice_toD hy)).mp h)
  · rintro rfl; rfl
end ZL

namespace ZF
open PySem PySem.Spec PyProof.Rows L2 ZL
def w_is_plain : WS := (wsRet (wCall 2 fWithin (wCons (wVar 0) (wCons (wC (.int 30)) wNil))))
def f_is_plain : WF := wfOf 1 w_is_plain
def w_is_count : WS := (wsRet (wAndV (wIsi .int [] (wVar 0)) (wAndV (wNotV (wIsi .bool [] (wVar 0))) (wChain oLe oLe (wVar 1) (wVar 0) (wVar 2)))))
def f_is_count : WF := wfOf 3 w_is_count
def w_is_row_of : WS := (wsRet (wAndV (wIsi .tuple [] (wVar 0)) (wChain oLe oLe (wVar 1) (wCB oLen (wCons (wVar 0) wNil)) (wVar 2))))
def f_is_row_of : WF := wfOf 3 w_is_row_of
def w_is_name : WS := (wsSeq (wsIf (wOr (wNot (wTru (wIsi .str [] (wVar 0)))) (wNot (wB (wChain oLe oLe (wC (.int 1)) (wCB oLen (wCons (wVar 0) wNil)) (wC (.int 12)))))) (wsRet (wC (.bl false))) wsNext) (wsRet (w2 oEq (wLc (iVal (wVar 0)) (.nm 1) (wNot (wB (wChain oLe oLe (wC (.str "a")) (wVar 1) (wC (.str "z"))))) (wVar 1) [1]) (wLst wNil))))
def f_is_name : WF := wfOf 2 w_is_name
def w_is_value : WS := (wsSeq (wsIf (wTru (wIsi .str [] (wVar 0))) (wsSeq (wsSet 1 (wLc (iVal (wVar 0)) (.nm 2) (wOr (wNot (wB (wChain oLe oLe (wC (.int 32)) (wCB oOrd (wCons (wVar 2) wNil)) (wC (.int 126))))) (wB (w2 oEq (wCB oOrd (wCons (wVar 2) wNil)) (wC (.int 37))))) (wVar 2) [2])) (wsRet (wAndV (w2 oLe (wCB oLen (wCons (wVar 0) wNil)) (wC (.int 40))) (w2 oEq (wVar 1) (wLst wNil))))) wsNext) (wsRet (wCall 3 f_is_count (wCons (wVar 0) (wCons (w2 oSub (wC (.int 1)) (wC (.int 1000000000000000000000000000000))) (wCons (w2 oSub (wC (.int 1000000000000000000000000000000)) (wC (.int 1))) wNil))))))
def f_is_value : WF := wfOf 3 w_is_value
def w_is_operand : WS := (wsSeq (wsIf (wAnd (wTru (wCall 3 f_is_row_of (wCons (wVar 0) (wCons (wC (.int 2)) (wCons (wC (.int 2)) wNil))))) (wB (w2 oEq (w2 oIx (wVar 0) (wC (.int 0))) (wC (.str "value"))))) (wsRet (wCall 1 f_is_value (wCons (w2 oIx (wVar 0) (wC (.int 1))) wNil))) wsNext) (wsRet (wAndV (wCall 3 f_is_row_of (wCons (wVar 0) (wCons (wC (.int 3)) (wCons (wC (.int 3)) wNil)))) (wAndV (w2 oEq (w2 oIx (wVar 0) (wC (.int 0))) (wC (.str "column"))) (wAndV (wCall 1 f_is_name (wCons (w2 oIx (wVar 0) (wC (.int 1))) wNil)) (wCall 3 f_is_count (wCons (w2 oIx (wVar 0) (wC (.int 2))) (wCons (wC (.int 0)) (wCons (wC (.int 4)) wNil)))))))))
def f_is_operand : WF := wfOf 1 w_is_operand
def w_is_condition : WS := (wsSeq (wsIf (wOr (wNot (wTru (wCall 3 f_is_row_of (wCons (wVar 0) (wCons (wC (.int 3)) (wCons (wC (.int 3)) wNil)))))) (wB (w2 oNotIn (w2 oIx (wVar 0) (wC (.int 0))) (wC (.tup (List.map Z.str ["=", "<>", "<", "<="])))))) (wsRet (wC (.bl false))) wsNext) (wsRet (wAndV (wCall 1 f_is_operand (wCons (w2 oIx (wVar 0) (wC (.int 1))) wNil)) (wCall 1 f_is_operand (wCons (w2 oIx (wVar 0) (wC (.int 2))) wNil)))))
def f_is_condition : WF := wfOf 1 w_is_condition
def w_are_conditions : WS := (wsRet (wAndV (wCall 3 f_is_row_of (wCons (wVar 0) (wCons (wC (.int 0)) (wCons (wC (.int 6)) wNil)))) (w2 oEq (wLc (iVal (wVar 0)) (.nm 1) (wNot (wTru (wCall 1 f_is_condition (wCons (wVar 1) wNil)))) (wVar 1) [1]) (wLst wNil))))
def f_are_conditions : WF := wfOf 2 w_are_conditions
def w_is_setting : WS := (wsSeq (wsIf (wOr (wNot (wTru (wCall 3 f_is_row_of (wCons (wVar 0) (wCons (wC (.int 2)) (wCons (wC (.int 2)) wNil)))))) (wOr (wNot (wTru (wCall 3 f_is_count (wCons (w2 oIx (wVar 0) (wC (.int 0))) (wCons (wC (.int 0)) (wCons (wC (.int 4)) wNil)))))) (wNot (wTru (wCall 3 f_is_row_of (wCons (w2 oIx (wVar 0) (wC (.int 1))) (wCons (wC (.int 2)) (wCons (wC (.int 2)) wNil)))))))) (wsRet (wC (.bl false))) wsNext) (wsSeq (wsAsg (w2 oIx (wVar 0) (wC (.int 1))) (wgTup 2 (wgCons (wgName 1) (wgCons (wgName 2) wgNil)))) (wsSeq (wsIf (wB (w2 oEq (wVar 1) (wC (.str "value")))) (wsRet (wCall 1 f_is_value (wCons (wVar 2) wNil))) wsNext) (wsSeq (wsIf (wB (w2 oEq (wVar 1) (wC (.str "plus")))) (wsRet (wAndV (wCall 1 f_is_value (wCons (wVar 2) wNil)) (wNotV (wIsi .str [] (wVar 2))))) wsNext) (wsRet (wAndV (w2 oEq (wVar 1) (wC (.str "column"))) (wCall 3 f_is_count (wCons (wVar 2) (wCons (wC (.int 0)) (wCons (wC (.int 4)) wNil))))))))))
def f_is_setting : WF := wfOf 3 w_is_setting
def w_are_settings : WS := (wsRet (wAndV (wCall 3 f_is_row_of (wCons (wVar 0) (wCons (wC (.int 1)) (wCons (wC (.int 5)) wNil)))) (w2 oEq (wLc (iVal (wVar 0)) (.nm 1) (wNot (wTru (wCall 1 f_is_setting (wCons (wVar 1) wNil)))) (wVar 1) [1]) (wLst wNil))))
def f_are_settings : WF := wfOf 2 w_are_settings
def w_is_source : WS := (wsRet (wAndV (wCall 3 f_is_row_of (wCons (wVar 0) (wCons (wC (.int 2)) (wCons (wC (.int 2)) wNil)))) (wAndV (wCall 1 f_is_name (wCons (w2 oIx (wVar 0) (wC (.int 0))) wNil)) (wCall 1 f_is_name (wCons (w2 oIx (wVar 0) (wC (.int 1))) wNil)))))
def f_is_source : WF := wfOf 1 w_is_source
def w_is_output : WS := (wsSeq (wsIf (wB (w2 oEq (wVar 0) (wTup (wCons (wC (.str "count")) wNil)))) (wsRet (wC (.bl true))) wsNext) (wsSeq (wsIf (wNot (wTru (wCall 3 f_is_row_of (wCons (wVar 0) (wCons (wC (.int 2)) (wCons (wC (.int 2)) wNil)))))) (wsRet (wC (.bl false))) wsNext) (wsSeq (wsIf (wB (w2 oEq (w2 oIx (wVar 0) (wC (.int 0))) (wC (.str "sum")))) (wsRet (wCall 1 f_is_operand (wCons (w2 oIx (wVar 0) (wC (.int 1))) wNil))) wsNext) (wsSeq (wsIf (wOr (wB (w2 oNe (w2 oIx (wVar 0) (wC (.int 0))) (wC (.str "rows")))) (wNot (wTru (wCall 3 f_is_row_of (wCons (w2 oIx (wVar 0) (wC (.int 1))) (wCons (wC (.int 1)) (wCons (wC (.int 6)) wNil))))))) (wsRet (wC (.bl false))) wsNext) (wsRet (w2 oEq (wLc (iVal (w2 oIx (wVar 0) (wC (.int 1)))) (.nm 1) (wNot (wTru (wCall 1 f_is_operand (wCons (wVar 1) wNil)))) (wVar 1) [1]) (wLst wNil)))))))
def f_is_output : WF := wfOf 2 w_is_output
def w_is_create : WS := (wsSeq (wsIf (wOr (wB (w2 oNe (wCB oLen (wCons (wVar 0) wNil)) (wC (.int 4)))) (wOr (wNot (wTru (wCall 1 f_is_name (wCons (w2 oIx (wVar 0) (wC (.int 1))) wNil)))) (wNot (wTru (wCall 3 f_is_row_of (wCons (w2 oIx (wVar 0) (wC (.int 2))) (wCons (wC (.int 1)) (wCons (wC (.int 5)) wNil)))))))) (wsRet (wC (.bl false))) wsNext) (wsSeq (wsSet 1 (wLc (iVal (w2 oIx (wVar 0) (wC (.int 2)))) (.nm 2) (wB (w2 oNotIn (wVar 2) (wTup (wCons (wC (.str "integer")) (wCons (wC (.str "text")) wNil))))) (wVar 2) [2])) (wsRet (wAndV (w2 oEq (wVar 1) (wLst wNil)) (wCall 3 f_is_count (wCons (w2 oIx (wVar 0) (wC (.int 3))) (wCons (wC (.int 1)) (wCons (wCB oLen (wCons (w2 oIx (wVar 0) (wC (.int 2))) wNil)) wNil))))))))
def f_is_create : WF := wfOf 3 w_is_create
def w_is_insert : WS := (wsSeq (wsIf (wOr (wB (w2 oNe (wCB oLen (wCons (wVar 0) wNil)) (wC (.int 3)))) (wOr (wNot (wTru (wCall 1 f_is_name (wCons (w2 oIx (wVar 0) (wC (.int 1))) wNil)))) (wNot (wTru (wCall 3 f_is_row_of (wCons (w2 oIx (wVar 0) (wC (.int 2))) (wCons (wC (.int 1)) (wCons (wC (.int 5)) wNil)))))))) (wsRet (wC (.bl false))) wsNext) (wsRet (w2 oEq (wLc (iVal (w2 oIx (wVar 0) (wC (.int 2)))) (.nm 1) (wNot (wTru (wCall 1 f_is_value (wCons (wVar 1) wNil)))) (wVar 1) [1]) (wLst wNil))))
def f_is_insert : WF := wfOf 2 w_is_insert
def w_is_select : WS := (wsSeq (wsIf (wOr (wB (w2 oNe (wCB oLen (wCons (wVar 0) wNil)) (wC (.int 4)))) (wOr (wNot (wTru (wCall 1 f_is_output (wCons (w2 oIx (wVar 0) (wC (.int 1))) wNil)))) (wNot (wTru (wCall 3 f_is_row_of (wCons (w2 oIx (wVar 0) (wC (.int 2))) (wCons (wC (.int 1)) (wCons (wC (.int 2)) wNil)))))))) (wsRet (wC (.bl false))) wsNext) (wsRet (wAndV (w2 oEq (wLc (iVal (w2 oIx (wVar 0) (wC (.int 2)))) (.nm 1) (wNot (wTru (wCall 1 f_is_source (wCons (wVar 1) wNil)))) (wVar 1) [1]) (wLst wNil)) (wCall 1 f_are_conditions (wCons (w2 oIx (wVar 0) (wC (.int 3))) wNil)))))
def f_is_select : WF := wfOf 2 w_is_select
def w_is_statement : WS := (wsSeq (wsIf (wOr (wNot (wTru (wCall 1 f_is_plain (wCons (wVar 0) wNil)))) (wOr (wNot (wTru (wIsi .tuple [] (wVar 0)))) (wOr (wB (w2 oLt (wCB oLen (wCons (wVar 0) wNil)) (wC (.int 2)))) (wNot (wTru (wIsi .str [] (w2 oIx (wVar 0) (wC (.int 0))))))))) (wsRet (wC (.bl false))) wsNext) (wsSeq (wsSet 1 (w2 oIx (wVar 0) (wC (.int 0)))) (wsSeq (wsIf (wB (w2 oEq (wVar 1) (wC (.str "create")))) (wsRet (wCall 1 f_is_create (wCons (wVar 0) wNil))) wsNext) (wsSeq (wsIf (wB (w2 oEq (wVar 1) (wC (.str "drop")))) (wsRet (wAndV (w2 oEq (wCB oLen (wCons (wVar 0) wNil)) (wC (.int 2))) (wCall 1 f_is_name (wCons (w2 oIx (wVar 0) (wC (.int 1))) wNil)))) wsNext) (wsSeq (wsIf (wB (w2 oEq (wVar 1) (wC (.str "insert")))) (wsRet (wCall 1 f_is_insert (wCons (wVar 0) wNil))) wsNext) (wsSeq (wsIf (wB (w2 oEq (wVar 1) (wC (.str "delete")))) (wsRet (wAndV (w2 oEq (wCB oLen (wCons (wVar 0) wNil)) (wC (.int 3))) (wAndV (wCall 1 f_is_name (wCons (w2 oIx (wVar 0) (wC (.int 1))) wNil)) (wCall 1 f_are_conditions (wCons (w2 oIx (wVar 0) (wC (.int 2))) wNil))))) wsNext) (wsSeq (wsIf (wB (w2 oEq (wVar 1) (wC (.str "update")))) (wsRet (wAndV (w2 oEq (wCB oLen (wCons (wVar 0) wNil)) (wC (.int 4))) (wAndV (wCall 1 f_is_name (wCons (w2 oIx (wVar 0) (wC (.int 1))) wNil)) (wAndV (wCall 1 f_are_settings (wCons (w2 oIx (wVar 0) (wC (.int 2))) wNil)) (wCall 1 f_are_conditions (wCons (w2 oIx (wVar 0) (wC (.int 3))) wNil)))))) wsNext) (wsSeq (wsIf (wB (w2 oEq (wVar 1) (wC (.str "select")))) (wsRet (wCall 1 f_is_select (wCons (wVar 0) wNil))) wsNext) (wsRet (wAndV (w2 oEq (wVar 1) (wC (.str "replace"))) (wAndV (w2 oEq (wCB oLen (wCons (wVar 0) wNil)) (wC (.int 3))) (wAndV (wCall 3 f_is_count (wCons (w2 oIx (wVar 0) (wC (.int 1))) (wCons (wC (.int 0)) (wCons (wC (.int 9)) wNil)))) (wCall 3 f_is_count (wCons (w2 oIx (wVar 0) (wC (.int 2))) (wCons (wC (.int 1)) (wCons (wC (.int 999)) wNil))))))))))))))))
def f_is_statement : WF := wfOf 2 w_is_statement
end ZF

namespace ZF
open PySem PySem.Spec PyProof.Rows L2 ZL
/-! ### what the forms are -/
def countB (lo hi : Int) : Z → Bool
  | .int i => decide (lo ≤ i) && decide (i ≤ hi)
  | _ => false
def rowB (lo hi : Int) : Z → Bool
  | .tup zs => decide (lo ≤ (zs.length : Int)) && decide ((zs.length : Int) ≤ hi)
  | _ => false
def letB (c : Nat) : Bool := decide (97 ≤ c) && decide (c ≤ 122)
def sgnB (c : Nat) : Bool := decide (32 ≤ c) && decide (c ≤ 126) && !decide (c = 37)
def nameB : Z → Bool
  | .str x => decide (1 ≤ x.length) && decide (x.length ≤ 12) && x.cps.toList.all letB
  | _ => false
abbrev most : Int := 1000000000000000000000000000000
def valueB : Z → Bool
  | .str x => decide (x.length ≤ 40) && x.cps.toList.all sgnB
  | .int i => decide (1 - most ≤ i) && decide (i ≤ most - 1)
  | _ => false
def wordB (w : Str) : Z → Bool
  | .str x => decide (x = w)
  | _ => false
section
variable {lo hi i : Int} {b : Bool} {x w : Str} {zs : List Z}
@[simp] theorem c_int : countB lo hi (.int i) = (decide (lo ≤ i) && decide (i ≤ hi)) := rfl
@[simp] theorem c_non : countB lo hi .non = false := rfl
@[simp] theorem c_bl : countB lo hi (.bl b) = false := rfl
@[simp] theorem c_str : countB lo hi (.str x) = false := rfl
@[simp] theorem c_tup : countB lo hi (.tup zs) = false := rfl
@[simp] theorem r_tup : rowB lo hi (.tup zs) = (decide (lo ≤ (zs.length : Int)) && decide ((zs.length : Int) ≤ hi)) := rfl
@[simp] theorem r_non : rowB lo hi .non = false := rfl
@[simp] theorem r_bl : rowB lo hi (.bl b) = false := rfl
@[simp] theorem r_str : rowB lo hi (.str x) = false := rfl
@[simp] theorem r_int : rowB lo hi (.int i) = false := rfl
@[simp] theorem n_str : nameB (.str x) = (decide (1 ≤ x.length) && decide (x.length ≤ 12) && x.cps.toList.all letB) := rfl
@[simp] theorem n_non : nameB .non = false := rfl
@[simp] theorem n_bl : nameB (.bl b) = false := rfl
@[simp] theorem n_int : nameB (.int i) = false := rfl
@[simp] theorem n_tup : nameB (.tup zs) = false := rfl
@[simp] theorem v_str : valueB (.str x) = (decide (x.length ≤ 40) && x.cps.toList.all sgnB) := rfl
@[simp] theorem v_int : valueB (.int i) = (decide (1 - most ≤ i) && decide (i ≤ most - 1)) := rfl
@[simp] theorem v_non : valueB .non = false := rfl
@[simp] theorem v_bl : valueB (.bl b) = false := rfl
@[simp] theorem v_tup : valueB (.tup zs) = false := rfl
@[simp] theorem w_str : wordB w (.str x) = decide (x = w) := rfl
@[simp] theorem w_non : wordB w .non = false := rfl
@[simp] theorem w_bl : wordB w (.bl b) = false := rfl
@[simp] theorem w_int : wordB w (.int i) = false := rfl
@[simp] theorem w_tup : wordB w (.tup zs) = false := rfl
end
section
variable {lo hi : Int} {w : Str} {ns : List Int} {n : Nat} {a : Addr}
@[simp] theorem c_scr : countB lo hi (.scr ns) = false := rfl
@[simp] theorem c_ref : countB lo hi (.ref n) = false := rfl
@[simp] theorem c_err : countB lo hi (.err a) = false := rfl
@[simp] theorem r_scr : rowB lo hi (.scr ns) = false := rfl
@[simp] theorem r_ref : rowB lo hi (.ref n) = false := rfl
@[simp] theorem r_err : rowB lo hi (.err a) = false := rfl
@[simp] theorem n_scr : nameB (.scr ns) = false := rfl
@[simp] theorem n_ref : nameB (.ref n) = false := rfl
@[simp] theorem n_err : nameB (.err a) = false := rfl
@[simp] theorem v_scr : valueB (.scr ns) = false := rfl
@[simp] theorem v_ref : valueB (.ref n) = false := rfl
@[simp] theorem v_err : valueB (.err a) = false := rfl
@[simp] theorem w_scr : wordB w (.scr ns) = false := rfl
@[simp] theorem w_ref : wordB w (.ref n) = false := rfl
@[simp] theorem w_err : wordB w (.err a) = false := rfl
end
/-! ### what is asked of -/
/-- plain, with short texts -/
structure Pl (d : Nat) (v : Z) : Prop where
  p : plainB d v = true
  s : okS v = true
theorem Pl.mem {d : Nat} {zs : List Z} (o : Pl d (.tup zs)) : ∀ z ∈ zs, Pl (d - 1) z := fun z m => by
  obtain ⟨p, s⟩ := o
  cases d with
  | zero => cases p
  | succ d =>
    refine ⟨?_, okS_mem s m⟩
    unfold plainB at p
    rw [plainBs_all, List.all_eq_true] at p
    exact p z m
theorem Pl.ok {d : Nat} {v : Z} (o : Pl d v) : okZ v = true ∧ depZ v ≤ d := plain_ok o.p o.s
theorem Pl.okD {d : Nat} {v : Z} (o : Pl d v) (hd : d ≤ 60) {h : ZH} : okD h v := okD_of o.ok.1 (Nat.le_trans o.ok.2 (by omega))
theorem Pl.okL {d : Nat} {zs : List Z} (o : ∀ z ∈ zs, Pl d z) (hd : d ≤ 60) : OkL zs := fun z m => ⟨(o z m).ok.1, Nat.le_trans (o z m).ok.2 hd⟩
section
variable {d : Nat} {v : Z} {h : ZH} {P : PZ} {E : XZ → ZH → Prop}
theorem count_ok (o : Pl d v) {lo hi : Int} (q : P (.bl (countB lo hi v)) h) : f_is_count [v, .int lo, .int hi] h P E := by
  unfold f_is_count wfOf w_is_count
  obtain ⟨p, s⟩ := o
  simp
  cases v with
  | ref n => rw [pl_ref] at p; cases p
  | scr n => rw [pl_scr] at p; cases p
  | err n => cases d <;> cases p
  | int i =>
    simp
    rw [c_int] at q
    refine kChC_of (fun e => ?_) (fun e => ?_)
    · rw [e] at q
      simpa using q
    · rw [e] at q
      simpa using q
  | _ => simpa using q
theorem row_ok (o : Pl d v) {lo hi : Int} (q : P (.bl (rowB lo hi v)) h) : f_is_row_of [v, .int lo, .int hi] h P E := by
  unfold f_is_row_of wfOf w_is_row_of
  obtain ⟨p, s⟩ := o
  simp
  cases v with
  | ref n => rw [pl_ref] at p; cases p
  | scr n => rw [pl_scr] at p; cases p
  | err n => cases d <;> cases p
  | tup i =>
    simp
    rw [r_tup] at q
    refine kChC_of (fun e => ?_) (fun e => ?_)
    · rw [e] at q
      simpa using q
    · rw [e] at q
      simpa using q
  | _ => simpa using q
theorem sgn_lt {a b : Nat} : ([a] < [b]) ↔ a < b := by
  constructor
  · intro h
    cases h with
    | rel h => exact h
    | cons h => cases h
  · intro h
    exact List.Lex.rel h
def sg : Z → Nat
  | .str x => x.cps.getD 0 0
  | _ => 0
theorem sign_a : (Str.ofString "a").cps.toList = [97] := by decide +kernel
theorem sign_z : (Str.ofString "z").cps.toList = [122] := by decide +kernel
theorem strOk_mem {x : Str} (s : PyData.strOk x = true) {c : Nat} (m : c ∈ x.cps.toList) : PyData.strOk ⟨#[c]⟩ = true := by
  unfold PyData.strOk at s ⊢
  rw [Array.all_eq_true_iff_forall_mem] at s
  have := s c (by simpa using m)
  simpa using this
theorem chrs_okL {x : Str} (s : PyData.strOk x = true) : OkL (chrs x) := fun z m => by
  unfold chrs at m
  obtain ⟨c, hc, rfl⟩ := List.mem_map.mp m
  exact ⟨strOk_mem s hc, Nat.zero_le _⟩
theorem chrs_all {x : Str} {p : Nat → Bool} : ((chrs x).filter fun z => !p (sg z)).isEmpty = x.cps.toList.all p := by
  rw [filter_none]
  unfold chrs
  rw [List.all_map]
  rfl
theorem chrs_len {x : Str} : (chrs x).length = x.length := by simp [chrs, Str.length]
theorem name_ok (o : Pl d v) (q : ∀ h', Pre h h' → P (.bl (nameB v)) h') : f_is_name [v] h P E := by
  unfold f_is_name wfOf w_is_name
  obtain ⟨p, s⟩ := o
  simp
  cases v with
  | ref n => rw [pl_ref] at p; cases p
  | scr n => rw [pl_scr] at p; cases p
  | err n => cases d <;> cases p
  | str x =>
    obtain ⟨s1, s2⟩ := Bool.and_eq_true_iff.mp (show (PyData.strOk x && decide (x.length ≤ 1000)) = true from s)
    have s2 := of_decide_eq_true s2
    have bl := big_line
    have q : ∀ h', Pre h h' → P (.bl (decide (1 ≤ x.length) && decide (x.length ≤ 12) && x.cps.toList.all letB)) h' := q
    simp
    refine ⟨by omega, ?_⟩
    by_cases c1 : 1 ≤ x.length
    · by_cases c2 : x.length ≤ 12
      · simp [c1, c2] at q
        have e1 : (1 : Int) ≤ x.length := by omega
        have e2 : (x.length : Int) ≤ 12 := by omega
        simp [e1, e2]
        refine lcZ_filter (fun z => !letB (sg z)) (fun z => ∃ c, z = .str ⟨#[c]⟩) (fun _ => True) (fun _ _ _ _ => trivial) (fun _ _ => trivial) (by simp [chrs_len]; omega) trivial (fun z m => ?_) (by simp [wipeE]) ?_ ?_
        · unfold chrs at m
          obtain ⟨c, hc, rfl⟩ := List.mem_map.mp m
          exact ⟨c, rfl⟩
        · rintro z ⟨c, rfl⟩ h2 K _ hK
          have hK := hK h2 (.refl _)
          simp [wipeE]
          simp only [sign_a, sgn_lt]
          refine kChC_of (fun e => ?_) (fun e => ?_)
          · simp
            simp only [sign_z, sgn_lt]
            have : letB (sg (Z.str ⟨#[c]⟩)) = !decide (122 < c) := by
              show (decide (97 ≤ c) && decide (c ≤ 122)) = _
              have : 97 ≤ c := by simpa using e
              simp [this]
              rw [← decide_not]; simp
            rw [this] at hK
            simpa using hK
          · have : letB (sg (Z.str ⟨#[c]⟩)) = false := by
              show (decide (97 ≤ c) && decide (c ≤ 122)) = _
              have : c < 97 := by simpa using e
              simp; omega
            rw [this] at hK
            simpa using hK
        · intro h' p'
          simp [sizeLine_eq]
          refine eq_nil (xs := (chrs x).filter fun z => !letB (sg z)) (by simp) (okL_filter (chrs_okL s1)) (by simp) ?_
          rw [chrs_all]
          have := q _ ((p'.more [ZO.lst ((chrs x).filter fun z => !letB (sg z))]).more [ZO.lst []])
          simpa using this
      · simp [c2] at q
        have e1 : (1 : Int) ≤ x.length := by omega
        have e2 : ¬ (x.length : Int) ≤ 12 := by omega
        simp [e1, e2]
        exact q _ (.refl _)
    · simp [c1] at q
      have e2 : ¬ (1 : Int) ≤ x.length := by omega
      simp [e2]
      exact q _ (.refl _)
  | _ => simpa using q h (.refl _)
theorem value_ok (o : Pl d v) (q : ∀ h', Pre h h' → P (.bl (valueB v)) h') : f_is_value [v] h P E := by
  unfold f_is_value wfOf w_is_value
  simp
  have o' := o
  obtain ⟨p, s⟩ := o
  cases v with
  | ref n => rw [pl_ref] at p; cases p
  | scr n => rw [pl_scr] at p; cases p
  | err n => cases d <;> cases p
  | int i =>
    simp
    exact count_ok o' (q h (.refl _))
  | str x =>
    obtain ⟨s1, s2⟩ := Bool.and_eq_true_iff.mp (show (PyData.strOk x && decide (x.length ≤ 1000)) = true from s)
    have s2 := of_decide_eq_true s2
    have bl := big_line
    have q : ∀ h', Pre h h' → P (.bl (decide (x.length ≤ 40) && x.cps.toList.all sgnB)) h' := q
    simp
    refine lcZ_filter (fun z => !sgnB (sg z)) (fun z => ∃ c, z = .str ⟨#[c]⟩) (fun _ => True) (fun _ _ _ _ => trivial) (fun _ _ => trivial) (by simp [chrs_len]; omega) trivial (fun z m => ?_) (by simp [wipeE]) ?_ ?_
    · unfold chrs at m
      obtain ⟨c, hc, rfl⟩ := List.mem_map.mp m
      exact ⟨c, rfl⟩
    · rintro z ⟨c, rfl⟩ h2 K _ hK
      have hK := hK h2 (.refl _)
      have e : sgnB (sg (Z.str ⟨#[c]⟩)) = (decide (32 ≤ c) && decide (c ≤ 126) && !decide (c = 37)) := rfl
      rw [e] at hK
      have l1 : (Str.length ⟨#[c]⟩) = 1 := rfl
      have ic : ∀ n : Nat, decide ((n : Int) ≤ (c : Int)) = decide (n ≤ c) := fun n => by simp
      simp [wipeE, l1]
      refine kChC_of (fun e => ?_) (fun e => ?_)
      · have e : 32 ≤ c := by have := of_decide_eq_true e; omega
        simp [l1]
        by_cases e2 : c ≤ 126
        · have e2' : (c : Int) ≤ 126 := by omega
          simp [e, e2] at hK
          simp [e2', l1]
          by_cases e3 : c = 37
          · subst e3
            simpa using hK
          · have e3' : ¬ (c : Int) = 37 := by omega
            simp [e3] at hK
            simpa [e3'] using hK
        · have e2' : ¬ (c : Int) ≤ 126 := by omega
          simp [e, e2] at hK
          simpa [e2'] using hK
      · have e : ¬ 32 ≤ c := by have := of_decide_eq_false e; omega
        simp [e] at hK
        simpa using hK
    · intro h' p'
      simp
      refine ⟨by omega, ?_⟩
      refine kAndV_of (fun e => ?_) (fun e => ?_)
      · have e : x.length ≤ 40 := by have := of_decide_eq_true e; omega
        simp [sizeLine_eq]
        refine eq_nil (xs := (chrs x).filter fun z => !sgnB (sg z)) (by simp) (okL_filter (chrs_okL s1)) (by simp) ?_
        rw [chrs_all]
        have := q _ ((p'.more [ZO.lst ((chrs x).filter fun z => !sgnB (sg z))]).more [ZO.lst []])
        simpa [e] using this
      · have e : ¬ x.length ≤ 40 := by have := of_decide_eq_false e; omega
        have := q _ (p'.more [ZO.lst ((chrs x).filter fun z => !sgnB (sg z))])
        simpa [e] using this
  | _ =>
    simp
    exact count_ok o' (q h (.refl _))
/-! words -/
theorem eqv_word {w : Str} (o : Pl d v) : PyData.eqv (dOf h v) (Z.toD (.str w)) = wordB w v := by
  obtain ⟨p, s⟩ := o
  cases v with
  | ref n => rw [pl_ref] at p; cases p
  | scr n => rw [pl_scr] at p; cases p
  | err n => cases d <;> cases p
  | tup zs => rw [dOf_tup]; rfl
  | str x =>
    show PyData.eqv (.str x) (.str w) = decide (x = w)
    unfold PyData.eqv
    rw [Bool.beq_eq_decide_eq]
  | _ => rfl
theorem eqv_word' {w : Str} (o : Pl d v) : PyData.eqv (Z.toD (.str w)) (dOf h v) = wordB w v := by
  obtain ⟨p, s⟩ := o
  cases v with
  | ref n => rw [pl_ref] at p; cases p
  | scr n => rw [pl_scr] at p; cases p
  | err n => cases d <;> cases p
  | tup zs => rw [dOf_tup]; rfl
  | str x =>
    show PyData.eqv (.str w) (.str x) = decide (x = w)
    unfold PyData.eqv
    rw [Bool.beq_eq_decide_eq, decide_eq_decide]
    exact eq_comm
  | _ => rfl
theorem eq_word {w : Str} (o : Pl d v) (hd : d ≤ 60) (ow : PyData.strOk w = true) (q : P (.bl (wordB w v)) h) : oEq v (.str w) h P := by
  have a : ∀ k, (∃ b, k = wordB w v ∧ b = k) → P (.bl k) h := fun k ⟨_, e, _⟩ => by rw [e]; exact q
  have g : okD h v ∧ okD h (.str w) ∧ P (.bl (zEqB h v (.str w))) h := ⟨o.okD hd, okD_of ow (Nat.zero_le _), by show P (.bl (PyData.eqv (dOf h v) (Z.toD (.str w)))) h; rw [eqv_word o]; exact q⟩
  cases v with
  | str x => rw [oEq_s]; exact q
  | _ => exact g
theorem ne_word {w : Str} (o : Pl d v) (hd : d ≤ 60) (ow : PyData.strOk w = true) (q : P (.bl (!wordB w v)) h) : oNe v (.str w) h P := by
  have g : okD h v ∧ okD h (.str w) ∧ P (.bl (!zEqB h v (.str w))) h := ⟨o.okD hd, okD_of ow (Nat.zero_le _), by show P (.bl (!PyData.eqv (dOf h v) (Z.toD (.str w)))) h; rw [eqv_word o]; exact q⟩
  cases v with
  | str x => rw [oNe_s]; exact q
  | _ => exact g
theorem notin_words {ws : List Str} (o : Pl d v) (hd : d ≤ 60) (ow : ws.all PyData.strOk = true) (q : P (.bl (!ws.any fun w => wordB w v)) h) : oNotIn v (.tup (ws.map Z.str)) h P := by
  refine ⟨o.okD hd, ?_, ?_⟩
  · rw [List.all_eq_true] at ow
    refine okD_tup (n := 0) (fun z m => ?_) (fun z m => ?_) (by decide)
    · obtain ⟨w, hw, rfl⟩ := List.mem_map.mp m
      exact ow w hw
    · obtain ⟨w, hw, rfl⟩ := List.mem_map.mp m
      exact Nat.le_refl _
  · show P (.bl (!(ws.map Z.str).any fun z => PyData.eqv z.toD (dOf h v))) h
    rw [List.any_map]
    have : (ws.any ((fun z : Z => PyData.eqv z.toD (dOf h v)) ∘ Z.str)) = ws.any fun w => wordB w v := by
      congr 1
      funext w
      exact eqv_word' o
    rw [this]
    exact q
/-! all parts -/
theorem parts_all {f : WF} {B : Z → Bool} {zs : List Z} (hf : ∀ z ∈ zs, ∀ h P E, (∀ h', Pre h h' → P (.bl (B z)) h') → f [z] h P E) (o : OkL zs) (hl : zs.length ≤ 1000000) {i : Nat} {env : ZL.Env} (hi : i < env.length) {env2 : ZL.Env} {E2 : EZ} (q : ∀ h', Pre h h' → P (.bl (zs.all B)) h') :
    lcZ (.nm i) (ZL.wNot (ZL.wTru (wCall 1 f (wCons (wVar i) wNil)))) (wVar i) Always env (k2 oEq (wLst wNil) env2 P E2) zs [] h := by
  have bl := big_line
  refine lcZ_filter (fun z => !B z) (fun z => z ∈ zs) (fun _ => True) (fun _ _ _ _ => trivial) (fun _ _ => trivial) (by simp; omega) trivial (fun z m => m) hi ?_ ?_
  · intro z m h2 K _ hK
    simp [List.getElem?_set_self hi]
    refine hf z m _ _ _ fun h3 p3 => ?_
    simpa using hK h3 p3
  · intro h' p'
    simp [sizeLine_eq]
    refine eq_nil (xs := zs.filter fun z => !B z) (by simp) (okL_filter o) (by simp) ?_
    rw [filter_none]
    have := q _ ((p'.more [ZO.lst (zs.filter fun z => !B z)]).more [ZO.lst []])
    simpa using this
end
end ZF

namespace ZF
open PySem PySem.Spec PyProof.Rows L2 ZL
abbrev wdValue : Str := Str.ofString "value"
abbrev wdColumn : Str := Str.ofString "column"
def operandB : Z → Bool
  | .tup [w, x] => wordB "value" w && valueB x
  | .tup [w, t, c] => wordB "column" w && (nameB t && countB 0 4 c)
  | _ => false
abbrev ops : List Str := ["=", "<>", "<", "<="]
def condB : Z → Bool
  | .tup [w, a, b] => (ops.any fun o => wordB o w) && (operandB a && operandB b)
  | _ => false
def condsB : Z → Bool
  | .tup zs => decide (zs.length ≤ 6) && zs.all condB
  | _ => false
def strB : Z → Bool
  | .str _ => true
  | _ => false
def settingB : Z → Bool
  | .tup [c, .tup [w, x]] => countB 0 4 c && (if wordB "value" w = true then valueB x else if wordB "plus" w = true then valueB x && !strB x else wordB "column" w && countB 0 4 x)
  | _ => false
def settingsB : Z → Bool
  | .tup zs => decide (1 ≤ zs.length) && decide (zs.length ≤ 5) && zs.all settingB
  | _ => false
def sourceB : Z → Bool
  | .tup [a, b] => nameB a && nameB b
  | _ => false
def operandsB : Z → Bool
  | .tup zs => decide (1 ≤ zs.length) && decide (zs.length ≤ 6) && zs.all operandB
  | _ => false
def outputB : Z → Bool
  | .tup [w] => wordB "count" w
  | .tup [w, x] => if wordB "sum" w = true then operandB x else wordB "rows" w && operandsB x
  | _ => false
abbrev knds : List Str := ["integer", "text"]
def kindB (z : Z) : Bool := knds.any fun w => wordB w z
def createB : List Z → Bool
  | [_, t, .tup ks, c] => nameB t && (decide (1 ≤ ks.length) && decide (ks.length ≤ 5) && ks.all kindB && countB 1 ks.length c)
  | _ => false
def insertB : List Z → Bool
  | [_, t, .tup xs] => nameB t && (decide (1 ≤ xs.length) && decide (xs.length ≤ 5) && xs.all valueB)
  | _ => false
def selectB : List Z → Bool
  | [_, o, .tup ss, cs] => outputB o && (decide (1 ≤ ss.length) && decide (ss.length ≤ 2) && ss.all sourceB && condsB cs)
  | _ => false
def formW (w : Str) (r : List Z) : Bool :=
  if w = "create" then createB (.str w :: r)
  else if w = "drop" then (match r with | [t] => nameB t | _ => false)
  else if w = "insert" then insertB (.str w :: r)
  else if w = "delete" then (match r with | [t, c] => nameB t && condsB c | _ => false)
  else if w = "update" then (match r with | [t, s, c] => nameB t && (settingsB s && condsB c) | _ => false)
  else if w = "select" then selectB (.str w :: r)
  else decide (w = "replace") && (match r with | [p, o] => countB 0 9 p && countB 1 999 o | _ => false)
def formB : List Z → Bool
  | .str w :: r => formW w r
  | _ => false
def stmtB (v : Z) : Bool := plainB 30 v && (match v with
  | .tup zs => formB zs
  | _ => false)
section
variable {d : Nat} {v : Z} {h : ZH} {P : PZ} {E : XZ → ZH → Prop}
theorem long {a b c : Z} {r : List Z} {lo : Int} : rowB lo 2 (.tup (a :: b :: c :: r)) = false := by
  rw [r_tup]; simp; intro _; omega
theorem long3 {a b c e : Z} {r : List Z} {lo : Int} : rowB lo 3 (.tup (a :: b :: c :: e :: r)) = false := by
  rw [r_tup]; simp; intro _; omega
theorem shape2 (v : Z) : (∃ a b, v = .tup [a, b]) ∨ rowB 2 2 v = false := by
  cases v with
  | tup zs =>
    match zs with
    | [] => exact .inr rfl
    | [_] => exact .inr rfl
    | [a, b] => exact .inl ⟨a, b, rfl⟩
    | _ :: _ :: _ :: _ => exact .inr long
  | _ => exact .inr rfl
theorem shape3 (v : Z) : (∃ a b c, v = .tup [a, b, c]) ∨ rowB 3 3 v = false := by
  cases v with
  | tup zs =>
    match zs with
    | [] => exact .inr rfl
    | [_] => exact .inr rfl
    | [_, _] => exact .inr rfl
    | [a, b, c] => exact .inl ⟨a, b, c, rfl⟩
    | _ :: _ :: _ :: _ :: _ => exact .inr long3
  | _ => exact .inr rfl
theorem no_operand (h2 : rowB 2 2 v = false) (h3 : rowB 3 3 v = false) : operandB v = false := by
  unfold operandB
  split
  · simp at h2
  · simp at h3
  · rfl
theorem operand_ok (o : Pl d v) (hd : d ≤ 60) (q : ∀ h', Pre h h' → P (.bl (operandB v)) h') : f_is_operand [v] h P E := by
  unfold f_is_operand wfOf w_is_operand
  simp
  refine row_ok o ?_
  rcases shape2 v with ⟨a, b, rfl⟩ | h2
  · have oa := o.mem a (by simp)
    have ob := o.mem b (by simp)
    simp
    refine eq_word oa (by omega) (by decide +kernel) ?_
    have q : ∀ h', Pre h h' → P (.bl (wordB "value" a && valueB b)) h' := q
    cases e : wordB "value" a with
    | true =>
      rw [e] at q
      simp
      refine value_ok ob fun h1 p1 => ?_
      simpa using q h1 p1
    | false =>
      rw [e] at q
      simp
      refine row_ok o ?_
      simp
      exact q h (.refl _)
  · rw [h2]
    simp
    refine row_ok o ?_
    rcases shape3 v with ⟨a, b, c, rfl⟩ | h3
    · have oa := o.mem a (by simp)
      have ob := o.mem b (by simp)
      have oc := o.mem c (by simp)
      have q : ∀ h', Pre h h' → P (.bl (wordB "column" a && (nameB b && countB 0 4 c))) h' := q
      simp
      refine eq_word oa (by omega) (by decide +kernel) ?_
      cases e : wordB "column" a with
      | true =>
        rw [e] at q
        simp
        refine name_ok ob fun h1 p1 => ?_
        have q := q h1 p1
        cases e : nameB b with
        | true =>
          rw [e] at q
          simp
          refine count_ok oc ?_
          simpa using q
        | false =>
          rw [e] at q
          simpa using q
      | false =>
        rw [e] at q
        simp
        exact q h (.refl _)
    · rw [h3]
      have := q h (.refl _)
      rw [no_operand h2 h3] at this
      simpa using this
theorem cond_ok (o : Pl d v) (hd : d ≤ 60) (q : ∀ h', Pre h h' → P (.bl (condB v)) h') : f_is_condition [v] h P E := by
  unfold f_is_condition wfOf w_is_condition
  simp only [m_seq, m_sif, m_or, m_not]
  simp [-List.map_cons, -List.map_nil]
  refine row_ok o ?_
  rcases shape3 v with ⟨a, b, c, rfl⟩ | h3
  · have oa := o.mem a (by simp)
    have ob := o.mem b (by simp)
    have oc := o.mem c (by simp)
    have q : ∀ h', Pre h h' → P (.bl ((ops.any fun o => wordB o a) && (operandB b && operandB c))) h' := q
    simp [-List.map_cons, -List.map_nil]
    refine notin_words (ws := ops) oa (by omega) (by decide +kernel) ?_
    cases e : (ops.any fun o => wordB o a) with
    | true =>
      rw [e] at q
      simp
      refine operand_ok ob (by omega) fun h1 p1 => ?_
      cases e : operandB b with
      | true =>
        rw [e] at q
        simp
        refine operand_ok oc (by omega) fun h2 p2 => ?_
        simpa using q h2 (p1.trans p2)
      | false =>
        rw [e] at q
        simpa using q h1 p1
    | false =>
      rw [e] at q
      simpa using q h (.refl _)
  · rw [h3]
    have e : condB v = false := by
      unfold condB
      split
      · simp at h3
      · rfl
    rw [e] at q
    simpa using q h (.refl _)
/-- rows of such -/
theorem rows_ok {f : WF} {B : Z → Bool} {zs : List Z} (o : Pl d (.tup zs)) (hd : d ≤ 60) (hf : ∀ z, Pl (d - 1) z → ∀ h P E, (∀ h', Pre h h' → P (.bl (B z)) h') → f [z] h P E) (hl : zs.length ≤ 1000000) {i : Nat} {env : ZL.Env} (hi : i < env.length) {env2 : ZL.Env} {E2 : EZ} (q : ∀ h', Pre h h' → P (.bl (zs.all B)) h') :
    lcZ (.nm i) (ZL.wNot (ZL.wTru (wCall 1 f (wCons (wVar i) wNil)))) (wVar i) Always env (k2 oEq (wLst wNil) env2 P E2) zs [] h :=
  parts_all (fun z m => hf z (o.mem z m)) (Pl.okL o.mem (by omega)) hl hi q
theorem conds_ok (o : Pl d v) (hd : d ≤ 60) (q : ∀ h', Pre h h' → P (.bl (condsB v)) h') : f_are_conditions [v] h P E := by
  unfold f_are_conditions wfOf w_are_conditions
  simp
  refine row_ok o ?_
  cases v with
  | tup zs =>
    have q : ∀ h', Pre h h' → P (.bl (decide (zs.length ≤ 6) && zs.all condB)) h' := q
    by_cases c : zs.length ≤ 6
    · have c' : (zs.length : Int) ≤ 6 := by omega
      simp [c] at q
      simp [c']
      refine rows_ok o hd (fun z oz h P E q => cond_ok oz (by omega) q) (by omega) (by simp [wipeE]) ?_
      simpa using q
    · have c' : ¬ (zs.length : Int) ≤ 6 := by omega
      simp [c] at q
      simp [c']
      exact q h (.refl _)
  | _ => simpa [condsB] using q h (.refl _)
theorem setting_ok (o : Pl d v) (hd : d ≤ 60) (q : ∀ h', Pre h h' → P (.bl (settingB v)) h') : f_is_setting [v] h P E := by
  unfold f_is_setting wfOf w_is_setting
  simp
  refine row_ok o ?_
  rcases shape2 v with ⟨a, b, rfl⟩ | h2
  · have oa := o.mem a (by simp)
    have ob := o.mem b (by simp)
    simp
    refine count_ok oa ?_
    cases ec : countB 0 4 a with
    | false =>
      have e : settingB (.tup [a, b]) = false := by
        unfold settingB
        split
        · rename_i e; simp at e; obtain ⟨rfl, rfl⟩ := e; rw [ec]; rfl
        · rfl
      rw [e] at q
      simpa using q h (.refl _)
    | true =>
      simp
      refine row_ok ob ?_
      rcases shape2 b with ⟨w, x, rfl⟩ | h2
      · have ow := ob.mem w (by simp)
        have ox := ob.mem x (by simp)
        have q : ∀ h', Pre h h' → P (.bl (countB 0 4 a && (if wordB "value" w = true then valueB x else if wordB "plus" w = true then valueB x && !strB x else wordB "column" w && countB 0 4 x))) h' := q
        rw [ec] at q
        simp
        refine eq_word ow (by omega) (by decide +kernel) ?_
        cases e1 : wordB "value" w with
        | true =>
          simp [e1] at q
          simp
          refine value_ok ox fun h1 p1 => ?_
          exact q h1 p1
        | false =>
          simp [e1] at q
          simp
          refine eq_word ow (by omega) (by decide +kernel) ?_
          cases e2 : wordB "plus" w with
          | true =>
            simp [e2] at q
            simp
            refine value_ok ox fun h1 p1 => ?_
            have q := q h1 p1
            cases e3 : valueB x with
            | true =>
              simp [e3] at q
              simp
              cases x with
              | ref n => cases e3
              | scr n => cases e3
              | err n => cases e3
              | str s => simpa [strB] using q
              | int s => simpa [strB] using q
              | non => cases e3
              | bl s => cases e3
              | tup s => cases e3
            | false =>
              simp [e3] at q
              simpa using q
          | false =>
            simp [e2] at q
            simp
            refine eq_word ow (by omega) (by decide +kernel) ?_
            cases e3 : wordB "column" w with
            | true =>
              simp [e3] at q
              simp
              exact count_ok ox (q h (.refl _))
            | false =>
              simp [e3] at q
              simpa using q h (.refl _)
      · rw [h2]
        have e : settingB (.tup [a, b]) = false := by
          unfold settingB
          split
          · rename_i e; simp at e; obtain ⟨rfl, rfl⟩ := e; simp at h2
          · rfl
        rw [e] at q
        simpa using q h (.refl _)
  · rw [h2]
    have e : settingB v = false := by
      unfold settingB
      split
      · simp at h2
      · rfl
    rw [e] at q
    simpa using q h (.refl _)
theorem settings_ok (o : Pl d v) (hd : d ≤ 60) (q : ∀ h', Pre h h' → P (.bl (settingsB v)) h') : f_are_settings [v] h P E := by
  unfold f_are_settings wfOf w_are_settings
  simp
  refine row_ok o ?_
  cases v with
  | tup zs =>
    have q : ∀ h', Pre h h' → P (.bl (decide (1 ≤ zs.length) && decide (zs.length ≤ 5) && zs.all settingB)) h' := q
    by_cases c : 1 ≤ zs.length ∧ zs.length ≤ 5
    · have c' : (1 : Int) ≤ zs.length ∧ (zs.length : Int) ≤ 5 := by omega
      simp [c.1, c.2] at q
      simp [c'.1, c'.2]
      refine rows_ok o hd (fun z oz h P E q => setting_ok oz (by omega) q) (by omega) (by simp [wipeE]) ?_
      simpa using q
    · have c1 : (decide (1 ≤ zs.length) && decide (zs.length ≤ 5)) = false := by simp; omega
      have c' : (decide ((1 : Int) ≤ (zs.length : Int)) && decide ((zs.length : Int) ≤ 5)) = false := by simp; omega
      rw [c1] at q
      rw [r_tup, c']
      simpa using q h (.refl _)
  | _ => simpa [settingsB] using q h (.refl _)
theorem source_ok (o : Pl d v) (q : ∀ h', Pre h h' → P (.bl (sourceB v)) h') : f_is_source [v] h P E := by
  unfold f_is_source wfOf w_is_source
  simp
  refine row_ok o ?_
  rcases shape2 v with ⟨a, b, rfl⟩ | h2
  · have oa := o.mem a (by simp)
    have ob := o.mem b (by simp)
    have q : ∀ h', Pre h h' → P (.bl (nameB a && nameB b)) h' := q
    simp
    refine name_ok oa fun h1 p1 => ?_
    cases e : nameB a with
    | true =>
      rw [e] at q
      simp
      refine name_ok ob fun h2 p2 => ?_
      simpa using q h2 (p1.trans p2)
    | false =>
      rw [e] at q
      simpa using q h1 p1
  · rw [h2]
    have e : sourceB v = false := by
      unfold sourceB
      split
      · simp at h2
      · rfl
    rw [e] at q
    simpa using q h (.refl _)
theorem bnd {lo hi : Nat} {n : Nat} : (decide ((lo : Int) ≤ (n : Int)) && decide ((n : Int) ≤ (hi : Int))) = (decide (lo ≤ n) && decide (n ≤ hi)) := by
  simp
theorem operands_no (h1 : rowB 1 6 v = false) : operandsB v = false := by
  cases v with
  | tup zs =>
    have h1 : (decide (((1 : Nat) : Int) ≤ (zs.length : Int)) && decide ((zs.length : Int) ≤ ((6 : Nat) : Int))) = false := h1
    rw [bnd] at h1
    show (decide (1 ≤ zs.length) && decide (zs.length ≤ 6) && _) = false
    rw [h1]; rfl
  | _ => rfl
theorem output_ok (o : Pl d v) (hd : d ≤ 60) (q : ∀ h', Pre h h' → P (.bl (outputB v)) h') : f_is_output [v] h P E := by
  unfold f_is_output wfOf w_is_output
  simp [sizeLine_eq]
  have cw : okD h (.tup [.str (Str.ofString "count")]) := okD_of (by decide +kernel) (by decide +kernel)
  have key : (∃ w, v = .tup [w] ∧ wordB "count" w = true) ∨ PyData.eqv (dOf h v) (.tuple [.str (Str.ofString "count")]) = false := by
    cases v with
    | tup zs =>
      match zs, o.mem with
      | [], _ => exact .inr rfl
      | [w], om =>
        cases e : wordB "count" w with
        | true => exact .inl ⟨w, rfl, e⟩
        | false =>
          refine .inr ?_
          rw [dOf_tup]
          have := eqv_word (w := "count") (h := h) (om w (by simp))
          rw [e, dOf_ok (om w (by simp)).ok.1] at this
          show (PyData.eqv w.toD (Z.toD (.str "count")) && true) = false
          rw [this]; rfl
      | a :: b :: r, _ =>
        refine .inr ?_
        rw [dOf_tup]
        show (PyData.eqv a.toD _ && PyData.eqvAll ((b :: r).map Z.toD) []) = false
        rw [eqvAll_nil]
        simp
    | ref n => have := o.p; rw [pl_ref] at this; cases this
    | scr n => have := o.p; rw [pl_scr] at this; cases this
    | err n => have := o.p; cases d <;> cases this
    | _ => exact .inr rfl
  rcases key with ⟨w, rfl, ew⟩ | key
  · have om := o.mem w (by simp)
    rw [oEq_t]
    refine ⟨o.okD hd, cw, ?_⟩
    have e : PyData.eqvAll ([w].map Z.toD) ([Z.str (Str.ofString "count")].map Z.toD) = true := by
      have := eqv_word (w := "count") (h := h) om
      rw [ew, dOf_ok om.ok.1] at this
      show (PyData.eqv w.toD (Z.toD (.str "count")) && true) = true
      rw [this]; rfl
    rw [e]
    simp
    have q : ∀ h', Pre h h' → P (.bl (wordB "count" w)) h' := q
    rw [ew] at q
    exact q h (.refl _)
  · have go : ∀ {P' : PZ}, P' (.bl false) h → oEq v (.tup [.str (Str.ofString "count")]) h P' := fun {P'} x => by
      have : okD h v ∧ okD h (.tup [.str (Str.ofString "count")]) ∧ P' (.bl (PyData.eqv (dOf h v) (.tuple [.str (Str.ofString "count")]))) h := ⟨o.okD hd, cw, by rw [key]; exact x⟩
      cases v <;> exact this
    have one : ∀ w, v = .tup [w] → wordB "count" w = false := by
      rintro w rfl
      have om := o.mem w (by simp)
      rw [dOf_tup] at key
      have := eqv_word (w := "count") (h := h) om
      rw [dOf_ok om.ok.1] at this
      rw [← this]
      have key : (PyData.eqv w.toD (Z.toD (.str "count")) && true) = false := key
      simpa using key
    refine go ?_
    simp
    refine row_ok o ?_
    rcases shape2 v with ⟨a, b, rfl⟩ | h2
    · have oa := o.mem a (by simp)
      have ob := o.mem b (by simp)
      have q : ∀ h', Pre h h' → P (.bl (if wordB "sum" a = true then operandB b else wordB "rows" a && operandsB b)) h' := q
      simp
      refine eq_word oa (by omega) (by decide +kernel) ?_
      cases e1 : wordB "sum" a with
      | true =>
        simp [e1] at q
        simp
        exact operand_ok ob (by omega) q
      | false =>
        simp [e1] at q
        simp
        refine ne_word oa (by omega) (by decide +kernel) ?_
        cases e2 : wordB "rows" a with
        | false =>
          simp [e2] at q
          simp
          exact q h (.refl _)
        | true =>
          simp [e2] at q
          simp
          refine row_ok ob ?_
          cases e3 : rowB 1 6 b with
          | false =>
            rw [operands_no e3] at q
            simp
            exact q h (.refl _)
          | true =>
            simp
            cases b with
            | tup zs =>
              have e3 : (decide (((1 : Nat) : Int) ≤ (zs.length : Int)) && decide ((zs.length : Int) ≤ ((6 : Nat) : Int))) = true := e3
              rw [bnd] at e3
              have q : ∀ h', Pre h h' → P (.bl (decide (1 ≤ zs.length) && decide (zs.length ≤ 6) && zs.all operandB)) h' := q
              rw [e3] at q
              simp at e3
              simp
              refine rows_ok ob (by omega) (fun z oz h P E q => operand_ok oz (by omega) q) (by omega) (by simp [wipeE]) ?_
              simpa using q
            | _ => cases e3
    · rw [h2]
      have e : outputB v = false := by
        unfold outputB
        split
        · exact one _ rfl
        · simp at h2
        · rfl
      rw [e] at q
      simpa using q h (.refl _)
/-! statements -/
variable {zs : List Z}
theorem kind_words (o : Pl d v) (hd : d ≤ 60) {P : PZ} (q : P (.bl (!kindB v)) h) : oNotIn v (.tup [.str (Str.ofString "integer"), .str (Str.ofString "text")]) h P :=
  notin_words (ws := knds) o hd (by decide +kernel) q
theorem create_ok (o : Pl d (.tup zs)) (hd : d ≤ 60) (q : ∀ h', Pre h h' → P (.bl (createB zs)) h') : f_is_create [.tup zs] h P E := by
  unfold f_is_create wfOf w_is_create
  simp
  by_cases hl : zs.length = 4
  · match zs, hl with
    | [w, t, k, c], _ =>
      have ot := o.mem t (by simp)
      have ok := o.mem k (by simp)
      have oc := o.mem c (by simp)
      simp
      refine name_ok ot fun h1 p1 => ?_
      cases e1 : nameB t with
      | false =>
        have e : createB [w, t, k, c] = false := by
          unfold createB; split
          · rename_i e; simp at e; obtain ⟨_, rfl, _, _⟩ := e; rw [e1]; rfl
          · rfl
        rw [e] at q
        simpa using q h1 p1
      | true =>
        simp
        refine row_ok ok ?_
        cases e2 : rowB 1 5 k with
        | false =>
          have e : createB [w, t, k, c] = false := by
            unfold createB; split
            · rename_i ks c' e; simp at e; obtain ⟨_, rfl, rfl, rfl⟩ := e
              have e2 : (decide (((1 : Nat) : Int) ≤ (ks.length : Int)) && decide ((ks.length : Int) ≤ ((5 : Nat) : Int))) = false := e2
              rw [bnd] at e2
              rw [e2]; simp
            · rfl
          rw [e] at q
          simpa using q h1 p1
        | true =>
          simp
          cases k with
          | tup ks =>
            have e2 : (decide (((1 : Nat) : Int) ≤ (ks.length : Int)) && decide ((ks.length : Int) ≤ ((5 : Nat) : Int))) = true := e2
            rw [bnd] at e2
            have q : ∀ h', Pre h h' → P (.bl (nameB t && (decide (1 ≤ ks.length) && decide (ks.length ≤ 5) && ks.all kindB && countB 1 ks.length c))) h' := q
            rw [e1, e2] at q
            simp at e2
            have bl := big_line
            have okk : OkL ks := Pl.okL ok.mem (by omega)
            simp
            refine lcZ_filter (fun z => !kindB z) (fun z => z ∈ ks) (fun _ => True) (fun _ _ _ _ => trivial) (fun _ _ => trivial) (by simp; omega) trivial (fun z m => m) (by simp [wipeE]) ?_ ?_
            · intro z m h2 K _ hK
              simp [wipeE, sizeLine_eq]
              refine kind_words (ok.mem z m) (by omega) ?_
              simpa using hK h2 (.refl _)
            · intro h' p'
              simp [sizeLine_eq]
              refine eq_nil (xs := ks.filter fun z => !kindB z) (by simp) (okL_filter okk) (by simp) ?_
              rw [filter_none]
              have q := q _ ((p1.trans p').more ([ZO.lst (ks.filter fun z => !kindB z)] ++ [ZO.lst []]))
              cases e3 : ks.all kindB with
              | true =>
                rw [e3] at q
                simp
                refine count_ok oc ?_
                simpa using q
              | false =>
                rw [e3] at q
                simpa using q
          | _ => cases e2
  · have e : createB zs = false := by
      unfold createB; split
      · simp at hl
      · rfl
    rw [e] at q
    have hl' : ¬ (zs.length : Int) = 4 := by omega
    simp [hl']
    exact q h (.refl _)
theorem insert_ok (o : Pl d (.tup zs)) (hd : d ≤ 60) (q : ∀ h', Pre h h' → P (.bl (insertB zs)) h') : f_is_insert [.tup zs] h P E := by
  unfold f_is_insert wfOf w_is_insert
  simp
  by_cases hl : zs.length = 3
  · match zs, hl with
    | [w, t, k], _ =>
      have ot := o.mem t (by simp)
      have ok := o.mem k (by simp)
      simp
      refine name_ok ot fun h1 p1 => ?_
      cases e1 : nameB t with
      | false =>
        have e : insertB [w, t, k] = false := by
          unfold insertB; split
          · rename_i e; simp at e; obtain ⟨_, rfl, _⟩ := e; rw [e1]; rfl
          · rfl
        rw [e] at q
        simpa using q h1 p1
      | true =>
        simp
        refine row_ok ok ?_
        cases e2 : rowB 1 5 k with
        | false =>
          have e : insertB [w, t, k] = false := by
            unfold insertB; split
            · rename_i ks e; simp at e; obtain ⟨_, rfl, rfl⟩ := e
              have e2 : (decide (((1 : Nat) : Int) ≤ (ks.length : Int)) && decide ((ks.length : Int) ≤ ((5 : Nat) : Int))) = false := e2
              rw [bnd] at e2
              rw [e2]; simp
            · rfl
          rw [e] at q
          simpa using q h1 p1
        | true =>
          simp
          cases k with
          | tup ks =>
            have e2 : (decide (((1 : Nat) : Int) ≤ (ks.length : Int)) && decide ((ks.length : Int) ≤ ((5 : Nat) : Int))) = true := e2
            rw [bnd] at e2
            have q : ∀ h', Pre h h' → P (.bl (nameB t && (decide (1 ≤ ks.length) && decide (ks.length ≤ 5) && ks.all valueB))) h' := q
            rw [e1, e2] at q
            simp at e2
            simp
            refine rows_ok ok (by omega) (fun z oz h P E q => value_ok oz q) (by omega) (by simp [wipeE]) fun h2 p2 => ?_
            simpa using q h2 (p1.trans p2)
          | _ => cases e2
  · have e : insertB zs = false := by
      unfold insertB; split
      · simp at hl
      · rfl
    rw [e] at q
    have hl' : ¬ (zs.length : Int) = 3 := by omega
    simp [hl']
    exact q h (.refl _)
theorem select_ok (o : Pl d (.tup zs)) (hd : d ≤ 60) (q : ∀ h', Pre h h' → P (.bl (selectB zs)) h') : f_is_select [.tup zs] h P E := by
  unfold f_is_select wfOf w_is_select
  simp
  by_cases hl : zs.length = 4
  · match zs, hl with
    | [w, t, k, c], _ =>
      have ot := o.mem t (by simp)
      have ok := o.mem k (by simp)
      have oc := o.mem c (by simp)
      simp
      refine output_ok ot (by omega) fun h1 p1 => ?_
      cases e1 : outputB t with
      | false =>
        have e : selectB [w, t, k, c] = false := by
          unfold selectB; split
          · rename_i e; simp at e; obtain ⟨_, rfl, _, _⟩ := e; rw [e1]; rfl
          · rfl
        rw [e] at q
        simpa using q h1 p1
      | true =>
        simp
        refine row_ok ok ?_
        cases e2 : rowB 1 2 k with
        | false =>
          have e : selectB [w, t, k, c] = false := by
            unfold selectB; split
            · rename_i ks c' e; simp at e; obtain ⟨_, rfl, rfl, rfl⟩ := e
              have e2 : (decide (((1 : Nat) : Int) ≤ (ks.length : Int)) && decide ((ks.length : Int) ≤ ((2 : Nat) : Int))) = false := e2
              rw [bnd] at e2
              rw [e2]; simp
            · rfl
          rw [e] at q
          simpa using q h1 p1
        | true =>
          simp
          cases k with
          | tup ks =>
            have e2 : (decide (((1 : Nat) : Int) ≤ (ks.length : Int)) && decide ((ks.length : Int) ≤ ((2 : Nat) : Int))) = true := e2
            rw [bnd] at e2
            have q : ∀ h', Pre h h' → P (.bl (outputB t && (decide (1 ≤ ks.length) && decide (ks.length ≤ 2) && ks.all sourceB && condsB c))) h' := q
            rw [e1, e2] at q
            simp at e2
            simp
            have bl := big_line
            refine lcZ_filter (fun z => !sourceB z) (fun z => z ∈ ks) (fun _ => True) (fun _ _ _ _ => trivial) (fun _ _ => trivial) (by simp; omega) trivial (fun z m => m) (by simp [wipeE]) ?_ ?_
            · intro z m h2 K _ hK
              simp [wipeE, sizeLine_eq]
              refine source_ok (ok.mem z m) fun h3 p3 => ?_
              simpa using hK h3 p3
            · intro h' p'
              simp [sizeLine_eq]
              refine eq_nil (xs := ks.filter fun z => !sourceB z) (by simp) (okL_filter (Pl.okL ok.mem (by omega))) (by simp) ?_
              rw [filter_none]
              have pp := ((p1.trans p').more ([ZO.lst (ks.filter fun z => !sourceB z)] ++ [ZO.lst []]))
              cases e3 : ks.all sourceB with
              | true =>
                rw [e3] at q
                simp at q
                simp
                refine conds_ok oc (by omega) fun h2 p2 => ?_
                refine q h2 (pp.trans ?_)
                simpa using p2
              | false =>
                rw [e3] at q
                simpa using q _ pp
          | _ => cases e2
  · have e : selectB zs = false := by
      unfold selectB; split
      · simp at hl
      · rfl
    rw [e] at q
    have hl' : ¬ (zs.length : Int) = 4 := by omega
    simp [hl']
    exact q h (.refl _)
end
end ZF

namespace ZF
open PySem PySem.Spec PyProof.Rows L2 ZL
section
variable {d : Nat} {v : Z} {h : ZH} {P : PZ} {E : XZ → ZH → Prop}
theorem isplain_ok {n : Nat} (f : Fit n h v) (hn : n ≤ 1000000) (q : ∀ h', Pre h h' → P (.bl (plainB 30 v)) h') : f_is_plain [v] h P E := by
  unfold f_is_plain wfOf w_is_plain
  simp
  exact within_ok (m := 30) (Nat.le_trans f.sz hn) f.rf q
theorem form_str {zs : List Z} (h : ∀ w r, zs ≠ .str w :: r) : formB zs = false := by
  unfold formB
  split
  · exact absurd rfl (h _ _)
  · rfl
theorem form_one {z : Z} : formB [z] = false := by
  cases z with
  | str w =>
    show formW w [] = false
    unfold formW createB insertB selectB
    simp
  | _ => rfl
theorem kIf_not {w : Str} {x : Str} {a b : WS} {D : ZEnds} {env : ZL.Env} {E : EZ} (h1 : w = x → a D env h E) (h2 : ¬ w = x → b D env h E) : kIf a b D env E (decide (w = x)) h := by
  by_cases e : w = x
  · rw [decide_eq_true e]; exact h1 e
  · rw [decide_eq_false e]; exact h2 e
theorem stmt_ok {n : Nat} (f : Fit n h v) (hn : n ≤ 1000000) (q : ∀ h', Pre h h' → P (.bl (stmtB v)) h') : f_is_statement [v] h P E := by
  unfold f_is_statement wfOf w_is_statement
  simp
  refine isplain_ok f hn fun h1 p1 => ?_
  have q : ∀ h', Pre h1 h' → P (.bl (stmtB v)) h' := fun h' p => q h' (p1.trans p)
  cases hp : plainB 30 v with
  | false =>
    have e : stmtB v = false := by unfold stmtB; rw [hp]; rfl
    rw [e] at q
    simpa using q h1 (.refl _)
  | true =>
    have o : Pl 30 v := ⟨hp, f.st⟩
    simp
    cases v with
    | ref n => rw [pl_ref] at hp; cases hp
    | scr n => rw [pl_scr] at hp; cases hp
    | err n => cases hp
    | tup zs =>
      have es : stmtB (.tup zs) = formB zs := by
        show (plainB 30 (.tup zs) && formB zs) = _
        rw [hp]; rfl
      rw [es] at q
      clear es
      simp
      match zs, o with
      | [], _ => simpa [formB] using q h1 (.refl _)
      | [z], _ =>
        rw [form_one] at q
        simpa using q h1 (.refl _)
      | w :: t :: r, o =>
        have ow := o.mem w (by simp)
        have ot := o.mem t (by simp)
        have hl : ¬ ((r.length : Int) + 1 + 1 < 2) := by omega
        simp [hl]
        cases w with
        | str w =>
          have o2 : ¬ (2 : Int) = 0 := by decide
          simp
          refine kIf_not (fun e => ?_) (fun e0 => ?_)
          · simp
            refine create_ok o (by decide) ?_
            have : formB (.str w :: t :: r) = createB (.str w :: t :: r) := by show formW _ _ = _; unfold formW; rw [if_pos e]
            rwa [this] at q
          simp
          refine kIf_not (fun e => ?_) (fun e1 => ?_)
          · simp
            by_cases hr : r.length = 0
            · have : r = [] := by simpa using hr
              subst this
              have : formB [.str w, t] = nameB t := by show formW _ _ = _; unfold formW; simp [e0]; intro z; exact absurd e z
              rw [this] at q
              simp
              exact name_ok ot q
            · have : formB (.str w :: t :: r) = false := by
                show formW _ _ = _
                unfold formW
                rw [if_neg e0, if_pos e]
                cases r with
                | nil => simp at hr
                | cons => rfl
              rw [this] at q
              have hr' : ¬ ((r.length : Int) + 1 + 1 = 2) := by omega
              simp [hr']
              exact q h1 (.refl _)
          simp
          refine kIf_not (fun e => ?_) (fun e2 => ?_)
          · simp
            refine insert_ok o (by decide) ?_
            have : formB (.str w :: t :: r) = insertB (.str w :: t :: r) := by show formW _ _ = _; unfold formW; rw [if_neg e0, if_neg e1, if_pos e]
            rwa [this] at q
          simp
          refine kIf_not (fun e => ?_) (fun e3 => ?_)
          · simp
            by_cases hr : r.length = 1
            · match r, hr, o with
              | [c], _, o =>
                have oc := o.mem c (by simp)
                have : formB [.str w, t, c] = (nameB t && condsB c) := by show formW _ _ = _; unfold formW; rw [if_neg e0, if_neg e1, if_neg e2, if_pos e]
                rw [this] at q
                simp
                refine name_ok ot fun h2 p2 => ?_
                cases e4 : nameB t with
                | true =>
                  rw [e4] at q
                  simp
                  exact conds_ok oc (by decide) fun h3 p3 => by simpa using q h3 (p2.trans p3)
                | false =>
                  rw [e4] at q
                  simpa using q h2 p2
            · have : formB (.str w :: t :: r) = false := by
                show formW _ _ = _
                unfold formW
                rw [if_neg e0, if_neg e1, if_neg e2, if_pos e]
                match r, hr with
                | [], _ => rfl
                | _ :: _ :: _, _ => rfl
              rw [this] at q
              have hr' : ¬ ((r.length : Int) + 1 + 1 = 3) := by omega
              simp [hr']
              exact q h1 (.refl _)
          simp
          refine kIf_not (fun e => ?_) (fun e4 => ?_)
          · simp
            by_cases hr : r.length = 2
            · match r, hr, o with
              | [s, c], _, o =>
                have os := o.mem s (by simp)
                have oc := o.mem c (by simp)
                have : formB [.str w, t, s, c] = (nameB t && (settingsB s && condsB c)) := by show formW _ _ = _; unfold formW; rw [if_neg e0, if_neg e1, if_neg e2, if_neg e3, if_pos e]
                rw [this] at q
                simp
                refine name_ok ot fun h2 p2 => ?_
                cases e4 : nameB t with
                | true =>
                  rw [e4] at q
                  simp
                  refine settings_ok os (by decide) fun h3 p3 => ?_
                  cases e5 : settingsB s with
                  | true =>
                    rw [e5] at q
                    simp
                    exact conds_ok oc (by decide) fun h4 p4 => by simpa using q h4 ((p2.trans p3).trans p4)
                  | false =>
                    rw [e5] at q
                    simpa using q h3 (p2.trans p3)
                | false =>
                  rw [e4] at q
                  simpa using q h2 p2
            · have : formB (.str w :: t :: r) = false := by
                show formW _ _ = _
                unfold formW
                rw [if_neg e0, if_neg e1, if_neg e2, if_neg e3, if_pos e]
                match r, hr with
                | [], _ => rfl
                | [_], _ => rfl
                | _ :: _ :: _ :: _, _ => rfl
              rw [this] at q
              have hr' : ¬ ((r.length : Int) + 1 + 1 = 4) := by omega
              simp [hr']
              exact q h1 (.refl _)
          simp
          refine kIf_not (fun e => ?_) (fun e5 => ?_)
          · simp
            refine select_ok o (by decide) ?_
            have : formB (.str w :: t :: r) = selectB (.str w :: t :: r) := by show formW _ _ = _; unfold formW; rw [if_neg e0, if_neg e1, if_neg e2, if_neg e3, if_neg e4, if_pos e]
            rwa [this] at q
          simp
          by_cases e6 : w = Str.ofString "replace"
          · simp [e6]
            by_cases hr : r.length = 1
            · match r, hr, o with
              | [c], _, o =>
                have oc := o.mem c (by simp)
                have : formB [.str w, t, c] = (countB 0 9 t && countB 1 999 c) := by show formW _ _ = _; unfold formW; rw [if_neg e0, if_neg e1, if_neg e2, if_neg e3, if_neg e4, if_neg e5, decide_eq_true e6, Bool.true_and]
                rw [this] at q
                simp
                refine count_ok ot ?_
                cases e4 : countB 0 9 t with
                | true =>
                  rw [e4] at q
                  simp
                  exact count_ok oc (by simpa using q h1 (.refl _))
                | false =>
                  rw [e4] at q
                  simpa using q h1 (.refl _)
            · have : formB (.str w :: t :: r) = false := by
                show formW _ _ = _
                unfold formW
                rw [if_neg e0, if_neg e1, if_neg e2, if_neg e3, if_neg e4, if_neg e5, decide_eq_true e6, Bool.true_and]
                match r, hr with
                | [], _ => rfl
                | _ :: _ :: _, _ => rfl
              rw [this] at q
              have hr' : ¬ ((r.length : Int) + 1 + 1 = 3) := by omega
              simp [hr']
              exact q h1 (.refl _)
          · have : formB (.str w :: t :: r) = false := by show formW _ _ = _; unfold formW; rw [if_neg e0, if_neg e1, if_neg e2, if_neg e3, if_neg e4, if_neg e5, decide_eq_false e6, Bool.false_and]
            rw [this] at q
            simp [e6]
            exact q h1 (.refl _)
        | ref n => have := ow.p; rw [pl_ref] at this; cases this
        | scr n => have := ow.p; rw [pl_scr] at this; cases this
        | err n => have := ow.p; cases this
        | _ =>
          have : ∀ {z : Z} {r : List Z}, (∀ x, z ≠ .str x) → formB (z :: r) = false := fun hz => form_str fun w r e => hz _ (List.cons.inj e).1
          rw [this (by intro x e; cases e)] at q
          simpa using q h1 (.refl _)
    | _ => simpa [stmtB] using q h1 (.refl _)
end
end ZF

namespace ZL
open PySem PySem.Spec PyProof.Rows L2
/-! ### what is plain, by its parts and its depth -/
mutual
def atomB : Z → Bool
  | .int i => decide (i.natAbs < 1000000000000000000000000000000000000000000000000000000000000)
  | .tup zs => atomBs zs
  | .scr _ => false
  | .ref _ => false
  | .err _ => false
  | _ => true
def atomBs : List Z → Bool
  | [] => true
  | z :: zs => atomB z && atomBs zs
end
theorem atomBs_all : ∀ {zs : List Z}, atomBs zs = zs.all atomB
  | [] => by unfold atomBs; rfl
  | z :: zs => by unfold atomBs; rw [atomBs_all]; rfl
mutual
theorem plain_atom : ∀ (d : Nat) (z : Z), plainB d z = (atomB z && decide (depZ z ≤ d))
  | d, .non => by rw [pl_non]; simp [atomB, depZ]
  | d, .bl _ => by rw [pl_bl]; simp [atomB, depZ]
  | d, .str _ => by rw [pl_str]; simp [atomB, depZ]
  | d, .int i => by rw [pl_int]; simp [atomB, depZ]
  | d, .scr _ => by rw [pl_scr]; simp [atomB]
  | d, .ref _ => by rw [pl_ref]; simp [atomB]
  | d, .err _ => by cases d <;> simp [atomB, plainB]
  | 0, .tup zs => by rw [pl_tup0]; simp [depZ]
  | d + 1, .tup zs => by
    show plainBs d zs = _
    rw [plains_atom d zs]
    simp [atomB, depZ]
theorem plains_atom : ∀ (d : Nat) (zs : List Z), plainBs d zs = (atomBs zs && decide (depZs zs ≤ d))
  | d, [] => by simp [plainBs, atomBs, depZs]
  | d, z :: zs => by
    unfold plainBs atomBs depZs
    rw [plain_atom d z, plains_atom d zs]
    rw [show decide (max (depZ z) (depZs zs) ≤ d) = (decide (depZ z ≤ d) && decide (depZs zs ≤ d)) by rw [← Bool.decide_and, decide_eq_decide]; exact Nat.max_le]
    cases atomB z <;> cases atomBs zs <;> cases decide (depZ z ≤ d) <;> rfl
end
theorem depZs_mem : ∀ {zs : List Z} {z : Z}, z ∈ zs → depZ z ≤ depZs zs
  | y :: ys, z, m => by
    unfold depZs
    rcases List.mem_cons.mp m with rfl | m
    · exact Nat.le_max_left _ _
    · exact Nat.le_trans (depZs_mem m) (Nat.le_max_right _ _)
/-! ### the law's own comparison of values, and its depth -/
def wSameL (cs : List Str) (r : WF) : WS := (wsSeq (wsIf (wAnd (wTru (wIsi .tuple cs (wVar 0))) (wTru (wIsi .tuple cs (wVar 1)))) (wsSeq (wsIf (wB (w2 oNe (wCB oLen (wCons (wVar 0) wNil)) (wCB oLen (wCons (wVar 1) wNil)))) (wsRet (wC (.bl false))) wsNext) (wsSeq (wsFor (iR1 (wCons (wCB oLen (wCons (wVar 0) wNil)) wNil)) (wgName 2) (wsIf (wNot (wTru (wCall 2 r (wCons (w2 oIx (wVar 0) (wVar 2)) (wCons (w2 oIx (wVar 1) (wVar 2)) wNil))))) (wsRet (wC (.bl false))) wsNext)) (wsRet (wC (.bl true))))) wsNext) (wsSeq (wsIf (wOr (wTru (wIsi .tuple cs (wVar 0))) (wTru (wIsi .tuple cs (wVar 1)))) (wsRet (wC (.bl false))) wsNext) (wsSeq (wsIf (wOr (wTru (wIsi .bool cs (wVar 0))) (wTru (wIsi .bool cs (wVar 1)))) (wsRet (wAndV (wIsi .bool cs (wVar 0)) (wAndV (wIsi .bool cs (wVar 1)) (w2 oEq (wVar 0) (wVar 1))))) wsNext) (wsRet (w2 oEq (wVar 0) (wVar 1))))))
def fSameL (cs : List Str) : Nat → WF
  | 0 => fun _ _ _ _ => False
  | n + 1 => wfOf 3 (wSameL cs (fSameL cs n))
def wDeepL (cs : List Str) (r : WF) : WS := (wsSeq (wsIf (wNot (wTru (wIsi .tuple cs (wVar 0)))) (wsRet (wC (.int 0))) wsNext) (wsSeq (wsSet 1 (wC (.int 0))) (wsSeq (wsFor (iVal (wVar 0)) (wgName 2) (wsSet 1 (wCB oMax (wCons (wVar 1) (wCons (wCall 1 r (wCons (wVar 2) wNil)) wNil))))) (wsRet (w2 oAdd (wVar 1) (wC (.int 1)))))))
def fDeepL (cs : List Str) : Nat → WF
  | 0 => fun _ _ _ _ => False
  | n + 1 => wfOf 3 (wDeepL cs (fDeepL cs n))
theorem rng_cons {a : Int} {n : Nat} : rngZ a (n + 1) = .int a :: rngZ (a + 1) n := by
  unfold rngZ
  rw [List.range_succ_eq_map, List.map_cons, List.map_map]
  congr 1
  · simp
  · apply List.map_congr_left
    intro i _
    simp
    omega
mutual
theorem nice_ok : ∀ {z : Z}, niceZ z = true → okZ z = true
  | .non, _ => rfl
  | .bl _, _ => rfl
  | .int _, _ => rfl
  | .str x, h => by
    unfold niceZ at h
    show PyData.strOk x = true
    unfold PyData.strOk
    rw [Array.all_eq_true_iff_forall_mem]
    intro c m
    rw [List.all_eq_true] at h
    have := h c (by simpa using m)
    unfold ZS.niceC at this
    simp only [Bool.or_eq_true, Bool.and_eq_true, decide_eq_true_eq, beq_iff_eq] at this
    simp only [decide_eq_true_eq]
    omega
  | .tup zs, h => by
    unfold niceZ at h
    unfold okZ
    exact nices_ok h
  | .scr _, h => by unfold niceZ at h; cases h
  | .ref _, h => by unfold niceZ at h; cases h
  | .err _, h => by unfold niceZ at h; cases h
theorem nices_ok : ∀ {zs : List Z}, niceZs zs = true → okZs zs = true
  | [], _ => rfl
  | z :: zs, h => by
    unfold niceZs at h
    obtain ⟨a, b⟩ := Bool.and_eq_true_iff.mp h
    unfold okZs
    rw [nice_ok a, nices_ok b]
    rfl
end
theorem nice_mem {zs : List Z} (h : niceZ (.tup zs) = true) {z : Z} (m : z ∈ zs) : niceZ z = true := by
  unfold niceZ at h
  rw [niceZs_all, List.all_eq_true] at h
  exact h z m
theorem depZ_tup {zs : List Z} : depZ (.tup zs) = depZs zs + 1 := by unfold depZ; rfl
section
variable {cs : List Str}
theorem deep_ok : ∀ {n : Nat} {z : Z} {h : ZH} {P : PZ} {E : XZ → ZH → Prop}, niceZ z = true → depZ z < n → P (.int (depZ z : Nat)) h → fDeepL cs n [z] h P E
  | 0, _, _, _, _, _, h, _ => absurd h (Nat.not_lt_zero _)
  | n + 1, z, h, P, E, nz, hd, q => by
    show wfOf 3 (wDeepL cs (fDeepL cs n)) [z] h P E
    unfold wfOf wDeepL
    simp
    cases z with
    | ref n => unfold niceZ at nz; cases nz
    | scr n => unfold niceZ at nz; cases nz
    | err n => unfold niceZ at nz; cases nz
    | tup zs =>
      rw [depZ_tup] at q hd
      simp
      refine forZ_ind (fun us env h' => h' = h ∧ ∃ (m : Nat) (a : Option Z), env = [some (.tup zs), some (.int m), a] ∧ max m (depZs us) = depZs zs ∧ ∀ z ∈ us, niceZ z = true ∧ depZ z < n) ?_ ?_ _ _ _ ⟨rfl, 0, none, rfl, by simp, fun z m => ⟨nice_mem nz m, by have := depZs_mem m; omega⟩⟩
      · rintro env h' ⟨rfl, m, a, rfl, e, _⟩
        refine ⟨trivial, ?_⟩
        simp
        have e : m = depZs zs := by simpa [depZs] using e
        rw [e]
        exact q
      · rintro z us env h' N hN ⟨rfl, m, a, rfl, e, hu⟩
        refine ⟨trivial, ?_⟩
        obtain ⟨nz', hz⟩ := hu z List.mem_cons_self
        simp
        refine deep_ok nz' hz ?_
        simp
        refine hN _ _ ⟨rfl, max m (depZ z), some z, ?_, ?_, fun y my => hu y (List.mem_cons_of_mem _ my)⟩
        · have : (if m < depZ z then ((depZ z : Nat) : Int) else (m : Int)) = ((max m (depZ z) : Nat) : Int) := by split <;> omega
          rw [this]
        · rw [← e]
          exact Nat.max_assoc _ _ _
    | _ =>
      simp
      exact q
section
variable {h : ZH} {i : Int} {x : Str}
theorem ze1 : zEqB h .non .non = true := rfl
theorem ze2 : zEqB h .non (.int i) = false := rfl
theorem ze3 : zEqB h .non (.str x) = false := rfl
theorem ze4 : zEqB h (.int i) .non = false := rfl
theorem ze5 : zEqB h (.int i) (.str x) = false := rfl
theorem ze6 : zEqB h (.str x) .non = false := rfl
theorem ze7 : zEqB h (.str x) (.int i) = false := rfl
end
theorem eq_atoms {x y : Z} {h : ZH} {P : PZ} (nx : niceZ x = true) (ny : niceZ y = true) (tx : ∀ zs, x ≠ .tup zs) (ty : ∀ zs, y ≠ .tup zs) (bx : ∀ b, x ≠ .bl b) (by' : ∀ b, y ≠ .bl b) (q : P (.bl (decide (x = y))) h) : oEq x y h P := by
  have ox := nice_ok nx
  have oy := nice_ok ny
  have dx : depZ x = 0 := by cases x <;> first | rfl | exact absurd rfl (tx _)
  have dy : depZ y = 0 := by cases y <;> first | rfl | exact absurd rfl (ty _)
  have kx : okD h x := okD_of ox (by omega)
  have ky : okD h y := okD_of oy (by omega)
  cases x with
  | tup zs => exact absurd rfl (tx _)
  | bl b => exact absurd rfl (bx _)
  | ref n => unfold niceZ at nx; cases nx
  | scr n => unfold niceZ at nx; cases nx
  | err n => unfold niceZ at nx; cases nx
  | non =>
    cases y with
    | tup zs => exact absurd rfl (ty _)
    | bl b => exact absurd rfl (by' _)
    | ref n => unfold niceZ at ny; cases ny
    | scr n => unfold niceZ at ny; cases ny
    | err n => unfold niceZ at ny; cases ny
    | non => exact ⟨kx, ky, by simpa [ze1, ze2, ze3, ze4, ze5, ze6, ze7] using q⟩
    | int j => exact ⟨kx, ky, by simpa [ze1, ze2, ze3, ze4, ze5, ze6, ze7] using q⟩
    | str j => exact ⟨kx, ky, by simpa [ze1, ze2, ze3, ze4, ze5, ze6, ze7] using q⟩
  | int i =>
    cases y with
    | tup zs => exact absurd rfl (ty _)
    | bl b => exact absurd rfl (by' _)
    | ref n => unfold niceZ at ny; cases ny
    | scr n => unfold niceZ at ny; cases ny
    | err n => unfold niceZ at ny; cases ny
    | non => exact ⟨kx, ky, by simpa [ze1, ze2, ze3, ze4, ze5, ze6, ze7] using q⟩
    | int j => simpa using q
    | str j => exact ⟨kx, ky, by simpa [ze1, ze2, ze3, ze4, ze5, ze6, ze7] using q⟩
  | str i =>
    cases y with
    | tup zs => exact absurd rfl (ty _)
    | bl b => exact absurd rfl (by' _)
    | ref n => unfold niceZ at ny; cases ny
    | scr n => unfold niceZ at ny; cases ny
    | err n => unfold niceZ at ny; cases ny
    | non => exact ⟨kx, ky, by simpa [ze1, ze2, ze3, ze4, ze5, ze6, ze7] using q⟩
    | int j => exact ⟨kx, ky, by simpa [ze1, ze2, ze3, ze4, ze5, ze6, ze7] using q⟩
    | str j => simpa using q
theorem size_mem : ∀ {zs : List Z} {z : Z}, z ∈ zs → sizeZ z ≤ sizeZs zs
  | y :: ys, z, m => by
    unfold sizeZs
    rcases List.mem_cons.mp m with rfl | m
    · omega
    · have := size_mem m; omega
theorem same_ok : ∀ {n : Nat} {x y : Z} {h : ZH} {P : PZ} {E : XZ → ZH → Prop}, niceZ x = true → niceZ y = true → depZ x < n → sizeZ x ≤ 1000000 → P (.bl (decide (x = y))) h → fSameL cs n [x, y] h P E
  | 0, _, _, _, _, _, _, _, h, _, _ => absurd h (Nat.not_lt_zero _)
  | n + 1, x, y, h, P, E, nx, ny, hd, hs, q => by
    show wfOf 3 (wSameL cs (fSameL cs n)) [x, y] h P E
    unfold wfOf wSameL
    simp
    cases x with
    | ref n => unfold niceZ at nx; cases nx
    | scr n => unfold niceZ at nx; cases nx
    | err n => unfold niceZ at nx; cases nx
    | tup xs =>
      cases y with
      | ref n => unfold niceZ at ny; cases ny
      | scr n => unfold niceZ at ny; cases ny
      | err n => unfold niceZ at ny; cases ny
      | tup ys =>
        rw [depZ_tup] at hd
        simp
        by_cases hl : xs.length = ys.length
        · have hl' : (xs.length : Int) = ys.length := by omega
          have hs : sizeZs xs + 1 ≤ 1000000 := by simpa [sizeZ] using hs
          have hlen := len_sizeZs xs
          simp [hl']
          refine ⟨⟨by omega, by omega⟩, ?_⟩
          refine forZ_ind (fun us env h' => h' = h ∧ ∃ (j : Nat) (a : Option Z), env = [some (.tup xs), some (.tup ys), a] ∧ us = rngZ (j : Int) (ys.length - j) ∧ j ≤ ys.length ∧ ∀ i : Nat, i < j → xs[i]? = ys[i]?) ?_ ?_ _ _ _ ⟨rfl, 0, none, rfl, by simp, by omega, fun i hi => absurd hi (Nat.not_lt_zero _)⟩
          · rintro env h' ⟨rfl, j, a, rfl, e, hj, he⟩
            have : ys.length - j = 0 := by
              have := congrArg List.length e
              simp [rngZ] at this
              omega
            refine ⟨trivial, ?_⟩
            simp
            have ee : xs = ys := List.ext_getElem? fun i => by
              by_cases hi : i < j
              · exact he i hi
              · rw [List.getElem?_eq_none (by omega), List.getElem?_eq_none (by omega)]
            subst ee
            simpa using q
          · rintro z us env h' N hN ⟨rfl, j, a, rfl, e, hj, he⟩
            have hjm : j < ys.length := by
              have := congrArg List.length e
              simp [rngZ] at this
              omega
            rw [show ys.length - j = (ys.length - (j + 1)) + 1 by omega] at e
            have rc := rng_cons (a := (j : Int)) (n := ys.length - (j + 1))
            rw [rc] at e
            obtain ⟨rfl, rfl⟩ := List.cons.inj e
            refine ⟨trivial, ?_⟩
            have hjx : j < xs.length := by omega
            have a1 : L2.atI xs (j : Int) = some xs[j] := atI_nat hjx
            have a2 : L2.atI ys (j : Int) = some ys[j] := atI_nat hjm
            simp [a1, a2]
            have mx := List.getElem_mem hjx
            have my := List.getElem_mem hjm
            refine same_ok (nice_mem nx mx) (nice_mem ny my) (by have := depZs_mem mx; omega) (by have := size_mem mx; omega) ?_
            by_cases ee : xs[j] = ys[j]
            · rw [decide_eq_true ee]
              simp
              refine hN _ _ ⟨rfl, j + 1, _, rfl, by simp, by omega, fun i hi => ?_⟩
              by_cases hi' : i < j
              · exact he i hi'
              · have : i = j := by omega
                subst this
                rw [List.getElem?_eq_getElem hjx, List.getElem?_eq_getElem hjm, ee]
            · rw [decide_eq_false ee]
              simp
              have : decide (Z.tup xs = Z.tup ys) = false := by
                simp
                rintro rfl
                exact ee rfl
              rw [this] at q
              exact q
        · have hl' : ¬ (xs.length : Int) = ys.length := by omega
          simp [hl']
          have : decide (Z.tup xs = Z.tup ys) = false := by
            simp
            rintro rfl
            exact hl rfl
          rw [this] at q
          exact q
      | _ => simpa using q
    | bl b =>
      cases y with
      | ref n => unfold niceZ at ny; cases ny
      | scr n => unfold niceZ at ny; cases ny
      | err n => unfold niceZ at ny; cases ny
      | _ => simpa using q
    | _ =>
      cases y with
      | ref n => unfold niceZ at ny; cases ny
      | scr n => unfold niceZ at ny; cases ny
      | err n => unfold niceZ at ny; cases ny
      | tup ys => simpa using q
      | bl b => simpa using q
      | _ =>
        simp
        refine eq_atoms nx ny ?_ ?_ ?_ ?_ q <;> (intro z e; cases e)
mutual
theorem nice_refs {h : ZH} : ∀ {z : Z}, niceZ z = true → refsI cs h z
  | .non, _ => by unfold refsI; trivial
  | .bl _, _ => by unfold refsI; trivial
  | .int _, _ => by unfold refsI; trivial
  | .str _, _ => by unfold refsI; trivial
  | .tup zs, q => by
    unfold niceZ at q
    unfold refsI
    exact nices_refs q
  | .scr _, q => by unfold niceZ at q; cases q
  | .ref _, q => by unfold niceZ at q; cases q
  | .err _, q => by unfold niceZ at q; cases q
theorem nices_refs {h : ZH} : ∀ {zs : List Z}, niceZs zs = true → refsIs cs h zs
  | [], _ => by unfold refsIs; trivial
  | z :: zs, q => by
    unfold niceZs at q
    obtain ⟨a, b⟩ := Bool.and_eq_true_iff.mp q
    unfold refsIs
    exact ⟨nice_refs a, nices_refs b⟩
end
end
/-! ### same -/
def wSameP : WS := (wsRet (w2 oEq (wCB oRepr (wCons (wVar 0) wNil)) (wCB oRepr (wCons (wVar 1) wNil))))
def fSameP : WF := wfOf 2 wSameP
theorem sameP_ok {x y : Z} {d : Nat} {h : ZH} {P : PZ} {E : XZ → ZH → Prop} (hd : d ≤ 60) (px : plainB d x = true) (py : plainB d y = true) (sx : okS x = true) (sy : okS y = true) (nx : niceZ x = true) (ny : niceZ y = true) (lx : tlenZ x ≤ 16777216) (ly : tlenZ y ≤ 16777216) (q : P (.bl (decide (x = y))) h) : fSameP [x, y] h P E := by
  unfold fSameP wfOf wSameP
  simp [-oRepr_1]
  refine repr_plain px sx hd lx ?_
  simp [-oRepr_1]
  refine repr_plain py sy hd ly ?_
  simp
  have : decide (shw x = shw y) = decide (x = y) := decide_eq_decide.mpr (shw_inj nx ny)
  rw [this]
  exact q
end ZL

namespace ZG
open PySem PySem.Spec PyProof.Rows L2 ZL
def w_Registry___init__ : WS := (wsSeq (wsFld ["Registry"] "_names" (wVar 0) wDict0) (wsSeq (wsFld ["Registry"] "_pens" (wVar 0) wDict0) (wsFld ["Registry"] "_seals" (wVar 0) wDict0)))
def f_Registry___init__ : WF := wfOf 1 w_Registry___init__
def w_Pen___init__ : WS := (wsSeq (wsFld ["Pen"] "owner" (wVar 0) (wVar 1)) (wsFld ["Pen"] "_registry" (wVar 0) (wVar 2)))
def f_Pen___init__ : WF := wfOf 3 w_Pen___init__
def w_Registry_pen : WS := (wsSeq (wsIf (wB (w2 oIn (wVar 1) (wFld ["Registry"] "_pens" (wVar 0)))) (wsRaise "InvalidArgument" (w1 (wC (.str "the pen was given before")))) wsNext) (wsSeq (wsAsg (wC (.bl true)) (wgSub (wFld ["Registry"] "_pens" (wVar 0)) (wVar 1))) (wsRet (wMake "Pen" 2 f_Pen___init__ (wCons (wVar 1) (wCons (wVar 0) wNil))))))
def f_Registry_pen : WF := wfOf 2 w_Registry_pen
def w_Registry_is_sealed : WS := (wsRet (w2 oIn (wTup (wCons (wCB oRepr (wCons (wVar 1) wNil)) (wCons (wCB oRepr (wCons (wVar 2) wNil)) wNil))) (wFld ["Registry"] "_seals" (wVar 0))))
def f_Registry_is_sealed : WF := wfOf 3 w_Registry_is_sealed
def w_Registry_note_seal : WS := (wsAsg (wC (.bl true)) (wgSub (wFld ["Registry"] "_seals" (wVar 0)) (wTup (wCons (wCB oRepr (wCons (wVar 1) wNil)) (wCons (wCB oRepr (wCons (wVar 2) wNil)) wNil)))))
def f_Registry_note_seal : WF := wfOf 3 w_Registry_note_seal
def w_Pen_seal : WS := (wsSeq (wsExpr (wMeth "Registry" "note_seal" 2 f_Registry_note_seal (wFld ["Pen"] "_registry" (wVar 0)) (wCons (wFld ["Pen"] "owner" (wVar 0)) (wCons (wVar 1) wNil)))) (wsRet (wTup (wCons (wC (.str "sealed")) (wCons (wFld ["Pen"] "owner" (wVar 0)) (wCons (wVar 1) wNil))))))
def f_Pen_seal : WF := wfOf 2 w_Pen_seal
def w_Registry_name : WS := (wsSeq (wsSet 2 (wCB oRepr (wCons (wVar 1) wNil))) (wsSeq (wsIf (wB (w2 oNotIn (wVar 2) (wFld ["Registry"] "_names" (wVar 0)))) (wsAsg (w2 oAdd (wCB oLen (wCons (wFld ["Registry"] "_names" (wVar 0)) wNil)) (wC (.int 1))) (wgSub (wFld ["Registry"] "_names" (wVar 0)) (wVar 2))) wsNext) (wsRet (w2 oIx (wFld ["Registry"] "_names" (wVar 0)) (wVar 2)))))
def f_Registry_name : WF := wfOf 3 w_Registry_name
end ZG

namespace ZG
open PySem PySem.Spec PyProof.Rows L2 ZL
/-! ### a registry -/
def rf (a b c : Nat) : List (Str × Z) := [("_names", .ref a), ("_pens", .ref b), ("_seals", .ref c)]
abbrev reg (a b c : Nat) : ZO := .ins "Registry" (rf a b c)
section
variable {a b c : Nat}
@[simp] theorem rl1 : List.lookup ("_names" : Str) (rf a b c) = some (.ref a) := rfl
@[simp] theorem rl2 : List.lookup ("_pens" : Str) (rf a b c) = some (.ref b) := rfl
@[simp] theorem rl3 : List.lookup ("_seals" : Str) (rf a b c) = some (.ref c) := rfl
@[simp] theorem rm1 : List.lookup ("name" : Str) (rf a b c) = none := rfl
@[simp] theorem rm2 : List.lookup ("pen" : Str) (rf a b c) = none := rfl
@[simp] theorem rm3 : List.lookup ("is_sealed" : Str) (rf a b c) = none := rfl
@[simp] theorem rm4 : List.lookup ("note_seal" : Str) (rf a b c) = none := rfl
end
def rf1 (a : Nat) : List (Str × Z) := [("_names", .ref a)]
def rf2 (a b : Nat) : List (Str × Z) := [("_names", .ref a), ("_pens", .ref b)]
/-- new at x, all else stays -/
theorem init_ok {x : Nat} {h : ZH} (hx : h[x]? = some (.ins "Registry" [])) {P : PZ} {E : XZ → ZH → Prop} (q : ∀ h' a, Keep h h' [x] → h'[x]? = some (reg a (a + 1) (a + 2)) → h'[a]? = some (.dict []) → h'[a + 1]? = some (.dict []) → h'[a + 2]? = some (.dict []) → h.length ≤ a → P .non h') : f_Registry___init__ [.ref x] h P E := by
  unfold f_Registry___init__ wfOf w_Registry___init__
  have lx := lt_of_get hx
  have f1 : zput ("_names" : Str) (.ref h.length) [] = rf1 h.length := rfl
  have f2 : ∀ w, zput ("_pens" : Str) (.ref w) (rf1 h.length) = rf2 h.length w := fun w => rfl
  have f3 : ∀ w y, zput ("_seals" : Str) (.ref y) (rf2 h.length w) = rf h.length w y := fun w y => rfl
  have i1 : (rf1 h.length).length = 1 := rfl
  have i2 : ∀ w, (rf2 h.length w).length = 2 := fun w => rfl
  have e1 : ∀ g, (h ++ g)[x]? = some (.ins "Registry" []) := fun g => get_app hx
  have e2 : ∀ g y, ((h ++ g).set x y)[x]? = some y := fun g y => get_set (e1 g)
  have e3 : ∀ g y g2, ((h ++ g).set x y ++ g2)[x]? = some y := fun g y g2 => get_app (e2 g y)
  have e4 : ∀ g y g2 z, (((h ++ g).set x y ++ g2).set x z)[x]? = some z := fun g y g2 z => get_set (e3 g y g2)
  have e5 : ∀ g y g2 z g3, ((((h ++ g).set x y ++ g2).set x z) ++ g3)[x]? = some z := fun g y g2 z g3 => get_app (e4 g y g2 z)
  have e6 : ∀ g y g2 z g3 u, (((((h ++ g).set x y ++ g2).set x z) ++ g3).set x u)[x]? = some u := fun g y g2 z g3 u => get_set (e5 g y g2 z g3)
  simp [f1, f2, f3, i1, i2, e1, e2, e3, e4, e5]
  refine q _ h.length ((((((Keep.refl _ _).app _).set _ fun _ => by simp).app _).set _ fun _ => by simp).app _ |>.set _ fun _ => by simp) (e6 _ _ _ _ _ _) ?_ ?_ ?_ (Nat.le_refl _)
  · rw [List.getElem?_set_ne (by omega)]
    refine get_app ?_
    rw [List.getElem?_set_ne (by omega)]
    refine get_app ?_
    rw [List.getElem?_set_ne (by omega)]
    simp
  · rw [List.getElem?_set_ne (by omega)]
    refine get_app ?_
    rw [List.getElem?_set_ne (by omega)]
    simp
  · rw [List.getElem?_set_ne (by omega)]
    simp
end ZG
namespace ZG
open PySem PySem.Spec PyProof.Rows L2 ZL
/-! ### names -/
/-- what repr may be asked of -/
structure Rv (v : Z) : Prop where
  n : niceZ v = true
  p : plainB 60 v = true
  s : okS v = true
  l : tlenZ v ≤ 16777216
theorem repr_ok {v : Z} (r : Rv v) {h : ZH} {P : PZ} (q : P (.str (shw v)) h) : oRepr [v] h P := repr_plain r.p r.s (by decide) r.l q
theorem shw_dec {x y : Z} (hx : Rv x) (hy : Rv y) : decide (Z.str (shw x) = Z.str (shw y)) = decide (x = y) := decide_eq_decide.mpr ⟨fun e => (shw_inj hx.n hy.n).mp (Z.str.inj e), fun e => by rw [e]⟩
/-- the place of v, or the length -/
def posZ : List Z → Z → Nat
  | [], _ => 0
  | u :: us, v => if u = v then 0 else posZ us v + 1
theorem pos_le : ∀ {us : List Z} {v : Z}, posZ us v ≤ us.length
  | [], _ => Nat.le_refl _
  | u :: us, v => by
    unfold posZ
    split
    · omega
    · have := pos_le (us := us) (v := v)
      simp; omega
def nmD : Nat → List Z → List (Z × Z)
  | _, [] => []
  | i, v :: vs => (.str (shw v), .int (i : Nat)) :: nmD (i + 1) vs
def insV (vs : List Z) (v : Z) : List Z := if posZ vs v < vs.length then vs else vs ++ [v]
theorem nm_len : ∀ {i : Nat} {vs : List Z}, (nmD i vs).length = vs.length
  | _, [] => rfl
  | i, v :: vs => by unfold nmD; simp [nm_len]
theorem nm_get : ∀ {i : Nat} {vs : List Z} {v : Z}, (∀ u ∈ vs, Rv u) → Rv v → dget (nmD i vs) (.str (shw v)) = if posZ vs v < vs.length then some (.int ((i + posZ vs v : Nat) : Int)) else none
  | i, [], v, _, _ => rfl
  | i, u :: us, v, hu, hv => by
    unfold nmD posZ dget
    rw [List.find?_cons]
    have e := shw_dec (hu u List.mem_cons_self) hv
    show Option.map _ (match decide (Z.str (shw u) = Z.str (shw v)) with | true => _ | false => _) = _
    rw [e]
    by_cases c : u = v
    · simp [c]
    · rw [decide_eq_false c]
      have ih := nm_get (i := i + 1) (vs := us) (v := v) (fun y m => hu y (List.mem_cons_of_mem _ m)) hv
      unfold dget at ih
      show Option.map _ (List.find? _ (nmD (i + 1) us)) = _
      rw [ih, if_neg c]
      simp only [List.length_cons, Nat.add_lt_add_iff_right]
      split
      · congr 3; omega
      · rfl
theorem nm_any {i : Nat} {vs : List Z} {v : Z} (hu : ∀ u ∈ vs, Rv u) (hv : Rv v) (h : ¬ posZ vs v < vs.length) : ((nmD i vs).any fun p => decide (p.1 = .str (shw v))) = false := by
  have := nm_get (i := i) hu hv
  rw [if_neg h] at this
  unfold dget at this
  rw [Option.map_eq_none_iff, List.find?_eq_none] at this
  rw [List.any_eq_false]
  intro p m
  simpa using this p m
theorem nm_snoc : ∀ {i : Nat} {vs : List Z} {v : Z}, nmD i (vs ++ [v]) = nmD i vs ++ [(.str (shw v), .int ((i + vs.length : Nat) : Int))]
  | i, [], v => rfl
  | i, u :: us, v => by
    show _ :: nmD (i + 1) (us ++ [v]) = _ :: nmD (i + 1) us ++ _
    rw [nm_snoc]
    simp only [List.cons_append, List.length_cons]
    congr 4
    rw [show i + 1 + us.length = i + (us.length + 1) by omega]
theorem nm_put {i : Nat} {vs : List Z} {v : Z} (hu : ∀ u ∈ vs, Rv u) (hv : Rv v) (h : ¬ posZ vs v < vs.length) : dput (nmD i vs) (.str (shw v)) (.int ((i + vs.length : Nat) : Int)) = nmD i (vs ++ [v]) := by
  unfold dput
  rw [nm_any hu hv h, nm_snoc]
  rfl
theorem nm_key : ∀ {i : Nat} {vs : List Z} {s : Str}, dkey (nmD i vs) (.str s) := by
  intro i vs s
  refine ⟨rfl, ?_⟩
  intro p m
  induction vs generalizing i with
  | nil => cases m
  | cons u us ih =>
    unfold nmD at m
    rcases List.mem_cons.mp m with rfl | m
    · rfl
    · exact ih m
theorem ins_mem {vs : List Z} {v u : Z} (m : u ∈ insV vs v) : u ∈ vs ∨ u = v := by
  unfold insV at m
  split at m
  · exact .inl m
  · rcases List.mem_append.mp m with m | m
    · exact .inl m
    · exact .inr (by simpa using m)
theorem ins_len {vs : List Z} {v : Z} : (insV vs v).length ≤ vs.length + 1 := by
  unfold insV
  split
  · omega
  · simp
theorem name_ok {x a b c : Nat} {vs : List Z} {v : Z} {h : ZH} (hx : h[x]? = some (reg a b c)) (ha : h[a]? = some (.dict (nmD 1 vs))) (hu : ∀ u ∈ vs, Rv u) (hv : Rv v) (hl : vs.length ≤ 1000000) {P : PZ} {E : XZ → ZH → Prop}
    (q : ∀ h', Keep h h' [a] → h'[a]? = some (.dict (nmD 1 (insV vs v))) → P (.int ((posZ vs v + 1 : Nat) : Int)) h') : f_Registry_name [.ref x, v] h P E := by
  unfold f_Registry_name wfOf w_Registry_name
  have bl := big_line
  have nxa : x ≠ a := ne_of_get hx ha (by simp)
  simp [-oRepr_1]
  refine repr_ok hv ?_
  simp [hx, ha, oNotIn, inZ, nm_key, nm_get hu hv]
  by_cases hp : posZ vs v < vs.length
  · have e : insV vs v = vs := if_pos hp
    rw [e] at q
    simp [hp, hx, ha, nm_key, nm_get hu hv]
    have := q h (.refl _ _) ha
    simpa [Nat.add_comm] using this
  · have e : insV vs v = vs ++ [v] := if_neg hp
    rw [e] at q
    have ep : posZ vs v = vs.length := by have := pos_le (us := vs) (v := v); omega
    have hxs : ∀ y, (h.set a y)[x]? = some (reg a b c) := fun y => by rw [List.getElem?_set_ne nxa.symm]; exact hx
    have has : ∀ y, (h.set a y)[a]? = some y := fun y => get_set ha
    have ei : ((vs.length : Int) + 1) = ((1 + vs.length : Nat) : Int) := by omega
    simp [hp, hx, ha, nm_key, nm_len]
    rw [ei, nm_put hu hv hp]
    refine ⟨by omega, ?_⟩
    have hu' : ∀ u ∈ vs ++ [v], Rv u := fun u m => by
      rcases List.mem_append.mp m with m | m
      · exact hu u m
      · simp at m; subst m; exact hv
    have ep2 : ∀ {us : List Z}, posZ us v = us.length → posZ (us ++ [v]) v = us.length := by
      intro us
      induction us with
      | nil => intro _; simp [posZ]
      | cons u us ih =>
        intro h
        unfold posZ at h
        split at h
        · simp at h
        · rename_i c
          show (if u = v then 0 else posZ (us ++ [v]) v + 1) = _
          rw [if_neg c, ih (by simpa using h)]
          rfl
    simp [hxs, has, nm_key, nm_get hu' hv, ep2 ep]
    have := q _ ((Keep.refl h [a]).set _ fun _ => by simp) (has _)
    rw [ep] at this
    rw [Int.add_comm]
    simpa using this
end ZG

namespace ZG
open PySem PySem.Spec PyProof.Rows L2 ZL
/-! ### dicts -/
theorem get_put {k v : Z} : ∀ {kvs : List (Z × Z)} {k' : Z}, dget (dput kvs k v) k' = if k' = k then some v else dget kvs k' := by
  intro kvs k'
  unfold dput
  split
  · rename_i h
    have key : ∀ l : List (Z × Z), (l.any fun p => decide (p.1 = k)) = true ∨ k' ≠ k → dget (l.map fun p => if p.1 = k then (p.1, v) else p) k' = if k' = k then some v else dget l k' := by
      intro l
      induction l with
      | nil =>
        intro c
        rcases c with c | c
        · simp at c
        · simp [dget, c]
      | cons p l ih =>
        intro c
        by_cases e : p.1 = k
        · by_cases e2 : k' = k
          · simp [dget, e, e2, -List.find?_map, -Option.map_map]
          · have ih := ih (.inr e2)
            have e3 : ¬ k = k' := fun z => e2 z.symm
            simp only [dget, if_neg e2] at ih
            simp [dget, e, e2, e3, ih, -List.find?_map, -Option.map_map]
        · have e4 : ¬ (k' = k ∧ p.1 = k') := fun ⟨z1, z2⟩ => e (z2.trans z1)
          by_cases e5 : p.1 = k'
          · have e2 : ¬ k' = k := fun z => e4 ⟨z, e5⟩
            simp [dget, e, e5, e2, -List.find?_map, -Option.map_map]
          · have ih := ih (c.imp_left fun c => by simpa [e] using c)
            simp only [dget] at ih
            simp [dget, e, e5, ih, -List.find?_map, -Option.map_map]
    exact key kvs (.inl h)
  · rename_i h
    have h : ∀ p ∈ kvs, p.1 ≠ k := fun p m e => h (List.any_eq_true.mpr ⟨p, m, by simp [e]⟩)
    by_cases e : k' = k
    · subst e
      have : kvs.find? (fun p => decide (p.1 = k')) = none := by
        rw [List.find?_eq_none]
        intro p m
        simpa using h p m
      simp [dget, List.find?_append, this]
    · have e3 : ¬ k = k' := fun z => e z.symm
      simp [dget, List.find?_append, e, e3]
theorem put_keys {k v : Z} {b : Bool} {kvs : List (Z × Z)} (h : ∀ p ∈ kvs, isT p.1 = b) (hk : isT k = b) : ∀ p ∈ dput kvs k v, isT p.1 = b := by
  intro p m
  unfold dput at m
  split at m
  · obtain ⟨y, hy, rfl⟩ := List.mem_map.mp m
    split
    · exact h y hy
    · exact h y hy
  · rcases List.mem_append.mp m with m | m
    · exact h p m
    · simp at m; subst m; exact hk
theorem put_len {k v : Z} {kvs : List (Z × Z)} : (dput kvs k v).length ≤ kvs.length + 1 := by
  unfold dput
  split <;> simp
/-! ### seals -/
def keyS (o v : Z) : Z := .tup [.str (shw o), .str (shw v)]
theorem key_inj {o v o' v' : Z} (ho : Rv o) (hv : Rv v) (ho' : Rv o') (hv' : Rv v') : keyS o v = keyS o' v' ↔ o = o' ∧ v = v' := by
  unfold keyS
  simp only [Z.tup.injEq, List.cons.injEq, Z.str.injEq, and_true]
  rw [shw_inj ho.n ho'.n, shw_inj hv.n hv'.n]
abbrev Seals := List (Z × Z)
def memS (S : Seals) (o v : Z) : Bool := S.any fun s => decide (s.1 = o) && decide (s.2 = v)
structure SealsOk (kvs : List (Z × Z)) (S : Seals) : Prop where
  t : ∀ p ∈ kvs, isT p.1 = true
  g : ∀ o v, Rv o → Rv v → (dget kvs (keyS o v)).isSome = memS S o v
  r : ∀ s ∈ S, Rv s.1 ∧ Rv s.2
  l : kvs.length ≤ S.length
theorem seals0 : SealsOk [] [] := ⟨fun p m => (nomatch m), fun o v _ _ => rfl, fun s m => (nomatch m), Nat.le_refl _⟩
theorem SealsOk.put {kvs : List (Z × Z)} {S : Seals} (k : SealsOk kvs S) {o v : Z} (ho : Rv o) (hv : Rv v) : SealsOk (dput kvs (keyS o v) (.bl true)) (S ++ [(o, v)]) := by
  refine ⟨put_keys k.t rfl, fun o' v' ho' hv' => ?_, fun s m => ?_, ?_⟩
  · rw [get_put]
    unfold memS
    rw [List.any_append]
    have := k.g o' v' ho' hv'
    unfold memS at this
    rw [← this]
    by_cases e : keyS o' v' = keyS o v
    · obtain ⟨e1, e2⟩ := (key_inj ho' hv' ho hv).mp e
      simp [e, e1, e2]
    · rw [if_neg e]
      have : ¬ (o = o' ∧ v = v') := fun ⟨a, b⟩ => e (by rw [a, b])
      have : (decide (o = o') && decide (v = v')) = false := by
        rw [← Bool.decide_and]; exact decide_eq_false this
      simp [this]
  · rcases List.mem_append.mp m with m | m
    · exact k.r s m
    · simp at m; subst m; exact ⟨ho, hv⟩
  · have := put_len (kvs := kvs) (k := keyS o v) (v := .bl true)
    have := k.l
    simp; omega
section
variable {x a b c : Nat} {kvs : List (Z × Z)} {S : Seals} {o v : Z} {h : ZH} {P : PZ} {E : XZ → ZH → Prop}
theorem sealed_ok (hx : h[x]? = some (reg a b c)) (hc : h[c]? = some (.dict kvs)) (k : SealsOk kvs S) (ho : Rv o) (hv : Rv v) (q : P (.bl (memS S o v)) h) : f_Registry_is_sealed [.ref x, o, v] h P E := by
  unfold f_Registry_is_sealed wfOf w_Registry_is_sealed
  simp [-oRepr_1]
  refine repr_ok ho ?_
  simp [-oRepr_1]
  refine repr_ok hv ?_
  have g := k.g o v ho hv
  unfold keyS at g
  simp [hx, hc, oIn, inZ, sizeLine_eq, g]
  exact ⟨⟨rfl, fun p m => k.t p m⟩, q⟩
theorem note_ok (hx : h[x]? = some (reg a b c)) (hc : h[c]? = some (.dict kvs)) (k : SealsOk kvs S) (ho : Rv o) (hv : Rv v) (hl : S.length ≤ 1000000) (q : P .non (h.set c (.dict (dput kvs (keyS o v) (.bl true))))) : f_Registry_note_seal [.ref x, o, v] h P E := by
  unfold f_Registry_note_seal wfOf w_Registry_note_seal
  have := k.l
  simp [-oRepr_1, hx]
  refine repr_ok ho ?_
  simp [-oRepr_1]
  refine repr_ok hv ?_
  simp [hx, hc, sizeLine_eq]
  exact ⟨⟨rfl, fun p m => k.t p m⟩, by omega, q⟩
/-! ### pens -/
def pf (o : Z) (x : Nat) : List (Str × Z) := [("owner", o), ("_registry", .ref x)]
abbrev penO (o : Z) (x : Nat) : ZO := .ins "Pen" (pf o x)
@[simp] theorem pl1 : List.lookup ("owner" : Str) (pf o x) = some o := rfl
@[simp] theorem pl2 : List.lookup ("_registry" : Str) (pf o x) = some (.ref x) := rfl
@[simp] theorem pl3 : List.lookup ("seal" : Str) (pf o x) = none := rfl
theorem seal_ok {p : Nat} (hp : h[p]? = some (penO o x)) (hx : h[x]? = some (reg a b c)) (hc : h[c]? = some (.dict kvs)) (k : SealsOk kvs S) (ho : Rv o) (hv : Rv v) (hl : S.length ≤ 1000000)
    (q : ∀ h' kvs', Keep h h' [c] → h'[c]? = some (.dict kvs') → SealsOk kvs' (S ++ [(o, v)]) → P (.tup [.str "sealed", o, v]) h') : f_Pen_seal [.ref p, v] h P E := by
  unfold f_Pen_seal wfOf w_Pen_seal
  have npc : p ≠ c := ne_of_get hp hc (by simp)
  simp [-List.lookup_eq_none_iff, hp, hx]
  refine note_ok hx hc k ho hv hl ?_
  have hp' : ∀ y, (h.set c y)[p]? = some (penO o x) := fun y => by rw [List.getElem?_set_ne npc.symm]; exact hp
  simp [hp', sizeLine_eq]
  exact q _ _ ((Keep.refl h [c]).set _ fun _ => by simp) (get_set hc) (k.put ho hv)
structure PensOk (kvs : List (Z × Z)) (O : List Int) : Prop where
  t : ∀ p ∈ kvs, isT p.1 = false
  g : ∀ i : Int, (dget kvs (.int i)).isSome = decide (i ∈ O)
  l : kvs.length ≤ O.length
theorem pens0 : PensOk [] [] := ⟨fun p m => (nomatch m), fun i => rfl, Nat.le_refl _⟩
theorem PensOk.put {O : List Int} (k : PensOk kvs O) {i : Int} : PensOk (dput kvs (.int i) (.bl true)) (O ++ [i]) := by
  refine ⟨put_keys k.t rfl, fun j => ?_, ?_⟩
  · rw [get_put]
    have := k.g j
    by_cases e : j = i
    · subst e; simp
    · have e' : ¬ Z.int j = Z.int i := fun z => e (Z.int.inj z)
      rw [if_neg e', this]
      simp [e]
  · have := put_len (kvs := kvs) (k := .int i) (v := .bl true)
    have := k.l
    simp; omega
theorem pen_ok {O : List Int} {i : Int} (hx : h[x]? = some (reg a b c)) (hb : h[b]? = some (.dict kvs)) (k : PensOk kvs O) (hi : i ∉ O) (hl : O.length ≤ 1000000)
    (q : ∀ h' p kvs', Keep h h' [b] → h'[b]? = some (.dict kvs') → PensOk kvs' (O ++ [i]) → h'[p]? = some (penO (.int i) x) → h.length ≤ p → P (.ref p) h') : f_Registry_pen [.ref x, .int i] h P E := by
  unfold f_Registry_pen wfOf w_Registry_pen
  have nxb : x ≠ b := ne_of_get hx hb (by simp)
  have g := k.g i
  rw [decide_eq_false hi] at g
  have kl := k.l
  simp [hx, hb, oIn, inZ, g, sizeLine_eq]
  refine ⟨⟨rfl, fun p m => k.t p m⟩, by omega, ?_⟩
  unfold f_Pen___init__ wfOf w_Pen___init__
  have lb := lt_of_get hb
  have e1 : ∀ y, ((h.set b y) ++ [ZO.ins (Str.ofString "Pen") []])[h.length]? = some (.ins (Str.ofString "Pen") []) := fun y => by
    rw [List.getElem?_append_right (by simp)]; simp
  have e2 : ∀ y z, (((h.set b y) ++ [ZO.ins (Str.ofString "Pen") []]).set h.length z)[h.length]? = some z := fun y z => get_set (e1 y)
  have f1 : (zput (Str.ofString "owner") (Z.int i) []).length = 1 := rfl
  have f2 : zput (Str.ofString "_registry") (Z.ref x) (zput (Str.ofString "owner") (Z.int i) []) = pf (.int i) x := rfl
  simp [e1, e2, f1, f2]
  refine q _ h.length _ (((Keep.refl h [b]).set _ fun _ => by simp).app _) (get_app (get_set hb)) k.put ?_ (Nat.le_refl _)
  rw [List.getElem?_append_right (by simp)]
  simp
theorem pen_no {O : List Int} {i : Int} (hx : h[x]? = some (reg a b c)) (hb : h[b]? = some (.dict kvs)) (k : PensOk kvs O) (hi : i ∈ O) (q : E ⟨"InvalidArgument", []⟩ h) : f_Registry_pen [.ref x, .int i] h P E := by
  unfold f_Registry_pen wfOf w_Registry_pen
  have g := k.g i
  rw [decide_eq_true hi] at g
  simp [hx, hb, oIn, inZ, g]
  exact ⟨⟨rfl, fun p m => k.t p m⟩, q⟩
end
end ZG

namespace ZN
open PySem PySem.Spec PyProof.Rows L2 ZL
def w__law_next : WS := (wsSeq (wsIf (wAnd (wB (w2 oEq (w2 oIx (wVar 0) (wC (.int 2))) (wC (.int 0)))) (wB (w2 oLt (w2 oIx (wVar 0) (wC (.int 1))) (wCB oLen (wCons (w2 oIx (wVar 0) (wC (.int 0))) wNil))))) (wsSeq (wsSet 2 (w2 oIx (w2 oIx (wVar 0) (wC (.int 0))) (w2 oIx (wVar 0) (wC (.int 1))))) (wsSeq (wsAugS oIadd (wVar 0) (wC (.int 1)) (wC (.int 1))) (wsIf (wB (w2 oGe (wVar 2) (w2 oPow (wC (.int 10)) (wC (.int 18))))) (wsAsg (wVar 2) (wgSub (wVar 0) (wC (.int 2)))) (wsAsg (w2 oMod (wCB oInt (wCons (w2 oAdd (w2 oAdd (w2 oMul (w2 oIx (wVar 0) (wC (.int 3))) (wC (.int 48271))) (w2 oMod (wCB oInt (wCons (wVar 2) wNil)) (wC (.int 2147483647)))) (wC (.int 7))) wNil)) (wC (.int 2147483647))) (wgSub (wVar 0) (wC (.int 3))))))) wsNext) (wsSeq (wsIf (wB (w2 oGt (w2 oIx (wVar 0) (wC (.int 2))) (wC (.int 0)))) (wsSeq (wsSet 3 (w2 oMod (wCB oInt (wCons (w2 oIx (wVar 0) (wC (.int 2))) wNil)) (wVar 1))) (wsSeq (wsAsg (w2 oFdiv (w2 oIx (wVar 0) (wC (.int 2))) (wVar 1)) (wgSub (wVar 0) (wC (.int 2)))) (wsRet (wVar 3)))) wsNext) (wsSeq (wsAsg (w2 oMod (wCB oInt (wCons (w2 oAdd (w2 oMul (w2 oIx (wVar 0) (wC (.int 3))) (wC (.int 69621))) (wC (.int 12345))) wNil)) (wC (.int 2147483647))) (wgSub (wVar 0) (wC (.int 3)))) (wsRet (w2 oMod (wCB oInt (wCons (w2 oFdiv (w2 oIx (wVar 0) (wC (.int 3))) (wC (.int 7))) wNil)) (wVar 1))))))
def f__law_next : WF := wfOf 4 w__law_next
end ZN

namespace ZN
open PySem PySem.Spec PyProof.Rows L2 ZL ZG ZF
/-! ### small nice plain values -/
structure W (d n : Nat) (v : Z) : Prop where
  nc : niceZ v = true
  s : okS v = true
  z : sizeZ v ≤ n
  p : ∀ e, d ≤ e → plainB e v = true
mutual
theorem tlen_le : ∀ {v : Z}, okS v = true → tlenZ v + 2 ≤ 10010 * sizeZ v
  | .non, _ => by decide
  | .bl _, _ => by show 5 + 2 ≤ 10010 * 1; decide
  | .int _, _ => by show 62 + 2 ≤ 10010 * 1; decide
  | .str x, h => by
    have h := of_decide_eq_true (Bool.and_eq_true_iff.mp h).2
    show 10 * x.length + 2 + 2 ≤ 10010 * 1
    omega
  | .tup zs, h => by
    unfold okS at h
    have := tlens_le h
    show tlenZs zs + 3 + 2 ≤ 10010 * (sizeZs zs + 1)
    omega
  | .scr _, _ => by show 0 + 2 ≤ 10010 * 1; decide
  | .ref _, _ => by show 0 + 2 ≤ 10010 * 1; decide
  | .err _, _ => by show 0 + 2 ≤ 10010 * 1; decide
theorem tlens_le : ∀ {zs : List Z}, okSs zs = true → tlenZs zs ≤ 10010 * sizeZs zs
  | [], _ => Nat.le_refl _
  | z :: zs, h => by
    unfold okSs at h
    obtain ⟨h1, h2⟩ := Bool.and_eq_true_iff.mp h
    have := tlen_le h1
    have := tlens_le h2
    show tlenZ z + 2 + tlenZs zs ≤ 10010 * (sizeZ z + sizeZs zs)
    omega
end
theorem W.le {d n d' n' : Nat} {v : Z} (w : W d n v) (hd : d ≤ d') (hn : n ≤ n') : W d' n' v := ⟨w.nc, w.s, Nat.le_trans w.z hn, fun e he => w.p e (Nat.le_trans hd he)⟩
theorem W.fit {d n : Nat} {v : Z} (w : W d n v) {h : ZH} : Fit n h v := ⟨w.z, nice_refs w.nc, w.s⟩
theorem W.rv {d n : Nat} {v : Z} (w : W d n v) (hd : d ≤ 60) (hn : n ≤ 1600) : Rv v := ⟨w.nc, w.p 60 hd, w.s, by have := tlen_le w.s; have := w.z; omega⟩
theorem sizes_le {n : Nat} : ∀ {zs : List Z}, (∀ z ∈ zs, sizeZ z ≤ n) → sizeZs zs ≤ n * zs.length
  | [], _ => Nat.zero_le _
  | z :: zs, h => by
    have := h z List.mem_cons_self
    have := sizes_le fun y m => h y (List.mem_cons_of_mem z m)
    show sizeZ z + sizeZs zs ≤ n * (zs.length + 1)
    rw [Nat.mul_add]
    omega
theorem W.tup {d n : Nat} {zs : List Z} (h : ∀ z ∈ zs, W d n z) : W (d + 1) (n * zs.length + 1) (.tup zs) := by
  refine ⟨?_, ?_, ?_, fun e he => ?_⟩
  · unfold niceZ
    rw [niceZs_all, List.all_eq_true]
    exact fun z m => (h z m).nc
  · unfold okS
    rw [okSs_all, List.all_eq_true]
    exact fun z m => (h z m).s
  · have := sizes_le fun z m => (h z m).z
    show sizeZs zs + 1 ≤ _
    omega
  · cases e with
    | zero => omega
    | succ e =>
      unfold plainB
      rw [plainBs_all, List.all_eq_true]
      exact fun z m => (h z m).p e (by omega)
theorem w_int {i : Int} (h : i.natAbs < 1000000000000000000000000000000000000000000000000000000000000) : W 0 1 (.int i) := ⟨rfl, rfl, Nat.le_refl _, fun e _ => by rw [pl_int]; exact decide_eq_true h⟩
theorem w_non : W 0 1 .non := ⟨rfl, rfl, Nat.le_refl _, fun e _ => pl_non e⟩
theorem w_bl {b : Bool} : W 0 1 (.bl b) := ⟨rfl, rfl, Nat.le_refl _, fun e _ => pl_bl e b⟩
theorem w_str {x : Str} (h : (niceZ (.str x) && okS (.str x)) = true) : W 0 1 (.str x) := ⟨(Bool.and_eq_true_iff.mp h).1, (Bool.and_eq_true_iff.mp h).2, Nat.le_refl _, fun e _ => pl_str e x⟩
/-- by looking -/
def wB (d n : Nat) (v : Z) : Bool := niceZ v && okS v && decide (sizeZ v ≤ n) && plainB d v
theorem plain_up {d e : Nat} {v : Z} (h : d ≤ e) (p : plainB d v = true) : plainB e v = true := by
  rw [plain_atom] at p ⊢
  obtain ⟨a, b⟩ := Bool.and_eq_true_iff.mp p
  rw [a, decide_eq_true (Nat.le_trans (of_decide_eq_true b) h)]; rfl
theorem w_of {d n : Nat} {v : Z} (h : wB d n v = true) : W d n v := by
  unfold wB at h
  simp only [Bool.and_eq_true, decide_eq_true_eq] at h
  exact ⟨h.1.1.1, h.1.1.2, h.1.2, fun e he => plain_up he h.2⟩
theorem W.mem {d n : Nat} {zs : List Z} (w : W (d + 1) n (.tup zs)) {z : Z} (m : z ∈ zs) : W d n z := by
  refine ⟨?_, okS_mem w.s m, ?_, fun e he => ?_⟩
  · have := w.nc
    unfold niceZ at this
    rw [niceZs_all, List.all_eq_true] at this
    exact this z m
  · have := w.z
    have h : sizeZs zs + 1 ≤ n := this
    have : ∀ {zs : List Z}, z ∈ zs → sizeZ z ≤ sizeZs zs := by
      intro zs
      induction zs with
      | nil => intro m; cases m
      | cons y ys ih =>
        intro m
        show sizeZ z ≤ sizeZ y + sizeZs ys
        rcases List.mem_cons.mp m with rfl | m
        · omega
        · have := ih m; omega
    have := this m
    omega
  · have := w.p (e + 1) (by omega)
    unfold plainB at this
    rw [plainBs_all, List.all_eq_true] at this
    exact this z m
section
variable {d : Nat} {v : Z} {h : ZH} {P : PZ} {E : XZ → ZH → Prop}
theorem size_mem {z : Z} : ∀ {zs : List Z}, z ∈ zs → sizeZ z ≤ sizeZs zs
  | y :: ys, m => by
    show sizeZ z ≤ sizeZ y + sizeZs ys
    rcases List.mem_cons.mp m with rfl | m
    · omega
    · have := size_mem m; omega
/-- plain, nice, not large -/
structure Pn (d : Nat) (v : Z) : Prop where
  o : Pl d v
  n : niceZ v = true
  z : sizeZ v ≤ 1600
theorem Pn.mem {zs : List Z} (p : Pn d (.tup zs)) {z : Z} (m : z ∈ zs) : Pn (d - 1) z := by
  refine ⟨p.o.mem z m, ?_, ?_⟩
  · have := p.n
    unfold niceZ at this
    rw [niceZs_all, List.all_eq_true] at this
    exact this z m
  · have : sizeZs zs + 1 ≤ 1600 := p.z
    have := size_mem m
    omega
theorem Pn.fit (p : Pn d v) {h : ZH} : Fit 1600 h v := ⟨p.z, nice_refs p.n, p.o.s⟩
theorem Pn.rv (p : Pn d v) (hd : d ≤ 60) : Rv v := ⟨p.n, plain_up hd p.o.p, p.o.s, by have := tlen_le p.o.s; have := p.z; omega⟩
theorem shape4 (v : Z) : (∃ a b c e, v = .tup [a, b, c, e]) ∨ rowB 4 4 v = false := by
  cases v with
  | tup zs =>
    match zs with
    | [] => exact .inr rfl
    | [_] => exact .inr rfl
    | [_, _] => exact .inr rfl
    | [_, _, _] => exact .inr rfl
    | [a, b, c, e] => exact .inl ⟨a, b, c, e, rfl⟩
    | _ :: _ :: _ :: _ :: _ :: _ => exact .inr (by rw [r_tup]; simp; intro _; omega)
  | _ => exact .inr rfl
end
structure St (h : ZH) (s l : Nat) (ns : List Int) : Prop where
  s : ∃ i c e : Int, h[s]? = some (.lst [.ref l, .int i, .int c, .int e]) ∧ 0 ≤ i ∧ 0 ≤ c ∧ 0 ≤ e ∧ e < 2147483647
  l : h[l]? = some (.lst (ns.map Z.int))
  n : ns.length ≤ 63
theorem next_ok {s l : Nat} {ns : List Int} {h : ZH} (st : St h s l ns) {m : Int} (m1 : 1 ≤ m) (m2 : m ≤ 1000000) {P : PZ} {E : XZ → ZH → Prop} (q : ∀ h' (d : Int), Keep h h' [s] → St h' s l ns → 0 ≤ d → d < m → P (.int d) h') : f__law_next [.ref s, .int m] h P E := by
  unfold f__law_next wfOf w__law_next
  obtain ⟨⟨i, c, e, hs, i0, c0, e0, e1⟩, hl, hn⟩ := st
  have nsl : s ≠ l := fun x => by
    subst x
    rw [hs] at hl
    have := congrArg (fun o => match o with | some (ZO.lst zs) => zs.head? | _ => none) hl
    cases ns <;> simp at this
  simp [hs, hl]
  refine kAndIf_via (fun env h' => Keep h h' [s] ∧ St h' s l ns ∧ ∃ a, env = [some (.ref s), some (.int m), a, none]) ?_ ?_ ?_
  · intro N hN k
    simp [hs, hl]
    refine kIf_of (fun c => ?_) (fun c => ?_)
    · have hil : i < ns.length := by simpa using c
      obtain ⟨j, rfl⟩ := Int.eq_ofNat_of_zero_le i0
      have hj : j < (ns.map Z.int).length := by simp; omega
      have a1 : L2.atI (ns.map Z.int) (j : Int) = some (ns.map Z.int)[j] := atI_nat hj
      have a2 : (ns.map Z.int)[j] = .int (ns[j]'(by simpa using hj)) := by simp
      rw [a2] at a1
      generalize ns[j]'(by simpa using hj) = cell at a1
      have hl1 : ∀ y, (h.set s y)[l]? = some (.lst (ns.map Z.int)) := fun y => by rw [List.getElem?_set_ne nsl]; exact hl
      have hs1 : ∀ y, (h.set s y)[s]? = some y := fun y => get_set hs
      simp [hs, hl, a1, CPow]
      refine kIf_of (fun c => ?_) (fun c => ?_)
      · simp [hs1]
        have c : 1000000000000000000 ≤ cell := by simpa using c
        exact hN _ _ ⟨(Keep.refl h [s]).set _ fun _ => by simp, ⟨⟨_, _, _, hs1 _, by omega, by omega, e0, e1⟩, hl1 _, hn⟩, _, rfl⟩
      · simp [hs1]
        exact ⟨cmul_r (by omega) (by omega), hN _ _ ⟨(Keep.refl h [s]).set _ fun _ => by simp, ⟨⟨_, _, _, hs1 _, by omega, c0, by omega, by omega⟩, hl1 _, hn⟩, _, rfl⟩⟩
    · simp
      exact hN _ _ ⟨.refl _ _, ⟨⟨_, _, _, hs, i0, c0, e0, e1⟩, hl, hn⟩, _, rfl⟩
  · intro N hN k
    simp
    exact hN _ _ ⟨.refl _ _, ⟨⟨_, _, _, hs, i0, c0, e0, e1⟩, hl, hn⟩, _, rfl⟩
  · rintro env h1 ⟨k1, ⟨⟨i, c, e, hs, i0, c0, e0, e1⟩, hl, hn⟩, a, rfl⟩
    have hl1 : ∀ y, (h1.set s y)[l]? = some (.lst (ns.map Z.int)) := fun y => by rw [List.getElem?_set_ne nsl]; exact hl
    have hs1 : ∀ y, (h1.set s y)[s]? = some y := fun y => get_set hs
    have m0 : 0 < m := by omega
    simp [hs]
    refine kIf_of (fun c => ?_) (fun c => ?_)
    · simp [hs]
      exact ⟨m0, ⟨m0, by omega⟩, q _ _ (k1.set _ fun _ => by simp) ⟨⟨_, _, _, hs1 _, i0, Int.ediv_nonneg c0 (by omega), e0, e1⟩, hl1 _, hn⟩ (Int.emod_nonneg _ (by omega)) (Int.emod_lt_of_pos _ m0)⟩
    · simp [hs, hs1]
      exact ⟨cmul_r (by omega) (by omega), ⟨by omega, by omega⟩, m0, q _ _ (k1.set _ fun _ => by simp) ⟨⟨_, _, _, hs1 _, i0, c0, by omega, by omega⟩, hl1 _, hn⟩ (Int.emod_nonneg _ (by omega)) (Int.emod_lt_of_pos _ m0)⟩
theorem St.keep {h h' : ZH} {s l : Nat} {ns : List Int} (st : St h s l ns) {D : List Nat} (k : Keep h h' D) (n1 : s ∉ D) (n2 : l ∉ D) : St h' s l ns := by
  obtain ⟨⟨i, c, e, hs, r⟩, hl, hn⟩ := st
  exact ⟨⟨i, c, e, k.get hs n1, r⟩, k.get hl n2, hn⟩
theorem St.app {h : ZH} {s l : Nat} {ns : List Int} (st : St h s l ns) (g : ZH) : St (h ++ g) s l ns := st.keep (.of_pre (.app h g)) (D := []) (by simp) (by simp)
theorem St.lt {h : ZH} {s l : Nat} {ns : List Int} (st : St h s l ns) : s < h.length := by
  obtain ⟨⟨i, c, e, hs, r⟩, hl, hn⟩ := st
  exact lt_of_get hs
theorem Keep.app0 {h h' : ZH} {g : ZH} {D : List Nat} (k : Keep (h ++ g) h' D) : Keep h h' D := (Keep.of_pre (.app h g)).trans k
/-- a list that was laid is there behind a draw -/
theorem at_new {h h' : ZH} {o : ZO} {s : Nat} (k : Keep (h ++ [o]) h' [s]) (hs : s < h.length) : h'[h.length]? = some o := k.get (by simp) (by simp; omega)
section
variable {d n : Nat} {a b c e : Z}
theorem wt1 (x : W d n a) : W (d + 1) (n + 1) (.tup [a]) := (W.tup (n := n) (zs := [a]) (by simpa using x)).le (Nat.le_refl _) (by simp)
theorem wt2 (x : W d n a) (y : W d n b) : W (d + 1) (n * 2 + 1) (.tup [a, b]) := (W.tup (n := n) (zs := [a, b]) (by simpa using ⟨x, y⟩)).le (Nat.le_refl _) (by simp)
theorem wt3 (x : W d n a) (y : W d n b) (z : W d n c) : W (d + 1) (n * 3 + 1) (.tup [a, b, c]) := (W.tup (n := n) (zs := [a, b, c]) (by simpa using ⟨x, y, z⟩)).le (Nat.le_refl _) (by simp)
theorem wt4 (x : W d n a) (y : W d n b) (z : W d n c) (u : W d n e) : W (d + 1) (n * 4 + 1) (.tup [a, b, c, e]) := (W.tup (n := n) (zs := [a, b, c, e]) (by simpa using ⟨x, y, z, u⟩)).le (Nat.le_refl _) (by simp)
end
theorem w_nil : W 1 1 (.tup []) := (W.tup (d := 0) (n := 0) (zs := []) (by simp))
theorem wp2 {d n m : Nat} {a b : Z} (x : W d n a) (y : W d m b) : W (d + 1) (n + m + 1) (.tup [a, b]) := by
  have := wt2 (x.le (Nat.le_refl _) (Nat.le_max_left n m)) (y.le (Nat.le_refl _) (Nat.le_max_right n m))
  refine ⟨this.nc, this.s, ?_, this.p⟩
  have := x.z
  have := y.z
  show sizeZ a + (sizeZ b + 0) + 1 ≤ _
  omega
end ZN
namespace ZN
open PySem PySem.Spec PyProof.Rows L2 ZL ZG ZF
/-! ### values, odd or not -/
structure Od (n : Nat) (h : ZH) (z : Z) : Prop where
  f : Fit n h z
  nv : ∀ e, plainB e z = true → niceZ z = true
section
variable {d n m : Nat} {h h' : ZH} {z : Z}
theorem W.od (w : W d n z) : Od n h z := ⟨w.fit, fun _ _ => w.nc⟩
theorem od_ref (f : Fit n h (.ref m)) : Od n h (.ref m) := ⟨f, fun e p => by rw [pl_ref] at p; cases p⟩
theorem od_lst {zs : List Z} (e : h[m]? = some (.lst zs)) : Od 1 h (.ref m) := od_ref (fit_lst e)
theorem od_dict {zs : List (Z × Z)} (e : h[m]? = some (.dict zs)) : Od 1 h (.ref m) := od_ref (fit_dict e)
theorem Od.le (o : Od n h z) (l : n ≤ m) : Od m h z := ⟨o.f.le l, o.nv⟩
theorem Od.pre (o : Od n h z) (p : Pre h h') : Od n h' z := ⟨o.f.pre p, o.nv⟩
theorem Od.app (o : Od n h z) (g : ZH) : Od n (h ++ g) z := o.pre (.app h g)
theorem Od.setL (o : Od n h z) (ys : List Z) : Od n (h.set m (.lst ys)) z := ⟨o.f.setL ys, o.nv⟩
theorem Od.keep (o : Od n h z) {D : List Nat} (k : Keep h h' D) (hD : ∀ i ∈ D, (∃ zs, h'[i]? = some (ZO.lst zs)) ∨ ∃ kvs, h'[i]? = some (ZO.dict kvs)) : Od n h' z := by
  refine ⟨⟨o.f.sz, refsOk_mono (fun i r => ?_) o.f.rf, o.f.st⟩, o.nv⟩
  unfold refsOk refsI at r ⊢
  by_cases c : i ∈ D
  · rcases hD i c with ⟨zs, e⟩ | ⟨kvs, e⟩
    · exact .inl ⟨zs, e⟩
    · exact .inr (.inl ⟨kvs, e⟩)
  · rcases r with ⟨zs, e⟩ | ⟨kvs, e⟩ | ⟨_, fs, e, mm⟩
    · exact .inl ⟨zs, k.get e c⟩
    · exact .inr (.inl ⟨kvs, k.get e c⟩)
    · cases mm
theorem Od.tup {zs : List Z} (hz : ∀ z ∈ zs, Od n h z) : Od (n * zs.length + 1) h (.tup zs) := by
  refine ⟨Fit.tup fun z m => (hz z m).f, fun e p => ?_⟩
  cases e with
  | zero => cases p
  | succ e =>
    unfold plainB at p
    rw [plainBs_all, List.all_eq_true] at p
    unfold niceZ
    rw [niceZs_all, List.all_eq_true]
    exact fun z m => (hz z m).nv e (p z m)
theorem Od.set {zs : List Z} {k : Nat} (hz : ∀ z ∈ zs, Od n h z) (o : Od n h z) : Od (n * zs.length + 1) h (.tup (zs.set k z)) := by
  have := Od.tup (zs := zs.set k z) fun y m => by
    rcases List.mem_or_eq_of_mem_set m with m | e
    · exact hz y m
    · rw [e]; exact o
  simpa using this
theorem St.od {s l : Nat} {ns : List Int} (o : Od n h z) (k : Keep h h' [s]) (st : St h' s l ns) : Od n h' z := o.keep k fun i m => by
  simp at m; subst m
  obtain ⟨⟨i, c, e, hs, r⟩, _⟩ := st
  exact .inl ⟨_, hs⟩
end
end ZN

namespace ZH
open PySem PySem.Spec PyProof.Rows L2 ZL
def w_are_owners : WS := (wsSeq (wsIf (wOr (wNot (wTru (wIsi .tuple [] (wVar 0)))) (wB (w2 oNotIn (wCB oLen (wCons (wVar 0) wNil)) (wTup (wCons (wC (.int 4)) (wCons (wC (.int 7)) (wCons (wC (.int 10)) wNil))))))) (wsRet (wC (.bl false))) wsNext) (wsSeq (wsFor (iVal (wVar 0)) (wgName 1) (wsIf (wOr (wNot (wTru (wCall 3 ZF.f_is_count (wCons (wVar 1) (wCons (wC (.int 1)) (wCons (wC (.int 999)) wNil)))))) (wB (w2 oGt (wBM isTup oTCount (wVar 0) (wCons (wVar 1) wNil)) (wC (.int 1))))) (wsRet (wC (.bl false))) wsNext)) (wsRet (wC (.bl true)))))
def f_are_owners : WF := wfOf 2 w_are_owners
def w_is_natural : WS := (wsRet (wAndV (wIsi .int [] (wVar 0)) (wAndV (wNotV (wIsi .bool [] (wVar 0))) (w2 oGe (wVar 0) (wC (.int 0))))))
def f_is_natural : WF := wfOf 1 w_is_natural
def w_is_header : WS := (wsSeq (wsIf (wOr (wNot (wTru (wCall 1 ZF.f_is_plain (wCons (wVar 0) wNil)))) (wOr (wNot (wTru (wCall 3 ZF.f_is_row_of (wCons (wVar 0) (wCons (wC (.int 6)) (wCons (wC (.int 6)) wNil)))))) (wB (w2 oNe (w2 oIx (wVar 0) (wC (.int 0))) (wC (.str "header")))))) (wsRet (wC (.bl false))) wsNext) (wsRet (wAndV (w2 oEq (wLc (iVal (wSl (wVar 0) (wPart (wC (.int 1))) (wPart (wC (.int 5))))) (.nm 1) (wNot (wTru (wCall 1 f_is_natural (wCons (wVar 1) wNil)))) (wVar 1) [1]) (wLst wNil)) (wCall 1 f_are_owners (wCons (w2 oIx (wVar 0) (wC (.int 5))) wNil)))))
def f_is_header : WF := wfOf 2 w_is_header
def w_quorum : WS := (wsRet (w2 oAdd (w2 oMul (wC (.int 2)) (w2 oFdiv (w2 oSub (wCB oLen (wCons (wVar 0) wNil)) (wC (.int 1))) (wC (.int 3)))) (wC (.int 1))))
def f_quorum : WF := wfOf 1 w_quorum
def w_is_certificate : WS := (wsSeq (wsIf (wOr (wNot (wTru (wCall 1 ZF.f_is_plain (wCons (wVar 1) wNil)))) (wOr (wNot (wTru (wCall 3 ZF.f_is_row_of (wCons (wVar 1) (wCons (wC (.int 3)) (wCons (wC (.int 3)) wNil)))))) (wB (w2 oNe (w2 oIx (wVar 1) (wC (.int 0))) (wC (.str "certificate")))))) (wsRet (wC (.bl false))) wsNext) (wsSeq (wsAsg (wVar 1) (wgTup 3 (wgCons (wgName 4) (wgCons (wgName 5) (wgCons (wgName 6) wgNil))))) (wsSeq (wsIf (wOr (wNot (wTru (wCall 1 f_is_natural (wCons (wVar 5) wNil)))) (wOr (wNot (wTru (wIsi .tuple [] (wVar 6)))) (wB (w2 oLt (wCB oLen (wCons (wVar 6) wNil)) (wCall 1 f_quorum (wCons (wVar 3) wNil)))))) (wsRet (wC (.bl false))) wsNext) (wsSeq (wsSet 7 (wTup (wCons (wC (.str "precommit")) (wCons (w2 oIx (wVar 2) (wC (.int 1))) (wCons (wVar 5) (wCons (wMeth "Registry" "name" 1 ZG.f_Registry_name (wVar 0) (wCons (wVar 2) wNil)) wNil)))))) (wsSeq (wsSet 8 (wC (.int 0))) (wsSeq (wsFor (iVal (wVar 6)) (wgName 9) (wsSeq (wsIf (wOr (wNot (wTru (wCall 3 ZF.f_is_count (wCons (wVar 9) (wCons (w2 oAdd (wVar 8) (wC (.int 1))) (wCons (wC (.int 999)) wNil)))))) (wB (w2 oNotIn (wVar 9) (wVar 3)))) (wsRet (wC (.bl false))) wsNext) (wsSeq (wsIf (wNot (wTru (wMeth "Registry" "is_sealed" 2 ZG.f_Registry_is_sealed (wVar 0) (wCons (wVar 9) (wCons (wVar 7) wNil))))) (wsRet (wC (.bl false))) wsNext) (wsSet 8 (wVar 9))))) (wsRet (wC (.bl true)))))))))
def f_is_certificate : WF := wfOf 10 w_is_certificate
def w_is_old : WS := (wsRet (wAndV (wCall 3 ZF.f_is_row_of (wCons (wVar 0) (wCons (wC (.int 2)) (wCons (wC (.int 2)) wNil)))) (wAndV (wCall 1 f_is_header (wCons (w2 oIx (wVar 0) (wC (.int 0))) wNil)) (w2 oLe (w2 oIx (w2 oIx (wVar 0) (wC (.int 0))) (wC (.int 1))) (wVar 1)))))
def f_is_old : WF := wfOf 2 w_is_old
def w_judged_heads : WS := (wsSeq (wsIf (wOr (wNot (wTru (wCall 1 ZF.f_is_plain (wCons (wVar 2) wNil)))) (wNot (wTru (wIsi .tuple [] (wVar 2))))) (wsRet (wLst wNil)) wsNext) (wsSeq (wsSet 3 (wC (.int 0))) (wsSeq (wsWhile (wAnd (wB (w2 oLt (wVar 3) (wCB oLen (wCons (wVar 2) wNil)))) (wTru (wCall 2 f_is_old (wCons (w2 oIx (wVar 2) (wVar 3)) (wCons (w2 oIx (wVar 1) (wC (.int 1))) wNil))))) (wsAug oIadd 3 (wC (.int 1)))) (wsSeq (wsSet 4 (wLst wNil)) (wsSeq (wsSet 5 (wVar 1)) (wsSeq (wsFor (iVal (wSl (wVar 2) (wPart (wVar 3)) wNoPart)) (wgName 6) (wsSeq (wsIf (wOr (wNot (wTru (wCall 3 ZF.f_is_row_of (wCons (wVar 6) (wCons (wC (.int 2)) (wCons (wC (.int 2)) wNil)))))) (wNot (wTru (wCall 1 f_is_header (wCons (w2 oIx (wVar 6) (wC (.int 0))) wNil))))) wsBreak wsNext) (wsSeq (wsIf (wOr (wB (w2 oNe (w2 oIx (w2 oIx (wVar 6) (wC (.int 0))) (wC (.int 1))) (w2 oAdd (w2 oIx (wVar 5) (wC (.int 1))) (wC (.int 1))))) (wB (w2 oNe (w2 oIx (w2 oIx (wVar 6) (wC (.int 0))) (wC (.int 2))) (wMeth "Registry" "name" 1 ZG.f_Registry_name (wVar 0) (wCons (wVar 5) wNil))))) wsBreak wsNext) (wsSeq (wsIf (wNot (wTru (wCall 4 f_is_certificate (wCons (wVar 0) (wCons (w2 oIx (wVar 6) (wC (.int 1))) (wCons (w2 oIx (wVar 6) (wC (.int 0))) (wCons (w2 oIx (wVar 5) (wC (.int 5))) wNil))))))) wsBreak wsNext) (wsSeq (wsExpr (wBM isLst oAppend (wVar 4) (wCons (wVar 6) wNil))) (wsSet 5 (w2 oIx (wVar 6) (wC (.int 0))))))))) (wsRet (wVar 4))))))))
def f_judged_heads : WF := wfOf 7 w_judged_heads
end ZH

namespace ZH
open PySem PySem.Spec PyProof.Rows L2 ZL ZG ZF ZN
/-! ### owners -/
def intZ : Z → Int
  | .int i => i
  | _ => 0
def ownB (zs : List Z) : Bool := zs.all (countB 1 999) && decide (zs.map intZ).Nodup
def ownersB : Z → Bool
  | .tup zs => (decide (zs.length = 4) || decide (zs.length = 7) || decide (zs.length = 10)) && ownB zs
  | _ => false
def cntZ (zs : List Z) (z : Z) : Nat := zs.countP fun u => PyData.eqv u.toD z.toD
theorem cnt_int {i : Int} : ∀ {zs : List Z}, zs.all (countB 1 999) = true → cntZ zs (.int i) = (zs.map intZ).count i
  | [], _ => rfl
  | z :: zs, hz => by
    rw [List.all_cons, Bool.and_eq_true] at hz
    unfold cntZ
    rw [List.countP_cons, List.map_cons, List.count_cons]
    have := cnt_int (i := i) hz.2
    unfold cntZ at this
    rw [this]
    cases z with
    | int j => rfl
    | _ => cases hz.1
theorem own_all {zs : List Z} : (zs.all fun z => countB 1 999 z && decide (cntZ zs z ≤ 1)) = ownB zs := by
  unfold ownB
  rw [Bool.eq_iff_iff]
  simp only [List.all_eq_true, Bool.and_eq_true, decide_eq_true_eq, List.nodup_iff_count]
  constructor
  · intro a
    have ha : zs.all (countB 1 999) = true := List.all_eq_true.mpr fun z m => (a z m).1
    refine ⟨fun z m => (a z m).1, fun i => ?_⟩
    by_cases hi : i ∈ zs.map intZ
    · obtain ⟨z, m, rfl⟩ := List.mem_map.mp hi
      obtain ⟨c, d⟩ := a z m
      cases z with
      | int j => rw [cnt_int ha] at d; exact d
      | _ => cases c
    · rw [List.count_eq_zero_of_not_mem hi]; omega
  · rintro ⟨a, b⟩ z m
    have ha : zs.all (countB 1 999) = true := List.all_eq_true.mpr a
    refine ⟨a z m, ?_⟩
    have c := a z m
    cases z with
    | int j => rw [cnt_int ha]; exact b j
    | _ => cases c
def natB : Z → Bool
  | .int i => decide (0 ≤ i)
  | _ => false
section
variable {d : Nat} {v : Z} {h : ZH} {P : PZ} {E : XZ → ZH → Prop}
theorem natural_ok (o : Pl d v) (q : P (.bl (natB v)) h) : f_is_natural [v] h P E := by
  unfold f_is_natural wfOf w_is_natural
  obtain ⟨p, s⟩ := o
  simp
  cases v with
  | ref n => rw [pl_ref] at p; cases p
  | scr n => rw [pl_scr] at p; cases p
  | err n => cases d <;> cases p
  | int i =>
    simp
    exact q
  | _ => simpa [natB] using q
theorem dOf_pl (o : Pl d v) : dOf h v = v.toD := by
  obtain ⟨p, s⟩ := o
  cases v with
  | ref n => rw [pl_ref] at p; cases p
  | scr n => rw [pl_scr] at p; cases p
  | err n => cases d <;> cases p
  | tup zs => rw [dOf_tup]; unfold Z.toD; rw [toDs_map]
  | _ => rfl
theorem notin_len {n : Nat} (hn : n = 4 ∨ n = 7 ∨ n = 10) (q : P (.bl false) h) : oNotIn (.int (n : Int)) (.tup [.int 4, .int 7, .int 10]) h P := by
  refine ⟨okD_of rfl (Nat.zero_le _), okD_of (by decide) (by decide), ?_⟩
  rcases hn with rfl | rfl | rfl <;> exact q
theorem notin_len' {n : Nat} (hn : ¬ (n = 4 ∨ n = 7 ∨ n = 10)) (q : P (.bl true) h) : oNotIn (.int (n : Int)) (.tup [.int 4, .int 7, .int 10]) h P := by
  refine ⟨okD_of rfl (Nat.zero_le _), okD_of (by decide) (by decide), ?_⟩
  have e : ([Z.int 4, .int 7, .int 10].any fun z => PyData.eqv z.toD (dOf h (.int (n : Int)))) = false := by
    show ((4 : Int) == (n : Int) || ((7 : Int) == (n : Int) || ((10 : Int) == (n : Int) || false))) = false
    simp
    omega
  show P (.bl (! [Z.int 4, .int 7, .int 10].any fun z => PyData.eqv z.toD (dOf h (.int (n : Int))))) h
  rw [e]
  exact q
theorem owners_ok (o : Pl d v) (hd : d ≤ 60) (q : P (.bl (ownersB v)) h) : f_are_owners [v] h P E := by
  unfold f_are_owners wfOf w_are_owners
  have o' := o
  obtain ⟨p, s⟩ := o
  simp
  cases v with
  | ref n => rw [pl_ref] at p; cases p
  | scr n => rw [pl_scr] at p; cases p
  | err n => cases d <;> cases p
  | tup zs =>
    have q : P (.bl ((decide (zs.length = 4) || decide (zs.length = 7) || decide (zs.length = 10)) && ownB zs)) h := q
    by_cases hl : zs.length = 4 ∨ zs.length = 7 ∨ zs.length = 10
    · have ht : keyT zs = false := by
        unfold keyT keyN
        have : zs.length ≠ 2 := by omega
        simp [this]
      have e : (decide (zs.length = 4) || decide (zs.length = 7) || decide (zs.length = 10)) = true := by
        rcases hl with hl | hl | hl <;> simp [hl]
      rw [e, Bool.true_and, ← own_all (zs := zs)] at q
      have oz := o'.okD hd (h := h)
      have em : ∀ z ∈ zs, Pl (d - 1) z := o'.mem
      simp [sizeLine_eq]
      refine notin_len hl ?_
      simp
      refine forZ_ind (fun us env h' => h' = h ∧ (∃ a, env = [some (.tup zs), a]) ∧ (∀ z ∈ us, z ∈ zs) ∧ (us.all fun z => countB 1 999 z && decide (cntZ zs z ≤ 1)) = zs.all fun z => countB 1 999 z && decide (cntZ zs z ≤ 1)) ?_ ?_ _ _ _ ⟨rfl, ⟨none, rfl⟩, fun z m => m, rfl⟩
      · rintro env h' ⟨rfl, ⟨a, rfl⟩, _, e⟩
        refine ⟨trivial, ?_⟩
        simp
        rw [← e] at q
        exact q
      · rintro z us env h' N hN ⟨rfl, ⟨a, rfl⟩, m, e⟩
        refine ⟨trivial, ?_⟩
        have pz := em z (m z List.mem_cons_self)
        rw [List.all_cons] at e
        simp
        refine count_ok pz ?_
        cases c1 : countB 1 999 z with
        | false =>
          rw [c1] at e
          rw [← e] at q
          simpa using q
        | true =>
          rw [c1] at e
          simp [ht]
          refine ⟨pz.okD (by omega), oz, ?_⟩
          rw [dOf_pl pz]
          show kIf _ _ _ _ _ (decide (1 < ((cntZ zs z : Nat) : Int))) _
          by_cases c2 : cntZ zs z ≤ 1
          · have : ¬ 1 < ((cntZ zs z : Nat) : Int) := by omega
            rw [decide_eq_false this]
            rw [decide_eq_true c2] at e
            simp
            exact hN _ _ ⟨rfl, ⟨_, rfl⟩, fun y hy => m y (List.mem_cons_of_mem _ hy), by simpa using e⟩
          · have : 1 < ((cntZ zs z : Nat) : Int) := by omega
            rw [decide_eq_true this]
            rw [decide_eq_false c2] at e
            rw [← e] at q
            simpa using q
    · have e : (decide (zs.length = 4) || decide (zs.length = 7) || decide (zs.length = 10)) = false := by
        simp only [not_or] at hl
        simp [hl]
      rw [e] at q
      simp [sizeLine_eq]
      refine notin_len' hl ?_
      simpa using q
  | _ => simpa [ownersB] using q
end
end ZH
namespace ZH
open PySem PySem.Spec PyProof.Rows L2 ZL ZG ZF ZN
/-! ### headers -/
def headB : Z → Bool
  | .tup [w, a, b, c, e, o] => wordB "header" w && (natB a && natB b && natB c && natB e) && ownersB o
  | _ => false
def headerB (v : Z) : Bool := plainB 30 v && headB v
theorem shape6 (v : Z) : (∃ a b c e f g, v = .tup [a, b, c, e, f, g]) ∨ rowB 6 6 v = false := by
  cases v with
  | tup zs =>
    match zs with
    | [] => exact .inr rfl
    | [_] => exact .inr rfl
    | [_, _] => exact .inr rfl
    | [_, _, _] => exact .inr rfl
    | [_, _, _, _] => exact .inr rfl
    | [_, _, _, _, _] => exact .inr rfl
    | [a, b, c, e, f, g] => exact .inl ⟨a, b, c, e, f, g, rfl⟩
    | _ :: _ :: _ :: _ :: _ :: _ :: _ :: _ => exact .inr (by rw [r_tup]; simp; intro _; omega)
  | _ => exact .inr rfl
theorem cut15 {a b c e f g : Z} : cutZ [a, b, c, e, f, g] (some 1) (some 5) = [b, c, e, f] := rfl
section
variable {d : Nat} {v : Z} {h : ZH} {P : PZ} {E : XZ → ZH → Prop}
theorem header_ok (f : Fit 1600 h v) (nv : plainB 30 v = true → niceZ v = true) (q : ∀ h', Pre h h' → P (.bl (headerB v)) h') : f_is_header [v] h P E := by
  unfold f_is_header wfOf w_is_header
  simp
  refine isplain_ok f (by decide) fun h1 p1 => ?_
  cases hp : plainB 30 v with
  | false =>
    have e : headerB v = false := by unfold headerB; rw [hp]; rfl
    rw [e] at q
    simpa using q h1 p1
  | true =>
    have p : Pn 30 v := ⟨⟨hp, f.st⟩, nv hp, f.sz⟩
    have q : ∀ h', Pre h1 h' → P (.bl (headB v)) h' := fun h' p2 => by
      have := q h' (p1.trans p2)
      unfold headerB at this
      rw [hp, Bool.true_and] at this
      exact this
    simp
    refine row_ok p.o ?_
    rcases shape6 v with ⟨w, a, b, c, e, o, rfl⟩ | h6
    · have pw := p.mem (z := w) (by simp)
      have po := p.mem (z := o) (by simp)
      have pm : ∀ z ∈ [a, b, c, e], Pl 29 z := fun z m => (p.mem (z := z) (by simp at m ⊢; rcases m with m | m | m | m <;> simp [m])).o
      have q : ∀ h', Pre h1 h' → P (.bl (wordB "header" w && (natB a && natB b && natB c && natB e) && ownersB o)) h' := q
      simp
      refine ne_word pw.o (by omega) (by decide +kernel) ?_
      cases e1 : wordB "header" w with
      | false =>
        rw [e1] at q
        simpa using q h1 (.refl _)
      | true =>
        rw [e1] at q
        simp [cut15]
        refine parts_all (B := natB) (zs := [a, b, c, e]) (fun z m h P E q => natural_ok (pm z m) (q _ (.refl _))) (Pl.okL pm (by omega)) (by simp) (by simp [wipeE]) fun h2 p2 => ?_
        have eb : [a, b, c, e].all natB = (natB a && natB b && natB c && natB e) := by simp [Bool.and_assoc]
        rw [eb]
        cases e2 : (natB a && natB b && natB c && natB e) with
        | false =>
          rw [e2] at q
          simpa using q h2 p2
        | true =>
          rw [e2] at q
          simp
          refine owners_ok po.o (by omega) ?_
          simpa using q h2 p2
    · rw [h6]
      have e : headB v = false := by
        unfold headB
        split
        · simp at h6
        · rfl
      rw [e] at q
      simpa using q h1 (.refl _)
end
end ZH
namespace ZH
open PySem PySem.Spec PyProof.Rows L2 ZL ZG ZF ZN
/-! ### a registry, its pens aside -/
structure Re (h : ZH) (x a b c : Nat) (vs : List Z) (S : Seals) : Prop where
  ex : h[x]? = some (reg a b c)
  ea : h[a]? = some (.dict (nmD 1 vs))
  ec : ∃ kvs, h[c]? = some (ZO.dict kvs) ∧ SealsOk kvs S
  ev : ∀ u ∈ vs, Rv u
  ne : a ≠ b ∧ a ≠ c ∧ b ≠ c
section
variable {h h' : ZH} {x a b c : Nat} {vs : List Z} {S : Seals}
theorem Re.keep (r : Re h x a b c vs S) {D : List Nat} (k : Keep h h' D) (n1 : x ∉ D) (n2 : a ∉ D) (n3 : c ∉ D) : Re h' x a b c vs S := by
  obtain ⟨rx, ra, ⟨kvs, rc, ok⟩, rv, ne⟩ := r
  exact ⟨k.get rx n1, k.get ra n2, ⟨kvs, k.get rc n3, ok⟩, rv, ne⟩
theorem Re.pre (r : Re h x a b c vs S) (k : Pre h h') : Re h' x a b c vs S := r.keep (.of_pre k) (D := []) (by simp) (by simp) (by simp)
theorem Re.nxa (r : Re h x a b c vs S) : x ≠ a := ne_of_get r.ex r.ea (by simp)
theorem ins_rv {v : Z} (hv : ∀ u ∈ vs, Rv u) (r : Rv v) : ∀ u ∈ insV vs v, Rv u := fun u m => by
  rcases ins_mem m with m | rfl
  · exact hv u m
  · exact r
theorem Re.name (r : Re h x a b c vs S) {v : Z} (k : Keep h h' [a]) (ha : h'[a]? = some (.dict (nmD 1 (insV vs v)))) (rv : Rv v) : Re h' x a b c (insV vs v) S := by
  have nx := r.nxa
  obtain ⟨rx, ra, ⟨kvs, rc, ok⟩, rv', ne⟩ := r
  exact ⟨k.get rx (by simpa using nx), ha, ⟨kvs, k.get rc (by simpa using ne.2.1.symm), ok⟩, ins_rv rv' rv, ne⟩
theorem re_name (r : Re h x a b c vs S) {v : Z} (rv : Rv v) (hl : vs.length ≤ 1000000) {P : PZ} {E : XZ → ZH → Prop}
    (q : ∀ h', Keep h h' [a] → Re h' x a b c (insV vs v) S → P (.int ((posZ vs v + 1 : Nat) : Int)) h') : f_Registry_name [.ref x, v] h P E :=
  name_ok r.ex r.ea r.ev rv hl fun h' k ha => q h' k (r.name k ha rv)
theorem re_sealed (r : Re h x a b c vs S) {o v : Z} (ro : Rv o) (rv : Rv v) {P : PZ} {E : XZ → ZH → Prop} (q : P (.bl (memS S o v)) h) : f_Registry_is_sealed [.ref x, o, v] h P E := by
  obtain ⟨rx, ra, ⟨kvs, rc, ok⟩, _, _⟩ := r
  exact sealed_ok rx rc ok ro rv q
end
/-! ### certificates -/
def quo (n : Nat) : Int := 2 * (((n : Int) - 1) / 3) + 1
def bodyZ (ht n : Int) (nm : Nat) : Z := .tup [.str "precommit", .int ht, .int n, .int ((nm : Nat) : Int)]
def sealsB (S : Seals) (body : Z) (os : List Int) : Int → List Z → Bool
  | _, [] => true
  | last, .int i :: zs => decide (last + 1 ≤ i) && decide (i ≤ 999) && decide (i ∈ os) && memS S (.int i) body && sealsB S body os i zs
  | _, _ :: _ => false
/-- what is asked ahead of the name -/
def askB (os : List Int) : Z → Bool
  | .tup [w, n, .tup ss] => wordB "certificate" w && natB n && decide (quo os.length ≤ (ss.length : Int))
  | _ => false
def rowsB (S : Seals) (nm : Nat) (ht : Int) (os : List Int) : Z → Bool
  | .tup [_, .int n, .tup ss] => sealsB S (bodyZ ht n nm) os 0 ss
  | _ => false
def certB (S : Seals) (vs : List Z) (hdr : Z) (ht : Int) (os : List Int) (v : Z) : Bool := plainB 30 v && askB os v && rowsB S (posZ vs hdr + 1) ht os v
def certN (vs : List Z) (hdr : Z) (os : List Int) (v : Z) : List Z := if (plainB 30 v && askB os v) = true then insV vs hdr else vs
section
variable {d : Nat} {v : Z} {h : ZH} {P : PZ} {E : XZ → ZH → Prop}
theorem quorum_ok {zs : List Z} (hl : zs.length ≤ 1000) (q : P (.int (quo zs.length)) h) : f_quorum [.tup zs] h P E := by
  unfold f_quorum wfOf w_quorum
  simp
  refine ⟨⟨by omega, by omega⟩, ?_⟩
  exact ⟨.inl ⟨by decide, by decide⟩, q⟩
theorem notin_ints {i : Int} {os : List Int} (q : P (.bl (!decide (i ∈ os))) h) : oNotIn (.int i) (.tup (os.map Z.int)) h P := by
  refine ⟨okD_of rfl (Nat.zero_le _), ?_, ?_⟩
  · refine okD_tup (n := 0) (fun z m => ?_) (fun z m => ?_) (by decide)
    · obtain ⟨w, hw, rfl⟩ := List.mem_map.mp m
      rfl
    · obtain ⟨w, hw, rfl⟩ := List.mem_map.mp m
      exact Nat.le_refl _
  · show P (.bl (!(os.map Z.int).any fun z => PyData.eqv z.toD (dOf h (.int i)))) h
    rw [List.any_map]
    have : (os.any ((fun z : Z => PyData.eqv z.toD (dOf h (.int i))) ∘ Z.int)) = decide (i ∈ os) := by
      clear q
      induction os with
      | nil => rfl
      | cons o os ih =>
        rw [List.any_cons, ih]
        have : ((fun z : Z => PyData.eqv z.toD (dOf h (.int i))) ∘ Z.int) o = decide (o = i) := by
          show ((o : Int) == i) = _
          rw [Bool.beq_eq_decide_eq]
        rw [this]
        by_cases c : o = i
        · simp [c]
        · have c2 : ¬ i = o := fun z => c z.symm
          simp [c, c2]
    rw [this]
    exact q
end
end ZH
namespace ZH
open PySem PySem.Spec PyProof.Rows L2 ZL ZG ZF ZN
section
variable {v : Z} {h : ZH} {P : PZ} {E : XZ → ZH → Prop}
theorem body_rv {ht n : Int} {nm : Nat} (h1 : ht.natAbs < 1000000000000000000000000000000000000000000000000000000000000) (h2 : n.natAbs < 1000000000000000000000000000000000000000000000000000000000000) (h3 : nm ≤ 1000001) : Rv (bodyZ ht n nm) :=
  (wt4 (w_str (by decide +kernel)) (w_int h1) (w_int h2) (w_int (by omega))).rv (by decide) (by decide)
theorem seals_int {S : Seals} {body : Z} {os : List Int} {last i : Int} {zs : List Z} : sealsB S body os last (.int i :: zs) = (decide (last + 1 ≤ i) && decide (i ≤ 999) && decide (i ∈ os) && memS S (.int i) body && sealsB S body os i zs) := rfl
theorem cert_ok {x a b c : Nat} {vs : List Z} {S : Seals} (r : Re h x a b c vs S) (hl : vs.length ≤ 1000000) {w2 e2 e3 e4 o2 : Z} {ht : Int} {os : List Int} (rh : Rv (.tup [w2, .int ht, e2, e3, e4, o2]))
    (hht : ht.natAbs < 1000000000000000000000000000000000000000000000000000000000000) (ho : os.length ≤ 1000) (f : Fit 1600 h v) (nv : plainB 30 v = true → niceZ v = true)
    (q : ∀ h', Keep h h' [a] → Re h' x a b c (certN vs (.tup [w2, .int ht, e2, e3, e4, o2]) os v) S → P (.bl (certB S vs (.tup [w2, .int ht, e2, e3, e4, o2]) ht os v)) h') :
    f_is_certificate [.ref x, v, .tup [w2, .int ht, e2, e3, e4, o2], .tup (os.map Z.int)] h P E := by
  unfold f_is_certificate wfOf w_is_certificate
  generalize eh : Z.tup [w2, .int ht, e2, e3, e4, o2] = hdr at rh q
  simp
  refine isplain_ok f (by decide) fun h1 p1 => ?_
  have r1 := r.pre p1
  -- no
  have no : ∀ h', Pre h1 h' → (plainB 30 v && askB os v) = false → P (.bl false) h' := fun h' p2 e => by
    have := q h' (.of_pre (p1.trans p2))
    unfold certN certB at this
    rw [e] at this
    exact this (r1.pre p2)
  cases hp : plainB 30 v with
  | false =>
    rw [hp] at no
    simpa using no h1 (.refl _) rfl
  | true =>
    rw [hp, Bool.true_and] at no
    have p : Pn 30 v := ⟨⟨hp, f.st⟩, nv hp, f.sz⟩
    simp
    refine row_ok p.o ?_
    rcases shape3 v with ⟨w, n, ss, rfl⟩ | h3
    · have pw := p.mem (z := w) (by simp)
      have pn := p.mem (z := n) (by simp)
      have ps := p.mem (z := ss) (by simp)
      simp
      refine ne_word pw.o (by omega) (by decide +kernel) ?_
      cases e1 : wordB "certificate" w with
      | false =>
        have : askB os (.tup [w, n, ss]) = false := by
          unfold askB
          split
          · rename_i e; cases e; rw [e1]; rfl
          · rfl
        simpa using no h1 (.refl _) this
      | true =>
        simp
        refine natural_ok pn.o ?_
        cases e2 : natB n with
        | false =>
          have : askB os (.tup [w, n, ss]) = false := by
            unfold askB
            split
            · rename_i e; cases e; rw [e1, e2]; rfl
            · rfl
          simpa using no h1 (.refl _) this
        | true =>
          cases n with
          | int n =>
            have n0 : 0 ≤ n := of_decide_eq_true e2
            have n1 : n.natAbs < 1000000000000000000000000000000000000000000000000000000000000 := by
              have := pn.o.p
              rw [pl_int] at this
              exact of_decide_eq_true this
            cases ss with
            | tup ss =>
              simp
              refine quorum_ok (by simpa using ho) ?_
              have ea : askB os (.tup [w, .int n, .tup ss]) = decide (quo os.length ≤ (ss.length : Int)) := by
                show (wordB "certificate" w && natB (.int n) && _) = _
                rw [e1, e2]; rfl
              by_cases c : quo os.length ≤ (ss.length : Int)
              · have ea : askB os (.tup [w, .int n, .tup ss]) = true := by rw [ea, decide_eq_true c]
                have c2 : ¬ (ss.length : Int) < quo os.length := by omega
                simp [c2, ← eh, r1.ex, sizeLine_eq]
                rw [eh]
                refine re_name r1 rh hl fun h2 k2 r2 => ?_
                have ec : certN vs hdr os (.tup [w, .int n, .tup ss]) = insV vs hdr := by
                  unfold certN; rw [hp, ea]; rfl
                have eb : certB S vs hdr ht os (.tup [w, .int n, .tup ss]) = sealsB S (bodyZ ht n (posZ vs hdr + 1)) os 0 ss := by
                  unfold certB; rw [hp, ea]; rfl
                rw [ec, eb] at q
                have q := q h2 ((Keep.of_pre p1).trans k2) r2
                have rb : Rv (bodyZ ht n (posZ vs hdr + 1)) := body_rv hht n1 (by have := pos_le (us := vs) (v := hdr); omega)
                generalize hc : ((posZ vs hdr + 1 : Nat) : Int) = nmz
                have ej : bodyZ ht n (posZ vs hdr + 1) = Z.tup [Z.str (Str.ofString "precommit"), Z.int ht, Z.int n, Z.int nmz] := by rw [← hc]; rfl
                rw [ej] at rb q
                simp [sizeLine_eq]
                generalize Z.tup [Z.str (Str.ofString "precommit"), Z.int ht, Z.int n, Z.int nmz] = body at q rb ⊢
                refine forZ_ind (fun us env h' => h' = h2 ∧ ∃ (last : Int) (z : Option Z), env = [some (.ref x), some (.tup [w, .int n, .tup ss]), some hdr, some (.tup (os.map Z.int)), some w, some (.int n), some (.tup ss), some body, some (.int last), z] ∧ 0 ≤ last ∧ (∀ z ∈ us, Pn 28 z) ∧ sealsB S body os last us = sealsB S body os 0 ss) ?_ ?_ _ _ _ ⟨rfl, 0, none, rfl, by omega, fun z m => ps.mem m, rfl⟩
                · rintro env h' ⟨rfl, last, z, rfl, _, _, e⟩
                  refine ⟨trivial, ?_⟩
                  simp
                  rw [← e] at q
                  exact q
                · rintro z us env h' N hN ⟨rfl, last, z0, rfl, l0, pz, e⟩
                  refine ⟨trivial, ?_⟩
                  have p0 := pz z List.mem_cons_self
                  simp
                  refine count_ok p0.o ?_
                  cases c1 : countB (last + 1) 999 z with
                  | false =>
                    have : sealsB S body os last (z :: us) = false := by
                      cases z with
                      | int i =>
                        rw [c_int] at c1
                        rw [seals_int, c1]; rfl
                      | _ => rfl
                    rw [this] at e
                    rw [← e] at q
                    simpa using q
                  | true =>
                    cases z with
                    | int i =>
                      rw [c_int] at c1
                      have c1' := c1
                      simp at c1'
                      rw [seals_int, c1, Bool.true_and] at e
                      simp
                      refine notin_ints ?_
                      by_cases c2 : i ∈ os
                      · rw [decide_eq_true c2, Bool.true_and] at e
                        simp [c2, r2.ex]
                        refine re_sealed r2 (p0.rv (by decide)) rb ?_
                        cases c3 : memS S (.int i) body with
                        | false =>
                          rw [c3] at e
                          rw [← e] at q
                          simpa using q
                        | true =>
                          rw [c3, Bool.true_and] at e
                          simp
                          exact hN _ _ ⟨rfl, i, _, rfl, by omega, fun y m => pz y (List.mem_cons_of_mem _ m), e⟩
                      · rw [decide_eq_false c2] at e
                        rw [← e] at q
                        simp [c2]
                        simpa using q
                    | _ => cases c1
              · have c2 : (ss.length : Int) < quo os.length := by omega
                simp [c2]
                exact no h1 (.refl _) (by rw [ea, decide_eq_false c])
            | ref n => have := ps.o.p; rw [pl_ref] at this; cases this
            | scr n => have := ps.o.p; rw [pl_scr] at this; cases this
            | err n => have := ps.o.p; cases this
            | _ => simpa using no h1 (.refl _) (by unfold askB; rfl)
          | _ => cases e2
    · have : askB os v = false := by
        unfold askB
        split
        · simp at h3
        · rfl
      rw [h3]
      simpa using no h1 (.refl _) this
end
end ZH

namespace ZW
open PySem PySem.Spec PyProof.Rows L2 ZL
def w__law_owners : WS := (wsSeq (wsSet 1 (w2 oIx (wLst (wCons (wC (.int 4)) (wCons (wC (.int 4)) (wCons (wC (.int 7)) (wCons (wC (.int 10)) wNil))))) (wCall 2 ZN.f__law_next (wCons (wVar 0) (wCons (wC (.int 4)) wNil))))) (wsSeq (wsSet 2 (w2 oAdd (wC (.int 1)) (wCall 2 ZN.f__law_next (wCons (wVar 0) (wCons (wC (.int 900)) wNil))))) (wsSeq (wsSet 3 (w2 oAdd (wC (.int 1)) (wCall 2 ZN.f__law_next (wCons (wVar 0) (wCons (wC (.int 9)) wNil))))) (wsSeq (wsSet 4 (wLc (iR1 (wCons (wVar 1) wNil)) (.nm 5) wYes (w2 oAdd (wVar 2) (w2 oMul (wVar 3) (wVar 5))) [5])) (wsSeq (wsFor (iR1 (wCons (wC (.int 3)) wNil)) (wgName 6) (wsSeq (wsSet 5 (wCall 2 ZN.f__law_next (wCons (wVar 0) (wCons (wVar 1) wNil)))) (wsSet 4 (w2 oAdd (wSl (wVar 4) (wPart (wVar 5)) wNoPart) (wRev (wSl (wVar 4) wNoPart (wPart (wVar 5)))))))) (wsRet (wCB oTuple (wCons (wVar 4) wNil))))))))
def f__law_owners : WF := wfOf 7 w__law_owners
def w__law_with : WS := (wsRet (w2 oAdd (w2 oAdd (wSl (wVar 0) wNoPart (wPart (wVar 1))) (wTup (wCons (wVar 2) wNil))) (wSl (wVar 0) (wPart (w2 oAdd (wVar 1) (wC (.int 1)))) wNoPart)))
def f__law_with : WF := wfOf 3 w__law_with
end ZW

namespace ZW
open PySem PySem.Spec PyProof.Rows L2 ZL ZG ZF ZN ZH
theorem cut_to {α : Type} {xs : List α} {k : Nat} (h : k ≤ xs.length) : cutZ xs none (some (k : Int)) = xs.take k := by
  unfold cutZ
  rw [HT.sIx_nat, Nat.min_eq_left h]
  show ((xs.drop 0).take (k - 0)) = _
  simp
theorem cut_from {α : Type} {xs : List α} {k : Nat} (h : k ≤ xs.length) : cutZ xs (some (k : Int)) none = xs.drop k := by
  unfold cutZ
  rw [HT.sIx_nat, Nat.min_eq_left h]
  show ((xs.drop k).take (xs.length - k)) = _
  rw [List.take_of_length_le (by simp)]
theorem with_ok {zs : List Z} {k : Nat} (hk : k < zs.length) (hl : zs.length ≤ 1000) {odd : Z} {h : ZH} {P : PZ} {E : XZ → ZH → Prop} (q : P (.tup (zs.set k odd)) h) : f__law_with [.tup zs, .int (k : Int), odd] h P E := by
  unfold f__law_with wfOf w__law_with
  have bl := big_line
  have e1 : cutZ zs none (some (k : Int)) = zs.take k := cut_to (by omega)
  have e2 : cutZ zs (some ((k : Int) + 1)) none = zs.drop (k + 1) := by
    rw [show ((k : Int) + 1) = ((k + 1 : Nat) : Int) by omega]
    exact cut_from (by omega)
  simp [e1, e2, sizeLine_eq]
  refine ⟨by omega, by omega, ?_⟩
  rw [List.set_eq_take_append_cons_drop, if_pos hk] at q
  exact q
theorem prog_ok {c : Nat} {a b : Int} (hb : 1 ≤ b) : ((List.range c).map fun (i : Nat) => a + b * (i : Int)).Nodup := by
  rw [List.Nodup, List.pairwise_map]
  refine List.Pairwise.imp (R := fun x y => x < y) (fun hij e => ?_) List.pairwise_lt_range
  rename_i i j
  have : b * (i : Int) < b * (j : Int) := Int.mul_lt_mul_of_pos_left (by omega) (by omega)
  omega
theorem owners_ok {s l : Nat} {ns : List Int} {h : ZH} (st : St h s l ns) {P : PZ} {E : XZ → ZH → Prop}
    (q : ∀ h' (os : List Int), Keep h h' [s] → St h' s l ns → (os.length = 4 ∨ os.length = 7 ∨ os.length = 10) → os.Nodup → (∀ i ∈ os, 1 ≤ i ∧ i ≤ 981) → P (.tup (os.map Z.int)) h') : f__law_owners [.ref s] h P E := by
  unfold f__law_owners wfOf w__law_owners
  simp [sizeLine_eq]
  refine next_ok (m := 4) (st.app _) (by decide) (by decide) fun h1 d1 k1 st1 d10 d11 => ?_
  have e1 := at_new k1 st.lt
  simp [e1]
  refine pick (xs := [Z.int 4, Z.int 4, Z.int 7, Z.int 10]) d10 (by simpa using d11) fun z hz => ?_
  obtain ⟨c, rfl, hc⟩ : ∃ c : Nat, z = .int (c : Int) ∧ (c = 4 ∨ c = 7 ∨ c = 10) := by
    simp only [List.mem_cons, List.mem_nil_iff, or_false] at hz
    rcases hz with rfl | rfl | rfl | rfl
    · exact ⟨4, rfl, by simp⟩
    · exact ⟨4, rfl, by simp⟩
    · exact ⟨7, rfl, by simp⟩
    · exact ⟨10, rfl, by simp⟩
  refine next_ok (m := 900) st1 (by decide) (by decide) fun h2 d2 k2 st2 d20 d21 => ?_
  simp
  refine next_ok (m := 9) st2 (by decide) (by decide) fun h3 d3 k3 st3 d30 d31 => ?_
  simp
  refine ⟨⟨by omega, by omega⟩, ?_⟩
  have k03 : Keep h h3 [s] := ((Keep.app0 k1).trans k2).trans k3
  refine lcZ_map (f := fun z => match z with | .int j => .int (1 + d2 + (1 + d3) * j) | z => z) (S := fun z => ∃ j : Nat, z = .int (j : Int) ∧ j < 10) (C := fun _ => True) (fun _ _ _ _ => trivial) (fun _ _ => trivial) (by rw [sizeLine_eq]; simp [rngZ]; omega) trivial (fun z m => ?_) (fun z hz => ?_) ?_
  · unfold rngZ at m
    obtain ⟨j, hj, rfl⟩ := List.mem_map.mp m
    exact ⟨j, by simp, by have := List.mem_range.mp hj; omega⟩
  · obtain ⟨j, rfl, hj⟩ := hz
    refine ⟨_, rfl, fun h4 K _ hK => ?_⟩
    have hK := hK h4 (.refl _)
    simp [wipeE]
    exact ⟨cmul_r (by omega) (by omega), hK⟩
  intro h4 p4
  have em : (rngZ 0 c).map (fun z => match z with | .int j => Z.int (1 + d2 + (1 + d3) * j) | z => z) = ((List.range c).map fun (i : Nat) => (1 + d2) + (1 + d3) * (i : Int)).map Z.int := by
    unfold rngZ
    rw [List.map_map, List.map_map]
    refine List.map_congr_left fun i _ => ?_
    simp
  have os_ok : ∀ i ∈ (List.range c).map (fun (i : Nat) => (1 + d2) + (1 + d3) * (i : Int)), 1 ≤ i ∧ i ≤ 981 := by
    intro i m
    obtain ⟨j, hj, rfl⟩ := List.mem_map.mp m
    have hj := List.mem_range.mp hj
    have h1 : 0 ≤ (1 + d3) * (j : Int) := Int.mul_nonneg (by omega) (by omega)
    have h2 : (1 + d3) * (j : Int) ≤ 9 * 9 := Int.mul_le_mul (by omega) (by omega) (by omega) (by omega)
    omega
  have nd := prog_ok (c := c) (a := 1 + d2) (b := 1 + d3) (by omega)
  have lc : ((List.range c).map fun (i : Nat) => (1 + d2) + (1 + d3) * (i : Int)).length = c := by simp
  rw [em]
  generalize (List.range c).map (fun (i : Nat) => (1 + d2) + (1 + d3) * (i : Int)) = os0 at em os_ok nd lc

  simp [-List.map_map]
  refine ⟨⟨by omega, by omega⟩, ?_⟩
  refine forZ_ind (fun us env h' => ∃ (n : Nat) (os : List Int) (a b : Option Z), env = [some (.ref s), some (.int (c : Nat)), some (.int (1 + d2)), some (.int (1 + d3)), some (.ref n), a, b] ∧ Keep h h' [s] ∧ ZN.St h' s l ns ∧ h'[n]? = some (ZO.lst (os.map Z.int)) ∧ os.Perm os0 ∧ h.length ≤ n) ?_ ?_ _ _ _ ⟨h4.length, os0, _, _, rfl, (k03.trans (.of_pre p4)).app _, (st3.keep (.of_pre p4) (D := []) (by simp) (by simp)).app _, ?_, .refl _, Nat.le_trans k03.le p4.le⟩
  rotate_left 2
  · simp
  · rintro env h' ⟨n, os, a, b, rfl, k, st', hn, pm, ln⟩
    refine ⟨trivial, ?_⟩
    simp [hn]
    refine q _ os k st' (by rw [pm.length_eq, lc]; exact hc) (pm.nodup_iff.mpr nd) (fun i m => os_ok i (pm.mem_iff.mp m))
  · rintro z us env h' N hN ⟨n, os, a, b, rfl, k, st', hn, pm, ln⟩
    refine ⟨trivial, ?_⟩
    simp
    refine next_ok (m := (c : Int)) st' (by omega) (by omega) fun h5 d5 k5 st5 d50 d51 => ?_
    obtain ⟨j, rfl⟩ := Int.eq_ofNat_of_zero_le d50
    have ls := st.lt
    have hn5 := k5.get hn (by simp; omega)
    have lo : os.length = c := by rw [pm.length_eq, lc]
    have c1 : cutZ (os.map Z.int) (some (j : Int)) none = (os.map Z.int).drop j := cut_from (by simp; omega)
    have c2 : cutZ (os.map Z.int) none (some (j : Int)) = (os.map Z.int).take j := cut_to (by simp; omega)
    have hn6 : ∀ g, (h5 ++ g)[n]? = some (ZO.lst (os.map Z.int)) := fun g => get_app hn5
    simp [hn5, hn6, c1, c2, sizeLine_eq, -List.map_drop, -List.map_take]
    refine ⟨by omega, ?_⟩
    refine hN _ _ ⟨_, os.drop j ++ (os.take j).reverse, _, _, rfl, ?_, ?_, by simp, ?_, ?_⟩
    · exact (k.trans k5).trans (.of_pre ⟨_, rfl⟩)
    · exact st5.keep (.of_pre ⟨_, rfl⟩) (D := []) (by simp) (by simp)
    · refine .trans ?_ pm
      refine (List.perm_append_comm).trans ?_
      refine ((List.reverse_perm _).append_right _).trans ?_
      rw [List.take_append_drop]
    · have := (k.trans k5).le
      omega
end ZW

namespace ZH
open PySem PySem.Spec PyProof.Rows L2 ZL ZG ZF ZN
/-! ### a registry with a dict of pens -/
def PD (h : ZH) (x : Nat) (kvs : List (Z × Z)) (O : List Int) : Prop := (∀ y ∈ kvs, isT y.1 = false) ∧ kvs.length ≤ O.length ∧ ∀ i : Int, match dget kvs (.int i) with
  | some z => i ∈ O ∧ ∃ n, z = .ref n ∧ h[n]? = some (penO (.int i) x)
  | none => i ∉ O
structure Rp (h : ZH) (x a b c p : Nat) (vs : List Z) (S : Seals) (O : List Int) : Prop where
  re : Re h x a b c vs S
  pb : ∃ kvs, h[b]? = some (ZO.dict kvs) ∧ PensOk kvs O
  pp : ∃ kvs, h[p]? = some (ZO.dict kvs) ∧ PD h x kvs O
  nd : a ≠ p ∧ b ≠ p ∧ c ≠ p
section
variable {h h' : ZH} {x a b c p : Nat} {vs : List Z} {S : Seals} {O : List Int}
theorem PD.mono {kvs : List (Z × Z)} (d : PD h x kvs O) (k : ∀ (n : Nat) (o : Z), h[n]? = some (penO o x) → h'[n]? = some (penO o x)) : PD h' x kvs O := by
  obtain ⟨d1, d2, d3⟩ := d
  refine ⟨d1, d2, fun i => ?_⟩
  have := d3 i
  cases e : dget kvs (.int i) with
  | none => rw [e] at this; exact this
  | some z =>
    rw [e] at this
    obtain ⟨a, n, rfl, hn⟩ := this
    exact ⟨a, n, rfl, k n _ hn⟩
theorem Rp.keep (r : Rp h x a b c p vs S O) {D : List Nat} (k : Keep h h' D) (hD : ∀ n ∈ D, ∃ zs, h[n]? = some (ZO.lst zs)) : Rp h' x a b c p vs S O := by
  obtain ⟨re, ⟨kb, rb, ob⟩, ⟨kp, rp, op⟩, nd⟩ := r
  have nD : ∀ {n : Nat} {o : ZO}, h[n]? = some o → (∀ zs, o ≠ .lst zs) → n ∉ D := fun e no m => by
    obtain ⟨zs, hz⟩ := hD _ m
    rw [e] at hz
    exact no zs (Option.some.inj hz)
  refine ⟨re.keep k (nD re.ex (by simp)) (nD re.ea (by simp)) ?_, ⟨kb, k.get rb (nD rb (by simp)), ob⟩, ⟨kp, k.get rp (nD rp (by simp)), PD.mono op fun n o hn => k.get hn (nD hn (by simp))⟩, nd⟩
  obtain ⟨kc, rc, oc⟩ := re.ec
  exact nD rc (by simp)
theorem Rp.pre (r : Rp h x a b c p vs S O) (k : Pre h h') : Rp h' x a b c p vs S O := r.keep (.of_pre k) (D := []) (by simp)
theorem Rp.app (r : Rp h x a b c p vs S O) (g : ZH) : Rp (h ++ g) x a b c p vs S O := r.pre (.app h g)
theorem Rp.st {s l : Nat} {ns : List Int} (r : Rp h x a b c p vs S O) (st : ZN.St h s l ns) (k : Keep h h' [s]) : Rp h' x a b c p vs S O := r.keep k fun n m => by
  simp at m; subst m
  obtain ⟨⟨i, c, e, hs, _⟩, _⟩ := st
  exact ⟨_, hs⟩
theorem Rp.setL (r : Rp h x a b c p vs S O) {n : Nat} {zs ys : List Z} (e : h[n]? = some (.lst zs)) : Rp (h.set n (.lst ys)) x a b c p vs S O := r.keep (D := [n]) ((Keep.refl h [n]).set _ fun _ => by simp) fun m hm => by
  simp at hm; subst hm; exact ⟨zs, e⟩
/-- what is no dict is not written -/
theorem Rp.nd4 (r : Rp h x a b c p vs S O) {n : Nat} {o : ZO} (hn : h[n]? = some o) (no : ∀ kvs, o ≠ .dict kvs) : n ∉ [a, b, c, p] := by
  obtain ⟨re, ⟨kb, rb, _⟩, ⟨kp, rp, _⟩, _⟩ := r
  obtain ⟨kc, rc, _⟩ := re.ec
  have := ne_of_get hn rb (no _)
  have := ne_of_get hn rc (no _)
  have := ne_of_get hn rp (no _)
  have := ne_of_get hn re.ea (no _)
  simp [*]
theorem St.rp {s l : Nat} {ns : List Int} (st : ZN.St h s l ns) (r : Rp h x a b c p vs S O) (k : Keep h h' [a, b, c, p]) : ZN.St h' s l ns := by
  have st0 := st
  obtain ⟨⟨i, c, e, hs, _⟩, hl, _⟩ := st
  exact st0.keep k (r.nd4 hs (by simp)) (r.nd4 hl (by simp))
theorem Rp.name (r : Rp h x a b c p vs S O) {v : Z} (rv : Rv v) (hl : vs.length ≤ 1000000) {P : PZ} {E : XZ → ZH → Prop}
    (q : ∀ h', Keep h h' [a] → Rp h' x a b c p (insV vs v) S O → P (.int ((posZ vs v + 1 : Nat) : Int)) h') : f_Registry_name [.ref x, v] h P E := by
  obtain ⟨re, ⟨kb, rb, ob⟩, ⟨kp, rp, op⟩, nd⟩ := r
  refine re_name re rv hl fun h1 k1 re1 => q h1 k1 ⟨re1, ⟨kb, k1.get rb (by simpa using re.ne.1.symm), ob⟩, ⟨kp, k1.get rp (by simpa using nd.1.symm), PD.mono op fun n o hn => k1.get hn (by simpa using ne_of_get hn re.ea (by simp))⟩, nd⟩
theorem Rp.re_up (r : Rp h x a b c p vs S O) {vs' : List Z} (k : Keep h h' [a]) (re : Re h' x a b c vs' S) : Rp h' x a b c p vs' S O := by
  obtain ⟨re0, ⟨kb, rb, ob⟩, ⟨kp, rp, op⟩, nd⟩ := r
  exact ⟨re, ⟨kb, k.get rb (by simpa using re.ne.1.symm), ob⟩, ⟨kp, k.get rp (by simpa using nd.1.symm), PD.mono op fun n o hn => k.get hn (by simpa using ne_of_get hn re0.ea (by simp))⟩, nd⟩
/-- a new pen -/
theorem Rp.pen (r : Rp h x a b c p vs S O) {i : Int} (hi : i ∉ O) (lO : O.length ≤ 100000) {P : PZ} {E : XZ → ZH → Prop}
    (q : ∀ h' n kp, Keep h h' [b] → h'[p]? = some (ZO.dict kp) → dkey kp (.int i) → kp.length ≤ 100000 → Rp (h'.set p (.dict (dput kp (.int i) (.ref n)))) x a b c p vs S (O ++ [i]) → P (.ref n) h') : f_Registry_pen [.ref x, .int i] h P E := by
  have r0 := r
  obtain ⟨re, ⟨kb, rb, ob⟩, ⟨kp, rp, op⟩, nd⟩ := r
  obtain ⟨rx, ra, ⟨kc, rc, oc⟩, rv, ne⟩ := re
  refine pen_ok rx rb ob hi (by omega) fun h1 n kb1 k1 rb1 ob1 hn ln => ?_
  have rp1 : h1[p]? = some (.dict kp) := k1.get rp (by simpa using nd.2.1.symm)
  have lp := lt_of_get rp
  have npn : p ≠ n := by omega
  have nxp : x ≠ p := ne_of_get rx rp (by simp)
  have nxb : x ≠ b := ne_of_get rx rb (by simp)
  refine q h1 n kp k1 rp1 ⟨rfl, op.1⟩ (by have := op.2.1; omega) ⟨⟨?_, ?_, ⟨kc, ?_, oc⟩, rv, ne⟩, ⟨kb1, ?_, ob1⟩, ⟨_, get_set rp1, put_keys op.1 rfl, ?_, fun j => ?_⟩, nd⟩
  · rw [List.getElem?_set_ne nxp.symm]; exact k1.get rx (by simpa using nxb)
  · rw [List.getElem?_set_ne nd.1.symm]; exact k1.get ra (by simpa using ne.1)
  · rw [List.getElem?_set_ne nd.2.2.symm]; exact k1.get rc (by simpa using ne.2.2.symm)
  · rw [List.getElem?_set_ne nd.2.1.symm]; exact rb1
  · have := put_len (kvs := kp) (k := .int i) (v := .ref n)
    have := op.2.1
    simp; omega
  · rw [get_put]
    have := op.2.2 j
    by_cases ej : j = i
    · subst ej
      simp
      rw [List.getElem?_set_ne npn]; exact hn
    · have ej' : ¬ Z.int j = Z.int i := fun z => ej (Z.int.inj z)
      rw [if_neg ej']
      cases e2 : dget kp (.int j) with
      | none => rw [e2] at this; simp; exact ⟨this, ej⟩
      | some z =>
        rw [e2] at this
        obtain ⟨m, n', rfl, hn'⟩ := this
        refine ⟨by simp [m], n', rfl, ?_⟩
        have : p ≠ n' := fun z => by subst z; rw [rp] at hn'; cases hn'
        rw [List.getElem?_set_ne this]
        exact k1.get hn' (by simpa using ne_of_get hn' rb (by simp))
/-- a pen of the dict seals -/
theorem Rp.seal (r : Rp h x a b c p vs S O) {i : Int} (hi : i ∈ O) (ni : i.natAbs < 1000000) (lS : S.length ≤ 100000) : ∃ kp n, h[p]? = some (ZO.dict kp) ∧ dkey kp (.int i) ∧ dget kp (.int i) = some (.ref n) ∧ h[n]? = some (penO (.int i) x) ∧
    ∀ (v : Z) (rv : Rv v) (P : PZ) (E : XZ → ZH → Prop), (∀ h', Keep h h' [c] → Rp h' x a b c p vs (S ++ [(.int i, v)]) O → P (.tup [.str "sealed", .int i, v]) h') → ZG.f_Pen_seal [.ref n, v] h P E := by
  have r0 := r
  obtain ⟨re, ⟨kb, rb, ob⟩, ⟨kp, rp, op⟩, nd⟩ := r
  obtain ⟨rx, ra, ⟨kc, rc, oc⟩, rv0, ne⟩ := re
  have := op.2.2 i
  cases e : dget kp (.int i) with
  | none => rw [e] at this; exact absurd hi this
  | some z =>
    rw [e] at this
    obtain ⟨_, n, rfl, hn⟩ := this
    refine ⟨kp, n, rp, ⟨rfl, op.1⟩, e, hn, fun v rv P E q => ?_⟩
    have rI : Rv (.int i) := (w_int (by omega)).rv (by decide) (by decide)
    refine seal_ok hn rx rc oc rI rv (by omega) fun h2 kc2 k2 rc2 oc2 => ?_
    refine q h2 k2 ⟨⟨k2.get rx (by simpa using ne_of_get rx rc (by simp)), k2.get ra (by simpa using ne.2.1), ⟨kc2, rc2, oc2⟩, rv0, ne⟩, ⟨kb, k2.get rb (by simpa using ne.2.2), ob⟩, ⟨kp, k2.get rp (by simpa using nd.2.2.symm), PD.mono op fun n o hn => k2.get hn (by simpa using ne_of_get hn rc (by simp))⟩, nd⟩
end
end ZH

namespace ZL
open PySem PySem.Spec PyProof.Rows L2
/-! ### to a place from several sides -/
theorem forZ_via {g : WG} {b : WS} {chk : ZH → Prop} {D : ZEnds} {E : EZ} {zs : List Z} {env : ZL.Env} {h : ZH} (R : ZL.Env → ZH → Prop) (hr : ∀ env h, R env h → D.nx env h)
    (m : ∀ N : ZL.Env → ZH → Prop, (∀ env h, R env h → N env h) → forZ g b chk ⟨N, D.rt, D.bk, D.ct⟩ E zs env h) : forZ g b chk D E zs env h := m D.nx hr
theorem while_via {c : WT} {b : WS} {D : ZEnds} {E : EZ} {env : ZL.Env} {h : ZH} (R : ZL.Env → ZH → Prop) (hr : ∀ env h, R env h → D.nx env h)
    (m : ∀ N : ZL.Env → ZH → Prop, (∀ env h, R env h → N env h) → wsWhile c b ⟨N, D.rt, D.bk, D.ct⟩ env h E) : wsWhile c b D env h E := m D.nx hr
end ZL
namespace ZH
open PySem PySem.Spec PyProof.Rows L2 ZL ZG ZF ZN
/-! ### a header taken apart -/
def hdrZ (a b c e : Int) (os : List Int) : Z := .tup [.str "header", .int a, .int b, .int c, .int e, .tup (os.map Z.int)]
structure Owns (os : List Int) : Prop where
  l : os.length = 4 ∨ os.length = 7 ∨ os.length = 10
  n : os.Nodup
  b : ∀ i ∈ os, 1 ≤ i ∧ i ≤ 999
structure HdOk (a b c e : Int) (os : List Int) : Prop where
  o : Owns os
  a : 0 ≤ a
  b : 0 ≤ b
  c : 0 ≤ c
  e : 0 ≤ e
theorem ints_of : ∀ {zs : List Z}, zs.all (countB 1 999) = true → zs = (zs.map intZ).map Z.int ∧ ∀ i ∈ zs.map intZ, 1 ≤ i ∧ i ≤ 999
  | [], _ => ⟨rfl, by simp⟩
  | z :: zs, h => by
    rw [List.all_cons, Bool.and_eq_true] at h
    obtain ⟨e, m⟩ := ints_of h.2
    cases z with
    | int i =>
      refine ⟨?_, fun j mj => ?_⟩
      · rw [List.map_cons, List.map_cons, ← e]; rfl
      · rw [List.map_cons] at mj
        rcases List.mem_cons.mp mj with rfl | mj
        · have := h.1
          rw [c_int] at this
          simpa [intZ] using this
        · exact m j mj
    | _ => cases h.1
theorem owners_of {v : Z} (h : ownersB v = true) : ∃ os, v = .tup (os.map Z.int) ∧ Owns os := by
  cases v with
  | tup zs =>
    have h : ((decide (zs.length = 4) || decide (zs.length = 7) || decide (zs.length = 10)) && ownB zs) = true := h
    unfold ownB at h
    simp only [Bool.and_eq_true, Bool.or_eq_true, decide_eq_true_eq] at h
    obtain ⟨e, m⟩ := ints_of h.2.1
    exact ⟨zs.map intZ, by rw [← e], by rw [List.length_map]; simpa [or_assoc] using h.1, h.2.2, m⟩
  | _ => cases h
theorem nat_of {v : Z} (h : natB v = true) : ∃ i, v = .int i ∧ 0 ≤ i := by
  cases v with
  | int i => exact ⟨i, rfl, of_decide_eq_true h⟩
  | _ => cases h
theorem word_of {w : Str} {v : Z} (h : wordB w v = true) : v = .str w := by
  cases v with
  | str x => rw [of_decide_eq_true h]
  | _ => cases h
theorem header_of {v : Z} (h : headerB v = true) : ∃ a b c e os, v = hdrZ a b c e os ∧ HdOk a b c e os ∧ a.natAbs < 1000000000000000000000000000000000000000000000000000000000000 := by
  obtain ⟨hp, h⟩ := Bool.and_eq_true_iff.mp h
  rcases shape6 v with ⟨w, a, b, c, e, o, rfl⟩ | h6
  · have h : (wordB "header" w && (natB a && natB b && natB c && natB e) && ownersB o) = true := h
    simp only [Bool.and_eq_true] at h
    obtain ⟨⟨h1, ⟨⟨h2, h3⟩, h4⟩, h5⟩, h6⟩ := h
    cases word_of h1
    obtain ⟨a, rfl, ha⟩ := nat_of h2
    obtain ⟨b, rfl, hb⟩ := nat_of h3
    obtain ⟨c, rfl, hc⟩ := nat_of h4
    obtain ⟨e, rfl, he⟩ := nat_of h5
    obtain ⟨os, rfl, ho⟩ := owners_of h6
    refine ⟨a, b, c, e, os, rfl, ⟨ho, ha, hb, hc, he⟩, ?_⟩
    have p1 : plainB 29 (.int a) = true := by
      unfold plainB at hp
      rw [plainBs_all, List.all_eq_true] at hp
      exact hp (.int a) (by simp)
    rw [pl_int] at p1
    exact of_decide_eq_true p1
  · have e : headB v = false := by
      unfold headB
      split
      · simp at h6
      · rfl
    rw [e] at h; cases h
def hgt : Z → Int
  | .tup [_, .int a, _, _, _, _] => a
  | _ => 0
def prevZ : Z → Z
  | .tup [_, _, b, _, _, _] => b
  | _ => .non
def ownL : Z → List Int
  | .tup [_, _, _, _, _, .tup os] => os.map intZ
  | _ => []
theorem hgt_hdr {a b c e : Int} {os : List Int} : hgt (hdrZ a b c e os) = a := rfl
theorem prev_hdr {a b c e : Int} {os : List Int} : prevZ (hdrZ a b c e os) = .int b := rfl
theorem own_hdr {a b c e : Int} {os : List Int} : ownL (hdrZ a b c e os) = os := by
  show (os.map Z.int).map intZ = os
  rw [List.map_map]
  exact List.map_id os
/-! ### heads that are judged -/
def oldB (ht : Int) : Z → Bool
  | .tup [hd, _] => headerB hd && decide (hgt hd ≤ ht)
  | _ => false
def judgeZ (S : Seals) : List Z → Z → List Z → List Z × List Z
  | vs, _, [] => ([], vs)
  | vs, last, z :: zs => match z with
    | .tup [hd, ct] =>
      if headerB hd = true then
        if hgt hd = hgt last + 1 then
          if prevZ hd = .int ((posZ vs last + 1 : Nat) : Int) then
            if certB S (insV vs last) hd (hgt hd) (ownL last) ct = true then (z :: (judgeZ S (certN (insV vs last) hd (ownL last) ct) hd zs).1, (judgeZ S (certN (insV vs last) hd (ownL last) ct) hd zs).2)
            else ([], certN (insV vs last) hd (ownL last) ct)
          else ([], insV vs last)
        else ([], vs)
      else ([], vs)
    | _ => ([], vs)
def judgedZ (S : Seals) (vs : List Z) (hdr : Z) (v : Z) : List Z × List Z :=
  if plainB 30 v = true then (match v with
    | .tup zs => judgeZ S vs hdr (zs.dropWhile (oldB (hgt hdr)))
    | _ => ([], vs))
  else ([], vs)
section
variable {v : Z} {h : ZH} {P : PZ} {E : XZ → ZH → Prop}
theorem old_ok (p : Pn 29 v) {ht : Int} (q : ∀ h', Pre h h' → P (.bl (oldB ht v)) h') : f_is_old [v, .int ht] h P E := by
  unfold f_is_old wfOf w_is_old
  simp
  refine row_ok p.o ?_
  rcases shape2 v with ⟨hd, ct, rfl⟩ | h2
  · simp
    have ph := p.mem (z := hd) (by simp)
    refine header_ok ph.fit (fun _ => ph.n) fun h1 p1 => ?_
    have q : ∀ h', Pre h h' → P (.bl (headerB hd && decide (hgt hd ≤ ht))) h' := q
    cases e1 : headerB hd with
    | false =>
      rw [e1] at q
      simpa using q h1 p1
    | true =>
      rw [e1] at q
      obtain ⟨a, b, c, e, os, rfl, _⟩ := header_of e1
      simp [hdrZ]
      exact q h1 p1
  · rw [h2]
    have e : oldB ht v = false := by
      unfold oldB
      split
      · simp at h2
      · rfl
    rw [e] at q
    simpa using q h (.refl _)
end
end ZH
namespace ZH
open PySem PySem.Spec PyProof.Rows L2 ZL ZG ZF ZN
section
variable {v : Z} {h : ZH} {P : PZ} {E : XZ → ZH → Prop}
theorem certN_len {vs : List Z} {hdr : Z} {os : List Int} {v : Z} : (certN vs hdr os v).length ≤ vs.length + 1 := by
  unfold certN
  split
  · exact ins_len
  · omega
theorem certN_rv {vs : List Z} {hdr : Z} {os : List Int} {v : Z} (hv : ∀ u ∈ vs, Rv u) (r : Rv hdr) : ∀ u ∈ certN vs hdr os v, Rv u := by
  unfold certN
  split
  · exact ins_rv hv r
  · exact hv
theorem judge_cons {S : Seals} {vs : List Z} {last hd ct : Z} {zs : List Z} : judgeZ S vs last (.tup [hd, ct] :: zs) = if headerB hd = true then
        if hgt hd = hgt last + 1 then
          if prevZ hd = .int ((posZ vs last + 1 : Nat) : Int) then
            if certB S (insV vs last) hd (hgt hd) (ownL last) ct = true then (.tup [hd, ct] :: (judgeZ S (certN (insV vs last) hd (ownL last) ct) hd zs).1, (judgeZ S (certN (insV vs last) hd (ownL last) ct) hd zs).2)
            else ([], certN (insV vs last) hd (ownL last) ct)
          else ([], insV vs last)
        else ([], vs)
      else ([], vs) := rfl
theorem judged_ok {x a b c : Nat} {vs : List Z} {S : Seals} (r : Re h x a b c vs S) (hl : vs.length ≤ 900000) {hdr : Z} (hh : headerB hdr = true) (rh : Rv hdr) (f : Fit 1600 h v) (nv : plainB 30 v = true → niceZ v = true)
    (q : ∀ h' n, Keep h h' [a] → Re h' x a b c (judgedZ S vs hdr v).2 S → h'[n]? = some (ZO.lst (judgedZ S vs hdr v).1) → h.length ≤ n → P (.ref n) h') : f_judged_heads [.ref x, hdr, v] h P E := by
  unfold f_judged_heads wfOf w_judged_heads
  have bl := big_line
  simp
  refine isplain_ok f (by decide) fun h1 p1 => ?_
  have r1 := r.pre p1
  cases hp : plainB 30 v with
  | false =>
    have e : judgedZ S vs hdr v = ([], vs) := by unfold judgedZ; rw [hp]; rfl
    rw [e] at q
    simp [sizeLine_eq]
    exact q _ _ ((Keep.of_pre p1).app _) (r1.pre (.app _ _)) (by simp) p1.le
  | true =>
    have p : Pn 30 v := ⟨⟨hp, f.st⟩, nv hp, f.sz⟩
    cases v with
    | ref n => rw [pl_ref] at hp; cases hp
    | scr n => rw [pl_scr] at hp; cases hp
    | err n => cases hp
    | tup zs =>
      have e : judgedZ S vs hdr (.tup zs) = judgeZ S vs hdr (zs.dropWhile (oldB (hgt hdr))) := by unfold judgedZ; rw [hp]; rfl
      rw [e] at q
      have lz : zs.length ≤ 1600 := by
        have := f.sz
        have key : ∀ zs : List Z, zs.length ≤ sizeZs zs := by
          intro zs
          induction zs with
          | nil => exact Nat.zero_le _
          | cons z zs ih =>
            have : 1 ≤ sizeZ z := by cases z <;> first | exact Nat.le_refl _ | exact Nat.succ_le_succ (Nat.zero_le _)
            show zs.length + 1 ≤ sizeZ z + sizeZs zs
            omega
        have h2 := key zs
        have : sizeZs zs + 1 ≤ 1600 := this
        omega
      have pz : ∀ z ∈ zs, Pn 29 z := fun z m => p.mem m
      obtain ⟨ha, hb, hc, he, ho, rfl, hok, hbd⟩ := header_of hh
      have i1 : ∀ {a b c e : Int} {os : List Int}, oIx (hdrZ a b c e os) (.int 1) = fun h P => P (.int a) h := fun {a b c e os} => by
        funext h P
        simp [hdrZ]
      simp
      refine while_via (fun env h' => Pre h1 h' ∧ ∃ j : Nat, j ≤ zs.length ∧ zs.drop j = zs.dropWhile (oldB ha) ∧ env = [some (.ref x), some (hdrZ ha hb hc he ho), some (.tup zs), some (.int (j : Int)), none, none, none]) ?_ ?_
      rotate_left
      · intro N hN
        refine whileZ_ind (fun m env h' => Pre h1 h' ∧ ∃ j : Nat, j + m = zs.length ∧ (zs.drop j).dropWhile (oldB ha) = zs.dropWhile (oldB ha) ∧ env = [some (.ref x), some (hdrZ ha hb hc he ho), some (.tup zs), some (.int (j : Int)), none, none, none]) ?_ (m := zs.length) ⟨.refl _, 0, by omega, rfl, rfl⟩
        rintro m env h' N' hN' ⟨p', j, ej, dj, rfl⟩
        simp
        by_cases c1 : j < zs.length
        · have aj : L2.atI zs (j : Int) = some zs[j] := atI_nat c1
          have c2 : (j : Int) < (zs.length : Int) := by omega
          simp [c1, aj, i1]
          refine old_ok (pz _ (List.getElem_mem c1)) fun h2 p2 => ?_
          have ed : zs.drop j = zs[j] :: zs.drop (j + 1) := List.drop_eq_getElem_cons c1
          cases e2 : oldB ha zs[j] with
          | true =>
            simp
            refine hN' (m - 1) _ _ (by omega) ⟨p'.trans p2, j + 1, by omega, ?_, rfl⟩
            rw [← dj, ed, List.dropWhile_cons, e2]; simp
          | false =>
            simp
            refine hN _ _ ⟨p'.trans p2, j, by omega, ?_, rfl⟩
            rw [← dj, ed, List.dropWhile_cons, e2]; simp
        · have c2 : ¬ (j : Int) < (zs.length : Int) := by omega
          simp [c1]
          refine hN _ _ ⟨p', j, by omega, ?_, rfl⟩
          rw [← dj, List.drop_of_length_le (by omega)]; rfl
      · rintro env h2 ⟨p2, j, lj, dj, rfl⟩
        have cj : cutZ zs (some (j : Int)) none = zs.drop j := by
          unfold cutZ
          rw [HT.sIx_nat, Nat.min_eq_left lj]
          show ((zs.drop j).take (zs.length - j)) = _
          rw [List.take_of_length_le (by simp)]
        simp [sizeLine_eq, cj]
        have r2 := r1.pre p2
        rw [hgt_hdr, ← dj] at q
        have pd : ∀ z ∈ zs.drop j, Pn 29 z := fun z m => pz z (List.mem_of_mem_drop m)
        have ld : (zs.drop j).length ≤ 1600 := by simp; omega
        generalize zs.drop j = ds at q pd ld
        refine forZ_via (fun env h' => ∃ (n : Nat) (u w : Option Z), env = [some (.ref x), some (hdrZ ha hb hc he ho), some (.tup zs), some (.int (j : Int)), some (.ref n), u, w] ∧ Keep h h' [a] ∧ Re h' x a b c (judgeZ S vs (hdrZ ha hb hc he ho) ds).2 S ∧ h'[n]? = some (ZO.lst (judgeZ S vs (hdrZ ha hb hc he ho) ds).1) ∧ h.length ≤ n) ?_ ?_
        · rintro env h' ⟨n, u, w, rfl, k, r', e', ln⟩
          simp
          exact q h' n k r' e' ln
        intro N hN
        refine forZ_ind (fun us env h' => ∃ (n : Nat) (last : Z) (vs1 tk : List Z) (w : Option Z), env = [some (.ref x), some (hdrZ ha hb hc he ho), some (.tup zs), some (.int (j : Int)), some (.ref n), some last, w] ∧ Keep h h' [a] ∧ Re h' x a b c vs1 S ∧ h'[n]? = some (ZO.lst tk) ∧ h.length ≤ n ∧ headerB last = true ∧ Rv last ∧
          (judgeZ S vs (hdrZ ha hb hc he ho) ds).1 = tk ++ (judgeZ S vs1 last us).1 ∧ (judgeZ S vs (hdrZ ha hb hc he ho) ds).2 = (judgeZ S vs1 last us).2 ∧ (∀ z ∈ us, Pn 29 z) ∧ vs1.length + 2 * us.length ≤ 910000 ∧ tk.length + us.length ≤ 1600) ?_ ?_ _ _ _ ⟨h2.length, _, vs, [], none, rfl, ((Keep.of_pre p1).trans (.of_pre p2)).app _, r2.pre (.app _ _), by simp, Nat.le_trans p1.le p2.le, hh, rh, by simp, rfl, pd, by omega, by simpa using ld⟩
        · rintro env h' ⟨n, last, vs1, tk, w, rfl, k, r', e', ln, hl', rl', e1, e2, _, _, _⟩
          refine ⟨trivial, hN _ _ ⟨n, _, _, rfl, k, ?_, ?_, ln⟩⟩
          · rw [e2]; exact r'
          · rw [e1]
            show _ = some (ZO.lst (tk ++ []))
            rw [List.append_nil]; exact e'
        · rintro z us env h' N' hN' ⟨n, last, vs1, tk, w, rfl, k, r', e', ln, hl', rl', e1, e2, pu, lv, lt⟩
          refine ⟨trivial, ?_⟩
          have p0 := pu z List.mem_cons_self
          simp only [List.length_cons] at lv lt
          -- the way out
          have out : ∀ (vs2 : List Z) (h3 : ZH) (w : Option Z), judgeZ S vs1 last (z :: us) = ([], vs2) → Keep h' h3 [a] → Re h3 x a b c vs2 S → N [some (.ref x), some (hdrZ ha hb hc he ho), some (.tup zs), some (.int (j : Int)), some (.ref n), some last, w] h3 := fun vs2 h3 w e k3 r3 => by
            refine hN _ _ ⟨n, _, _, rfl, k.trans k3, ?_, ?_, ln⟩
            · rw [e2, e]; exact r3
            · rw [e1, e]
              show _ = some (ZO.lst (tk ++ []))
              rw [List.append_nil]; exact k3.get e' (by simpa using ne_of_get e' r'.ea (by simp))
          simp
          refine row_ok p0.o ?_
          rcases shape2 z with ⟨hd, ct, rfl⟩ | h2'
          · have ph := p0.mem (z := hd) (by simp)
            have pc := p0.mem (z := ct) (by simp)
            simp
            refine header_ok ph.fit (fun _ => ph.n) fun h3 p3 => ?_
            have r3 := r'.pre p3
            cases e3 : headerB hd with
            | false =>
              simp
              exact out _ _ _ (by rw [judge_cons, e3]; rfl) (.of_pre p3) r3
            | true =>
              obtain ⟨la, lb, lc, le, lo, rfl, lok, lbd⟩ := header_of hl'
              obtain ⟨a2, b2, c2, e4, o2, rfl, hok2, hbd2⟩ := header_of e3
              have j0 := judge_cons (S := S) (vs := vs1) (last := hdrZ la lb lc le lo) (hd := hdrZ a2 b2 c2 e4 o2) (ct := ct) (zs := us)
              rw [if_pos e3, hgt_hdr, hgt_hdr, prev_hdr, own_hdr] at j0
              have i2 : ∀ {a b c e : Int} {os : List Int}, oIx (hdrZ a b c e os) (.int 2) = fun h P => P (.int b) h := fun {a b c e os} => by
                funext h P
                simp [hdrZ]
              have i5 : ∀ {a b c e : Int} {os : List Int}, oIx (hdrZ a b c e os) (.int 5) = fun h P => P (.tup (os.map Z.int)) h := fun {a b c e os} => by
                funext h P
                simp [hdrZ]
              simp [i1]
              by_cases c1 : a2 = la + 1
              · rw [if_pos c1] at j0
                simp [c1, i2, r3.ex]
                refine re_name r3 rl' (by omega) fun h4 k4 r4 => ?_
                have k34 := (Keep.of_pre p3 (D := [a])).trans k4
                have ec : ((posZ vs1 (hdrZ la lb lc le lo) + 1 : Nat) : Int) = (posZ vs1 (hdrZ la lb lc le lo) : Int) + 1 := by omega
                rw [ec] at j0
                by_cases c3 : b2 = (posZ vs1 (hdrZ la lb lc le lo) : Int) + 1
                · rw [if_pos (by rw [c3])] at j0
                  simp [c3, i5]
                  rw [← c3, ← c1]
                  have li := ins_len (vs := vs1) (v := hdrZ la lb lc le lo)
                  have lol := lok.o.l
                  refine cert_ok r4 (by omega) (w2 := .str "header") (ht := a2) (e2 := .int b2) (e3 := .int c2) (e4 := .int e4) (o2 := .tup (o2.map Z.int)) (os := lo) (ph.rv (by decide)) hbd2 (by omega) pc.fit (fun _ => pc.n) fun h5 k5 r5 => ?_
                  have k35 := k34.trans k5
                  cases e6 : certB S (insV vs1 (hdrZ la lb lc le lo)) (hdrZ a2 b2 c2 e4 o2) a2 lo ct with
                  | false =>
                    rw [e6] at j0
                    have e6' : certB S (insV vs1 (hdrZ la lb lc le lo)) (.tup [.str "header", .int a2, .int b2, .int c2, .int e4, .tup (o2.map Z.int)]) a2 lo ct = false := e6
                    simp [e6']
                    exact out _ _ _ j0 k35 r5
                  | true =>
                    rw [e6] at j0
                    have e6' : certB S (insV vs1 (hdrZ la lb lc le lo)) (.tup [.str "header", .int a2, .int b2, .int c2, .int e4, .tup (o2.map Z.int)]) a2 lo ct = true := e6
                    have e7 : h5[n]? = some (ZO.lst tk) := k35.get e' (by simpa using ne_of_get e' r'.ea (by simp))
                    simp [e6', e7, sizeLine_eq]
                    have nna := ne_of_get e7 r5.ea (by simp)
                    have cn := certN_len (vs := insV vs1 (hdrZ la lb lc le lo)) (hdr := hdrZ a2 b2 c2 e4 o2) (os := lo) (v := ct)
                    refine ⟨by omega, hN' _ _ ⟨n, _, certN (insV vs1 (hdrZ la lb lc le lo)) (hdrZ a2 b2 c2 e4 o2) lo ct, tk ++ [.tup [hdrZ a2 b2 c2 e4 o2, ct]], _, rfl, (k.trans k35).set _ (by omega), ?_, get_set e7, ln, e3, ph.rv (by decide), ?_, ?_, fun y m => pu y (List.mem_cons_of_mem _ m), by omega, by simp; omega⟩⟩
                    · exact Re.keep r5 (D := [n]) ((Keep.refl h5 [n]).set _ fun _ => by simp) (by simpa using ne_of_get r5.ex e7 (by simp)) (by simpa using nna.symm) (by
                        obtain ⟨kc, rc, _⟩ := r5.ec
                        simpa using ne_of_get rc e7 (by simp))
                    · rw [e1, j0]; simp
                    · rw [e2, j0]; simp
                · rw [if_neg (by intro z; exact c3 (Z.int.inj z))] at j0
                  simp [c3]
                  rw [← c1]
                  exact out _ _ _ j0 k34 r4
              · rw [if_neg c1] at j0
                simp [c1]
                exact out _ _ _ j0 (.of_pre p3) r3
          · rw [h2']
            have : judgeZ S vs1 last (z :: us) = ([], vs1) := by
              unfold judgeZ
              split
              · simp at h2'
              · rfl
            simp
            exact out _ _ _ this (.refl _ _) r'
    | _ =>
      have e : ∀ w, judgedZ S vs hdr w = ([], vs) ∨ ∃ zs, w = .tup zs := fun w => by
        unfold judgedZ
        cases w with
        | tup zs => exact .inr ⟨zs, rfl⟩
        | _ => left; split <;> rfl
      rcases e _ with e | ⟨zs, e⟩
      · rw [e] at q
        simp [sizeLine_eq]
        exact q _ _ ((Keep.of_pre p1).app _) (r1.pre (.app _ _)) (by simp) p1.le
      · cases e
end
end ZH

namespace ZH
open PySem PySem.Spec PyProof.Rows L2 ZL ZG ZF ZN
/-! ### rows of sealers -/
theorem ints_map : ∀ os : List Int, intsZ (os.map Z.int) = some os
  | [] => rfl
  | i :: os => by show intsZ (Z.int i :: os.map Z.int) = _; unfold intsZ; rw [ints_map os]; rfl
theorem len_sub : ∀ {xs ys : List Int}, xs.Nodup → (∀ x ∈ xs, x ∈ ys) → xs.length ≤ ys.length
  | [], _, _, _ => Nat.zero_le _
  | x :: xs, ys, n, h => by
    rw [List.nodup_cons] at n
    have hx := h x List.mem_cons_self
    have := len_sub (xs := xs) (ys := ys.erase x) n.2 fun y m => by
      have hy := h y (List.mem_cons_of_mem _ m)
      have : y ≠ x := fun z => n.1 (z ▸ m)
      exact (List.mem_erase_of_ne this).mpr hy
    rw [List.length_erase_of_mem hx] at this
    have := List.length_pos_of_mem hx
    simp; omega
theorem lt_of_le : ∀ {xs : List Int}, xs.Pairwise (· ≤ ·) → xs.Nodup → xs.Pairwise (· < ·)
  | [], _, _ => .nil
  | x :: xs, p, n => by
    rw [List.pairwise_cons] at p
    rw [List.nodup_cons] at n
    refine List.pairwise_cons.mpr ⟨fun y m => ?_, lt_of_le p.2 n.2⟩
    have := p.1 y m
    have : x ≠ y := fun z => n.1 (z ▸ m)
    omega
theorem mem_app {S : Seals} {o v o' v' : Z} : memS (S ++ [(o, v)]) o' v' = (memS S o' v' || (decide (o = o') && decide (v = v'))) := by
  unfold memS
  rw [List.any_append]
  simp
theorem seals_sound {S : Seals} {body : Z} {os : List Int} : ∀ {last : Int} {zs : List Z}, sealsB S body os last zs = true → ∃ is : List Int, zs = is.map Z.int ∧ is.Pairwise (· < ·) ∧ ∀ i ∈ is, last < i ∧ i ≤ 999 ∧ i ∈ os ∧ memS S (.int i) body = true
  | last, [], _ => ⟨[], rfl, .nil, by simp⟩
  | last, .int i :: zs, h => by
    rw [seals_int] at h
    simp only [Bool.and_eq_true, decide_eq_true_eq] at h
    obtain ⟨⟨⟨⟨h1, h2⟩, h3⟩, h4⟩, h5⟩ := h
    obtain ⟨is, rfl, pw, hm⟩ := seals_sound h5
    refine ⟨i :: is, rfl, List.pairwise_cons.mpr ⟨fun j m => (hm j m).1, pw⟩, fun j m => ?_⟩
    rcases List.mem_cons.mp m with rfl | m
    · exact ⟨by omega, h2, h3, h4⟩
    · have := hm j m
      exact ⟨by omega, this.2⟩
  | last, .non :: zs, h => by cases h
  | last, .bl _ :: zs, h => by cases h
  | last, .str _ :: zs, h => by cases h
  | last, .tup _ :: zs, h => by cases h
  | last, .scr _ :: zs, h => by cases h
  | last, .ref _ :: zs, h => by cases h
  | last, .err _ :: zs, h => by cases h
theorem seals_good {S : Seals} {body : Z} {os : List Int} : ∀ {last : Int} {is : List Int}, is.Pairwise (· < ·) → (∀ i ∈ is, last < i ∧ i ≤ 999 ∧ i ∈ os ∧ memS S (.int i) body = true) → sealsB S body os last (is.map Z.int) = true
  | last, [], _, _ => rfl
  | last, i :: is, pw, h => by
    rw [List.pairwise_cons] at pw
    obtain ⟨h1, h2, h3, h4⟩ := h i List.mem_cons_self
    rw [List.map_cons, seals_int, seals_good pw.2 fun j m => ⟨pw.1 j m, (h j (List.mem_cons_of_mem _ m)).2⟩, h4]
    simp only [Bool.and_true, Bool.and_eq_true, decide_eq_true_eq]
    exact ⟨⟨by omega, h2⟩, h3⟩
theorem map_int_inj {is js : List Int} (h : is.map Z.int = js.map Z.int) : is = js := by
  induction is generalizing js with
  | nil => cases js <;> simp_all
  | cons i is ih =>
    cases js with
    | nil => simp at h
    | cons j js =>
      simp only [List.map_cons, List.cons.injEq, Z.int.injEq] at h
      rw [h.1, ih h.2]
theorem seals_bad1 {S : Seals} {body : Z} {os : List Int} {zs : List Z} {z : Z} (m : z ∈ zs) (hz : ∀ i, z = .int i → ¬ (0 < i ∧ i ≤ 999 ∧ memS S (.int i) body = true)) : sealsB S body os 0 zs = false := by
  cases hb : sealsB S body os 0 zs with
  | false => rfl
  | true =>
    obtain ⟨is, rfl, _, hm⟩ := seals_sound hb
    obtain ⟨i, mi, rfl⟩ := List.mem_map.mp m
    have := hm i mi
    exact absurd ⟨this.1, this.2.1, this.2.2.2⟩ (hz i rfl)
theorem seals_bad2 {S : Seals} {body : Z} {os : List Int} {is : List Int} (np : ¬ is.Pairwise (· < ·)) : sealsB S body os 0 (is.map Z.int) = false := by
  cases hb : sealsB S body os 0 (is.map Z.int) with
  | false => rfl
  | true =>
    obtain ⟨js, e, pw, _⟩ := seals_sound hb
    rw [map_int_inj e] at np
    exact absurd pw np
theorem mem_none {S : Seals} {o v : Z} (h : ∀ t ∈ S, t.2 ≠ v) : memS S o v = false := by
  unfold memS
  rw [List.any_eq_false]
  intro t m
  have := h t m
  simp [this]
theorem tru_lst {h : ZH} {n : Nat} {zs : List Z} (e : h[n]? = some (.lst zs)) : truK h (.ref n) = some (!zs.isEmpty) := by
  simp only [truK, e]
end ZH

namespace K21
open PySem PySem.Spec PyProof.Rows L2 ZL
def top (i : Nat) : Stmt := PySem.Challenge.pw_trothbase_k21_judged_heads.main.body.getD i (.Pass ⟨0, 0, 0, 0⟩)
abbrev s_Registry___init__ : Stmt := inClass (top 9) 0
abbrev s__law_next : Stmt := top 23
abbrev s__law_owners : Stmt := top 24
abbrev s_Registry_name : Stmt := inClass (top 9) 1
abbrev s_Pen___init__ : Stmt := inClass (top 8) 0
abbrev s_Registry_pen : Stmt := inClass (top 9) 2
abbrev s__law_pens : Stmt := top 25
abbrev s_Registry_note_seal : Stmt := inClass (top 9) 3
abbrev s_Pen_seal : Stmt := inClass (top 8) 1
abbrev s__law_certified : Stmt := top 26
abbrev s__law_chain : Stmt := top 27
abbrev s_is_within : Stmt := top 6
abbrev s_is_plain : Stmt := top 7
abbrev s_is_row_of : Stmt := top 12
abbrev s_is_natural : Stmt := top 16
abbrev s_is_count : Stmt := top 11
abbrev s_are_owners : Stmt := top 15
abbrev s_is_header : Stmt := top 17
abbrev s_is_old : Stmt := top 20
abbrev s_quorum : Stmt := top 18
abbrev s_Registry_is_sealed : Stmt := inClass (top 9) 4
abbrev s_is_certificate : Stmt := top 19
abbrev s_judged_heads : Stmt := top 21
abbrev s__law_asked : Stmt := top 29
abbrev s__law_elder_again : Stmt := top 30
abbrev s__law_spoilt : Stmt := top 28
abbrev s_law : Stmt := top 31
/-! ### what the defs do -/
def w_Registry___init__ : WS := (wsSeq (wsFld ["Registry"] "_names" (wVar 0) wDict0) (wsSeq (wsFld ["Registry"] "_pens" (wVar 0) wDict0) (wsFld ["Registry"] "_seals" (wVar 0) wDict0)))
def f_Registry___init__ : WF := wfOf 1 w_Registry___init__
def w__law_next : WS := (wsSeq (wsIf (wAnd (wB (w2 oEq (w2 oIx (wVar 0) (wC (.int 2))) (wC (.int 0)))) (wB (w2 oLt (w2 oIx (wVar 0) (wC (.int 1))) (wCB oLen (wCons (w2 oIx (wVar 0) (wC (.int 0))) wNil))))) (wsSeq (wsSet 2 (w2 oIx (w2 oIx (wVar 0) (wC (.int 0))) (w2 oIx (wVar 0) (wC (.int 1))))) (wsSeq (wsAugS oIadd (wVar 0) (wC (.int 1)) (wC (.int 1))) (wsIf (wB (w2 oGe (wVar 2) (w2 oPow (wC (.int 10)) (wC (.int 18))))) (wsAsg (wVar 2) (wgSub (wVar 0) (wC (.int 2)))) (wsAsg (w2 oMod (wCB oInt (wCons (w2 oAdd (w2 oAdd (w2 oMul (w2 oIx (wVar 0) (wC (.int 3))) (wC (.int 48271))) (w2 oMod (wCB oInt (wCons (wVar 2) wNil)) (wC (.int 2147483647)))) (wC (.int 7))) wNil)) (wC (.int 2147483647))) (wgSub (wVar 0) (wC (.int 3))))))) wsNext) (wsSeq (wsIf (wB (w2 oGt (w2 oIx (wVar 0) (wC (.int 2))) (wC (.int 0)))) (wsSeq (wsSet 3 (w2 oMod (wCB oInt (wCons (w2 oIx (wVar 0) (wC (.int 2))) wNil)) (wVar 1))) (wsSeq (wsAsg (w2 oFdiv (w2 oIx (wVar 0) (wC (.int 2))) (wVar 1)) (wgSub (wVar 0) (wC (.int 2)))) (wsRet (wVar 3)))) wsNext) (wsSeq (wsAsg (w2 oMod (wCB oInt (wCons (w2 oAdd (w2 oMul (w2 oIx (wVar 0) (wC (.int 3))) (wC (.int 69621))) (wC (.int 12345))) wNil)) (wC (.int 2147483647))) (wgSub (wVar 0) (wC (.int 3)))) (wsRet (w2 oMod (wCB oInt (wCons (w2 oFdiv (w2 oIx (wVar 0) (wC (.int 3))) (wC (.int 7))) wNil)) (wVar 1))))))
def f__law_next : WF := wfOf 4 w__law_next
def w__law_owners : WS := (wsSeq (wsSet 1 (w2 oIx (wLst (wCons (wC (.int 4)) (wCons (wC (.int 4)) (wCons (wC (.int 7)) (wCons (wC (.int 10)) wNil))))) (wCall 2 f__law_next (wCons (wVar 0) (wCons (wC (.int 4)) wNil))))) (wsSeq (wsSet 2 (w2 oAdd (wC (.int 1)) (wCall 2 f__law_next (wCons (wVar 0) (wCons (wC (.int 900)) wNil))))) (wsSeq (wsSet 3 (w2 oAdd (wC (.int 1)) (wCall 2 f__law_next (wCons (wVar 0) (wCons (wC (.int 9)) wNil))))) (wsSeq (wsSet 4 (wLc (iR1 (wCons (wVar 1) wNil)) (.nm 5) wYes (w2 oAdd (wVar 2) (w2 oMul (wVar 3) (wVar 5))) [5])) (wsSeq (wsFor (iR1 (wCons (wC (.int 3)) wNil)) (wgName 6) (wsSeq (wsSet 5 (wCall 2 f__law_next (wCons (wVar 0) (wCons (wVar 1) wNil)))) (wsSet 4 (w2 oAdd (wSl (wVar 4) (wPart (wVar 5)) wNoPart) (wRev (wSl (wVar 4) wNoPart (wPart (wVar 5)))))))) (wsRet (wCB oTuple (wCons (wVar 4) wNil))))))))
def f__law_owners : WF := wfOf 7 w__law_owners
def w_Registry_name : WS := (wsSeq (wsSet 2 (wCB oRepr (wCons (wVar 1) wNil))) (wsSeq (wsIf (wB (w2 oNotIn (wVar 2) (wFld ["Registry"] "_names" (wVar 0)))) (wsAsg (w2 oAdd (wCB oLen (wCons (wFld ["Registry"] "_names" (wVar 0)) wNil)) (wC (.int 1))) (wgSub (wFld ["Registry"] "_names" (wVar 0)) (wVar 2))) wsNext) (wsRet (w2 oIx (wFld ["Registry"] "_names" (wVar 0)) (wVar 2)))))
def f_Registry_name : WF := wfOf 3 w_Registry_name
def w_Pen___init__ : WS := (wsSeq (wsFld ["Pen"] "owner" (wVar 0) (wVar 1)) (wsFld ["Pen"] "_registry" (wVar 0) (wVar 2)))
def f_Pen___init__ : WF := wfOf 3 w_Pen___init__
def w_Registry_pen : WS := (wsSeq (wsIf (wB (w2 oIn (wVar 1) (wFld ["Registry"] "_pens" (wVar 0)))) (wsRaise "InvalidArgument" (w1 (wC (.str "the pen was given before")))) wsNext) (wsSeq (wsAsg (wC (.bl true)) (wgSub (wFld ["Registry"] "_pens" (wVar 0)) (wVar 1))) (wsRet (wMake "Pen" 2 f_Pen___init__ (wCons (wVar 1) (wCons (wVar 0) wNil))))))
def f_Registry_pen : WF := wfOf 2 w_Registry_pen
def w__law_pens : WS := (wsFor (iVal (wVar 1)) (wgName 3) (wsIf (wB (w2 oNotIn (wVar 3) (wVar 2))) (wsAsg (wMeth "Registry" "pen" 1 f_Registry_pen (wVar 0) (wCons (wVar 3) wNil)) (wgSub (wVar 2) (wVar 3))) wsNext))
def f__law_pens : WF := wfOf 4 w__law_pens
def w_Registry_note_seal : WS := (wsAsg (wC (.bl true)) (wgSub (wFld ["Registry"] "_seals" (wVar 0)) (wTup (wCons (wCB oRepr (wCons (wVar 1) wNil)) (wCons (wCB oRepr (wCons (wVar 2) wNil)) wNil)))))
def f_Registry_note_seal : WF := wfOf 3 w_Registry_note_seal
def w_Pen_seal : WS := (wsSeq (wsExpr (wMeth "Registry" "note_seal" 2 f_Registry_note_seal (wFld ["Pen"] "_registry" (wVar 0)) (wCons (wFld ["Pen"] "owner" (wVar 0)) (wCons (wVar 1) wNil)))) (wsRet (wTup (wCons (wC (.str "sealed")) (wCons (wFld ["Pen"] "owner" (wVar 0)) (wCons (wVar 1) wNil))))))
def f_Pen_seal : WF := wfOf 2 w_Pen_seal
def w__law_certified : WS := (wsSeq (wsSet 5 (wCall 2 f__law_next (wCons (wVar 0) (wCons (wC (.int 4)) wNil)))) (wsSeq (wsSet 6 (wTup (wCons (wC (.str "precommit")) (wCons (w2 oIx (wVar 3) (wC (.int 1))) (wCons (wVar 5) (wCons (wMeth "Registry" "name" 1 f_Registry_name (wVar 1) (wCons (wVar 3) wNil)) wNil)))))) (wsSeq (wsSet 7 (w2 oAdd (w2 oMul (wC (.int 2)) (w2 oFdiv (w2 oSub (wCB oLen (wCons (wVar 4) wNil)) (wC (.int 1))) (wC (.int 3)))) (wC (.int 1)))) (wsSeq (wsSet 8 (wSl (wCB oSorted (wCons (wVar 4) wNil)) wNoPart (wPart (w2 oAdd (wVar 7) (wCall 2 f__law_next (wCons (wVar 0) (wCons (w2 oAdd (w2 oSub (wCB oLen (wCons (wVar 4) wNil)) (wVar 7)) (wC (.int 1))) wNil))))))) (wsSeq (wsFor (iVal (wVar 8)) (wgName 9) (wsExpr (wMeth "Pen" "seal" 1 f_Pen_seal (w2 oIx (wVar 2) (wVar 9)) (wCons (wVar 6) wNil)))) (wsRet (wTup (wCons (wC (.str "certificate")) (wCons (wVar 5) (wCons (wCB oTuple (wCons (wVar 8) wNil)) wNil))))))))))
def f__law_certified : WF := wfOf 10 w__law_certified
def w__law_chain : WS := (wsSeq (wsSet 2 wDict0) (wsSeq (wsSet 3 (wLst (wCons (wTup (wCons (wC (.str "header")) (wCons (wC (.int 0)) (wCons (wC (.int 0)) (wCons (wC (.int 0)) (wCons (w2 oAdd (wC (.int 1)) (wCall 2 f__law_next (wCons (wVar 0) (wCons (wC (.int 50)) wNil)))) (wCons (wCall 1 f__law_owners (wCons (wVar 0) wNil)) wNil))))))) wNil))) (wsSeq (wsSet 4 (wLst wNil)) (wsSeq (wsFor (iR1 (wCons (w2 oAdd (wC (.int 1)) (wCall 2 f__law_next (wCons (wVar 0) (wCons (wC (.int 6)) wNil)))) wNil)) (wgName 5) (wsSeq (wsSet 6 (w2 oIx (wVar 3) (wNeg (wC (.int 1))))) (wsSeq (wsSet 7 (wIf (wB (w2 oEq (wCall 2 f__law_next (wCons (wVar 0) (wCons (wC (.int 2)) wNil))) (wC (.int 0)))) (w2 oIx (wVar 6) (wC (.int 5))) (wCall 1 f__law_owners (wCons (wVar 0) wNil)))) (wsSeq (wsSet 8 (wTup (wCons (wC (.str "header")) (wCons (w2 oAdd (w2 oIx (wVar 6) (wC (.int 1))) (wC (.int 1))) (wCons (wMeth "Registry" "name" 1 f_Registry_name (wVar 1) (wCons (wVar 6) wNil)) (wCons (wCall 2 f__law_next (wCons (wVar 0) (wCons (wC (.int 99)) wNil))) (wCons (wCall 2 f__law_next (wCons (wVar 0) (wCons (wC (.int 99)) wNil))) (wCons (wVar 7) wNil)))))))) (wsSeq (wsExpr (wCall 3 f__law_pens (wCons (wVar 1) (wCons (w2 oIx (wVar 6) (wC (.int 5))) (wCons (wVar 2) wNil))))) (wsSeq (wsExpr (wBM isLst oAppend (wVar 4) (wCons (wTup (wCons (wVar 8) (wCons (wCall 5 f__law_certified (wCons (wVar 0) (wCons (wVar 1) (wCons (wVar 2) (wCons (wVar 8) (wCons (w2 oIx (wVar 6) (wC (.int 5))) wNil)))))) wNil))) wNil))) (wsExpr (wBM isLst oAppend (wVar 3) (wCons (wVar 8) wNil))))))))) (wsRet (wTup (wCons (wVar 2) (wCons (wVar 3) (wCons (wVar 4) wNil)))))))))
def f__law_chain : WF := wfOf 9 w__law_chain
def w_is_within : WS := (wsSeq (wsSet 2 (wLst (wCons (wTup (wCons (wVar 0) (wCons (wC (.int 0)) wNil))) wNil))) (wsSeq (wsWhile (wTru (wVar 2)) (wsSeq (wsAsg (wBM isLst oPop (wVar 2) wNil) (wgTup 2 (wgCons (wgName 3) (wgCons (wgName 4) wgNil)))) (wsIf (wTru (wIsi .tuple [] (wVar 3))) (wsSeq (wsIf (wB (w2 oGe (wVar 4) (wVar 1))) (wsRet (wC (.bl false))) wsNext) (wsExpr (wBM isLst oExtend (wVar 2) (wCons (wLc (iVal (wVar 3)) (.nm 5) wYes (wTup (wCons (wVar 5) (wCons (w2 oAdd (wVar 4) (wC (.int 1))) wNil))) [5]) wNil)))) (wsIf (wTru (wIsi .int [] (wVar 3))) (wsIf (wB (w2 oGe (wCB oAbs (wCons (wVar 3) wNil)) (wC (.int 1000000000000000000000000000000000000000000000000000000000000)))) (wsRet (wC (.bl false))) wsNext) (wsIf (wAnd (wB (w2 oNotN (wVar 3) (wC .non))) (wNot (wTru (wIsi .str [] (wVar 3))))) (wsRet (wC (.bl false))) wsNext))))) (wsRet (wC (.bl true)))))
def f_is_within : WF := wfOf 6 w_is_within
def w_is_plain : WS := (wsRet (wCall 2 f_is_within (wCons (wVar 0) (wCons (wC (.int 30)) wNil))))
def f_is_plain : WF := wfOf 1 w_is_plain
def w_is_row_of : WS := (wsRet (wAndV (wIsi .tuple [] (wVar 0)) (wChain oLe oLe (wVar 1) (wCB oLen (wCons (wVar 0) wNil)) (wVar 2))))
def f_is_row_of : WF := wfOf 3 w_is_row_of
def w_is_natural : WS := (wsRet (wAndV (wIsi .int [] (wVar 0)) (wAndV (wNotV (wIsi .bool [] (wVar 0))) (w2 oGe (wVar 0) (wC (.int 0))))))
def f_is_natural : WF := wfOf 1 w_is_natural
def w_is_count : WS := (wsRet (wAndV (wIsi .int [] (wVar 0)) (wAndV (wNotV (wIsi .bool [] (wVar 0))) (wChain oLe oLe (wVar 1) (wVar 0) (wVar 2)))))
def f_is_count : WF := wfOf 3 w_is_count
def w_are_owners : WS := (wsSeq (wsIf (wOr (wNot (wTru (wIsi .tuple [] (wVar 0)))) (wB (w2 oNotIn (wCB oLen (wCons (wVar 0) wNil)) (wTup (wCons (wC (.int 4)) (wCons (wC (.int 7)) (wCons (wC (.int 10)) wNil))))))) (wsRet (wC (.bl false))) wsNext) (wsSeq (wsFor (iVal (wVar 0)) (wgName 1) (wsIf (wOr (wNot (wTru (wCall 3 f_is_count (wCons (wVar 1) (wCons (wC (.int 1)) (wCons (wC (.int 999)) wNil)))))) (wB (w2 oGt (wBM isTup oTCount (wVar 0) (wCons (wVar 1) wNil)) (wC (.int 1))))) (wsRet (wC (.bl false))) wsNext)) (wsRet (wC (.bl true)))))
def f_are_owners : WF := wfOf 2 w_are_owners
def w_is_header : WS := (wsSeq (wsIf (wOr (wNot (wTru (wCall 1 f_is_plain (wCons (wVar 0) wNil)))) (wOr (wNot (wTru (wCall 3 f_is_row_of (wCons (wVar 0) (wCons (wC (.int 6)) (wCons (wC (.int 6)) wNil)))))) (wB (w2 oNe (w2 oIx (wVar 0) (wC (.int 0))) (wC (.str "header")))))) (wsRet (wC (.bl false))) wsNext) (wsRet (wAndV (w2 oEq (wLc (iVal (wSl (wVar 0) (wPart (wC (.int 1))) (wPart (wC (.int 5))))) (.nm 1) (wNot (wTru (wCall 1 f_is_natural (wCons (wVar 1) wNil)))) (wVar 1) [1]) (wLst wNil)) (wCall 1 f_are_owners (wCons (w2 oIx (wVar 0) (wC (.int 5))) wNil)))))
def f_is_header : WF := wfOf 2 w_is_header
def w_is_old : WS := (wsRet (wAndV (wCall 3 f_is_row_of (wCons (wVar 0) (wCons (wC (.int 2)) (wCons (wC (.int 2)) wNil)))) (wAndV (wCall 1 f_is_header (wCons (w2 oIx (wVar 0) (wC (.int 0))) wNil)) (w2 oLe (w2 oIx (w2 oIx (wVar 0) (wC (.int 0))) (wC (.int 1))) (wVar 1)))))
def f_is_old : WF := wfOf 2 w_is_old
def w_quorum : WS := (wsRet (w2 oAdd (w2 oMul (wC (.int 2)) (w2 oFdiv (w2 oSub (wCB oLen (wCons (wVar 0) wNil)) (wC (.int 1))) (wC (.int 3)))) (wC (.int 1))))
def f_quorum : WF := wfOf 1 w_quorum
def w_Registry_is_sealed : WS := (wsRet (w2 oIn (wTup (wCons (wCB oRepr (wCons (wVar 1) wNil)) (wCons (wCB oRepr (wCons (wVar 2) wNil)) wNil))) (wFld ["Registry"] "_seals" (wVar 0))))
def f_Registry_is_sealed : WF := wfOf 3 w_Registry_is_sealed
def w_is_certificate : WS := (wsSeq (wsIf (wOr (wNot (wTru (wCall 1 f_is_plain (wCons (wVar 1) wNil)))) (wOr (wNot (wTru (wCall 3 f_is_row_of (wCons (wVar 1) (wCons (wC (.int 3)) (wCons (wC (.int 3)) wNil)))))) (wB (w2 oNe (w2 oIx (wVar 1) (wC (.int 0))) (wC (.str "certificate")))))) (wsRet (wC (.bl false))) wsNext) (wsSeq (wsAsg (wVar 1) (wgTup 3 (wgCons (wgName 4) (wgCons (wgName 5) (wgCons (wgName 6) wgNil))))) (wsSeq (wsIf (wOr (wNot (wTru (wCall 1 f_is_natural (wCons (wVar 5) wNil)))) (wOr (wNot (wTru (wIsi .tuple [] (wVar 6)))) (wB (w2 oLt (wCB oLen (wCons (wVar 6) wNil)) (wCall 1 f_quorum (wCons (wVar 3) wNil)))))) (wsRet (wC (.bl false))) wsNext) (wsSeq (wsSet 7 (wTup (wCons (wC (.str "precommit")) (wCons (w2 oIx (wVar 2) (wC (.int 1))) (wCons (wVar 5) (wCons (wMeth "Registry" "name" 1 f_Registry_name (wVar 0) (wCons (wVar 2) wNil)) wNil)))))) (wsSeq (wsSet 8 (wC (.int 0))) (wsSeq (wsFor (iVal (wVar 6)) (wgName 9) (wsSeq (wsIf (wOr (wNot (wTru (wCall 3 f_is_count (wCons (wVar 9) (wCons (w2 oAdd (wVar 8) (wC (.int 1))) (wCons (wC (.int 999)) wNil)))))) (wB (w2 oNotIn (wVar 9) (wVar 3)))) (wsRet (wC (.bl false))) wsNext) (wsSeq (wsIf (wNot (wTru (wMeth "Registry" "is_sealed" 2 f_Registry_is_sealed (wVar 0) (wCons (wVar 9) (wCons (wVar 7) wNil))))) (wsRet (wC (.bl false))) wsNext) (wsSet 8 (wVar 9))))) (wsRet (wC (.bl true)))))))))
def f_is_certificate : WF := wfOf 10 w_is_certificate
def w_judged_heads : WS := (wsSeq (wsIf (wOr (wNot (wTru (wCall 1 f_is_plain (wCons (wVar 2) wNil)))) (wNot (wTru (wIsi .tuple [] (wVar 2))))) (wsRet (wLst wNil)) wsNext) (wsSeq (wsSet 3 (wC (.int 0))) (wsSeq (wsWhile (wAnd (wB (w2 oLt (wVar 3) (wCB oLen (wCons (wVar 2) wNil)))) (wTru (wCall 2 f_is_old (wCons (w2 oIx (wVar 2) (wVar 3)) (wCons (w2 oIx (wVar 1) (wC (.int 1))) wNil))))) (wsAug oIadd 3 (wC (.int 1)))) (wsSeq (wsSet 4 (wLst wNil)) (wsSeq (wsSet 5 (wVar 1)) (wsSeq (wsFor (iVal (wSl (wVar 2) (wPart (wVar 3)) wNoPart)) (wgName 6) (wsSeq (wsIf (wOr (wNot (wTru (wCall 3 f_is_row_of (wCons (wVar 6) (wCons (wC (.int 2)) (wCons (wC (.int 2)) wNil)))))) (wNot (wTru (wCall 1 f_is_header (wCons (w2 oIx (wVar 6) (wC (.int 0))) wNil))))) wsBreak wsNext) (wsSeq (wsIf (wOr (wB (w2 oNe (w2 oIx (w2 oIx (wVar 6) (wC (.int 0))) (wC (.int 1))) (w2 oAdd (w2 oIx (wVar 5) (wC (.int 1))) (wC (.int 1))))) (wB (w2 oNe (w2 oIx (w2 oIx (wVar 6) (wC (.int 0))) (wC (.int 2))) (wMeth "Registry" "name" 1 f_Registry_name (wVar 0) (wCons (wVar 5) wNil))))) wsBreak wsNext) (wsSeq (wsIf (wNot (wTru (wCall 4 f_is_certificate (wCons (wVar 0) (wCons (w2 oIx (wVar 6) (wC (.int 1))) (wCons (w2 oIx (wVar 6) (wC (.int 0))) (wCons (w2 oIx (wVar 5) (wC (.int 5))) wNil))))))) wsBreak wsNext) (wsSeq (wsExpr (wBM isLst oAppend (wVar 4) (wCons (wVar 6) wNil))) (wsSet 5 (w2 oIx (wVar 6) (wC (.int 0))))))))) (wsRet (wVar 4))))))))
def f_judged_heads : WF := wfOf 7 w_judged_heads
def w__law_asked : WS := (wsSeq (wsFor (iR1 (wCons (wCB oLen (wCons (wVar 1) wNil)) wNil)) (wgName 5) (wsSeq (wsSet 6 (wCall 3 f_judged_heads (wCons (wVar 0) (wCons (w2 oIx (wVar 1) (wVar 5)) (wCons (wVar 3) wNil))))) (wsIf (wOr (wNot (wTru (wIsi .list [] (wVar 6)))) (wB (w2 oNe (wCB oRepr (wCons (wVar 6) wNil)) (wCB oRepr (wCons (wSl (wVar 2) (wPart (wVar 5)) (wPart (wCB oMax (wCons (wVar 5) (wCons (wVar 4) wNil))))) wNil))))) (wsRet (wC (.bl false))) wsNext))) (wsRet (wC (.bl true))))
def f__law_asked : WF := wfOf 7 w__law_asked
def w__law_elder_again : WS := (wsSeq (wsSet 4 (w2 oAdd (wC (.int 1)) (wCall 2 f__law_next (wCons (wVar 0) (wCons (wCB oLen (wCons (wVar 3) wNil)) wNil))))) (wsSeq (wsSet 5 (wCall 2 f__law_next (wCons (wVar 0) (wCons (wVar 4) wNil)))) (wsSeq (wsSet 6 (wCB oTuple (wCons (w2 oAdd (w2 oAdd (wSl (wVar 3) wNoPart (wPart (wVar 4))) (wSl (wVar 3) (wPart (wVar 5)) (wPart (w2 oAdd (wVar 5) (wC (.int 1)))))) (wSl (wVar 3) (wPart (wVar 4)) wNoPart)) wNil))) (wsSeq (wsFor (iR1 (wCons (w2 oAdd (wVar 4) (wC (.int 1))) wNil)) (wgName 7) (wsSeq (wsSet 8 (wIf (wB (w2 oLt (wVar 7) (wVar 4))) (wSl (wVar 3) (wPart (wVar 7)) (wPart (wVar 4))) (wSl (wVar 3) (wPart (wVar 4)) wNoPart))) (wsIf (wB (w2 oNe (wCB oRepr (wCons (wCall 3 f_judged_heads (wCons (wVar 1) (wCons (w2 oIx (wVar 2) (wVar 7)) (wCons (wVar 6) wNil)))) wNil)) (wCB oRepr (wCons (wVar 8) wNil)))) (wsRet (wC (.bl false))) wsNext))) (wsRet (wC (.bl true)))))))
def f__law_elder_again : WF := wfOf 9 w__law_elder_again
def w__law_spoilt : WS := (wsSeq (wsAsg (w2 oIx (wVar 4) (wVar 5)) (wgTup 2 (wgCons (wgName 6) (wgCons (wgName 7) wgNil)))) (wsSeq (wsSet 8 (w2 oIx (wVar 3) (wVar 5))) (wsSeq (wsSet 9 (wCall 2 f__law_next (wCons (wVar 0) (wCons (wC (.int 9)) wNil)))) (wsSeq (wsIf (wB (w2 oEq (wVar 9) (wC (.int 0)))) (wsRet (w2 oIx (wLst (wCons (wC .non) (wCons (wTup wNil) (wCons (wC (.int 5)) (wCons (wTup (wCons (wVar 6) wNil)) (wCons (wTup (wCons (wVar 6) (wCons (wVar 7) (wCons (wC (.int 0)) wNil)))) (wCons (wTup (wCons (wVar 7) (wCons (wVar 6) wNil))) (wCons (wC (.str "head")) wNil)))))))) (wCall 2 f__law_next (wCons (wVar 0) (wCons (wC (.int 7)) wNil))))) wsNext) (wsSeq (wsIf (wB (w2 oEq (wVar 9) (wC (.int 1)))) (wsRet (wTup (wCons (wVar 6) (wCons (wTup (wCons (wC (.str "certificate")) (wCons (w2 oIx (wVar 7) (wC (.int 1))) (wCons (wSl (wSl (w2 oIx (wVar 7) (wC (.int 2))) (wPart (wC (.int 1))) wNoPart) wNoPart (wPart (w2 oMul (wC (.int 2)) (w2 oFdiv (w2 oSub (wCB oLen (wCons (w2 oIx (wVar 8) (wC (.int 5))) wNil)) (wC (.int 1))) (wC (.int 3)))))) wNil)))) wNil)))) wsNext) (wsSeq (wsIf (wB (w2 oEq (wVar 9) (wC (.int 2)))) (wsRet (wTup (wCons (wVar 6) (wCons (wTup (wCons (wC (.str "certificate")) (wCons (w2 oAdd (w2 oIx (wVar 7) (wC (.int 1))) (wC (.int 9))) (wCons (w2 oIx (wVar 7) (wC (.int 2))) wNil)))) wNil)))) wsNext) (wsSeq (wsIf (wB (w2 oEq (wVar 9) (wC (.int 3)))) (wsRet (wTup (wCons (w2 oAdd (wSl (wVar 6) wNoPart (wPart (wC (.int 5)))) (wTup (wCons (wSl (w2 oIx (wVar 6) (wC (.int 5))) (wPart (wC (.int 1))) wNoPart) wNil))) (wCons (wVar 7) wNil)))) wsNext) (wsSeq (wsIf (wB (w2 oEq (wVar 9) (wC (.int 4)))) (wsRet (wTup (wCons (wVar 6) (wCons (wC .non) wNil)))) wsNext) (wsSeq (wsSet 10 (wLst (wCons (w2 oAdd (wTup (wCons (wC (.str "header")) (wCons (w2 oAdd (w2 oIx (wVar 6) (wC (.int 1))) (wC (.int 1))) wNil))) (wSl (wVar 6) (wPart (wC (.int 2))) wNoPart)) (wCons (w2 oAdd (w2 oAdd (wSl (wVar 6) wNoPart (wPart (wC (.int 2)))) (wTup (wCons (w2 oAdd (w2 oIx (wVar 6) (wC (.int 2))) (wC (.int 500))) wNil))) (wSl (wVar 6) (wPart (wC (.int 3))) wNoPart)) wNil)))) (wsSeq (wsSet 10 (w2 oAdd (wVar 10) (wLst (wCons (w2 oAdd (w2 oAdd (wSl (wVar 6) wNoPart (wPart (wC (.int 4)))) (wTup (wCons (w2 oAdd (w2 oIx (wVar 6) (wC (.int 4))) (wC (.int 100))) wNil))) (wSl (wVar 6) (wPart (wC (.int 5))) wNoPart)) (wCons (w2 oAdd (w2 oAdd (wSl (wVar 6) wNoPart (wPart (wC (.int 2)))) (wTup (wCons (wC (.int 0)) wNil))) (wSl (wVar 6) (wPart (wC (.int 3))) wNoPart)) wNil))))) (wsSeq (wsSet 11 (w2 oIx (wVar 10) (w2 oSub (wVar 9) (wC (.int 5))))) (wsSeq (wsSet 12 (w2 oIx (wVar 8) (wC (.int 5)))) (wsSeq (wsIf (wB (w2 oEq (wVar 9) (wC (.int 7)))) (wsSeq (wsSet 13 (wLstRg (wC (.int 983)) (wC (.int 1000)))) (wsSeq (wsExpr (wCall 3 f__law_pens (wCons (wVar 1) (wCons (wVar 13) (wCons (wVar 2) wNil))))) (wsSet 12 (wCB oTuple (wCons (wSl (wVar 13) wNoPart (wPart (wCB oLen (wCons (wVar 12) wNil)))) wNil))))) wsNext) (wsRet (wTup (wCons (wVar 11) (wCons (wCall 5 f__law_certified (wCons (wVar 0) (wCons (wVar 1) (wCons (wVar 2) (wCons (wVar 11) (wCons (wVar 12) wNil)))))) wNil)))))))))))))))))
def f__law_spoilt : WF := wfOf 14 w__law_spoilt
def w_law : WS := (wsSeq (wsSet 1 (wLst (wCons (wCB oList (wCons (wVar 0) wNil)) (wCons (wC (.int 0)) (wCons (wC (.int 0)) (wCons (wC (.int 1)) wNil)))))) (wsSeq (wsSet 2 (wMake "Registry" 0 f_Registry___init__ wNil)) (wsSeq (wsAsg (wCall 2 f__law_chain (wCons (wVar 1) (wCons (wVar 2) wNil))) (wgTup 3 (wgCons (wgName 3) (wgCons (wgName 4) (wgCons (wgName 5) wgNil))))) (wsSeq (wsIf (wNot (wTru (wCall 5 f__law_asked (wCons (wVar 2) (wCons (wVar 4) (wCons (wVar 5) (wCons (wCB oTuple (wCons (wVar 5) wNil)) (wCons (wCB oLen (wCons (wVar 5) wNil)) wNil)))))))) (wsRet (wC (.bl false))) wsNext) (wsSeq (wsFor (iVal (wLst (wCons (wC .non) (wCons (wC (.int 5)) (wCons (wC (.str "heads")) (wCons (wCB oList (wCons (wVar 5) wNil)) (wCons wDict0 (wCons (wLst (wCons (wC (.str "ab")) wNil)) (wCons (wTup wNil) (wCons (wTup (wCons (wC .non) wNil)) (wCons (wTup (wCons (wTup wNil) wNil)) wNil))))))))))) (wgName 6) (wsIf (wB (w2 oNe (wCall 3 f_judged_heads (wCons (wVar 2) (wCons (w2 oIx (wVar 4) (wC (.int 0))) (wCons (wVar 6) wNil)))) (wLst wNil))) (wsRet (wC (.bl false))) wsNext)) (wsSeq (wsIf (wB (w2 oNe (wCall 3 f_judged_heads (wCons (wVar 2) (wCons (w2 oIx (wVar 4) (wC (.int 0))) (wCons (w2 oAdd (wCB oTuple (wCons (wVar 5) wNil)) (wTup (wCons (wLst (wCons (wC (.int 1)) wNil)) wNil))) wNil)))) (wLst wNil))) (wsRet (wC (.bl false))) wsNext) (wsSeq (wsFor (iR1 (wCons (wC (.int 4)) wNil)) (wgName 7) (wsSeq (wsIf (wNot (wTru (wCall 4 f__law_elder_again (wCons (wVar 1) (wCons (wVar 2) (wCons (wVar 4) (wCons (wVar 5) wNil))))))) (wsRet (wC (.bl false))) wsNext) (wsSeq (wsSet 8 (wCall 2 f__law_next (wCons (wVar 1) (wCons (wCB oLen (wCons (wVar 5) wNil)) wNil)))) (wsSeq (wsSet 9 (wCall 6 f__law_spoilt (wCons (wVar 1) (wCons (wVar 2) (wCons (wVar 3) (wCons (wVar 4) (wCons (wVar 5) (wCons (wVar 8) wNil)))))))) (wsSeq (wsSet 10 (w2 oAdd (w2 oAdd (wCB oTuple (wCons (wSl (wVar 5) wNoPart (wPart (wVar 8))) wNil)) (wTup (wCons (wVar 9) wNil))) (wCB oTuple (wCons (wSl (wVar 5) (wPart (w2 oAdd (wVar 8) (wC (.int 1)))) wNoPart) wNil)))) (wsSeq (wsSet 11 (wAndV (wIsi .tuple [] (wVar 9)) (wAndV (w2 oEq (wCB oLen (wCons (wVar 9) wNil)) (wC (.int 2))) (wCall 1 f_is_header (wCons (w2 oIx (wVar 9) (wC (.int 0))) wNil))))) (wsSeq (wsFor (iR1 (wCons (wCB oLen (wCons (wVar 4) wNil)) wNil)) (wgName 12) (wsSeq (wsSet 13 (wSl (wVar 5) (wPart (wVar 12)) (wPart (wVar 8)))) (wsSeq (wsIf (wAnd (wB (w2 oGt (wVar 12) (wVar 8))) (wAnd (wTru (wVar 11)) (wB (w2 oLe (w2 oIx (w2 oIx (wVar 9) (wC (.int 0))) (wC (.int 1))) (wVar 12))))) (wsSet 13 (wSl (wVar 5) (wPart (wVar 12)) wNoPart)) wsNext) (wsIf (wB (w2 oNe (wCB oRepr (wCons (wCall 3 f_judged_heads (wCons (wVar 2) (wCons (w2 oIx (wVar 4) (wVar 12)) (wCons (wVar 10) wNil)))) wNil)) (wCB oRepr (wCons (wVar 13) wNil)))) (wsRet (wC (.bl false))) wsNext)))) (wsSeq (wsSet 12 (wCall 2 f__law_next (wCons (wVar 1) (wCons (wCB oLen (wCons (wVar 4) wNil)) wNil)))) (wsSeq (wsSet 14 (w2 oAdd (wLst (wCons (wC .non) (wCons (wTup wNil) (wCons (wC (.int 7)) (wCons (wC (.str "head")) (wCons (w2 oAdd (w2 oIx (wVar 5) (wNeg (wC (.int 1)))) (wTup (wCons (wC (.int 0)) wNil))) (wCons (wTup (wCons (wC .non) (wCons (w2 oIx (w2 oIx (wVar 5) (wNeg (wC (.int 1)))) (wC (.int 0))) wNil))) wNil))))))) (wSl (wVar 5) (wPart (w2 oAdd (wVar 12) (wC (.int 1)))) wNoPart))) (wsSeq (wsSet 15 (w2 oIx (wVar 14) (wCall 2 f__law_next (wCons (wVar 1) (wCons (wCB oLen (wCons (wVar 14) wNil)) wNil))))) (wsIf (wB (w2 oNe (wCall 3 f_judged_heads (wCons (wVar 2) (wCons (w2 oIx (wVar 4) (wVar 12)) (wCons (w2 oAdd (wTup (wCons (wVar 15) wNil)) (wCB oTuple (wCons (wSl (wVar 5) (wPart (wVar 12)) wNoPart) wNil))) wNil)))) (wLst wNil))) (wsRet (wC (.bl false))) wsNext))))))))))) (wsSeq (wsSet 12 (wCall 2 f__law_next (wCons (wVar 1) (wCons (wCB oLen (wCons (wVar 4) wNil)) wNil)))) (wsSeq (wsSet 16 (wLc (iVal (wSl (wVar 5) wNoPart (wPart (wVar 12)))) (.nm 17) wYes (wTup (wCons (w2 oIx (wVar 17) (wC (.int 0))) (wCons (wC .non) wNil))) [17])) (wsRet (w2 oEq (wCB oRepr (wCons (wCall 3 f_judged_heads (wCons (wVar 2) (wCons (w2 oIx (wVar 4) (wVar 12)) (wCons (wCB oTuple (wCons (w2 oAdd (wVar 16) (wSl (wVar 5) (wPart (wVar 12)) wNoPart)) wNil)) wNil)))) wNil)) (wCB oRepr (wCons (wSl (wVar 5) (wPart (wVar 12)) wNoPart) wNil)))))))))))))
def f_law : WF := wfOf 18 w_law
/-! ### the facts -/
def d_Registry___init__ : He.DefD := ⟨("Registry", some "__init__"), "__init__", "Registry.__init__", defArgs s_Registry___init__, defBody s_Registry___init__, defScope s_Registry___init__, [], []⟩
def d__law_next : He.DefD := ⟨("_law_next", none), "_law_next", "_law_next", defArgs s__law_next, defBody s__law_next, defScope s__law_next, [], []⟩
def d__law_owners : He.DefD := ⟨("_law_owners", none), "_law_owners", "_law_owners", defArgs s__law_owners, defBody s__law_owners, defScope s__law_owners, [], []⟩
def d_Registry_name : He.DefD := ⟨("Registry", some "name"), "name", "Registry.name", defArgs s_Registry_name, defBody s_Registry_name, defScope s_Registry_name, [], []⟩
def d_Pen___init__ : He.DefD := ⟨("Pen", some "__init__"), "__init__", "Pen.__init__", defArgs s_Pen___init__, defBody s_Pen___init__, defScope s_Pen___init__, [], []⟩
def d_Registry_pen : He.DefD := ⟨("Registry", some "pen"), "pen", "Registry.pen", defArgs s_Registry_pen, defBody s_Registry_pen, defScope s_Registry_pen, [], []⟩
def d__law_pens : He.DefD := ⟨("_law_pens", none), "_law_pens", "_law_pens", defArgs s__law_pens, defBody s__law_pens, defScope s__law_pens, [], []⟩
def d_Registry_note_seal : He.DefD := ⟨("Registry", some "note_seal"), "note_seal", "Registry.note_seal", defArgs s_Registry_note_seal, defBody s_Registry_note_seal, defScope s_Registry_note_seal, [], []⟩
def d_Pen_seal : He.DefD := ⟨("Pen", some "seal"), "seal", "Pen.seal", defArgs s_Pen_seal, defBody s_Pen_seal, defScope s_Pen_seal, [], []⟩
def d__law_certified : He.DefD := ⟨("_law_certified", none), "_law_certified", "_law_certified", defArgs s__law_certified, defBody s__law_certified, defScope s__law_certified, [], []⟩
def d__law_chain : He.DefD := ⟨("_law_chain", none), "_law_chain", "_law_chain", defArgs s__law_chain, defBody s__law_chain, defScope s__law_chain, [], []⟩
def d_is_within : He.DefD := ⟨("is_within", none), "is_within", "is_within", defArgs s_is_within, defBody s_is_within, defScope s_is_within, [], []⟩
def d_is_plain : He.DefD := ⟨("is_plain", none), "is_plain", "is_plain", defArgs s_is_plain, defBody s_is_plain, defScope s_is_plain, [], []⟩
def d_is_row_of : He.DefD := ⟨("is_row_of", none), "is_row_of", "is_row_of", defArgs s_is_row_of, defBody s_is_row_of, defScope s_is_row_of, [], []⟩
def d_is_natural : He.DefD := ⟨("is_natural", none), "is_natural", "is_natural", defArgs s_is_natural, defBody s_is_natural, defScope s_is_natural, [], []⟩
def d_is_count : He.DefD := ⟨("is_count", none), "is_count", "is_count", defArgs s_is_count, defBody s_is_count, defScope s_is_count, [], []⟩
def d_are_owners : He.DefD := ⟨("are_owners", none), "are_owners", "are_owners", defArgs s_are_owners, defBody s_are_owners, defScope s_are_owners, [], []⟩
def d_is_header : He.DefD := ⟨("is_header", none), "is_header", "is_header", defArgs s_is_header, defBody s_is_header, defScope s_is_header, [], []⟩
def d_is_old : He.DefD := ⟨("is_old", none), "is_old", "is_old", defArgs s_is_old, defBody s_is_old, defScope s_is_old, [], []⟩
def d_quorum : He.DefD := ⟨("quorum", none), "quorum", "quorum", defArgs s_quorum, defBody s_quorum, defScope s_quorum, [], []⟩
def d_Registry_is_sealed : He.DefD := ⟨("Registry", some "is_sealed"), "is_sealed", "Registry.is_sealed", defArgs s_Registry_is_sealed, defBody s_Registry_is_sealed, defScope s_Registry_is_sealed, [], []⟩
def d_is_certificate : He.DefD := ⟨("is_certificate", none), "is_certificate", "is_certificate", defArgs s_is_certificate, defBody s_is_certificate, defScope s_is_certificate, [], []⟩
def d_judged_heads : He.DefD := ⟨("judged_heads", none), "judged_heads", "judged_heads", defArgs s_judged_heads, defBody s_judged_heads, defScope s_judged_heads, [], []⟩
def d__law_asked : He.DefD := ⟨("_law_asked", none), "_law_asked", "_law_asked", defArgs s__law_asked, defBody s__law_asked, defScope s__law_asked, [], []⟩
def d__law_elder_again : He.DefD := ⟨("_law_elder_again", none), "_law_elder_again", "_law_elder_again", defArgs s__law_elder_again, defBody s__law_elder_again, defScope s__law_elder_again, [], []⟩
def d__law_spoilt : He.DefD := ⟨("_law_spoilt", none), "_law_spoilt", "_law_spoilt", defArgs s__law_spoilt, defBody s__law_spoilt, defScope s__law_spoilt, [], []⟩
def d_law : He.DefD := ⟨("law", none), "law", "law", defArgs s_law, defBody s_law, defScope s_law, [], []⟩
def fn : List He.DefD := [d_Registry___init__, d__law_next, d__law_owners, d_Registry_name, d_Pen___init__, d_Registry_pen, d__law_pens, d_Registry_note_seal, d_Pen_seal, d__law_certified, d__law_chain, d_is_within, d_is_plain, d_is_row_of, d_is_natural, d_is_count, d_are_owners, d_is_header, d_is_old, d_quorum, d_Registry_is_sealed, d_is_certificate, d_judged_heads, d__law_asked, d__law_elder_again, d__law_spoilt, d_law]
def fa : List He.Fa := [.free "list", .glo "Registry", .mkr "Registry", .glo "_law_chain", .free "tuple", .free "len", .glo "_law_asked", .glo "judged_heads", .free "range", .glo "_law_elder_again", .glo "_law_next", .glo "_law_spoilt", .free "isinstance", .glo "is_header", .free "repr", .cls "Registry", .noat "Registry" "_names", .noat "Registry" "_pens", .noat "Registry" "_seals", .glo "_law_owners", .meth "Registry" "name", .glo "_law_pens", .glo "_law_certified", .free "int", .meth "Registry" "pen", .exc "InvalidArgument", .glo "InvalidArgument", .glo "Pen", .mkr "Pen", .cls "Pen", .noat "Pen" "owner", .noat "Pen" "_registry", .free "sorted", .meth "Pen" "seal", .meth "Registry" "note_seal", .free "max", .glo "is_plain", .glo "is_old", .glo "is_row_of", .glo "is_certificate", .int "MOST_DEEP" 30, .glo "is_within", .free "abs", .int "MOST_INTEGER" 1000000000000000000000000000000000000000000000000000000000000, .free "str", .glo "is_natural", .glo "are_owners", .free "bool", .int "MOST_OWNER" 999, .glo "is_count", .glo "quorum", .meth "Registry" "is_sealed", .glo "law"]
def fb : List Fb := []
/-! ### the derivations -/
section
variable {P : Program} {w : World} {K : PySem.W.Frag} {mg : Str → Option Value} {base : Heap}
theorem sc_Registry___init__ : FnScope ["self"] ["self"] (defScope s_Registry___init__) := ⟨rfl, rfl, rfl, by decide +kernel, rfl, by decide +kernel, by decide +kernel⟩
theorem z_Registry___init__ (T : Txt fa fb fn K mg) {f : Addr} {CX : CXT} : InDef CX P w K mg base ["self"] "Registry.__init__" (defScope s_Registry___init__) f 0 fun X => ZSs X (defBody s_Registry___init__) w_Registry___init__ := fun cdv A outer s H E hr =>
  (zss_cons (zs_fld (fok_cons (T.glo 1) (T.cls 15) (T.noat 16) fok_nil) (zv 0) ze_dict0) (zss_cons (zs_fld (fok_cons (T.glo 1) (T.cls 15) (T.noat 17) fok_nil) (zv 0) ze_dict0) (zss_one (zs_fld (fok_cons (T.glo 1) (T.cls 15) (T.noat 18) fok_nil) (zv 0) ze_dict0))))
theorem F_Registry___init__ (T : Txt fa fb fn K mg) : FnZ P w K mg base 1 1 f_Registry___init__ (He.fAd K d_Registry___init__.at_) := by
  obtain ⟨fd, F⟩ := T.def_ 0 (d := d_Registry___init__) rfl
  exact fnz_of (x := "__init__") (N := ["self"]) (ps := ["self"]) F sc_Registry___init__ (FunD.bindsN F fun _ _ _ _ _ _ us hl => match us, hl with | [_], _ => rfl) rfl (z_Registry___init__ T)
theorem sc__law_next : FnScope ["state", "limit", "cell", "value"] ["state", "limit"] (defScope s__law_next) := ⟨rfl, rfl, rfl, by decide +kernel, rfl, by decide +kernel, by decide +kernel⟩
theorem z__law_next (T : Txt fa fb fn K mg) {f : Addr} {CX : CXT} : InDef CX P w K mg base ["state", "limit", "cell", "value"] "_law_next" (defScope s__law_next) f 0 fun X => ZSs X (defBody s__law_next) w__law_next := fun cdv A outer s H E hr =>
  (zss_cons (zs_if (zt_of (zw_and (zt_cmp (op_eqZ (hu64 hr)) (ze_ix (ix_z (hu1 hr)) (zv 0) ze_int) ze_int (by rfl)) (zw_and1 (zt_cmp (op_ltZ (hu64 hr)) (ze_ix (ix_z (hu1 hr)) (zv 0) ze_int) (ze_callB call_lenZ rfl (by rfl) (T.free 5) (za_cons (ze_ix (ix_z (hu1 hr)) (zv 0) ze_int) za_nil)) (by rfl))))) (zss_cons (zs_set (i := 2) sc__law_next.nd rfl (by first | exact .inl rfl | exact .inr rfl) (ze_ix (ix_z (hu1 hr)) (ze_ix (ix_z (hu1 hr)) (zv 0) ze_int) (ze_ix (ix_z (hu1 hr)) (zv 0) ze_int))) (zss_cons (zs_augS (hu1 hr) aug_add (zv 0) ze_int ze_int) (zss_one (zs_if (zt_cmp op_geZ (zv 2) (ze_op op_powZ ze_int ze_int) (by rfl)) (zss_one (zs_asg (zv 2) (zg_sub (hu1 hr) (zv 0) ze_int))) (zss_one (zs_asg (ze_op op_modZ (ze_callTy call_intZ rfl (by rfl) (T.free 23) (za_cons (ze_op op_addZ (ze_op op_addZ (ze_op op_mulZ (ze_ix (ix_z (hu1 hr)) (zv 0) ze_int) ze_int) (ze_op op_modZ (ze_callTy call_intZ rfl (by rfl) (T.free 23) (za_cons (zv 2) za_nil)) ze_int)) ze_int) za_nil)) ze_int) (zg_sub (hu1 hr) (zv 0) ze_int))))))) zss_nil) (zss_cons (zs_if (zt_cmp op_gtZ (ze_ix (ix_z (hu1 hr)) (zv 0) ze_int) ze_int (by rfl)) (zss_cons (zs_set (i := 3) sc__law_next.nd rfl (by first | exact .inl rfl | exact .inr rfl) (ze_op op_modZ (ze_callTy call_intZ rfl (by rfl) (T.free 23) (za_cons (ze_ix (ix_z (hu1 hr)) (zv 0) ze_int) za_nil)) (zv 1))) (zss_cons (zs_asg (ze_op op_fdivZ (ze_ix (ix_z (hu1 hr)) (zv 0) ze_int) (zv 1)) (zg_sub (hu1 hr) (zv 0) ze_int)) (zss_one (zs_ret (zv 3))))) zss_nil) (zss_cons (zs_asg (ze_op op_modZ (ze_callTy call_intZ rfl (by rfl) (T.free 23) (za_cons (ze_op op_addZ (ze_op op_mulZ (ze_ix (ix_z (hu1 hr)) (zv 0) ze_int) ze_int) ze_int) za_nil)) ze_int) (zg_sub (hu1 hr) (zv 0) ze_int)) (zss_one (zs_ret (ze_op op_modZ (ze_callTy call_intZ rfl (by rfl) (T.free 23) (za_cons (ze_op op_fdivZ (ze_ix (ix_z (hu1 hr)) (zv 0) ze_int) ze_int) za_nil)) (zv 1)))))))
theorem F__law_next (T : Txt fa fb fn K mg) : FnZ P w K mg base 1 2 f__law_next (He.fAd K d__law_next.at_) := by
  obtain ⟨fd, F⟩ := T.def_ 1 (d := d__law_next) rfl
  exact fnz_of (x := "_law_next") (N := ["state", "limit", "cell", "value"]) (ps := ["state", "limit"]) F sc__law_next (FunD.bindsN F fun _ _ _ _ _ _ us hl => match us, hl with | [_, _], _ => rfl) rfl (z__law_next T)
theorem sc__law_owners : FnScope ["state", "count", "start", "step", "owners", "place", "turn"] ["state"] (defScope s__law_owners) := ⟨rfl, rfl, rfl, by decide +kernel, rfl, by decide +kernel, by decide +kernel⟩
theorem z__law_owners (T : Txt fa fb fn K mg) {f : Addr} {CX : CXT} : InDef CX P w K mg base ["state", "count", "start", "step", "owners", "place", "turn"] "_law_owners" (defScope s__law_owners) f 1 fun X => ZSs X (defBody s__law_owners) w__law_owners := fun cdv A outer s H E hr =>
  (zss_cons (zs_set (i := 1) sc__law_owners.nd rfl (by first | exact .inl rfl | exact .inr rfl) (ze_ix (ix_z (hu1 hr)) (ze_lst (za_cons ze_int (za_cons ze_int (za_cons ze_int (za_cons ze_int za_nil))))) (ze_call (F__law_next T) (hr.mono (by decide)) rfl (T.glo 10) (za_cons (zv 0) (za_cons ze_int za_nil))))) (zss_cons (zs_set (i := 2) sc__law_owners.nd rfl (by first | exact .inl rfl | exact .inr rfl) (ze_op op_addZ ze_int (ze_call (F__law_next T) (hr.mono (by decide)) rfl (T.glo 10) (za_cons (zv 0) (za_cons ze_int za_nil))))) (zss_cons (zs_set (i := 3) sc__law_owners.nd rfl (by first | exact .inl rfl | exact .inr rfl) (ze_op op_addZ ze_int (ze_call (F__law_next T) (hr.mono (by decide)) rfl (T.glo 10) (za_cons (zv 0) (za_cons ze_int za_nil))))) (zss_cons (zs_setLc (i := 4) (own := [(("place" : Str), 5)]) rfl sc__law_owners.nd rfl rfl (sw_true rfl rfl rfl rfl) (zi_range1 (by rfl) (T.free 8) (za_cons (zv 1) za_nil)) (blkOk_by (own := [(("place" : Str), 5)]) (by with_unfolding_all rfl)) (fun _ _ _ _ _ => (zp_name (i := 5) sc__law_owners.nd rfl (by first | exact .inl rfl | exact .inr rfl))) (fun _ _ _ _ _ => zts_nil) (fun _ _ _ _ _ => (ze_op op_addZ (zv 2) (ze_op op_mulZ (zv 3) (zv 5))))) (zss_cons (zs_for (passes_of rfl) rfl (zi_range1 (by rfl) (T.free 8) (za_cons ze_int za_nil)) (zg_name (i := 6) sc__law_owners.nd rfl (by first | exact .inl rfl | exact .inr rfl)) (zss_cons (zs_set (i := 5) sc__law_owners.nd rfl (by first | exact .inl rfl | exact .inr rfl) (ze_call (F__law_next T) (hr.mono (by decide)) rfl (T.glo 10) (za_cons (zv 0) (za_cons (zv 1) za_nil)))) (zss_one (zs_set (i := 4) sc__law_owners.nd rfl (by first | exact .inl rfl | exact .inr rfl) (ze_op op_addZ (sl_z (zv 4) (zo_some (zv 5)) zo_none) (ze_rev (sl_z (zv 4) zo_none (zo_some (zv 5))))))))) (zss_one (zs_ret (ze_callTy call_tupleZ rfl (by rfl) (T.free 4) (za_cons (zv 4) za_nil)))))))))
theorem F__law_owners (T : Txt fa fb fn K mg) : FnZ P w K mg base 2 1 f__law_owners (He.fAd K d__law_owners.at_) := by
  obtain ⟨fd, F⟩ := T.def_ 2 (d := d__law_owners) rfl
  exact fnz_of (x := "_law_owners") (N := ["state", "count", "start", "step", "owners", "place", "turn"]) (ps := ["state"]) F sc__law_owners (FunD.bindsN F fun _ _ _ _ _ _ us hl => match us, hl with | [_], _ => rfl) rfl (z__law_owners T)
theorem sc_Registry_name : FnScope ["self", "value", "text"] ["self", "value"] (defScope s_Registry_name) := ⟨rfl, rfl, rfl, by decide +kernel, rfl, by decide +kernel, by decide +kernel⟩
theorem z_Registry_name (T : Txt fa fb fn K mg) {f : Addr} {CX : CXT} : InDef CX P w K mg base ["self", "value", "text"] "Registry.name" (defScope s_Registry_name) f 0 fun X => ZSs X (defBody s_Registry_name) w_Registry_name := fun cdv A outer s H E hr =>
  (zss_cons (zs_set (i := 2) sc_Registry_name.nd rfl (by first | exact .inl rfl | exact .inr rfl) (ze_callB (call_reprZ hr.g (hu66 hr)) rfl (by rfl) (T.free 14) (za_cons (zv 1) za_nil))) (zss_cons (zs_if (zt_cmp (op_notInZ (hu65 hr)) (zv 2) (ze_fld (fok_cons (T.glo 1) (T.cls 15) (T.noat 16) fok_nil) (zv 0)) (by rfl)) (zss_one (zs_asg (ze_op op_addZ (ze_callB call_lenZ rfl (by rfl) (T.free 5) (za_cons (ze_fld (fok_cons (T.glo 1) (T.cls 15) (T.noat 16) fok_nil) (zv 0)) za_nil)) ze_int) (zg_sub (hu1 hr) (ze_fld (fok_cons (T.glo 1) (T.cls 15) (T.noat 16) fok_nil) (zv 0)) (zv 2)))) zss_nil) (zss_one (zs_ret (ze_ix (ix_z (hu1 hr)) (ze_fld (fok_cons (T.glo 1) (T.cls 15) (T.noat 16) fok_nil) (zv 0)) (zv 2))))))
theorem F_Registry_name (T : Txt fa fb fn K mg) : FnZ P w K mg base 1 2 f_Registry_name (He.fAd K d_Registry_name.at_) := by
  obtain ⟨fd, F⟩ := T.def_ 3 (d := d_Registry_name) rfl
  exact fnz_of (x := "name") (N := ["self", "value", "text"]) (ps := ["self", "value"]) F sc_Registry_name (FunD.bindsN F fun _ _ _ _ _ _ us hl => match us, hl with | [_, _], _ => rfl) rfl (z_Registry_name T)
theorem sc_Pen___init__ : FnScope ["self", "owner", "registry"] ["self", "owner", "registry"] (defScope s_Pen___init__) := ⟨rfl, rfl, rfl, by decide +kernel, rfl, by decide +kernel, by decide +kernel⟩
theorem z_Pen___init__ (T : Txt fa fb fn K mg) {f : Addr} {CX : CXT} : InDef CX P w K mg base ["self", "owner", "registry"] "Pen.__init__" (defScope s_Pen___init__) f 0 fun X => ZSs X (defBody s_Pen___init__) w_Pen___init__ := fun cdv A outer s H E hr =>
  (zss_cons (zs_fld (fok_cons (T.glo 27) (T.cls 29) (T.noat 30) fok_nil) (zv 0) (zv 1)) (zss_one (zs_fld (fok_cons (T.glo 27) (T.cls 29) (T.noat 31) fok_nil) (zv 0) (zv 2))))
theorem F_Pen___init__ (T : Txt fa fb fn K mg) : FnZ P w K mg base 1 3 f_Pen___init__ (He.fAd K d_Pen___init__.at_) := by
  obtain ⟨fd, F⟩ := T.def_ 4 (d := d_Pen___init__) rfl
  exact fnz_of (x := "__init__") (N := ["self", "owner", "registry"]) (ps := ["self", "owner", "registry"]) F sc_Pen___init__ (FunD.bindsN F fun _ _ _ _ _ _ us hl => match us, hl with | [_, _, _], _ => rfl) rfl (z_Pen___init__ T)
theorem sc_Registry_pen : FnScope ["self", "owner"] ["self", "owner"] (defScope s_Registry_pen) := ⟨rfl, rfl, rfl, by decide +kernel, rfl, by decide +kernel, by decide +kernel⟩
theorem z_Registry_pen (T : Txt fa fb fn K mg) {f : Addr} {CX : CXT} : InDef CX P w K mg base ["self", "owner"] "Registry.pen" (defScope s_Registry_pen) f 2 fun X => ZSs X (defBody s_Registry_pen) w_Registry_pen := fun cdv A outer s H E hr =>
  (zss_cons (zs_if (zt_cmp (op_inZ (hu65 hr)) (zv 1) (ze_fld (fok_cons (T.glo 1) (T.cls 15) (T.noat 17) fok_nil) (zv 0)) (by rfl)) (zss_one (zs_raise rfl (T.exc 25) (T.glo 26) rfl ze_str)) zss_nil) (zss_cons (zs_asg ze_bl (zg_sub (hu1 hr) (ze_fld (fok_cons (T.glo 1) (T.cls 15) (T.noat 17) fok_nil) (zv 0)) (zv 1))) (zss_one (zs_ret (ze_make (mkz (T.glo 27) (T.mkr 28) (F_Pen___init__ T)) (hr.mono (by decide)) rfl (za_cons (zv 1) (za_cons (zv 0) za_nil)))))))
theorem F_Registry_pen (T : Txt fa fb fn K mg) : FnZ P w K mg base 3 2 f_Registry_pen (He.fAd K d_Registry_pen.at_) := by
  obtain ⟨fd, F⟩ := T.def_ 5 (d := d_Registry_pen) rfl
  exact fnz_of (x := "pen") (N := ["self", "owner"]) (ps := ["self", "owner"]) F sc_Registry_pen (FunD.bindsN F fun _ _ _ _ _ _ us hl => match us, hl with | [_, _], _ => rfl) rfl (z_Registry_pen T)
theorem sc__law_pens : FnScope ["registry", "owners", "pens", "owner"] ["registry", "owners", "pens"] (defScope s__law_pens) := ⟨rfl, rfl, rfl, by decide +kernel, rfl, by decide +kernel, by decide +kernel⟩
theorem z__law_pens (T : Txt fa fb fn K mg) {f : Addr} {CX : CXT} : InDef CX P w K mg base ["registry", "owners", "pens", "owner"] "_law_pens" (defScope s__law_pens) f 3 fun X => ZSs X (defBody s__law_pens) w__law_pens := fun cdv A outer s H E hr =>
  (zss_one (zs_for (passes_of rfl) rfl (zi_val (zv 1)) (zg_name (i := 3) sc__law_pens.nd rfl (by first | exact .inl rfl | exact .inr rfl)) (zss_one (zs_if (zt_cmp (op_notInZ (hu65 hr)) (zv 3) (zv 2) (by rfl)) (zss_one (zs_asg (ze_meth (mtz (T.glo 1) (T.cls 15) (T.meth 24) (F_Registry_pen T)) (hr.mono (by decide)) (zv 0) (za_cons (zv 3) za_nil)) (zg_sub (hu1 hr) (zv 2) (zv 3)))) zss_nil))))
theorem F__law_pens (T : Txt fa fb fn K mg) : FnZ P w K mg base 4 3 f__law_pens (He.fAd K d__law_pens.at_) := by
  obtain ⟨fd, F⟩ := T.def_ 6 (d := d__law_pens) rfl
  exact fnz_of (x := "_law_pens") (N := ["registry", "owners", "pens", "owner"]) (ps := ["registry", "owners", "pens"]) F sc__law_pens (FunD.bindsN F fun _ _ _ _ _ _ us hl => match us, hl with | [_, _, _], _ => rfl) rfl (z__law_pens T)
theorem sc_Registry_note_seal : FnScope ["self", "owner", "value"] ["self", "owner", "value"] (defScope s_Registry_note_seal) := ⟨rfl, rfl, rfl, by decide +kernel, rfl, by decide +kernel, by decide +kernel⟩
theorem z_Registry_note_seal (T : Txt fa fb fn K mg) {f : Addr} {CX : CXT} : InDef CX P w K mg base ["self", "owner", "value"] "Registry.note_seal" (defScope s_Registry_note_seal) f 0 fun X => ZSs X (defBody s_Registry_note_seal) w_Registry_note_seal := fun cdv A outer s H E hr =>
  (zss_one (zs_asg ze_bl (zg_sub (hu1 hr) (ze_fld (fok_cons (T.glo 1) (T.cls 15) (T.noat 18) fok_nil) (zv 0)) (ze_tup (za_cons (ze_callB (call_reprZ hr.g (hu66 hr)) rfl (by rfl) (T.free 14) (za_cons (zv 1) za_nil)) (za_cons (ze_callB (call_reprZ hr.g (hu66 hr)) rfl (by rfl) (T.free 14) (za_cons (zv 2) za_nil)) za_nil))))))
theorem F_Registry_note_seal (T : Txt fa fb fn K mg) : FnZ P w K mg base 1 3 f_Registry_note_seal (He.fAd K d_Registry_note_seal.at_) := by
  obtain ⟨fd, F⟩ := T.def_ 7 (d := d_Registry_note_seal) rfl
  exact fnz_of (x := "note_seal") (N := ["self", "owner", "value"]) (ps := ["self", "owner", "value"]) F sc_Registry_note_seal (FunD.bindsN F fun _ _ _ _ _ _ us hl => match us, hl with | [_, _, _], _ => rfl) rfl (z_Registry_note_seal T)
theorem sc_Pen_seal : FnScope ["self", "body"] ["self", "body"] (defScope s_Pen_seal) := ⟨rfl, rfl, rfl, by decide +kernel, rfl, by decide +kernel, by decide +kernel⟩
theorem z_Pen_seal (T : Txt fa fb fn K mg) {f : Addr} {CX : CXT} : InDef CX P w K mg base ["self", "body"] "Pen.seal" (defScope s_Pen_seal) f 1 fun X => ZSs X (defBody s_Pen_seal) w_Pen_seal := fun cdv A outer s H E hr =>
  (zss_cons (zs_expr (ze_meth (mtz (T.glo 1) (T.cls 15) (T.meth 34) (F_Registry_note_seal T)) (hr.mono (by decide)) (ze_fld (fok_cons (T.glo 27) (T.cls 29) (T.noat 31) fok_nil) (zv 0)) (za_cons (ze_fld (fok_cons (T.glo 27) (T.cls 29) (T.noat 30) fok_nil) (zv 0)) (za_cons (zv 1) za_nil)))) (zss_one (zs_ret (ze_tup (za_cons ze_str (za_cons (ze_fld (fok_cons (T.glo 27) (T.cls 29) (T.noat 30) fok_nil) (zv 0)) (za_cons (zv 1) za_nil)))))))
theorem F_Pen_seal (T : Txt fa fb fn K mg) : FnZ P w K mg base 2 2 f_Pen_seal (He.fAd K d_Pen_seal.at_) := by
  obtain ⟨fd, F⟩ := T.def_ 8 (d := d_Pen_seal) rfl
  exact fnz_of (x := "seal") (N := ["self", "body"]) (ps := ["self", "body"]) F sc_Pen_seal (FunD.bindsN F fun _ _ _ _ _ _ us hl => match us, hl with | [_, _], _ => rfl) rfl (z_Pen_seal T)
theorem sc__law_certified : FnScope ["state", "registry", "pens", "header", "owners", "number", "body", "enough", "few", "owner"] ["state", "registry", "pens", "header", "owners"] (defScope s__law_certified) := ⟨rfl, rfl, rfl, by decide +kernel, rfl, by decide +kernel, by decide +kernel⟩
theorem z__law_certified (T : Txt fa fb fn K mg) {f : Addr} {CX : CXT} : InDef CX P w K mg base ["state", "registry", "pens", "header", "owners", "number", "body", "enough", "few", "owner"] "_law_certified" (defScope s__law_certified) f 2 fun X => ZSs X (defBody s__law_certified) w__law_certified := fun cdv A outer s H E hr =>
  (zss_cons (zs_set (i := 5) sc__law_certified.nd rfl (by first | exact .inl rfl | exact .inr rfl) (ze_call (F__law_next T) (hr.mono (by decide)) rfl (T.glo 10) (za_cons (zv 0) (za_cons ze_int za_nil)))) (zss_cons (zs_set (i := 6) sc__law_certified.nd rfl (by first | exact .inl rfl | exact .inr rfl) (ze_tup (za_cons ze_str (za_cons (ze_ix (ix_z (hu1 hr)) (zv 3) ze_int) (za_cons (zv 5) (za_cons (ze_meth (mtz (T.glo 1) (T.cls 15) (T.meth 20) (F_Registry_name T)) (hr.mono (by decide)) (zv 1) (za_cons (zv 3) za_nil)) za_nil)))))) (zss_cons (zs_set (i := 7) sc__law_certified.nd rfl (by first | exact .inl rfl | exact .inr rfl) (ze_op op_addZ (ze_op op_mulZ ze_int (ze_op op_fdivZ (ze_op op_subZ (ze_callB call_lenZ rfl (by rfl) (T.free 5) (za_cons (zv 4) za_nil)) ze_int) ze_int)) ze_int)) (zss_cons (zs_set (i := 8) sc__law_certified.nd rfl (by first | exact .inl rfl | exact .inr rfl) (sl_z (ze_callB call_sortedZ rfl (by rfl) (T.free 32) (za_cons (zv 4) za_nil)) zo_none (zo_some (ze_op op_addZ (zv 7) (ze_call (F__law_next T) (hr.mono (by decide)) rfl (T.glo 10) (za_cons (zv 0) (za_cons (ze_op op_addZ (ze_op op_subZ (ze_callB call_lenZ rfl (by rfl) (T.free 5) (za_cons (zv 4) za_nil)) (zv 7)) ze_int) za_nil))))))) (zss_cons (zs_for (passes_of rfl) rfl (zi_val (zv 8)) (zg_name (i := 9) sc__law_certified.nd rfl (by first | exact .inl rfl | exact .inr rfl)) (zss_one (zs_expr (ze_meth (mtz (T.glo 27) (T.cls 29) (T.meth 33) (F_Pen_seal T)) (hr.mono (by decide)) (ze_ix (ix_z (hu1 hr)) (zv 2) (zv 9)) (za_cons (zv 6) za_nil))))) (zss_one (zs_ret (ze_tup (za_cons ze_str (za_cons (zv 5) (za_cons (ze_callTy call_tupleZ rfl (by rfl) (T.free 4) (za_cons (zv 8) za_nil)) za_nil)))))))))))
theorem F__law_certified (T : Txt fa fb fn K mg) : FnZ P w K mg base 3 5 f__law_certified (He.fAd K d__law_certified.at_) := by
  obtain ⟨fd, F⟩ := T.def_ 9 (d := d__law_certified) rfl
  exact fnz_of (x := "_law_certified") (N := ["state", "registry", "pens", "header", "owners", "number", "body", "enough", "few", "owner"]) (ps := ["state", "registry", "pens", "header", "owners"]) F sc__law_certified (FunD.bindsN F fun _ _ _ _ _ _ us hl => match us, hl with | [_, _, _, _, _], _ => rfl) rfl (z__law_certified T)
theorem sc__law_chain : FnScope ["state", "registry", "pens", "headers", "heads", "k", "last", "owners", "header"] ["state", "registry"] (defScope s__law_chain) := ⟨rfl, rfl, rfl, by decide +kernel, rfl, by decide +kernel, by decide +kernel⟩
theorem z__law_chain (T : Txt fa fb fn K mg) {f : Addr} {CX : CXT} : InDef CX P w K mg base ["state", "registry", "pens", "headers", "heads", "k", "last", "owners", "header"] "_law_chain" (defScope s__law_chain) f 4 fun X => ZSs X (defBody s__law_chain) w__law_chain := fun cdv A outer s H E hr =>
  (zss_cons (zs_set (i := 2) sc__law_chain.nd rfl (by first | exact .inl rfl | exact .inr rfl) ze_dict0) (zss_cons (zs_set (i := 3) sc__law_chain.nd rfl (by first | exact .inl rfl | exact .inr rfl) (ze_lst (za_cons (ze_tup (za_cons ze_str (za_cons ze_int (za_cons ze_int (za_cons ze_int (za_cons (ze_op op_addZ ze_int (ze_call (F__law_next T) (hr.mono (by decide)) rfl (T.glo 10) (za_cons (zv 0) (za_cons ze_int za_nil)))) (za_cons (ze_call (F__law_owners T) (hr.mono (by decide)) rfl (T.glo 19) (za_cons (zv 0) za_nil)) za_nil))))))) za_nil))) (zss_cons (zs_set (i := 4) sc__law_chain.nd rfl (by first | exact .inl rfl | exact .inr rfl) (ze_lst za_nil)) (zss_cons (zs_for (passes_of rfl) rfl (zi_range1 (by rfl) (T.free 8) (za_cons (ze_op op_addZ ze_int (ze_call (F__law_next T) (hr.mono (by decide)) rfl (T.glo 10) (za_cons (zv 0) (za_cons ze_int za_nil)))) za_nil)) (zg_name (i := 5) sc__law_chain.nd rfl (by first | exact .inl rfl | exact .inr rfl)) (zss_cons (zs_set (i := 6) sc__law_chain.nd rfl (by first | exact .inl rfl | exact .inr rfl) (ze_ix (ix_z (hu1 hr)) (zv 3) (ze_neg ze_int))) (zss_cons (zs_set (i := 7) sc__law_chain.nd rfl (by first | exact .inl rfl | exact .inr rfl) (ze_if (zt_cmp (op_eqZ (hu64 hr)) (ze_call (F__law_next T) (hr.mono (by decide)) rfl (T.glo 10) (za_cons (zv 0) (za_cons ze_int za_nil))) ze_int (by rfl)) (ze_ix (ix_z (hu1 hr)) (zv 6) ze_int) (ze_call (F__law_owners T) (hr.mono (by decide)) rfl (T.glo 19) (za_cons (zv 0) za_nil)))) (zss_cons (zs_set (i := 8) sc__law_chain.nd rfl (by first | exact .inl rfl | exact .inr rfl) (ze_tup (za_cons ze_str (za_cons (ze_op op_addZ (ze_ix (ix_z (hu1 hr)) (zv 6) ze_int) ze_int) (za_cons (ze_meth (mtz (T.glo 1) (T.cls 15) (T.meth 20) (F_Registry_name T)) (hr.mono (by decide)) (zv 1) (za_cons (zv 6) za_nil)) (za_cons (ze_call (F__law_next T) (hr.mono (by decide)) rfl (T.glo 10) (za_cons (zv 0) (za_cons ze_int za_nil))) (za_cons (ze_call (F__law_next T) (hr.mono (by decide)) rfl (T.glo 10) (za_cons (zv 0) (za_cons ze_int za_nil))) (za_cons (zv 7) za_nil)))))))) (zss_cons (zs_expr (ze_call (F__law_pens T) (hr.mono (by decide)) rfl (T.glo 21) (za_cons (zv 1) (za_cons (ze_ix (ix_z (hu1 hr)) (zv 6) ze_int) (za_cons (zv 2) za_nil))))) (zss_cons (zs_expr (ze_lm PySem.F.slot_list_append PySem.F.type_list_append m_append (zv 4) (za_cons (ze_tup (za_cons (zv 8) (za_cons (ze_call (F__law_certified T) (hr.mono (by decide)) rfl (T.glo 22) (za_cons (zv 0) (za_cons (zv 1) (za_cons (zv 2) (za_cons (zv 8) (za_cons (ze_ix (ix_z (hu1 hr)) (zv 6) ze_int) za_nil)))))) za_nil))) za_nil))) (zss_one (zs_expr (ze_lm PySem.F.slot_list_append PySem.F.type_list_append m_append (zv 3) (za_cons (zv 8) za_nil)))))))))) (zss_one (zs_ret (ze_tup (za_cons (zv 2) (za_cons (zv 3) (za_cons (zv 4) za_nil))))))))))
theorem F__law_chain (T : Txt fa fb fn K mg) : FnZ P w K mg base 5 2 f__law_chain (He.fAd K d__law_chain.at_) := by
  obtain ⟨fd, F⟩ := T.def_ 10 (d := d__law_chain) rfl
  exact fnz_of (x := "_law_chain") (N := ["state", "registry", "pens", "headers", "heads", "k", "last", "owners", "header"]) (ps := ["state", "registry"]) F sc__law_chain (FunD.bindsN F fun _ _ _ _ _ _ us hl => match us, hl with | [_, _], _ => rfl) rfl (z__law_chain T)
theorem sc_is_within : FnScope ["value", "most", "todo", "part", "depth", "each"] ["value", "most"] (defScope s_is_within) := ⟨rfl, rfl, rfl, by decide +kernel, rfl, by decide +kernel, by decide +kernel⟩
theorem z_is_within (T : Txt fa fb fn K mg) {f : Addr} {CX : CXT} : InDef CX P w K mg base ["value", "most", "todo", "part", "depth", "each"] "is_within" (defScope s_is_within) f 0 fun X => ZSs X (defBody s_is_within) w_is_within := fun cdv A outer s H E hr =>
  (zss_cons (zs_set (i := 2) sc_is_within.nd rfl (by first | exact .inl rfl | exact .inr rfl) (ze_lst (za_cons (ze_tup (za_cons (zv 0) (za_cons ze_int za_nil))) za_nil))) (zss_cons (zs_while (passes_of rfl) (zt_tru (zv 2)) (zss_cons (zs_asg (ze_lm0 PySem.F.slot_list_pop PySem.F.type_list_pop m_pop (zv 2)) (zg_tup rfl (zgs_cons (zg_name (i := 3) sc_is_within.nd rfl (by first | exact .inl rfl | exact .inr rfl)) (zgs_cons (zg_name (i := 4) sc_is_within.nd rfl (by first | exact .inl rfl | exact .inr rfl)) zgs_nil)))) (zss_one (zs_if (zt_tru (ze_isi (T := .tuple) noT0 rfl rfl (T.free 12) rfl (T.free 4) (zv 3))) (zss_cons (zs_if (zt_cmp op_geZ (zv 4) (zv 1) (by rfl)) (zss_one (zs_ret ze_bl)) zss_nil) (zss_one (zs_expr (ze_lm PySem.F.slot_list_extend PySem.F.type_list_extend m_extend (zv 2) (za_cons (ze_lc (own := [(("each" : Str), 5)]) rfl sc_is_within.nd (zi_val (zv 3)) (blkOk_by (own := [(("each" : Str), 5)]) (by with_unfolding_all rfl)) (fun _ _ _ _ _ => (zp_name (i := 5) sc_is_within.nd rfl (by first | exact .inl rfl | exact .inr rfl))) (fun _ _ _ _ _ => zts_nil) (fun _ _ _ _ _ => (ze_tup (za_cons (zv 5) (za_cons (ze_op op_addZ (zv 4) ze_int) za_nil))))) za_nil))))) (zss_one (zs_if (zt_tru (ze_isi (T := .int) noT0 rfl rfl (T.free 12) rfl (T.free 23) (zv 3))) (zss_one (zs_if (zt_cmp op_geZ (ze_callB call_absZ rfl (by rfl) (T.free 42) (za_cons (zv 3) za_nil)) (ze_gint (T.int 43)) (by rfl)) (zss_one (zs_ret ze_bl)) zss_nil)) (zss_one (zs_if (zt_of (zw_and (zt_cmp op_isnotZ (zv 3) ze_non (by rfl)) (zw_and1 (zt_not (zt_tru (ze_isi (T := .str) noT0 rfl rfl (T.free 12) rfl (T.free 44) (zv 3))))))) (zss_one (zs_ret ze_bl)) zss_nil)))))))) (zss_one (zs_ret ze_bl))))
theorem F_is_within (T : Txt fa fb fn K mg) : FnZ P w K mg base 1 2 f_is_within (He.fAd K d_is_within.at_) := by
  obtain ⟨fd, F⟩ := T.def_ 11 (d := d_is_within) rfl
  exact fnz_of (x := "is_within") (N := ["value", "most", "todo", "part", "depth", "each"]) (ps := ["value", "most"]) F sc_is_within (FunD.bindsN F fun _ _ _ _ _ _ us hl => match us, hl with | [_, _], _ => rfl) rfl (z_is_within T)
theorem sc_is_plain : FnScope ["value"] ["value"] (defScope s_is_plain) := ⟨rfl, rfl, rfl, by decide +kernel, rfl, by decide +kernel, by decide +kernel⟩
theorem z_is_plain (T : Txt fa fb fn K mg) {f : Addr} {CX : CXT} : InDef CX P w K mg base ["value"] "is_plain" (defScope s_is_plain) f 1 fun X => ZSs X (defBody s_is_plain) w_is_plain := fun cdv A outer s H E hr =>
  (zss_one (zs_ret (ze_call (F_is_within T) (hr.mono (by decide)) rfl (T.glo 41) (za_cons (zv 0) (za_cons (ze_gint (T.int 40)) za_nil)))))
theorem F_is_plain (T : Txt fa fb fn K mg) : FnZ P w K mg base 2 1 f_is_plain (He.fAd K d_is_plain.at_) := by
  obtain ⟨fd, F⟩ := T.def_ 12 (d := d_is_plain) rfl
  exact fnz_of (x := "is_plain") (N := ["value"]) (ps := ["value"]) F sc_is_plain (FunD.bindsN F fun _ _ _ _ _ _ us hl => match us, hl with | [_], _ => rfl) rfl (z_is_plain T)
theorem sc_is_row_of : FnScope ["value", "low", "high"] ["value", "low", "high"] (defScope s_is_row_of) := ⟨rfl, rfl, rfl, by decide +kernel, rfl, by decide +kernel, by decide +kernel⟩
theorem z_is_row_of (T : Txt fa fb fn K mg) {f : Addr} {CX : CXT} : InDef CX P w K mg base ["value", "low", "high"] "is_row_of" (defScope s_is_row_of) f 0 fun X => ZSs X (defBody s_is_row_of) w_is_row_of := fun cdv A outer s H E hr =>
  (zss_one (zs_ret (ze_and (ze_isi (T := .tuple) noT0 rfl rfl (T.free 12) rfl (T.free 4) (zv 0)) (ze_one (ze_chain (op_leZ (hu64 hr)) (op_leZ (hu64 hr)) (zv 1) (ze_callB call_lenZ rfl (by rfl) (T.free 5) (za_cons (zv 0) za_nil)) (zv 2))))))
theorem F_is_row_of (T : Txt fa fb fn K mg) : FnZ P w K mg base 1 3 f_is_row_of (He.fAd K d_is_row_of.at_) := by
  obtain ⟨fd, F⟩ := T.def_ 13 (d := d_is_row_of) rfl
  exact fnz_of (x := "is_row_of") (N := ["value", "low", "high"]) (ps := ["value", "low", "high"]) F sc_is_row_of (FunD.bindsN F fun _ _ _ _ _ _ us hl => match us, hl with | [_, _, _], _ => rfl) rfl (z_is_row_of T)
theorem sc_is_natural : FnScope ["value"] ["value"] (defScope s_is_natural) := ⟨rfl, rfl, rfl, by decide +kernel, rfl, by decide +kernel, by decide +kernel⟩
theorem z_is_natural (T : Txt fa fb fn K mg) {f : Addr} {CX : CXT} : InDef CX P w K mg base ["value"] "is_natural" (defScope s_is_natural) f 0 fun X => ZSs X (defBody s_is_natural) w_is_natural := fun cdv A outer s H E hr =>
  (zss_one (zs_ret (ze_and (ze_isi (T := .int) noT0 rfl rfl (T.free 12) rfl (T.free 23) (zv 0)) (ze_and (ze_not (ze_isi (T := .bool) noT0 rfl rfl (T.free 12) rfl (T.free 47) (zv 0))) (ze_one (ze_cmp op_geZ (zv 0) ze_int (by rfl)))))))
theorem F_is_natural (T : Txt fa fb fn K mg) : FnZ P w K mg base 1 1 f_is_natural (He.fAd K d_is_natural.at_) := by
  obtain ⟨fd, F⟩ := T.def_ 14 (d := d_is_natural) rfl
  exact fnz_of (x := "is_natural") (N := ["value"]) (ps := ["value"]) F sc_is_natural (FunD.bindsN F fun _ _ _ _ _ _ us hl => match us, hl with | [_], _ => rfl) rfl (z_is_natural T)
theorem sc_is_count : FnScope ["value", "low", "high"] ["value", "low", "high"] (defScope s_is_count) := ⟨rfl, rfl, rfl, by decide +kernel, rfl, by decide +kernel, by decide +kernel⟩
theorem z_is_count (T : Txt fa fb fn K mg) {f : Addr} {CX : CXT} : InDef CX P w K mg base ["value", "low", "high"] "is_count" (defScope s_is_count) f 0 fun X => ZSs X (defBody s_is_count) w_is_count := fun cdv A outer s H E hr =>
  (zss_one (zs_ret (ze_and (ze_isi (T := .int) noT0 rfl rfl (T.free 12) rfl (T.free 23) (zv 0)) (ze_and (ze_not (ze_isi (T := .bool) noT0 rfl rfl (T.free 12) rfl (T.free 47) (zv 0))) (ze_one (ze_chain (op_leZ (hu64 hr)) (op_leZ (hu64 hr)) (zv 1) (zv 0) (zv 2)))))))
theorem F_is_count (T : Txt fa fb fn K mg) : FnZ P w K mg base 1 3 f_is_count (He.fAd K d_is_count.at_) := by
  obtain ⟨fd, F⟩ := T.def_ 15 (d := d_is_count) rfl
  exact fnz_of (x := "is_count") (N := ["value", "low", "high"]) (ps := ["value", "low", "high"]) F sc_is_count (FunD.bindsN F fun _ _ _ _ _ _ us hl => match us, hl with | [_, _, _], _ => rfl) rfl (z_is_count T)
theorem sc_are_owners : FnScope ["value", "owner"] ["value"] (defScope s_are_owners) := ⟨rfl, rfl, rfl, by decide +kernel, rfl, by decide +kernel, by decide +kernel⟩
theorem z_are_owners (T : Txt fa fb fn K mg) {f : Addr} {CX : CXT} : InDef CX P w K mg base ["value", "owner"] "are_owners" (defScope s_are_owners) f 1 fun X => ZSs X (defBody s_are_owners) w_are_owners := fun cdv A outer s H E hr =>
  (zss_cons (zs_if (zt_of (zw_or (zt_not (zt_tru (ze_isi (T := .tuple) noT0 rfl rfl (T.free 12) rfl (T.free 4) (zv 0)))) (zw_or1 (zt_cmp (op_notInZ (hu65 hr)) (ze_callB call_lenZ rfl (by rfl) (T.free 5) (za_cons (zv 0) za_nil)) (ze_tup (za_cons ze_int (za_cons ze_int (za_cons ze_int za_nil)))) (by rfl))))) (zss_one (zs_ret ze_bl)) zss_nil) (zss_cons (zs_for (passes_of rfl) rfl (zi_val (zv 0)) (zg_name (i := 1) sc_are_owners.nd rfl (by first | exact .inl rfl | exact .inr rfl)) (zss_one (zs_if (zt_of (zw_or (zt_not (zt_tru (ze_call (F_is_count T) (hr.mono (by decide)) rfl (T.glo 49) (za_cons (zv 1) (za_cons ze_int (za_cons (ze_gint (T.int 48)) za_nil)))))) (zw_or1 (zt_cmp op_gtZ (ze_tm PySem.F.slot_tuple_count PySem.F.type_tuple_count (m_tcount (hu65 hr)) (zv 0) (za_cons (zv 1) za_nil)) ze_int (by rfl))))) (zss_one (zs_ret ze_bl)) zss_nil))) (zss_one (zs_ret ze_bl))))
theorem F_are_owners (T : Txt fa fb fn K mg) : FnZ P w K mg base 2 1 f_are_owners (He.fAd K d_are_owners.at_) := by
  obtain ⟨fd, F⟩ := T.def_ 16 (d := d_are_owners) rfl
  exact fnz_of (x := "are_owners") (N := ["value", "owner"]) (ps := ["value"]) F sc_are_owners (FunD.bindsN F fun _ _ _ _ _ _ us hl => match us, hl with | [_], _ => rfl) rfl (z_are_owners T)
theorem sc_is_header : FnScope ["value", "part"] ["value"] (defScope s_is_header) := ⟨rfl, rfl, rfl, by decide +kernel, rfl, by decide +kernel, by decide +kernel⟩
theorem z_is_header (T : Txt fa fb fn K mg) {f : Addr} {CX : CXT} : InDef CX P w K mg base ["value", "part"] "is_header" (defScope s_is_header) f 2 fun X => ZSs X (defBody s_is_header) w_is_header := fun cdv A outer s H E hr =>
  (zss_cons (zs_if (zt_of (zw_or (zt_not (zt_tru (ze_call (F_is_plain T) (hr.mono (by decide)) rfl (T.glo 36) (za_cons (zv 0) za_nil)))) (zw_or (zt_not (zt_tru (ze_call (F_is_row_of T) (hr.mono (by decide)) rfl (T.glo 38) (za_cons (zv 0) (za_cons ze_int (za_cons ze_int za_nil)))))) (zw_or1 (zt_cmp (op_neZ (hu64 hr)) (ze_ix (ix_z (hu1 hr)) (zv 0) ze_int) ze_str (by rfl)))))) (zss_one (zs_ret ze_bl)) zss_nil) (zss_one (zs_ret (ze_and (ze_cmp (op_eqZ (hu64 hr)) (ze_lc (own := [(("part" : Str), 1)]) rfl sc_is_header.nd (zi_val (sl_z (zv 0) (zo_some ze_int) (zo_some ze_int))) (blkOk_by (own := [(("part" : Str), 1)]) (by with_unfolding_all rfl)) (fun _ _ _ _ _ => (zp_name (i := 1) sc_is_header.nd rfl (by first | exact .inl rfl | exact .inr rfl))) (fun _ _ _ _ _ => (zts_one (zt_not (zt_tru (ze_call (F_is_natural T) (hr.mono (by decide)) rfl (T.glo 45) (za_cons (zv 1) za_nil)))))) (fun _ _ _ _ _ => (zv 1))) (ze_lst za_nil) (by rfl)) (ze_one (ze_call (F_are_owners T) (hr.mono (by decide)) rfl (T.glo 46) (za_cons (ze_ix (ix_z (hu1 hr)) (zv 0) ze_int) za_nil)))))))
theorem F_is_header (T : Txt fa fb fn K mg) : FnZ P w K mg base 3 1 f_is_header (He.fAd K d_is_header.at_) := by
  obtain ⟨fd, F⟩ := T.def_ 17 (d := d_is_header) rfl
  exact fnz_of (x := "is_header") (N := ["value", "part"]) (ps := ["value"]) F sc_is_header (FunD.bindsN F fun _ _ _ _ _ _ us hl => match us, hl with | [_], _ => rfl) rfl (z_is_header T)
theorem sc_is_old : FnScope ["head", "height"] ["head", "height"] (defScope s_is_old) := ⟨rfl, rfl, rfl, by decide +kernel, rfl, by decide +kernel, by decide +kernel⟩
theorem z_is_old (T : Txt fa fb fn K mg) {f : Addr} {CX : CXT} : InDef CX P w K mg base ["head", "height"] "is_old" (defScope s_is_old) f 3 fun X => ZSs X (defBody s_is_old) w_is_old := fun cdv A outer s H E hr =>
  (zss_one (zs_ret (ze_and (ze_call (F_is_row_of T) (hr.mono (by decide)) rfl (T.glo 38) (za_cons (zv 0) (za_cons ze_int (za_cons ze_int za_nil)))) (ze_and (ze_call (F_is_header T) (hr.mono (by decide)) rfl (T.glo 13) (za_cons (ze_ix (ix_z (hu1 hr)) (zv 0) ze_int) za_nil)) (ze_one (ze_cmp (op_leZ (hu64 hr)) (ze_ix (ix_z (hu1 hr)) (ze_ix (ix_z (hu1 hr)) (zv 0) ze_int) ze_int) (zv 1) (by rfl)))))))
theorem F_is_old (T : Txt fa fb fn K mg) : FnZ P w K mg base 4 2 f_is_old (He.fAd K d_is_old.at_) := by
  obtain ⟨fd, F⟩ := T.def_ 18 (d := d_is_old) rfl
  exact fnz_of (x := "is_old") (N := ["head", "height"]) (ps := ["head", "height"]) F sc_is_old (FunD.bindsN F fun _ _ _ _ _ _ us hl => match us, hl with | [_, _], _ => rfl) rfl (z_is_old T)
theorem sc_quorum : FnScope ["owners"] ["owners"] (defScope s_quorum) := ⟨rfl, rfl, rfl, by decide +kernel, rfl, by decide +kernel, by decide +kernel⟩
theorem z_quorum (T : Txt fa fb fn K mg) {f : Addr} {CX : CXT} : InDef CX P w K mg base ["owners"] "quorum" (defScope s_quorum) f 0 fun X => ZSs X (defBody s_quorum) w_quorum := fun cdv A outer s H E hr =>
  (zss_one (zs_ret (ze_op op_addZ (ze_op op_mulZ ze_int (ze_op op_fdivZ (ze_op op_subZ (ze_callB call_lenZ rfl (by rfl) (T.free 5) (za_cons (zv 0) za_nil)) ze_int) ze_int)) ze_int)))
theorem F_quorum (T : Txt fa fb fn K mg) : FnZ P w K mg base 1 1 f_quorum (He.fAd K d_quorum.at_) := by
  obtain ⟨fd, F⟩ := T.def_ 19 (d := d_quorum) rfl
  exact fnz_of (x := "quorum") (N := ["owners"]) (ps := ["owners"]) F sc_quorum (FunD.bindsN F fun _ _ _ _ _ _ us hl => match us, hl with | [_], _ => rfl) rfl (z_quorum T)
theorem sc_Registry_is_sealed : FnScope ["self", "owner", "value"] ["self", "owner", "value"] (defScope s_Registry_is_sealed) := ⟨rfl, rfl, rfl, by decide +kernel, rfl, by decide +kernel, by decide +kernel⟩
theorem z_Registry_is_sealed (T : Txt fa fb fn K mg) {f : Addr} {CX : CXT} : InDef CX P w K mg base ["self", "owner", "value"] "Registry.is_sealed" (defScope s_Registry_is_sealed) f 0 fun X => ZSs X (defBody s_Registry_is_sealed) w_Registry_is_sealed := fun cdv A outer s H E hr =>
  (zss_one (zs_ret (ze_cmp (op_inZ (hu65 hr)) (ze_tup (za_cons (ze_callB (call_reprZ hr.g (hu66 hr)) rfl (by rfl) (T.free 14) (za_cons (zv 1) za_nil)) (za_cons (ze_callB (call_reprZ hr.g (hu66 hr)) rfl (by rfl) (T.free 14) (za_cons (zv 2) za_nil)) za_nil))) (ze_fld (fok_cons (T.glo 1) (T.cls 15) (T.noat 18) fok_nil) (zv 0)) (by rfl))))
theorem F_Registry_is_sealed (T : Txt fa fb fn K mg) : FnZ P w K mg base 1 3 f_Registry_is_sealed (He.fAd K d_Registry_is_sealed.at_) := by
  obtain ⟨fd, F⟩ := T.def_ 20 (d := d_Registry_is_sealed) rfl
  exact fnz_of (x := "is_sealed") (N := ["self", "owner", "value"]) (ps := ["self", "owner", "value"]) F sc_Registry_is_sealed (FunD.bindsN F fun _ _ _ _ _ _ us hl => match us, hl with | [_, _, _], _ => rfl) rfl (z_Registry_is_sealed T)
theorem sc_is_certificate : FnScope ["registry", "value", "header", "owners", "_", "number", "sealers", "body", "last", "sealer"] ["registry", "value", "header", "owners"] (defScope s_is_certificate) := ⟨rfl, rfl, rfl, by decide +kernel, rfl, by decide +kernel, by decide +kernel⟩
theorem z_is_certificate (T : Txt fa fb fn K mg) {f : Addr} {CX : CXT} : InDef CX P w K mg base ["registry", "value", "header", "owners", "_", "number", "sealers", "body", "last", "sealer"] "is_certificate" (defScope s_is_certificate) f 2 fun X => ZSs X (defBody s_is_certificate) w_is_certificate := fun cdv A outer s H E hr =>
  (zss_cons (zs_if (zt_of (zw_or (zt_not (zt_tru (ze_call (F_is_plain T) (hr.mono (by decide)) rfl (T.glo 36) (za_cons (zv 1) za_nil)))) (zw_or (zt_not (zt_tru (ze_call (F_is_row_of T) (hr.mono (by decide)) rfl (T.glo 38) (za_cons (zv 1) (za_cons ze_int (za_cons ze_int za_nil)))))) (zw_or1 (zt_cmp (op_neZ (hu64 hr)) (ze_ix (ix_z (hu1 hr)) (zv 1) ze_int) ze_str (by rfl)))))) (zss_one (zs_ret ze_bl)) zss_nil) (zss_cons (zs_asg (zv 1) (zg_tup rfl (zgs_cons (zg_name (i := 4) sc_is_certificate.nd rfl (by first | exact .inl rfl | exact .inr rfl)) (zgs_cons (zg_name (i := 5) sc_is_certificate.nd rfl (by first | exact .inl rfl | exact .inr rfl)) (zgs_cons (zg_name (i := 6) sc_is_certificate.nd rfl (by first | exact .inl rfl | exact .inr rfl)) zgs_nil))))) (zss_cons (zs_if (zt_of (zw_or (zt_not (zt_tru (ze_call (F_is_natural T) (hr.mono (by decide)) rfl (T.glo 45) (za_cons (zv 5) za_nil)))) (zw_or (zt_not (zt_tru (ze_isi (T := .tuple) noT0 rfl rfl (T.free 12) rfl (T.free 4) (zv 6)))) (zw_or1 (zt_cmp (op_ltZ (hu64 hr)) (ze_callB call_lenZ rfl (by rfl) (T.free 5) (za_cons (zv 6) za_nil)) (ze_call (F_quorum T) (hr.mono (by decide)) rfl (T.glo 50) (za_cons (zv 3) za_nil)) (by rfl)))))) (zss_one (zs_ret ze_bl)) zss_nil) (zss_cons (zs_set (i := 7) sc_is_certificate.nd rfl (by first | exact .inl rfl | exact .inr rfl) (ze_tup (za_cons ze_str (za_cons (ze_ix (ix_z (hu1 hr)) (zv 2) ze_int) (za_cons (zv 5) (za_cons (ze_meth (mtz (T.glo 1) (T.cls 15) (T.meth 20) (F_Registry_name T)) (hr.mono (by decide)) (zv 0) (za_cons (zv 2) za_nil)) za_nil)))))) (zss_cons (zs_set (i := 8) sc_is_certificate.nd rfl (by first | exact .inl rfl | exact .inr rfl) ze_int) (zss_cons (zs_for (passes_of rfl) rfl (zi_val (zv 6)) (zg_name (i := 9) sc_is_certificate.nd rfl (by first | exact .inl rfl | exact .inr rfl)) (zss_cons (zs_if (zt_of (zw_or (zt_not (zt_tru (ze_call (F_is_count T) (hr.mono (by decide)) rfl (T.glo 49) (za_cons (zv 9) (za_cons (ze_op op_addZ (zv 8) ze_int) (za_cons (ze_gint (T.int 48)) za_nil)))))) (zw_or1 (zt_cmp (op_notInZ (hu65 hr)) (zv 9) (zv 3) (by rfl))))) (zss_one (zs_ret ze_bl)) zss_nil) (zss_cons (zs_if (zt_not (zt_tru (ze_meth (mtz (T.glo 1) (T.cls 15) (T.meth 51) (F_Registry_is_sealed T)) (hr.mono (by decide)) (zv 0) (za_cons (zv 9) (za_cons (zv 7) za_nil))))) (zss_one (zs_ret ze_bl)) zss_nil) (zss_one (zs_set (i := 8) sc_is_certificate.nd rfl (by first | exact .inl rfl | exact .inr rfl) (zv 9)))))) (zss_one (zs_ret ze_bl))))))))
theorem F_is_certificate (T : Txt fa fb fn K mg) : FnZ P w K mg base 3 4 f_is_certificate (He.fAd K d_is_certificate.at_) := by
  obtain ⟨fd, F⟩ := T.def_ 21 (d := d_is_certificate) rfl
  exact fnz_of (x := "is_certificate") (N := ["registry", "value", "header", "owners", "_", "number", "sealers", "body", "last", "sealer"]) (ps := ["registry", "value", "header", "owners"]) F sc_is_certificate (FunD.bindsN F fun _ _ _ _ _ _ us hl => match us, hl with | [_, _, _, _], _ => rfl) rfl (z_is_certificate T)
theorem sc_judged_heads : FnScope ["registry", "header", "heads", "start", "taken", "last", "head"] ["registry", "header", "heads"] (defScope s_judged_heads) := ⟨rfl, rfl, rfl, by decide +kernel, rfl, by decide +kernel, by decide +kernel⟩
theorem z_judged_heads (T : Txt fa fb fn K mg) {f : Addr} {CX : CXT} : InDef CX P w K mg base ["registry", "header", "heads", "start", "taken", "last", "head"] "judged_heads" (defScope s_judged_heads) f 4 fun X => ZSs X (defBody s_judged_heads) w_judged_heads := fun cdv A outer s H E hr =>
  (zss_cons (zs_if (zt_of (zw_or (zt_not (zt_tru (ze_call (F_is_plain T) (hr.mono (by decide)) rfl (T.glo 36) (za_cons (zv 2) za_nil)))) (zw_or1 (zt_not (zt_tru (ze_isi (T := .tuple) noT0 rfl rfl (T.free 12) rfl (T.free 4) (zv 2))))))) (zss_one (zs_ret (ze_lst za_nil))) zss_nil) (zss_cons (zs_set (i := 3) sc_judged_heads.nd rfl (by first | exact .inl rfl | exact .inr rfl) ze_int) (zss_cons (zs_while (passes_of rfl) (zt_of (zw_and (zt_cmp (op_ltZ (hu64 hr)) (zv 3) (ze_callB call_lenZ rfl (by rfl) (T.free 5) (za_cons (zv 2) za_nil)) (by rfl)) (zw_and1 (zt_tru (ze_call (F_is_old T) (hr.mono (by decide)) rfl (T.glo 37) (za_cons (ze_ix (ix_z (hu1 hr)) (zv 2) (zv 3)) (za_cons (ze_ix (ix_z (hu1 hr)) (zv 1) ze_int) za_nil))))))) (zss_one (zs_aug (i := 3) aug_add sc_judged_heads.nd rfl (by first | exact .inl rfl | exact .inr rfl) ze_int))) (zss_cons (zs_set (i := 4) sc_judged_heads.nd rfl (by first | exact .inl rfl | exact .inr rfl) (ze_lst za_nil)) (zss_cons (zs_set (i := 5) sc_judged_heads.nd rfl (by first | exact .inl rfl | exact .inr rfl) (zv 1)) (zss_cons (zs_for (passes_of rfl) rfl (zi_val (sl_z (zv 2) (zo_some (zv 3)) zo_none)) (zg_name (i := 6) sc_judged_heads.nd rfl (by first | exact .inl rfl | exact .inr rfl)) (zss_cons (zs_if (zt_of (zw_or (zt_not (zt_tru (ze_call (F_is_row_of T) (hr.mono (by decide)) rfl (T.glo 38) (za_cons (zv 6) (za_cons ze_int (za_cons ze_int za_nil)))))) (zw_or1 (zt_not (zt_tru (ze_call (F_is_header T) (hr.mono (by decide)) rfl (T.glo 13) (za_cons (ze_ix (ix_z (hu1 hr)) (zv 6) ze_int) za_nil))))))) (zss_one zs_break) zss_nil) (zss_cons (zs_if (zt_of (zw_or (zt_cmp (op_neZ (hu64 hr)) (ze_ix (ix_z (hu1 hr)) (ze_ix (ix_z (hu1 hr)) (zv 6) ze_int) ze_int) (ze_op op_addZ (ze_ix (ix_z (hu1 hr)) (zv 5) ze_int) ze_int) (by rfl)) (zw_or1 (zt_cmp (op_neZ (hu64 hr)) (ze_ix (ix_z (hu1 hr)) (ze_ix (ix_z (hu1 hr)) (zv 6) ze_int) ze_int) (ze_meth (mtz (T.glo 1) (T.cls 15) (T.meth 20) (F_Registry_name T)) (hr.mono (by decide)) (zv 0) (za_cons (zv 5) za_nil)) (by rfl))))) (zss_one zs_break) zss_nil) (zss_cons (zs_if (zt_not (zt_tru (ze_call (F_is_certificate T) (hr.mono (by decide)) rfl (T.glo 39) (za_cons (zv 0) (za_cons (ze_ix (ix_z (hu1 hr)) (zv 6) ze_int) (za_cons (ze_ix (ix_z (hu1 hr)) (zv 6) ze_int) (za_cons (ze_ix (ix_z (hu1 hr)) (zv 5) ze_int) za_nil))))))) (zss_one zs_break) zss_nil) (zss_cons (zs_expr (ze_lm PySem.F.slot_list_append PySem.F.type_list_append m_append (zv 4) (za_cons (zv 6) za_nil))) (zss_one (zs_set (i := 5) sc_judged_heads.nd rfl (by first | exact .inl rfl | exact .inr rfl) (ze_ix (ix_z (hu1 hr)) (zv 6) ze_int)))))))) (zss_one (zs_ret (zv 4)))))))))
theorem F_judged_heads (T : Txt fa fb fn K mg) : FnZ P w K mg base 5 3 f_judged_heads (He.fAd K d_judged_heads.at_) := by
  obtain ⟨fd, F⟩ := T.def_ 22 (d := d_judged_heads) rfl
  exact fnz_of (x := "judged_heads") (N := ["registry", "header", "heads", "start", "taken", "last", "head"]) (ps := ["registry", "header", "heads"]) F sc_judged_heads (FunD.bindsN F fun _ _ _ _ _ _ us hl => match us, hl with | [_, _, _], _ => rfl) rfl (z_judged_heads T)
theorem sc__law_asked : FnScope ["registry", "headers", "heads", "row", "count", "start", "taken"] ["registry", "headers", "heads", "row", "count"] (defScope s__law_asked) := ⟨rfl, rfl, rfl, by decide +kernel, rfl, by decide +kernel, by decide +kernel⟩
theorem z__law_asked (T : Txt fa fb fn K mg) {f : Addr} {CX : CXT} : InDef CX P w K mg base ["registry", "headers", "heads", "row", "count", "start", "taken"] "_law_asked" (defScope s__law_asked) f 5 fun X => ZSs X (defBody s__law_asked) w__law_asked := fun cdv A outer s H E hr =>
  (zss_cons (zs_for (passes_of rfl) rfl (zi_range1 (by rfl) (T.free 8) (za_cons (ze_callB call_lenZ rfl (by rfl) (T.free 5) (za_cons (zv 1) za_nil)) za_nil)) (zg_name (i := 5) sc__law_asked.nd rfl (by first | exact .inl rfl | exact .inr rfl)) (zss_cons (zs_set (i := 6) sc__law_asked.nd rfl (by first | exact .inl rfl | exact .inr rfl) (ze_call (F_judged_heads T) (hr.mono (by decide)) rfl (T.glo 7) (za_cons (zv 0) (za_cons (ze_ix (ix_z (hu1 hr)) (zv 1) (zv 5)) (za_cons (zv 3) za_nil))))) (zss_one (zs_if (zt_of (zw_or (zt_not (zt_tru (ze_isi (T := .list) noT0 rfl rfl (T.free 12) rfl (T.free 0) (zv 6)))) (zw_or1 (zt_cmp (op_neZ (hu64 hr)) (ze_callB (call_reprZ hr.g (hu66 hr)) rfl (by rfl) (T.free 14) (za_cons (zv 6) za_nil)) (ze_callB (call_reprZ hr.g (hu66 hr)) rfl (by rfl) (T.free 14) (za_cons (sl_z (zv 2) (zo_some (zv 5)) (zo_some (ze_callB (call_maxZ rfl) rfl (by rfl) (T.free 35) (za_cons (zv 5) (za_cons (zv 4) za_nil))))) za_nil)) (by rfl))))) (zss_one (zs_ret ze_bl)) zss_nil)))) (zss_one (zs_ret ze_bl)))
theorem F__law_asked (T : Txt fa fb fn K mg) : FnZ P w K mg base 6 5 f__law_asked (He.fAd K d__law_asked.at_) := by
  obtain ⟨fd, F⟩ := T.def_ 23 (d := d__law_asked) rfl
  exact fnz_of (x := "_law_asked") (N := ["registry", "headers", "heads", "row", "count", "start", "taken"]) (ps := ["registry", "headers", "heads", "row", "count"]) F sc__law_asked (FunD.bindsN F fun _ _ _ _ _ _ us hl => match us, hl with | [_, _, _, _, _], _ => rfl) rfl (z__law_asked T)
theorem sc__law_elder_again : FnScope ["state", "registry", "headers", "heads", "place", "elder", "row", "start", "due"] ["state", "registry", "headers", "heads"] (defScope s__law_elder_again) := ⟨rfl, rfl, rfl, by decide +kernel, rfl, by decide +kernel, by decide +kernel⟩
theorem z__law_elder_again (T : Txt fa fb fn K mg) {f : Addr} {CX : CXT} : InDef CX P w K mg base ["state", "registry", "headers", "heads", "place", "elder", "row", "start", "due"] "_law_elder_again" (defScope s__law_elder_again) f 5 fun X => ZSs X (defBody s__law_elder_again) w__law_elder_again := fun cdv A outer s H E hr =>
  (zss_cons (zs_set (i := 4) sc__law_elder_again.nd rfl (by first | exact .inl rfl | exact .inr rfl) (ze_op op_addZ ze_int (ze_call (F__law_next T) (hr.mono (by decide)) rfl (T.glo 10) (za_cons (zv 0) (za_cons (ze_callB call_lenZ rfl (by rfl) (T.free 5) (za_cons (zv 3) za_nil)) za_nil))))) (zss_cons (zs_set (i := 5) sc__law_elder_again.nd rfl (by first | exact .inl rfl | exact .inr rfl) (ze_call (F__law_next T) (hr.mono (by decide)) rfl (T.glo 10) (za_cons (zv 0) (za_cons (zv 4) za_nil)))) (zss_cons (zs_set (i := 6) sc__law_elder_again.nd rfl (by first | exact .inl rfl | exact .inr rfl) (ze_callTy call_tupleZ rfl (by rfl) (T.free 4) (za_cons (ze_op op_addZ (ze_op op_addZ (sl_z (zv 3) zo_none (zo_some (zv 4))) (sl_z (zv 3) (zo_some (zv 5)) (zo_some (ze_op op_addZ (zv 5) ze_int)))) (sl_z (zv 3) (zo_some (zv 4)) zo_none)) za_nil))) (zss_cons (zs_for (passes_of rfl) rfl (zi_range1 (by rfl) (T.free 8) (za_cons (ze_op op_addZ (zv 4) ze_int) za_nil)) (zg_name (i := 7) sc__law_elder_again.nd rfl (by first | exact .inl rfl | exact .inr rfl)) (zss_cons (zs_set (i := 8) sc__law_elder_again.nd rfl (by first | exact .inl rfl | exact .inr rfl) (ze_if (zt_cmp (op_ltZ (hu64 hr)) (zv 7) (zv 4) (by rfl)) (sl_z (zv 3) (zo_some (zv 7)) (zo_some (zv 4))) (sl_z (zv 3) (zo_some (zv 4)) zo_none))) (zss_one (zs_if (zt_cmp (op_neZ (hu64 hr)) (ze_callB (call_reprZ hr.g (hu66 hr)) rfl (by rfl) (T.free 14) (za_cons (ze_call (F_judged_heads T) (hr.mono (by decide)) rfl (T.glo 7) (za_cons (zv 1) (za_cons (ze_ix (ix_z (hu1 hr)) (zv 2) (zv 7)) (za_cons (zv 6) za_nil)))) za_nil)) (ze_callB (call_reprZ hr.g (hu66 hr)) rfl (by rfl) (T.free 14) (za_cons (zv 8) za_nil)) (by rfl)) (zss_one (zs_ret ze_bl)) zss_nil)))) (zss_one (zs_ret ze_bl))))))
theorem F__law_elder_again (T : Txt fa fb fn K mg) : FnZ P w K mg base 6 4 f__law_elder_again (He.fAd K d__law_elder_again.at_) := by
  obtain ⟨fd, F⟩ := T.def_ 24 (d := d__law_elder_again) rfl
  exact fnz_of (x := "_law_elder_again") (N := ["state", "registry", "headers", "heads", "place", "elder", "row", "start", "due"]) (ps := ["state", "registry", "headers", "heads"]) F sc__law_elder_again (FunD.bindsN F fun _ _ _ _ _ _ us hl => match us, hl with | [_, _, _, _], _ => rfl) rfl (z__law_elder_again T)
theorem sc__law_spoilt : FnScope ["state", "registry", "pens", "headers", "heads", "index", "header", "certificate", "before", "pick", "parts", "made", "owners", "strangers"] ["state", "registry", "pens", "headers", "heads", "index"] (defScope s__law_spoilt) := ⟨rfl, rfl, rfl, by decide +kernel, rfl, by decide +kernel, by decide +kernel⟩
theorem z__law_spoilt (T : Txt fa fb fn K mg) {f : Addr} {CX : CXT} : InDef CX P w K mg base ["state", "registry", "pens", "headers", "heads", "index", "header", "certificate", "before", "pick", "parts", "made", "owners", "strangers"] "_law_spoilt" (defScope s__law_spoilt) f 4 fun X => ZSs X (defBody s__law_spoilt) w__law_spoilt := fun cdv A outer s H E hr =>
  (zss_cons (zs_asg (ze_ix (ix_z (hu1 hr)) (zv 4) (zv 5)) (zg_tup rfl (zgs_cons (zg_name (i := 6) sc__law_spoilt.nd rfl (by first | exact .inl rfl | exact .inr rfl)) (zgs_cons (zg_name (i := 7) sc__law_spoilt.nd rfl (by first | exact .inl rfl | exact .inr rfl)) zgs_nil)))) (zss_cons (zs_set (i := 8) sc__law_spoilt.nd rfl (by first | exact .inl rfl | exact .inr rfl) (ze_ix (ix_z (hu1 hr)) (zv 3) (zv 5))) (zss_cons (zs_set (i := 9) sc__law_spoilt.nd rfl (by first | exact .inl rfl | exact .inr rfl) (ze_call (F__law_next T) (hr.mono (by decide)) rfl (T.glo 10) (za_cons (zv 0) (za_cons ze_int za_nil)))) (zss_cons (zs_if (zt_cmp (op_eqZ (hu64 hr)) (zv 9) ze_int (by rfl)) (zss_one (zs_ret (ze_ix (ix_z (hu1 hr)) (ze_lst (za_cons ze_non (za_cons (ze_tup za_nil) (za_cons ze_int (za_cons (ze_tup (za_cons (zv 6) za_nil)) (za_cons (ze_tup (za_cons (zv 6) (za_cons (zv 7) (za_cons ze_int za_nil)))) (za_cons (ze_tup (za_cons (zv 7) (za_cons (zv 6) za_nil))) (za_cons ze_str za_nil)))))))) (ze_call (F__law_next T) (hr.mono (by decide)) rfl (T.glo 10) (za_cons (zv 0) (za_cons ze_int za_nil)))))) zss_nil) (zss_cons (zs_if (zt_cmp (op_eqZ (hu64 hr)) (zv 9) ze_int (by rfl)) (zss_one (zs_ret (ze_tup (za_cons (zv 6) (za_cons (ze_tup (za_cons ze_str (za_cons (ze_ix (ix_z (hu1 hr)) (zv 7) ze_int) (za_cons (sl_z (sl_z (ze_ix (ix_z (hu1 hr)) (zv 7) ze_int) (zo_some ze_int) zo_none) zo_none (zo_some (ze_op op_mulZ ze_int (ze_op op_fdivZ (ze_op op_subZ (ze_callB call_lenZ rfl (by rfl) (T.free 5) (za_cons (ze_ix (ix_z (hu1 hr)) (zv 8) ze_int) za_nil)) ze_int) ze_int)))) za_nil)))) za_nil))))) zss_nil) (zss_cons (zs_if (zt_cmp (op_eqZ (hu64 hr)) (zv 9) ze_int (by rfl)) (zss_one (zs_ret (ze_tup (za_cons (zv 6) (za_cons (ze_tup (za_cons ze_str (za_cons (ze_op op_addZ (ze_ix (ix_z (hu1 hr)) (zv 7) ze_int) ze_int) (za_cons (ze_ix (ix_z (hu1 hr)) (zv 7) ze_int) za_nil)))) za_nil))))) zss_nil) (zss_cons (zs_if (zt_cmp (op_eqZ (hu64 hr)) (zv 9) ze_int (by rfl)) (zss_one (zs_ret (ze_tup (za_cons (ze_op op_addZ (sl_z (zv 6) zo_none (zo_some ze_int)) (ze_tup (za_cons (sl_z (ze_ix (ix_z (hu1 hr)) (zv 6) ze_int) (zo_some ze_int) zo_none) za_nil))) (za_cons (zv 7) za_nil))))) zss_nil) (zss_cons (zs_if (zt_cmp (op_eqZ (hu64 hr)) (zv 9) ze_int (by rfl)) (zss_one (zs_ret (ze_tup (za_cons (zv 6) (za_cons ze_non za_nil))))) zss_nil) (zss_cons (zs_set (i := 10) sc__law_spoilt.nd rfl (by first | exact .inl rfl | exact .inr rfl) (ze_lst (za_cons (ze_op op_addZ (ze_tup (za_cons ze_str (za_cons (ze_op op_addZ (ze_ix (ix_z (hu1 hr)) (zv 6) ze_int) ze_int) za_nil))) (sl_z (zv 6) (zo_some ze_int) zo_none)) (za_cons (ze_op op_addZ (ze_op op_addZ (sl_z (zv 6) zo_none (zo_some ze_int)) (ze_tup (za_cons (ze_op op_addZ (ze_ix (ix_z (hu1 hr)) (zv 6) ze_int) ze_int) za_nil))) (sl_z (zv 6) (zo_some ze_int) zo_none)) za_nil)))) (zss_cons (zs_set (i := 10) sc__law_spoilt.nd rfl (by first | exact .inl rfl | exact .inr rfl) (ze_op op_addZ (zv 10) (ze_lst (za_cons (ze_op op_addZ (ze_op op_addZ (sl_z (zv 6) zo_none (zo_some ze_int)) (ze_tup (za_cons (ze_op op_addZ (ze_ix (ix_z (hu1 hr)) (zv 6) ze_int) ze_int) za_nil))) (sl_z (zv 6) (zo_some ze_int) zo_none)) (za_cons (ze_op op_addZ (ze_op op_addZ (sl_z (zv 6) zo_none (zo_some ze_int)) (ze_tup (za_cons ze_int za_nil))) (sl_z (zv 6) (zo_some ze_int) zo_none)) za_nil))))) (zss_cons (zs_set (i := 11) sc__law_spoilt.nd rfl (by first | exact .inl rfl | exact .inr rfl) (ze_ix (ix_z (hu1 hr)) (zv 10) (ze_op op_subZ (zv 9) ze_int))) (zss_cons (zs_set (i := 12) sc__law_spoilt.nd rfl (by first | exact .inl rfl | exact .inr rfl) (ze_ix (ix_z (hu1 hr)) (zv 8) ze_int)) (zss_cons (zs_if (zt_cmp (op_eqZ (hu64 hr)) (zv 9) ze_int (by rfl)) (zss_cons (zs_set (i := 13) sc__law_spoilt.nd rfl (by first | exact .inl rfl | exact .inr rfl) (ze_lstRg rfl (by rfl) (T.free 0) (by rfl) (T.free 8) ze_int ze_int)) (zss_cons (zs_expr (ze_call (F__law_pens T) (hr.mono (by decide)) rfl (T.glo 21) (za_cons (zv 1) (za_cons (zv 13) (za_cons (zv 2) za_nil))))) (zss_one (zs_set (i := 12) sc__law_spoilt.nd rfl (by first | exact .inl rfl | exact .inr rfl) (ze_callTy call_tupleZ rfl (by rfl) (T.free 4) (za_cons (sl_z (zv 13) zo_none (zo_some (ze_callB call_lenZ rfl (by rfl) (T.free 5) (za_cons (zv 12) za_nil)))) za_nil)))))) zss_nil) (zss_one (zs_ret (ze_tup (za_cons (zv 11) (za_cons (ze_call (F__law_certified T) (hr.mono (by decide)) rfl (T.glo 22) (za_cons (zv 0) (za_cons (zv 1) (za_cons (zv 2) (za_cons (zv 11) (za_cons (zv 12) za_nil)))))) za_nil))))))))))))))))))
theorem F__law_spoilt (T : Txt fa fb fn K mg) : FnZ P w K mg base 5 6 f__law_spoilt (He.fAd K d__law_spoilt.at_) := by
  obtain ⟨fd, F⟩ := T.def_ 25 (d := d__law_spoilt) rfl
  exact fnz_of (x := "_law_spoilt") (N := ["state", "registry", "pens", "headers", "heads", "index", "header", "certificate", "before", "pick", "parts", "made", "owners", "strangers"]) (ps := ["state", "registry", "pens", "headers", "heads", "index"]) F sc__law_spoilt (FunD.bindsN F fun _ _ _ _ _ _ us hl => match us, hl with | [_, _, _, _, _, _], _ => rfl) rfl (z__law_spoilt T)
theorem sc_law : FnScope ["script", "state", "registry", "pens", "headers", "heads", "bad", "turn", "index", "spoilt", "row", "is_pair", "start", "due", "junk", "front", "elder", "head"] ["script"] (defScope s_law) := ⟨rfl, rfl, rfl, by decide +kernel, rfl, by decide +kernel, by decide +kernel⟩
theorem z_law (T : Txt fa fb fn K mg) {f : Addr} {CX : CXT} : InDef CX P w K mg base ["script", "state", "registry", "pens", "headers", "heads", "bad", "turn", "index", "spoilt", "row", "is_pair", "start", "due", "junk", "front", "elder", "head"] "law" (defScope s_law) f 6 fun X => ZSs X (defBody s_law) w_law := fun cdv A outer s H E hr =>
  (zss_cons (zs_set (i := 1) sc_law.nd rfl (by first | exact .inl rfl | exact .inr rfl) (ze_lst (za_cons (ze_callTy (call_listZ rfl) rfl (by rfl) (T.free 0) (za_cons (zv 0) za_nil)) (za_cons ze_int (za_cons ze_int (za_cons ze_int za_nil)))))) (zss_cons (zs_set (i := 2) sc_law.nd rfl (by first | exact .inl rfl | exact .inr rfl) (ze_make0 (mkz (T.glo 1) (T.mkr 2) (F_Registry___init__ T)) (hr.mono (by decide)) rfl)) (zss_cons (zs_asg (ze_call (F__law_chain T) (hr.mono (by decide)) rfl (T.glo 3) (za_cons (zv 1) (za_cons (zv 2) za_nil))) (zg_tup rfl (zgs_cons (zg_name (i := 3) sc_law.nd rfl (by first | exact .inl rfl | exact .inr rfl)) (zgs_cons (zg_name (i := 4) sc_law.nd rfl (by first | exact .inl rfl | exact .inr rfl)) (zgs_cons (zg_name (i := 5) sc_law.nd rfl (by first | exact .inl rfl | exact .inr rfl)) zgs_nil))))) (zss_cons (zs_if (zt_not (zt_tru (ze_call (F__law_asked T) (hr.mono (by decide)) rfl (T.glo 6) (za_cons (zv 2) (za_cons (zv 4) (za_cons (zv 5) (za_cons (ze_callTy call_tupleZ rfl (by rfl) (T.free 4) (za_cons (zv 5) za_nil)) (za_cons (ze_callB call_lenZ rfl (by rfl) (T.free 5) (za_cons (zv 5) za_nil)) za_nil)))))))) (zss_one (zs_ret ze_bl)) zss_nil) (zss_cons (zs_for (passes_of rfl) rfl (zi_val (ze_lst (za_cons ze_non (za_cons ze_int (za_cons ze_str (za_cons (ze_callTy (call_listZ rfl) rfl (by rfl) (T.free 0) (za_cons (zv 5) za_nil)) (za_cons ze_dict0 (za_cons (ze_lst (za_cons ze_str za_nil)) (za_cons (ze_tup za_nil) (za_cons (ze_tup (za_cons ze_non za_nil)) (za_cons (ze_tup (za_cons (ze_tup za_nil) za_nil)) za_nil))))))))))) (zg_name (i := 6) sc_law.nd rfl (by first | exact .inl rfl | exact .inr rfl)) (zss_one (zs_if (zt_cmp (op_neZ (hu64 hr)) (ze_call (F_judged_heads T) (hr.mono (by decide)) rfl (T.glo 7) (za_cons (zv 2) (za_cons (ze_ix (ix_z (hu1 hr)) (zv 4) ze_int) (za_cons (zv 6) za_nil)))) (ze_lst za_nil) (by rfl)) (zss_one (zs_ret ze_bl)) zss_nil))) (zss_cons (zs_if (zt_cmp (op_neZ (hu64 hr)) (ze_call (F_judged_heads T) (hr.mono (by decide)) rfl (T.glo 7) (za_cons (zv 2) (za_cons (ze_ix (ix_z (hu1 hr)) (zv 4) ze_int) (za_cons (ze_op op_addZ (ze_callTy call_tupleZ rfl (by rfl) (T.free 4) (za_cons (zv 5) za_nil)) (ze_tup (za_cons (ze_lst (za_cons ze_int za_nil)) za_nil))) za_nil)))) (ze_lst za_nil) (by rfl)) (zss_one (zs_ret ze_bl)) zss_nil) (zss_cons (zs_for (passes_of rfl) rfl (zi_range1 (by rfl) (T.free 8) (za_cons ze_int za_nil)) (zg_name (i := 7) sc_law.nd rfl (by first | exact .inl rfl | exact .inr rfl)) (zss_cons (zs_if (zt_not (zt_tru (ze_call (F__law_elder_again T) (hr.mono (by decide)) rfl (T.glo 9) (za_cons (zv 1) (za_cons (zv 2) (za_cons (zv 4) (za_cons (zv 5) za_nil))))))) (zss_one (zs_ret ze_bl)) zss_nil) (zss_cons (zs_set (i := 8) sc_law.nd rfl (by first | exact .inl rfl | exact .inr rfl) (ze_call (F__law_next T) (hr.mono (by decide)) rfl (T.glo 10) (za_cons (zv 1) (za_cons (ze_callB call_lenZ rfl (by rfl) (T.free 5) (za_cons (zv 5) za_nil)) za_nil)))) (zss_cons (zs_set (i := 9) sc_law.nd rfl (by first | exact .inl rfl | exact .inr rfl) (ze_call (F__law_spoilt T) (hr.mono (by decide)) rfl (T.glo 11) (za_cons (zv 1) (za_cons (zv 2) (za_cons (zv 3) (za_cons (zv 4) (za_cons (zv 5) (za_cons (zv 8) za_nil)))))))) (zss_cons (zs_set (i := 10) sc_law.nd rfl (by first | exact .inl rfl | exact .inr rfl) (ze_op op_addZ (ze_op op_addZ (ze_callTy call_tupleZ rfl (by rfl) (T.free 4) (za_cons (sl_z (zv 5) zo_none (zo_some (zv 8))) za_nil)) (ze_tup (za_cons (zv 9) za_nil))) (ze_callTy call_tupleZ rfl (by rfl) (T.free 4) (za_cons (sl_z (zv 5) (zo_some (ze_op op_addZ (zv 8) ze_int)) zo_none) za_nil)))) (zss_cons (zs_set (i := 11) sc_law.nd rfl (by first | exact .inl rfl | exact .inr rfl) (ze_and (ze_isi (T := .tuple) noT0 rfl rfl (T.free 12) rfl (T.free 4) (zv 9)) (ze_and (ze_cmp (op_eqZ (hu64 hr)) (ze_callB call_lenZ rfl (by rfl) (T.free 5) (za_cons (zv 9) za_nil)) ze_int (by rfl)) (ze_one (ze_call (F_is_header T) (hr.mono (by decide)) rfl (T.glo 13) (za_cons (ze_ix (ix_z (hu1 hr)) (zv 9) ze_int) za_nil)))))) (zss_cons (zs_for (passes_of rfl) rfl (zi_range1 (by rfl) (T.free 8) (za_cons (ze_callB call_lenZ rfl (by rfl) (T.free 5) (za_cons (zv 4) za_nil)) za_nil)) (zg_name (i := 12) sc_law.nd rfl (by first | exact .inl rfl | exact .inr rfl)) (zss_cons (zs_set (i := 13) sc_law.nd rfl (by first | exact .inl rfl | exact .inr rfl) (sl_z (zv 5) (zo_some (zv 12)) (zo_some (zv 8)))) (zss_cons (zs_if (zt_of (zw_and (zt_cmp op_gtZ (zv 12) (zv 8) (by rfl)) (zw_and (zt_tru (zv 11)) (zw_and1 (zt_cmp (op_leZ (hu64 hr)) (ze_ix (ix_z (hu1 hr)) (ze_ix (ix_z (hu1 hr)) (zv 9) ze_int) ze_int) (zv 12) (by rfl)))))) (zss_one (zs_set (i := 13) sc_law.nd rfl (by first | exact .inl rfl | exact .inr rfl) (sl_z (zv 5) (zo_some (zv 12)) zo_none))) zss_nil) (zss_one (zs_if (zt_cmp (op_neZ (hu64 hr)) (ze_callB (call_reprZ hr.g (hu66 hr)) rfl (by rfl) (T.free 14) (za_cons (ze_call (F_judged_heads T) (hr.mono (by decide)) rfl (T.glo 7) (za_cons (zv 2) (za_cons (ze_ix (ix_z (hu1 hr)) (zv 4) (zv 12)) (za_cons (zv 10) za_nil)))) za_nil)) (ze_callB (call_reprZ hr.g (hu66 hr)) rfl (by rfl) (T.free 14) (za_cons (zv 13) za_nil)) (by rfl)) (zss_one (zs_ret ze_bl)) zss_nil))))) (zss_cons (zs_set (i := 12) sc_law.nd rfl (by first | exact .inl rfl | exact .inr rfl) (ze_call (F__law_next T) (hr.mono (by decide)) rfl (T.glo 10) (za_cons (zv 1) (za_cons (ze_callB call_lenZ rfl (by rfl) (T.free 5) (za_cons (zv 4) za_nil)) za_nil)))) (zss_cons (zs_set (i := 14) sc_law.nd rfl (by first | exact .inl rfl | exact .inr rfl) (ze_op op_addZ (ze_lst (za_cons ze_non (za_cons (ze_tup za_nil) (za_cons ze_int (za_cons ze_str (za_cons (ze_op op_addZ (ze_ix (ix_z (hu1 hr)) (zv 5) (ze_neg ze_int)) (ze_tup (za_cons ze_int za_nil))) (za_cons (ze_tup (za_cons ze_non (za_cons (ze_ix (ix_z (hu1 hr)) (ze_ix (ix_z (hu1 hr)) (zv 5) (ze_neg ze_int)) ze_int) za_nil))) za_nil))))))) (sl_z (zv 5) (zo_some (ze_op op_addZ (zv 12) ze_int)) zo_none))) (zss_cons (zs_set (i := 15) sc_law.nd rfl (by first | exact .inl rfl | exact .inr rfl) (ze_ix (ix_z (hu1 hr)) (zv 14) (ze_call (F__law_next T) (hr.mono (by decide)) rfl (T.glo 10) (za_cons (zv 1) (za_cons (ze_callB call_lenZ rfl (by rfl) (T.free 5) (za_cons (zv 14) za_nil)) za_nil))))) (zss_one (zs_if (zt_cmp (op_neZ (hu64 hr)) (ze_call (F_judged_heads T) (hr.mono (by decide)) rfl (T.glo 7) (za_cons (zv 2) (za_cons (ze_ix (ix_z (hu1 hr)) (zv 4) (zv 12)) (za_cons (ze_op op_addZ (ze_tup (za_cons (zv 15) za_nil)) (ze_callTy call_tupleZ rfl (by rfl) (T.free 4) (za_cons (sl_z (zv 5) (zo_some (zv 12)) zo_none) za_nil))) za_nil)))) (ze_lst za_nil) (by rfl)) (zss_one (zs_ret ze_bl)) zss_nil)))))))))))) (zss_cons (zs_set (i := 12) sc_law.nd rfl (by first | exact .inl rfl | exact .inr rfl) (ze_call (F__law_next T) (hr.mono (by decide)) rfl (T.glo 10) (za_cons (zv 1) (za_cons (ze_callB call_lenZ rfl (by rfl) (T.free 5) (za_cons (zv 4) za_nil)) za_nil)))) (zss_cons (zs_setLc (i := 16) (own := [(("head" : Str), 17)]) rfl sc_law.nd rfl rfl (sw_true rfl rfl rfl rfl) (zi_val (sl_z (zv 5) zo_none (zo_some (zv 12)))) (blkOk_by (own := [(("head" : Str), 17)]) (by with_unfolding_all rfl)) (fun _ _ _ _ _ => (zp_name (i := 17) sc_law.nd rfl (by first | exact .inl rfl | exact .inr rfl))) (fun _ _ _ _ _ => zts_nil) (fun _ _ _ _ _ => (ze_tup (za_cons (ze_ix (ix_z (hu1 hr)) (zv 17) ze_int) (za_cons ze_non za_nil))))) (zss_one (zs_ret (ze_cmp (op_eqZ (hu64 hr)) (ze_callB (call_reprZ hr.g (hu66 hr)) rfl (by rfl) (T.free 14) (za_cons (ze_call (F_judged_heads T) (hr.mono (by decide)) rfl (T.glo 7) (za_cons (zv 2) (za_cons (ze_ix (ix_z (hu1 hr)) (zv 4) (zv 12)) (za_cons (ze_callTy call_tupleZ rfl (by rfl) (T.free 4) (za_cons (ze_op op_addZ (zv 16) (sl_z (zv 5) (zo_some (zv 12)) zo_none)) za_nil)) za_nil)))) za_nil)) (ze_callB (call_reprZ hr.g (hu66 hr)) rfl (by rfl) (T.free 14) (za_cons (sl_z (zv 5) (zo_some (zv 12)) zo_none) za_nil)) (by rfl)))))))))))))
theorem F_law (T : Txt fa fb fn K mg) : FnZ P w K mg base 7 1 f_law (He.fAd K d_law.at_) := by
  obtain ⟨fd, F⟩ := T.def_ 26 (d := d_law) rfl
  exact fnz_of (x := "law") (N := ["script", "state", "registry", "pens", "headers", "heads", "bad", "turn", "index", "spoilt", "row", "is_pair", "start", "due", "junk", "front", "elder", "head"]) (ps := ["script"]) F sc_law (FunD.bindsN F fun _ _ _ _ _ _ us hl => match us, hl with | [_], _ => rfl) rfl (z_law T)
end
end K21

namespace K21
open PySem PySem.Spec PyProof.Rows L2 ZL ZG ZF ZN ZH
theorem next_eq : f__law_next = ZN.f__law_next := rfl
theorem own_eq : f__law_owners = ZW.f__law_owners := rfl
theorem judge_eq : f_judged_heads = ZH.f_judged_heads := rfl
theorem head_eq : f_is_header = ZH.f_is_header := rfl
theorem reg_eq : f_Registry___init__ = ZG.f_Registry___init__ := rfl
theorem pen_eq : f_Registry_pen = ZG.f_Registry_pen := rfl
theorem seal_eq : f_Pen_seal = ZG.f_Pen_seal := rfl
theorem name_eq : f_Registry_name = ZG.f_Registry_name := rfl
/-! ### names that are there -/
theorem pos_lt : ∀ {vs : List Z} {v : Z}, v ∈ vs → posZ vs v < vs.length
  | u :: us, v, m => by
    unfold posZ
    split
    · simp
    · rename_i c
      have := pos_lt (vs := us) (v := v) ((List.mem_cons.mp m).resolve_left fun e => c e.symm)
      simp; omega
theorem ins_in {vs : List Z} {v : Z} (m : v ∈ vs) : insV vs v = vs := if_pos (pos_lt m)
theorem pos_app : ∀ {vs ws : List Z} {v : Z}, v ∈ vs → posZ (vs ++ ws) v = posZ vs v
  | u :: us, ws, v, m => by
    show (if u = v then 0 else posZ (us ++ ws) v + 1) = (if u = v then 0 else posZ us v + 1)
    split
    · rfl
    · rename_i c
      rw [pos_app ((List.mem_cons.mp m).resolve_left fun e => c e.symm)]
theorem pos_inj : ∀ {vs : List Z} {u v : Z}, u ∈ vs → posZ vs u = posZ vs v → u = v
  | y :: ys, u, v, m, e => by
    unfold posZ at e
    by_cases c1 : y = u
    · rw [if_pos c1] at e
      by_cases c2 : y = v
      · rw [← c1, ← c2]
      · rw [if_neg c2] at e; cases e
    · rw [if_neg c1] at e
      by_cases c2 : y = v
      · rw [if_pos c2] at e; cases e
      · rw [if_neg c2] at e
        exact pos_inj ((List.mem_cons.mp m).resolve_left fun z => c1 z.symm) (by omega)
theorem mem_ins {vs : List Z} {v : Z} : v ∈ insV vs v := by
  unfold insV
  split
  · rename_i h
    have key : ∀ {vs : List Z}, posZ vs v < vs.length → v ∈ vs := by
      intro vs
      induction vs with
      | nil => intro h; simp at h
      | cons u us ih =>
        intro h
        unfold posZ at h
        split at h
        · rename_i c; rw [c]; exact List.mem_cons_self
        · exact List.mem_cons_of_mem _ (ih (by simp at h; omega))
    exact key h
  · simp
theorem ins_pre {vs : List Z} {v : Z} : ∃ w, insV vs v = vs ++ w ∧ w.length ≤ 1 := by
  unfold insV
  split
  · exact ⟨[], by simp⟩
  · exact ⟨[v], rfl, by simp⟩
theorem pos_ins {vs : List Z} {v : Z} : posZ (insV vs v) v = posZ vs v := by
  by_cases m : v ∈ vs
  · rw [ins_in m]
  · unfold insV
    split
    · rfl
    · have key : ∀ {vs : List Z}, v ∉ vs → posZ (vs ++ [v]) v = vs.length ∧ posZ vs v = vs.length := by
        intro vs
        induction vs with
        | nil => intro _; simp [posZ]
        | cons u us ih =>
          intro h
          simp only [List.mem_cons, not_or] at h
          have c : ¬ u = v := fun e => h.1 e.symm
          obtain ⟨a, b⟩ := ih h.2
          constructor
          · show (if u = v then 0 else posZ (us ++ [v]) v + 1) = _
            rw [if_neg c, a]; rfl
          · show (if u = v then 0 else posZ us v + 1) = _
            rw [if_neg c, b]; rfl
      obtain ⟨a, b⟩ := key m
      rw [a, b]
/-! ### more seals, more names -/
theorem mem_mono {S s : Seals} {o v : Z} (h : memS S o v = true) : memS (S ++ s) o v = true := by
  unfold memS at h ⊢
  rw [List.any_append, h]; rfl
theorem seals_mono {S s : Seals} {body : Z} {os : List Int} : ∀ {last : Int} {zs : List Z}, sealsB S body os last zs = true → sealsB (S ++ s) body os last zs = true
  | last, [], _ => rfl
  | last, .int i :: zs, h => by
    rw [seals_int] at h ⊢
    simp only [Bool.and_eq_true] at h ⊢
    exact ⟨⟨h.1.1, mem_mono h.1.2⟩, seals_mono h.2⟩
  | last, .non :: zs, h => by cases h
  | last, .bl _ :: zs, h => by cases h
  | last, .str _ :: zs, h => by cases h
  | last, .tup _ :: zs, h => by cases h
  | last, .scr _ :: zs, h => by cases h
  | last, .ref _ :: zs, h => by cases h
  | last, .err _ :: zs, h => by cases h
theorem rows_mono {S s : Seals} {nm : Nat} {ht : Int} {os : List Int} {v : Z} (h : rowsB S nm ht os v = true) : rowsB (S ++ s) nm ht os v = true := by
  unfold rowsB at h ⊢
  split
  · exact seals_mono h
  · rename_i n
    split at h
    · rename_i e1 e2 e3
      exact absurd rfl (n _ _ _)
    · cases h
theorem cert_mono {S s : Seals} {vs ws : List Z} {hdr : Z} {ht : Int} {os : List Int} {v : Z} (m : hdr ∈ vs) (h : certB S vs hdr ht os v = true) : certB (S ++ s) (vs ++ ws) hdr ht os v = true := by
  unfold certB at h ⊢
  simp only [Bool.and_eq_true] at h ⊢
  rw [pos_app m]
  exact ⟨h.1, rows_mono h.2⟩
/-! ### a chain of heads -/
def hdO : Z → Z
  | .tup [hd, _] => hd
  | _ => .non
structure Good (S : Seals) (vs : List Z) (last : Z) (z : Z) : Prop where
  e : ∃ hd ct, z = .tup [hd, ct] ∧ headerB hd = true ∧ hd ∈ vs ∧ hgt hd = hgt last + 1 ∧ prevZ hd = .int ((posZ vs last + 1 : Nat) : Int) ∧ certB S vs hd (hgt hd) (ownL last) ct = true
  w : W 4 60 z
def Chain (S : Seals) (vs : List Z) : Z → List Z → Prop
  | last, [] => last ∈ vs
  | last, z :: zs => last ∈ vs ∧ Good S vs last z ∧ Chain S vs (hdO z) zs
def lastO : Z → List Z → Z
  | h, [] => h
  | h, z :: zs => lastO (hdO z) zs
theorem Good.mono {S s : Seals} {vs ws : List Z} {last z : Z} (m : last ∈ vs) (g : Good S vs last z) : Good (S ++ s) (vs ++ ws) last z := by
  obtain ⟨⟨hd, ct, rfl, h1, h2, h3, h4, h5⟩, w⟩ := g
  exact ⟨⟨hd, ct, rfl, h1, List.mem_append_left _ h2, h3, by rw [pos_app m]; exact h4, cert_mono h2 h5⟩, w⟩
theorem Chain.mono {S s : Seals} {vs ws : List Z} : ∀ {last : Z} {zs : List Z}, Chain S vs last zs → Chain (S ++ s) (vs ++ ws) last zs
  | last, [], c => List.mem_append_left _ c
  | last, z :: zs, c => ⟨List.mem_append_left _ c.1, c.2.1.mono c.1, Chain.mono c.2.2⟩
theorem Chain.last {S : Seals} {vs : List Z} : ∀ {last : Z} {zs : List Z}, Chain S vs last zs → last ∈ vs
  | _, [], c => c
  | _, _ :: _, c => c.1
theorem chain_app {S : Seals} {vs : List Z} : ∀ {last : Z} {xs ys : List Z}, Chain S vs last (xs ++ ys) ↔ Chain S vs last xs ∧ Chain S vs (lastO last xs) ys
  | last, [], ys => ⟨fun c => ⟨c.last, c⟩, fun c => c.2⟩
  | last, x :: xs, ys => by
    show (last ∈ vs ∧ Good S vs last x ∧ Chain S vs (hdO x) (xs ++ ys)) ↔ (last ∈ vs ∧ Good S vs last x ∧ Chain S vs (hdO x) xs) ∧ Chain S vs (lastO (hdO x) xs) ys
    rw [chain_app]
    constructor
    · rintro ⟨a, b, c, d⟩; exact ⟨⟨a, b, c⟩, d⟩
    · rintro ⟨⟨a, b, c⟩, d⟩; exact ⟨a, b, c, d⟩
theorem lastO_app : ∀ {last : Z} {xs ys : List Z}, lastO last (xs ++ ys) = lastO (lastO last xs) ys
  | _, [], _ => rfl
  | _, x :: xs, ys => lastO_app (last := hdO x) (xs := xs) (ys := ys)
theorem chain_hgt {S : Seals} {vs : List Z} : ∀ {last : Z} {zs : List Z}, Chain S vs last zs → hgt (lastO last zs) = hgt last + zs.length
  | last, [], _ => by show hgt last = hgt last + ((0 : Nat) : Int); simp
  | last, z :: zs, c => by
    have := chain_hgt c.2.2
    obtain ⟨⟨hd, ct, rfl, h1, h2, h3, h4, h5⟩, w⟩ := c.2.1
    show hgt (lastO hd zs) = _
    have e : hdO (.tup [hd, ct]) = hd := rfl
    rw [e] at this
    rw [this, h3]
    simp; omega
/-- what is taken of a chain, and what comes behind -/
theorem judge_app {S : Seals} {vs : List Z} : ∀ {last : Z} {zs ys : List Z}, Chain S vs last zs → judgeZ S vs last (zs ++ ys) = (zs ++ (judgeZ S vs (lastO last zs) ys).1, (judgeZ S vs (lastO last zs) ys).2)
  | last, [], ys, _ => rfl
  | last, z :: zs, ys, c => by
    have ih := judge_app (ys := ys) c.2.2
    have m := c.1
    obtain ⟨⟨hd, ct, rfl, h1, h2, h3, h4, h5⟩, w⟩ := c.2.1
    have e : hdO (.tup [hd, ct]) = hd := rfl
    rw [e] at ih
    rw [List.cons_append, judge_cons, if_pos h1, if_pos h3, if_pos h4, ins_in m, if_pos h5]
    have : certN vs hd (ownL last) ct = vs := by
      unfold certN
      split
      · exact ins_in h2
      · rfl
    rw [this, ih]
    rfl
theorem judge_all {S : Seals} {vs : List Z} {last : Z} {zs : List Z} (c : Chain S vs last zs) : judgeZ S vs last zs = (zs, vs) := by
  have := judge_app (ys := []) c
  rw [List.append_nil] at this
  rw [this]
  show (zs ++ [], vs) = _
  rw [List.append_nil]
theorem chain_old {S : Seals} {vs : List Z} {ht : Int} : ∀ {last : Z} {zs : List Z}, Chain S vs last zs → hgt last + zs.length ≤ ht → ∀ z ∈ zs, oldB ht z = true
  | last, z :: zs, c, h, y, m => by
    obtain ⟨⟨hd, ct, rfl, h1, h2, h3, h4, h5⟩, w⟩ := c.2.1
    simp only [List.length_cons] at h
    rcases List.mem_cons.mp m with rfl | m
    · show (headerB hd && decide (hgt hd ≤ ht)) = true
      rw [h1, decide_eq_true (by omega)]; rfl
    · exact chain_old c.2.2 (by show hgt hd + _ ≤ _; omega) y m
theorem drop_old {p : Z → Bool} : ∀ {xs ys : List Z}, (∀ x ∈ xs, p x = true) → (xs ++ ys).dropWhile p = ys.dropWhile p
  | [], _, _ => rfl
  | x :: xs, ys, h => by
    rw [List.cons_append, List.dropWhile_cons, h x List.mem_cons_self]
    simp
    exact drop_old fun y m => h y (List.mem_cons_of_mem _ m)
theorem drop_new {p : Z → Bool} {x : Z} {xs : List Z} (h : p x = false) : (x :: xs).dropWhile p = x :: xs := by
  rw [List.dropWhile_cons, h]; simp
theorem chain_new {S : Seals} {vs : List Z} {last z : Z} {zs : List Z} (c : Chain S vs last (z :: zs)) : oldB (hgt last) z = false := by
  obtain ⟨⟨hd, ct, rfl, h1, h2, h3, h4, h5⟩, w⟩ := c.2.1
  show (headerB hd && decide (hgt hd ≤ hgt last)) = false
  rw [decide_eq_false (by omega)]; simp
theorem chain_drop {S : Seals} {vs : List Z} {last : Z} {zs : List Z} (c : Chain S vs last zs) : zs.dropWhile (oldB (hgt last)) = zs := by
  cases zs with
  | nil => rfl
  | cons z zs => exact drop_new (chain_new c)
end K21
namespace K21
open PySem PySem.Spec PyProof.Rows L2 ZL ZG ZF ZN ZH
section
variable {s l : Nat} {ns : List Int} {h h' : ZH} {x ra rb rc p : Nat} {vs : List Z} {S : Seals} {O : List Int} {P : PZ} {E : XZ → ZH → Prop}
theorem Rp.dget (r : Rp h x ra rb rc p vs S O) : ∃ kp, h[p]? = some (ZO.dict kp) ∧ ∀ i : Int, dkey kp (.int i) ∧ (ZL.dget kp (.int i)).isSome = decide (i ∈ O) := by
  obtain ⟨_, _, ⟨kp, e, d1, d2, d3⟩, _⟩ := r
  refine ⟨kp, e, fun i => ⟨⟨rfl, d1⟩, ?_⟩⟩
  have := d3 i
  cases e : ZL.dget kp (.int i) with
  | none => rw [e] at this; rw [decide_eq_false this]; rfl
  | some z => rw [e] at this; rw [decide_eq_true this.1]; rfl
theorem pens_loop {w : Z} {chk : ZH → Prop} {os : List Int} (r : Rp h x ra rb rc p vs S O) (lO : O.length + os.length ≤ 1000) (hc : ∀ h', Keep h h' [rb, p] → chk h') {D : ZEnds} {E : EZ}
    (q : ∀ h' O' z, Keep h h' [rb, p] → Rp h' x ra rb rc p vs S O' → (∀ i ∈ O, i ∈ O') → (∀ i ∈ os, i ∈ O') → O'.length ≤ O.length + os.length → D.nx [some (.ref x), some w, some (.ref p), z] h') :
    forZ (wgName 3) (wsIf (ZL.wB (w2 oNotIn (wVar 3) (wVar 2))) (wsAsg (wMeth "Registry" "pen" 1 f_Registry_pen (wVar 0) (wCons (wVar 3) wNil)) (wgSub (wVar 2) (wVar 3))) wsNext) chk D E (os.map Z.int) [some (.ref x), some w, some (.ref p), none] h := by
  refine forZ_ind (fun us env h' => ∃ (O' us' : List Int) (z : Option Z), us = us'.map Z.int ∧ Rp h' x ra rb rc p vs S O' ∧ Keep h h' [rb, p] ∧ (∀ i ∈ O, i ∈ O') ∧ (∀ i ∈ os, i ∈ O' ∨ i ∈ us') ∧ O'.length + us'.length ≤ O.length + os.length ∧ env = [some (.ref x), some w, some (.ref p), z]) ?_ ?_ _ _ _ ⟨O, os, none, rfl, r, .refl _ _, fun i m => m, fun i m => .inr m, Nat.le_refl _, rfl⟩
  · rintro env h' ⟨O', us', z, e, r', k, h1, h2, h3, rfl⟩
    refine ⟨hc _ k, ?_⟩
    have : us' = [] := by cases us' with
      | nil => rfl
      | cons _ _ => cases e
    subst this
    exact q h' O' z k r' h1 (fun i m => (h2 i m).resolve_right (by simp)) (by simpa using h3)
  · rintro z us env h' N hN ⟨O', us', z', e, r', k, h1, h2, h3, rfl⟩
    refine ⟨hc _ k, ?_⟩
    cases us' with
    | nil => cases e
    | cons i us' =>
      obtain ⟨rfl, rfl⟩ := List.cons.inj e
      obtain ⟨kp, ep, dk⟩ := Rp.dget r'
      obtain ⟨k1, k2⟩ := dk i
      simp only [List.length_cons] at h3
      rw [pen_eq]
      simp [oNotIn, inZ, ep, k1, k2, r'.re.ex]
      by_cases c : i ∈ O'
      · simp [c]
        exact hN _ _ ⟨O', us', _, rfl, r', k, h1, fun j m => by
          rcases h2 j m with m | m
          · exact .inl m
          · rcases List.mem_cons.mp m with rfl | m
            · exact .inl c
            · exact .inr m, by omega, rfl⟩
      · simp [c, r'.re.ex]
        refine r'.pen c (by omega) fun h4 n kp4 k4 ep4 kd4 lk4 r4 => ?_
        simp [ep4, kd4, sizeLine_eq]
        refine ⟨by omega, hN _ _ ⟨O' ++ [i], us', _, rfl, r4, ?_, fun j m => List.mem_append_left _ (h1 j m), fun j m => ?_, by simp; omega, rfl⟩⟩
        · refine Keep.trans k ((k4.mono fun n _ m => by simp at m; simp [m]).set _ fun _ => by simp)
        · rcases h2 j m with m | m
          · exact .inl (List.mem_append_left _ m)
          · rcases List.mem_cons.mp m with rfl | m
            · exact .inl (by simp)
            · exact .inr m
theorem pensT_ok {os : List Int} (r : Rp h x ra rb rc p vs S O) (lO : O.length + os.length ≤ 1000)
    (q : ∀ h' O', Keep h h' [rb, p] → Rp h' x ra rb rc p vs S O' → (∀ i ∈ O, i ∈ O') → (∀ i ∈ os, i ∈ O') → O'.length ≤ O.length + os.length → P .non h') : f__law_pens [.ref x, .tup (os.map Z.int), .ref p] h P E := by
  unfold f__law_pens wfOf w__law_pens
  simp
  exact pens_loop r lO (fun _ _ => trivial) fun h' O' z k r' h1 h2 h3 => q h' O' k r' h1 h2 h3
theorem pensL_ok {os : List Int} {n : Nat} (en : h[n]? = some (.lst (os.map Z.int))) (r : Rp h x ra rb rc p vs S O) (lO : O.length + os.length ≤ 1000)
    (q : ∀ h' O', Keep h h' [rb, p] → Rp h' x ra rb rc p vs S O' → (∀ i ∈ O, i ∈ O') → (∀ i ∈ os, i ∈ O') → O'.length ≤ O.length + os.length → P .non h') : f__law_pens [.ref x, .ref n, .ref p] h P E := by
  unfold f__law_pens wfOf w__law_pens
  simp [en]
  have n4 := r.nd4 en (by simp)
  exact pens_loop r lO (fun h' k => k.get en (by simp at n4 ⊢; exact ⟨n4.2.1, n4.2.2.2⟩)) fun h' O' z k r' h1 h2 h3 => q h' O' k r' h1 h2 h3
end
end K21
namespace K21
open PySem PySem.Spec PyProof.Rows L2 ZL ZG ZF ZN ZH
/-- owners of certificates -/
structure OwnC (os : List Int) : Prop where
  l : os.length = 4 ∨ os.length = 7 ∨ os.length = 10
  n : os.Nodup
  b : ∀ i ∈ os, 1 ≤ i ∧ i ≤ 999
def sealAll (fs : List Int) (body : Z) : Seals := fs.map fun i => (.int i, body)
theorem quo_len {n : Nat} (h : n = 4 ∨ n = 7 ∨ n = 10) : (n = 4 ∧ quo n = 3) ∨ (n = 7 ∧ quo n = 5) ∨ (n = 10 ∧ quo n = 7) := by
  rcases h with h | h | h <;> subst h <;> decide
section
variable {s l : Nat} {ns : List Int} {h h' : ZH} {x ra rb rc p : Nat} {vs : List Z} {S : Seals} {O : List Int} {P : PZ} {E : XZ → ZH → Prop}
theorem certified_ok (st : ZN.St h s l ns) (r : Rp h x ra rb rc p vs S O) {ht b c e : Int} {ho : List Int} (rh : Rv (hdrZ ht b c e ho)) (hht : ht.natAbs < 1000) {os : List Int} (oc : OwnC os) (hO : ∀ i ∈ os, i ∈ O) (lv : vs.length ≤ 1000) (lS : S.length ≤ 10000)
    (q : ∀ h' nb few, Keep h h' [s, ra, rc] → ZN.St h' s l ns → Rp h' x ra rb rc p (insV vs (hdrZ ht b c e ho)) (S ++ sealAll few (bodyZ ht nb (posZ vs (hdrZ ht b c e ho) + 1))) O → 0 ≤ nb → nb < 4 → few.Pairwise (· < ·) → (∀ i ∈ few, i ∈ os) → quo os.length ≤ (few.length : Int) → few.length ≤ 10 →
      P (.tup [.str "certificate", .int nb, .tup (few.map Z.int)]) h') : f__law_certified [.ref s, .ref x, .ref p, hdrZ ht b c e ho, .tup (os.map Z.int)] h P E := by
  unfold f__law_certified wfOf w__law_certified
  rw [next_eq, name_eq, seal_eq]
  have ol := oc.l
  have hq := quo_len ol
  have i1 : ∀ {a b c e : Int} {os : List Int}, oIx (hdrZ a b c e os) (.int 1) = fun h P => P (.int a) h := fun {a b c e os} => by
    funext h P
    simp [hdrZ]
  simp
  refine next_ok (m := 4) st (by decide) (by decide) fun h1 nb k1 st1 nb0 nb1 => ?_
  have r1 := r.st st k1
  simp [i1, r1.re.ex]
  refine r1.name rh (by omega) fun h2 k2 r2 => ?_
  have st2 : ZN.St h2 s l ns := St.rp st1 r1 (k2.mono fun n _ m => by simp at m; simp [m])
  simp [sizeLine_eq]
  refine ⟨⟨by omega, by omega⟩, .inl ⟨by decide, by decide⟩, ?_⟩
  rw [ZH.ints_map]
  refine ⟨os, rfl, fun so pm pw => ?_⟩
  have eq0 : 2 * (((os.length : Int) - 1) / 3) + 1 = quo os.length := rfl
  rw [eq0]
  obtain ⟨k, hk⟩ : ∃ k : Nat, quo os.length = (k : Int) := ⟨(quo os.length).toNat, by omega⟩
  rw [hk]
  refine next_ok (m := (os.length : Int) - (k : Int) + 1) (ZN.St.app st2 _) (by omega) (by omega) fun h3 dd k3 st3 d0 d1 => ?_
  have e3 := at_new k3 st2.lt
  obtain ⟨j, hj⟩ : ∃ j : Nat, (k : Int) + dd = (j : Int) := ⟨((k : Int) + dd).toNat, by omega⟩
  have lso : so.length = os.length := pm.length_eq
  have cj : cutZ (so.map Z.int) none (some (j : Int)) = (so.take j).map Z.int := by
    rw [ZW.cut_to (by simp; omega), List.map_take]
  simp [hj, e3, cj, -List.map_take]
  have nso : so.Nodup := pm.nodup_iff.mpr oc.n
  have pso := lt_of_le pw nso
  have pfew : (so.take j).Pairwise (· < ·) := pso.sublist (List.take_sublist j so)
  have mfew : ∀ i ∈ so.take j, i ∈ os := fun i m => pm.mem_iff.mp (List.mem_of_mem_take m)
  have lfew : (so.take j).length = j := by simp; omega
  generalize so.take j = few at pfew mfew lfew
  have r3 := (r2.app [ZO.lst (so.map Z.int)]).st (ZN.St.app st2 _) k3
  have k03 : Keep h h3 [s, ra, rc] := by
    refine Keep.trans (k1.mono fun n _ m => by simp at m; simp [m]) (Keep.trans (k2.mono fun n _ m => by simp at m; simp [m]) ?_)
    exact (Keep.app0 k3).mono fun n _ m => by simp at m; simp [m]
  generalize hc : ((posZ vs (hdrZ ht b c e ho) : Nat) : Int) + 1 = nm
  have eb : Z.tup [Z.str (Str.ofString "precommit"), Z.int ht, Z.int nb, Z.int nm] = bodyZ ht nb (posZ vs (hdrZ ht b c e ho) + 1) := by rw [← hc]; rfl
  have lpos := pos_le (us := vs) (v := hdrZ ht b c e ho)
  have rbody : Rv (bodyZ ht nb (posZ vs (hdrZ ht b c e ho) + 1)) := body_rv (by omega) (by omega) (by omega)
  rw [eb]
  have q := fun h' few => q h' nb few
  generalize bodyZ ht nb (posZ vs (hdrZ ht b c e ho) + 1) = body at rbody q
  clear eb
  have r4 := r3.app [ZO.lst (few.map Z.int)]
  have st4 := ZN.St.app st3 [ZO.lst (few.map Z.int)]
  have e4 : (h3 ++ [ZO.lst (few.map Z.int)])[h3.length]? = some (ZO.lst (few.map Z.int)) := by simp
  have k04 : Keep h (h3 ++ [ZO.lst (few.map Z.int)]) [s, ra, rc] := k03.app _
  generalize h3 ++ [ZO.lst (few.map Z.int)] = h4 at r4 st4 e4 k04
  generalize h3.length = nf at e4
  refine forZ_ind (fun us env h' => ∃ (fs us' : List Int) (z : Option Z), us = us'.map Z.int ∧ few = fs ++ us' ∧ Rp h' x ra rb rc p (insV vs (hdrZ ht b c e ho)) (S ++ sealAll fs body) O ∧ ZN.St h' s l ns ∧ h'[nf]? = some (ZO.lst (few.map Z.int)) ∧ Keep h h' [s, ra, rc] ∧
    env = [some (.ref s), some (.ref x), some (.ref p), some (hdrZ ht b c e ho), some (.tup (os.map Z.int)), some (.int nb), some body, some (.int (k : Int)), some (.ref nf), z]) ?_ ?_ _ _ _ ⟨[], few, none, rfl, rfl, by simpa [sealAll] using r4, st4, e4, k04, rfl⟩
  · rintro env h' ⟨fs, us', z, e1, e2, r', st', e', k', rfl⟩
    refine ⟨e', ?_⟩
    have : us' = [] := by cases us' with
      | nil => rfl
      | cons _ _ => cases e1
    subst this
    rw [List.append_nil] at e2
    subst e2
    simp [e', sizeLine_eq]
    exact q h' few k' st' r' nb0 nb1 pfew mfew (by omega) (by omega)
  · rintro z us env h' N hN ⟨fs, us', z', e1, e2, r', st', e', k', rfl⟩
    refine ⟨e', ?_⟩
    cases us' with
    | nil => cases e1
    | cons i us' =>
      obtain ⟨rfl, rfl⟩ := List.cons.inj e1
      have mi : i ∈ os := mfew i (by rw [e2]; simp)
      have bi := oc.b i mi
      have lf : fs.length ≤ 10 := by rw [e2] at lfew; simp at lfew; omega
      obtain ⟨kp, n, e6, e7, e8, e9, sealf⟩ := r'.seal (hO i mi) (by omega) (by simp [sealAll]; omega)
      simp [e6, e7, e8, e9, -List.lookup_eq_none_iff]
      refine sealf body rbody _ _ fun h8 k8 r8 => ?_
      have q8 : ∀ {m : Nat} {zs : List Z}, h'[m]? = some (ZO.lst zs) → h8[m]? = some (ZO.lst zs) := fun {m zs} e => by
        have n1 := r'.nd4 e (by simp)
        simp at n1
        exact k8.get e (by simp; exact n1.2.2.1)
      simp
      refine hN _ _ ⟨fs ++ [i], us', _, rfl, by rw [e2]; simp, ?_, ?_, q8 e', k'.trans (k8.mono fun n _ m => by simp at m; simp [m]), rfl⟩
      · have : S ++ sealAll (fs ++ [i]) body = S ++ sealAll fs body ++ [(.int i, body)] := by simp [sealAll]
        rw [this]; exact r8
      · obtain ⟨⟨y1, y2, y3, hs, yr⟩, hl, yn⟩ := st'
        exact ⟨⟨y1, y2, y3, q8 hs, yr⟩, q8 hl, yn⟩
end
end K21
namespace K21
open PySem PySem.Spec PyProof.Rows L2 ZL ZG ZF ZN ZH
structure HdI (a b c e : Int) (os : List Int) : Prop where
  o : OwnC os
  m : ∀ i ∈ os, i ≤ 981
  a : 0 ≤ a ∧ a ≤ 10
  b : 0 ≤ b ∧ b ≤ 1000
  c : 0 ≤ c ∧ c ≤ 1000
  e : 0 ≤ e ∧ e ≤ 1000
def HdS (z : Z) : Prop := ∃ a b c e os, z = hdrZ a b c e os ∧ HdI a b c e os
theorem own_w {os : List Int} (o : OwnC os) : W 1 11 (.tup (os.map Z.int)) := by
  have l := o.l
  exact (W.tup (d := 0) (n := 1) (zs := os.map Z.int) fun z m => by
    obtain ⟨i, hi, rfl⟩ := List.mem_map.mp m
    have := o.b i hi
    exact w_int (by omega)).le (Nat.le_refl _) (by simp; omega)
theorem hdr_w {a b c e : Int} {os : List Int} (o : OwnC os) (ha : a.natAbs < 10000) (hb : b.natAbs < 10000) (hc : c.natAbs < 10000) (he : e.natAbs < 10000) : W 2 17 (hdrZ a b c e os) := by
  have wo := own_w o
  have := W.tup (d := 1) (n := 11) (zs := [.str "header", .int a, .int b, .int c, .int e, .tup (os.map Z.int)]) (by
    intro z m
    simp only [List.mem_cons, List.mem_nil_iff, or_false] at m
    rcases m with rfl | rfl | rfl | rfl | rfl | rfl
    · exact (w_str (by decide +kernel)).le (by decide) (by decide)
    · exact (w_int (by omega)).le (by decide) (by decide)
    · exact (w_int (by omega)).le (by decide) (by decide)
    · exact (w_int (by omega)).le (by decide) (by decide)
    · exact (w_int (by omega)).le (by decide) (by decide)
    · exact wo)
  refine ⟨this.nc, this.s, ?_, this.p⟩
  have := wo.z
  show 1 + (1 + (1 + (1 + (1 + (sizeZ (.tup (os.map Z.int)) + 0))))) + 1 ≤ 17
  omega
theorem ownB_ok {os : List Int} (o : OwnC os) : ownB (os.map Z.int) = true := by
  unfold ownB
  rw [List.all_map, List.map_map]
  have e : (intZ ∘ Z.int) = id := rfl
  rw [e, List.map_id, decide_eq_true o.n, Bool.and_true, List.all_eq_true]
  intro i m
  have := o.b i m
  show (decide (1 ≤ i) && decide (i ≤ 999)) = true
  simp; omega
theorem ownersB_ok {os : List Int} (o : OwnC os) : ownersB (.tup (os.map Z.int)) = true := by
  show ((decide (_ = 4) || decide (_ = 7) || decide (_ = 10)) && ownB _) = true
  rw [ownB_ok o, List.length_map]
  rcases o.l with h | h | h <;> simp [h]
theorem hdr_good {a b c e : Int} {os : List Int} (o : OwnC os) (ha : 0 ≤ a ∧ a < 10000) (hb : 0 ≤ b ∧ b < 10000) (hc : 0 ≤ c ∧ c < 10000) (he : 0 ≤ e ∧ e < 10000) : headerB (hdrZ a b c e os) = true := by
  have p := (hdr_w o (by omega : a.natAbs < 10000) (by omega : b.natAbs < 10000) (by omega : c.natAbs < 10000) (by omega : e.natAbs < 10000)).p 30 (by decide)
  unfold headerB
  rw [p]
  show (wordB "header" (.str "header") && (natB (.int a) && natB (.int b) && natB (.int c) && natB (.int e)) && ownersB (.tup (os.map Z.int))) = true
  rw [ownersB_ok o, show natB (.int a) = true from decide_eq_true (by omega), show natB (.int b) = true from decide_eq_true (by omega), show natB (.int c) = true from decide_eq_true (by omega), show natB (.int e) = true from decide_eq_true (by omega)]
  decide +kernel
theorem HdI.w {a b c e : Int} {os : List Int} (d : HdI a b c e os) : W 2 17 (hdrZ a b c e os) := by
  have := d.a; have := d.b; have := d.c; have := d.e
  exact hdr_w d.o (by omega) (by omega) (by omega) (by omega)
theorem HdI.g {a b c e : Int} {os : List Int} (d : HdI a b c e os) : headerB (hdrZ a b c e os) = true := by
  have := d.a; have := d.b; have := d.c; have := d.e
  exact hdr_good d.o (by omega) (by omega) (by omega) (by omega)
/-- a certificate -/
def ctZ (nb : Int) (few : List Int) : Z := .tup [.str "certificate", .int nb, .tup (few.map Z.int)]
structure CtI (nb : Int) (few : List Int) : Prop where
  n : 0 ≤ nb ∧ nb < 4
  p : few.Pairwise (· < ·)
  b : ∀ i ∈ few, 1 ≤ i ∧ i ≤ 999
  l : few.length ≤ 10
theorem ct_w {nb : Int} {few : List Int} (hn : nb.natAbs < 1000) (hb : ∀ i ∈ few, 1 ≤ i ∧ i ≤ 999) (hl : few.length ≤ 10) : W 2 14 (ctZ nb few) := by
  have wo : W 1 11 (.tup (few.map Z.int)) := (W.tup (d := 0) (n := 1) (zs := few.map Z.int) fun z m => by
    obtain ⟨i, hi, rfl⟩ := List.mem_map.mp m
    have := hb i hi
    exact w_int (by omega)).le (Nat.le_refl _) (by simp; omega)
  have := wt3 (d := 1) (n := 11) ((w_str (x := "certificate") (by decide +kernel)).le (by decide) (by decide)) ((w_int (i := nb) (by omega)).le (by decide) (by decide)) wo
  refine ⟨this.nc, this.s, ?_, this.p⟩
  have := wo.z
  show 1 + (1 + (sizeZ (.tup (few.map Z.int)) + 0)) + 1 ≤ 14
  omega
theorem CtI.w {nb : Int} {few : List Int} (c : CtI nb few) : W 2 14 (ctZ nb few) := ct_w (by have := c.n; omega) c.b c.l
theorem mem_sealAll {S : Seals} {few : List Int} {body : Z} {i : Int} (m : i ∈ few) : memS (S ++ sealAll few body) (.int i) body = true := by
  unfold memS sealAll
  rw [List.any_append, Bool.or_eq_true]
  exact .inr (List.any_eq_true.mpr ⟨(.int i, body), List.mem_map.mpr ⟨i, m, rfl⟩, by simp⟩)
theorem cert_made {S : Seals} {vs : List Z} {hdr : Z} {ht nb : Int} {few os : List Int} (c : CtI nb few) (sub : ∀ i ∈ few, i ∈ os) (lq : quo os.length ≤ (few.length : Int)) :
    certB (S ++ sealAll few (bodyZ ht nb (posZ vs hdr + 1))) (insV vs hdr) hdr ht os (ctZ nb few) = true := by
  unfold certB
  rw [c.w.p 30 (by decide), pos_ins]
  have e1 : askB os (ctZ nb few) = true := by
    show (wordB "certificate" (.str "certificate") && natB (.int nb) && decide (quo os.length ≤ ((few.map Z.int).length : Int))) = true
    rw [show natB (.int nb) = true from decide_eq_true c.n.1, show wordB "certificate" (.str "certificate") = true from by decide +kernel, decide_eq_true (by simpa using lq)]; rfl
  rw [e1]
  show sealsB _ (bodyZ ht nb (posZ vs hdr + 1)) os 0 (few.map Z.int) = true
  exact seals_good c.p fun i m => ⟨by have := c.b i m; omega, (c.b i m).2, sub i m, mem_sealAll m⟩
end K21
namespace K21
open PySem PySem.Spec PyProof.Rows L2 ZL ZG ZF ZN ZH
def SealN (S : Seals) : Prop := ∀ t ∈ S, ∃ a n m, t.2 = bodyZ a n m ∧ 0 ≤ n ∧ n < 4
theorem sealN_app {S : Seals} {few : List Int} {a n : Int} {m : Nat} (h : SealN S) (hn : 0 ≤ n ∧ n < 4) : SealN (S ++ sealAll few (bodyZ a n m)) := by
  intro t mt
  rcases List.mem_append.mp mt with mt | mt
  · exact h t mt
  · obtain ⟨i, _, rfl⟩ := List.mem_map.mp mt
    exact ⟨a, n, m, rfl, hn⟩
theorem sealN_app' {S : Seals} {few : List Int} {a n : Int} {m : Nat} {body : Z} (h : SealN S) (e : bodyZ a n m = body) (hn : 0 ≤ n ∧ n < 4) : SealN (S ++ sealAll few body) := by
  rw [← e]; exact sealN_app h hn
/-- the state behind the chain -/
structure Wd (h : ZH) (s l : Nat) (ns : List Int) (x ra rb rc p n3 n4 : Nat) (H0 : Z) (zs vs : List Z) (S : Seals) (O : List Int) : Prop where
  st : ZN.St h s l ns
  rp : Rp h x ra rb rc p vs S O
  e3 : h[n3]? = some (ZO.lst (H0 :: zs.map hdO))
  e4 : h[n4]? = some (ZO.lst zs)
  ch : zs = [] ∨ Chain S vs H0 zs
  h0 : hgt H0 = 0
  hs : ∀ u ∈ H0 :: zs.map hdO, HdS u
  cs : ∀ z ∈ zs, ∃ nb few, z = .tup [hdO z, ctZ nb few] ∧ CtI nb few
  ow : ∀ i, i < zs.length → ∀ j ∈ ownL (lastO H0 (zs.take i)), j ∈ O
  sn : SealN S
  n34 : s < n3 ∧ s < n4 ∧ l < n3 ∧ l < n4 ∧ n3 ≠ n4
section
variable {s l : Nat} {ns : List Int} {h h' : ZH} {x ra rb rc p n3 n4 : Nat} {H0 : Z} {zs vs : List Z} {S : Seals} {O : List Int} {P : PZ} {E : XZ → ZH → Prop}
theorem Wd.pre (w : Wd h s l ns x ra rb rc p n3 n4 H0 zs vs S O) (k : Pre h h') : Wd h' s l ns x ra rb rc p n3 n4 H0 zs vs S O :=
  { w with st := ZN.St.keep w.st (.of_pre k) (D := []) (by simp) (by simp), rp := w.rp.pre k, e3 := k.get w.e3, e4 := k.get w.e4 }
theorem Wd.app (w : Wd h s l ns x ra rb rc p n3 n4 H0 zs vs S O) (g : ZH) : Wd (h ++ g) s l ns x ra rb rc p n3 n4 H0 zs vs S O := w.pre (.app h g)
theorem Wd.draw (w : Wd h s l ns x ra rb rc p n3 n4 H0 zs vs S O) (k : Keep h h' [s]) (st : ZN.St h' s l ns) : Wd h' s l ns x ra rb rc p n3 n4 H0 zs vs S O := by
  have := w.n34
  exact { w with st := st, rp := w.rp.st w.st k, e3 := k.get w.e3 (by simp; omega), e4 := k.get w.e4 (by simp; omega) }
theorem Wd.judge (w : Wd h s l ns x ra rb rc p n3 n4 H0 zs vs S O) (k : Keep h h' [ra]) (r : Re h' x ra rb rc vs S) : Wd h' s l ns x ra rb rc p n3 n4 H0 zs vs S O :=
  { w with st := St.rp w.st w.rp (k.mono fun n _ m => by simp at m; simp [m]), rp := w.rp.re_up k r, e3 := k.get w.e3 (by simpa using ne_of_get w.e3 w.rp.re.ea (by simp)), e4 := k.get w.e4 (by simpa using ne_of_get w.e4 w.rp.re.ea (by simp)) }
theorem lst_keep (r : Rp h x ra rb rc p vs S O) {D : List Nat} (k : Keep h h' D) (hD : ∀ n ∈ D, n ∈ [ra, rb, rc, p]) {n : Nat} {us : List Z} (e : h[n]? = some (.lst us)) : h'[n]? = some (.lst us) := k.get e fun m => r.nd4 e (by simp) (hD n m)
theorem lastO_hd : ∀ {H0 : Z} {zs : List Z}, lastO H0 zs ∈ H0 :: zs.map hdO
  | H0, [] => List.mem_cons_self
  | H0, z :: zs => by
    have := lastO_hd (H0 := hdO z) (zs := zs)
    exact List.mem_cons_of_mem _ this
theorem lastO_take {H0 : Z} {zs : List Z} {i : Nat} (hi : i ≤ zs.length) : (H0 :: zs.map hdO)[i]? = some (lastO H0 (zs.take i)) := by
  induction zs generalizing H0 i with
  | nil =>
    have : i = 0 := by simpa using hi
    subst this; rfl
  | cons z zs ih =>
    cases i with
    | zero => rfl
    | succ i =>
      show (hdO z :: zs.map hdO)[i]? = some (lastO (hdO z) (zs.take i))
      exact ih (by simpa using hi)
theorem kIfE_via {a b : WE} {env : ZL.Env} {K : PZ} {E : EZ} {k : Bool} {h : ZH} (R : Z → ZH → Prop) (hr : ∀ z h, R z h → K z h) (h1 : ∀ N : PZ, (∀ z h, R z h → N z h) → k = true → a env h N E) (h2 : ∀ N : PZ, (∀ z h, R z h → N z h) → k = false → b env h N E) : kIfE a b env K E k h := by
  cases k with
  | true => exact h1 _ hr rfl
  | false => exact h2 _ hr rfl
theorem atI_last {H0 : Z} {zs : List Z} : L2.atI (H0 :: zs.map hdO) (-1) = some (lastO H0 zs) := by
  unfold L2.atI
  have e : L2.ixN (H0 :: zs.map hdO).length (-1) = some zs.length := by
    unfold L2.ixN
    rw [if_neg (by omega), if_pos (by simp; omega)]
    congr 1
    simp
    omega
  rw [e]
  show (H0 :: zs.map hdO)[zs.length]? = _
  rw [lastO_take (Nat.le_refl _), List.take_length]
theorem St.setL (st : ZN.St h s l ns) {n : Nat} {ys : List Z} (n1 : n ≠ s) (n2 : n ≠ l) : ZN.St (h.set n (.lst ys)) s l ns := by
  obtain ⟨⟨y1, y2, y3, hs, yr⟩, hl, yn⟩ := st
  exact ⟨⟨y1, y2, y3, by rw [List.getElem?_set_ne n1]; exact hs, yr⟩, by rw [List.getElem?_set_ne n2]; exact hl, yn⟩
theorem chain_ok (st : ZN.St h s l ns) (re : Re h x ra rb rc [] []) (hb : h[rb]? = some (.dict []))
    (q : ∀ h' p n3 n4 H0 zs vs S O, Wd h' s l ns x ra rb rc p n3 n4 H0 zs vs S O → 1 ≤ zs.length → zs.length ≤ 6 → vs.length ≤ 20 → S.length ≤ 100 → O.length ≤ 100 → P (.tup [.ref p, .ref n3, .ref n4]) h') : f__law_chain [.ref s, .ref x] h P E := by
  unfold f__law_chain wfOf w__law_chain
  rw [next_eq, own_eq, name_eq]
  simp [sizeLine_eq]
  refine next_ok (m := 50) (ZN.St.app st _) (by decide) (by decide) fun h1 d1 k1 st1 d10 d11 => ?_
  simp
  refine ZW.owners_ok st1 fun h2 os0 k2 st2 lo nd bo => ?_
  simp [sizeLine_eq]
  have hs := st.lt
  have hl := lt_of_get st.l
  have gp : h2[h.length]? = some (.dict []) := k2.get (k1.get (by simp) (by simp; omega)) (by simp; omega)
  refine next_ok (m := 6) (ZN.St.app st2 _) (by decide) (by decide) fun h3 d3 k3 st3 d30 d31 => ?_
  obtain ⟨j, rfl⟩ := Int.eq_ofNat_of_zero_le d30
  simp
  refine ⟨⟨by omega, by omega⟩, ?_⟩
  have eH : Z.tup [Z.str (Str.ofString "header"), Z.int 0, Z.int 0, Z.int 0, Z.int (1 + d1), Z.tup (os0.map Z.int)] = hdrZ 0 0 0 (1 + d1) os0 := rfl
  have hH : HdI 0 0 0 (1 + d1) os0 := ⟨⟨lo, nd, fun i m => by have := bo i m; omega⟩, fun i m => (bo i m).2, by omega, by omega, by omega, by omega⟩
  rw [eH] at k3
  have la := lt_of_get re.ea
  have lb := lt_of_get hb
  obtain ⟨kc, hc, okc⟩ := re.ec
  have lc := lt_of_get hc
  have lp : h.length < h2.length := lt_of_get gp
  have nds : ∀ {m : Nat} {o : ZO}, h[m]? = some o → (∀ zs, o ≠ .lst zs) → m ≠ s := fun {m o} em no => by
    obtain ⟨⟨y1, y2, y3, hs, _⟩, _⟩ := st
    exact ne_of_get em hs (no _)
  have up : ∀ {m : Nat} {o : ZO}, h[m]? = some o → m ≠ s → h3[m]? = some o := fun {m o} em no =>
    k3.get (get_app (k2.get (k1.get (get_app em) (by simpa using no)) (by simpa using no))) (by simpa using no)
  have r0 : Rp h3 x ra rb rc h.length [] [] [] := ⟨⟨up re.ex (nds re.ex (by simp)), up re.ea (nds re.ea (by simp)), ⟨kc, up hc (nds hc (by simp)), okc⟩, by simp, re.ne⟩,
    ⟨[], up hb (nds hb (by simp)), pens0⟩, ⟨[], k3.get (get_app gp) (by simp; omega), ⟨by simp, by simp, fun i => by simp [ZL.dget]⟩⟩, by omega, by omega, by omega⟩
  have w0 : Wd h3 s l ns x ra rb rc h.length h2.length (h2.length + 1) (hdrZ 0 0 0 (1 + d1) os0) [] [] [] [] :=
    ⟨st3, r0, k3.get (by simp) (by simp; omega), k3.get (by simp) (by simp; omega), .inl rfl, rfl, fun u m => by simp at m; subst m; exact ⟨_, _, _, _, _, rfl, hH⟩, by simp, fun i hi => by simp at hi, fun t m => by simp at m, by omega, by omega, by omega, by omega, by omega⟩
  generalize hdrZ 0 0 0 (1 + d1) os0 = H0 at w0
  generalize h.length = p at w0
  generalize h2.length = n3 at w0
  generalize n3 + 1 = n4 at w0
  clear up nds gp eH k3 r0
  have ej : (1 + (j : Int)).toNat = j + 1 := by omega
  rw [ej]
  refine forZ_ind (fun us env h' => ∃ (zs vs : List Z) (S : Seals) (O : List Int) (i m : Nat) (a b c d : Option Z), us = rngZ (i : Int) m ∧ i + m = j + 1 ∧ zs.length = i ∧ Wd h' s l ns x ra rb rc p n3 n4 H0 zs vs S O ∧ vs.length ≤ 2 * i ∧ S.length ≤ 10 * i ∧ O.length ≤ 10 * i ∧
    env = [some (.ref s), some (.ref x), some (.ref p), some (.ref n3), some (.ref n4), a, b, c, d]) ?_ ?_ _ _ _ ⟨[], [], [], [], 0, j + 1, _, _, _, _, by simp, by omega, rfl, w0, by simp, by simp, by simp, rfl⟩
  · rintro env h' ⟨zs, vs, S, O, i, m, a, b, c, d, e1, e2, lz, w, lv, lS, lO, rfl⟩
    refine ⟨trivial, ?_⟩
    have : m = 0 := by
      cases m with
      | zero => rfl
      | succ m => rw [ZL.rng_cons] at e1; cases e1
    subst this
    simp [sizeLine_eq]
    exact q _ _ _ _ _ _ _ _ _ w (by omega) (by omega) (by omega) (by omega) (by omega)
  · rintro z us env h' N hN ⟨zs, vs, S, O, i, m, a, b, c, d, e1, e2, lz, w, lv, lS, lO, rfl⟩
    refine ⟨trivial, ?_⟩
    cases m with
    | zero => cases e1
    | succ m =>
      rw [ZL.rng_cons] at e1
      obtain ⟨rfl, rfl⟩ := List.cons.inj e1
      obtain ⟨la', lb', lc', le', lo', elast, hlast⟩ := w.hs _ (lastO_hd (H0 := H0) (zs := zs))
      have hla : la' = (i : Int) := by
        have e : hgt (lastO H0 zs) = la' := by rw [elast]; rfl
        rcases w.ch with c | c
        · subst c
          have : hgt H0 = la' := e
          rw [w.h0] at this
          simp at lz
          omega
        · have := chain_hgt c
          rw [e, w.h0] at this
          omega
      have al : L2.atI (H0 :: zs.map hdO) (-1) = some (hdrZ la' lb' lc' le' lo') := by rw [atI_last, elast]
      have i1 : ∀ {a b c e : Int} {os : List Int}, oIx (hdrZ a b c e os) (.int 1) = fun h P => P (.int a) h := fun {a b c e os} => by
        funext h P
        simp [hdrZ]
      have i5 : ∀ {a b c e : Int} {os : List Int}, oIx (hdrZ a b c e os) (.int 5) = fun h P => P (.tup (os.map Z.int)) h := fun {a b c e os} => by
        funext h P
        simp [hdrZ]
      simp [w.e3, al]
      refine next_ok (m := 2) w.st (by decide) (by decide) fun h4 d4 k4 st4 d40 d41 => ?_
      have w4 := w.draw k4 st4
      simp
      refine kIfE_via (fun z h5 => ∃ os', z = .tup (os'.map Z.int) ∧ OwnC os' ∧ (∀ i ∈ os', i ≤ 981) ∧ Wd h5 s l ns x ra rb rc p n3 n4 H0 zs vs S O) ?_ ?_ ?_
      rotate_left
      · intro M hM _
        simp [i5]
        exact hM _ _ ⟨lo', rfl, hlast.o, hlast.m, w4⟩
      · intro M hM _
        simp
        refine ZW.owners_ok w4.st fun h5 os' k5 st5 lo nd bo => ?_
        exact hM _ _ ⟨os', rfl, ⟨lo, nd, fun i m => by have := bo i m; omega⟩, fun i m => (bo i m).2, w4.draw k5 st5⟩
      rintro z h5 ⟨os', rfl, oc', m981, w5⟩
      simp [i1, w5.rp.re.ex]
      refine w5.rp.name (hlast.w.rv (by decide) (by decide)) (by omega) fun h6 k6 r6 => ?_
      have st6 : ZN.St h6 s l ns := St.rp w5.st w5.rp (k6.mono fun n _ m => by simp at m; simp [m])
      have e36 : h6[n3]? = _ := lst_keep w5.rp k6 (by simp) w5.e3
      have e46 : h6[n4]? = _ := lst_keep w5.rp k6 (by simp) w5.e4
      have n34 := w5.n34
      simp
      refine next_ok (m := 99) st6 (by decide) (by decide) fun h7 d7 k7 st7 d70 d71 => ?_
      have r7 := r6.st st6 k7
      have e37 := k7.get e36 (by simp; omega)
      have e47 := k7.get e46 (by simp; omega)
      simp
      refine next_ok (m := 99) st7 (by decide) (by decide) fun h8 d8 k8 st8 d80 d81 => ?_
      have r8 := r7.st st7 k8
      have e38 := k8.get e37 (by simp; omega)
      have e48 := k8.get e47 (by simp; omega)
      simp [i5, sizeLine_eq]
      have lpos := pos_le (us := vs) (v := hdrZ la' lb' lc' le' lo')
      have llo := hlast.o.l
      refine pensT_ok r8 (by omega) fun h9 O' k9 r9 sub1 sub2 lO' => ?_
      have st9 : ZN.St h9 s l ns := St.rp st8 r8 (k9.mono fun n _ m => by simp at m; rcases m with m | m <;> simp [m])
      have e39 : h9[n3]? = _ := lst_keep r8 k9 (fun n m => by simp at m; rcases m with m | m <;> simp [m]) e38
      have e49 : h9[n4]? = _ := lst_keep r8 k9 (fun n m => by simp at m; rcases m with m | m <;> simp [m]) e48
      have ins1 := ins_len (vs := vs) (v := hdrZ la' lb' lc' le' lo')
      have hnew : HdI (la' + 1) ((posZ vs (hdrZ la' lb' lc' le' lo') : Int) + 1) d7 d8 os' := by
        exact ⟨oc', m981, by omega, by omega, by omega, by omega⟩
      have en : Z.tup [Z.str (Str.ofString "header"), Z.int (la' + 1), Z.int ((posZ vs (hdrZ la' lb' lc' le' lo') : Int) + 1), Z.int d7, Z.int d8, Z.tup (os'.map Z.int)] = hdrZ (la' + 1) ((posZ vs (hdrZ la' lb' lc' le' lo') : Int) + 1) d7 d8 os' := rfl
      rw [en]
      simp [e49, i5]
      refine certified_ok st9 r9 (hnew.w.rv (by decide) (by decide)) (by have := hnew.a; omega) hlast.o sub2 (by omega) (by omega) fun h10 nb few k10 st10 r10 nb0 nb1 pf sf lf lf2 => ?_
      have e310 : h10[n3]? = _ := k10.get e39 (by
        have := r9.nd4 e39 (by simp)
        simp at this ⊢
        exact ⟨by omega, this.1, this.2.2.1⟩)
      have e410 : h10[n4]? = _ := k10.get e49 (by
        have := r9.nd4 e49 (by simp)
        simp at this ⊢
        exact ⟨by omega, this.1, this.2.2.1⟩)
      have e310' : ∀ y, (h10.set n4 y)[n3]? = some (ZO.lst (H0 :: zs.map hdO)) := fun y => by rw [List.getElem?_set_ne n34.2.2.2.2.symm]; exact e310
      simp [e410, e310', sizeLine_eq]
      generalize hhd : hdrZ (la' + 1) ((posZ vs (hdrZ la' lb' lc' le' lo') : Int) + 1) d7 d8 os' = hd at r10 ⊢
      generalize hbd : bodyZ (la' + 1) nb (posZ (insV vs (hdrZ la' lb' lc' le' lo')) hd + 1) = body at r10
      have ci : CtI nb few := ⟨⟨nb0, nb1⟩, pf, fun i m => hlast.o.b i (sf i m), lf2⟩
      have ct : Z.tup [Z.str (Str.ofString "certificate"), Z.int nb, Z.tup (few.map Z.int)] = ctZ nb few := rfl
      rw [ct]
      have ghd : headerB hd = true := by rw [← hhd]; exact hnew.g
      have whd : W 2 17 hd := by rw [← hhd]; exact hnew.w
      have cert := cert_made (S := S) (vs := insV vs (hdrZ la' lb' lc' le' lo')) (hdr := hd) (ht := la' + 1) ci sf lf
      rw [hbd] at cert
      generalize hlz : hdrZ la' lb' lc' le' lo' = last at *
      have m1 : last ∈ insV vs last := mem_ins
      obtain ⟨w1, ew1, _⟩ := ins_pre (vs := vs) (v := last)
      obtain ⟨w2, ew2, _⟩ := ins_pre (vs := insV vs last) (v := hd)
      have ch1 : Chain (S ++ sealAll few body) (insV (insV vs last) hd) H0 zs := by
        rw [ew2]
        rcases w.ch with c | c
        · subst c
          show H0 ∈ insV vs last ++ w2
          have : H0 = last := elast
          rw [this]
          exact List.mem_append_left _ m1
        · rw [ew1, List.append_assoc]
          exact c.mono
      have m2 : last ∈ insV (insV vs last) hd := by rw [ew2]; exact List.mem_append_left _ m1
      have hpos : posZ (insV (insV vs last) hd) last = posZ vs last := by rw [ew2, pos_app m1, pos_ins]
      have good : Good (S ++ sealAll few body) (insV (insV vs last) hd) last (.tup [hd, ctZ nb few]) := by
        refine ⟨⟨hd, ctZ nb few, rfl, ghd, mem_ins, ?_, ?_, ?_⟩, (wt2 whd (ci.w.le (Nat.le_refl _) (by decide))).le (by decide) (by decide)⟩
        · rw [← hhd, ← hlz]; rfl
        · rw [hpos, ← hhd, prev_hdr]; rfl
        · have e1 : hgt hd = la' + 1 := by rw [← hhd]; rfl
          have e2 : ownL last = lo' := by rw [← hlz]; exact own_hdr
          rw [e1, e2]
          exact cert
      have ins2 := ins_len (vs := insV vs last) (v := hd)
      refine ⟨by omega, by omega, hN _ _ ⟨zs ++ [.tup [hd, ctZ nb few]], insV (insV vs last) hd, S ++ sealAll few body, O', i + 1, m, _, _, _, _, by simp, by omega, by simp [lz], ?_, by omega, by simp [sealAll]; omega, by omega, rfl⟩⟩
      have st10' : ZN.St ((h10.set n4 (ZO.lst (zs ++ [.tup [hd, ctZ nb few]]))).set n3 (ZO.lst (H0 :: (zs.map hdO ++ [hd])))) s l ns := St.setL (St.setL st10 (by omega) (by omega)) (by omega) (by omega)
      have rp1 := r10.setL e410 (ys := zs ++ [.tup [hd, ctZ nb few]])
      have rp2 := rp1.setL (e310' (ZO.lst (zs ++ [.tup [hd, ctZ nb few]]))) (ys := H0 :: (zs.map hdO ++ [hd]))
      have emap : (zs ++ [Z.tup [hd, ctZ nb few]]).map hdO = zs.map hdO ++ [hd] := by rw [List.map_append]; rfl
      refine ⟨st10', rp2, ?_, ?_, .inr ?_, w.h0, ?_, ?_, ?_, sealN_app' w.sn hbd ⟨nb0, nb1⟩, n34⟩
      · rw [emap]; exact get_set (e310' _)
      · rw [List.getElem?_set_ne n34.2.2.2.2]; exact get_set e410
      · rw [chain_app]
        refine ⟨ch1, ?_⟩
        rw [elast]
        exact ⟨m2, good, mem_ins⟩
      · rw [emap, ← List.cons_append]
        intro u mu
        rcases List.mem_append.mp mu with mu | mu
        · exact w.hs u mu
        · simp at mu; subst mu
          exact ⟨_, _, _, _, _, hhd.symm, hnew⟩
      · intro z mz
        rcases List.mem_append.mp mz with mz | mz
        · exact w.cs z mz
        · simp at mz; subst mz
          exact ⟨nb, few, rfl, ci⟩
      · intro i' hi' j' mj'
        rw [List.length_append, List.length_singleton] at hi'
        by_cases ci' : i' < zs.length
        · rw [List.take_append_of_le_length (by omega)] at mj'
          exact sub1 j' (w.ow i' ci' j' mj')
        · have : i' = zs.length := by omega
          subst this
          rw [List.take_append_of_le_length (by omega), List.take_length, elast, ← hlz, own_hdr] at mj'
          exact sub2 j' mj'
end
end K21
namespace K21
open PySem PySem.Spec PyProof.Rows L2 ZL ZG ZF ZN ZH
/-! ### rows that are judged -/
section
variable {S : Seals} {vs : List Z} {H0 : Z} {zs : List Z}
abbrev Hk (H0 : Z) (zs : List Z) (k : Nat) : Z := lastO H0 (zs.take k)
theorem chain_take (c : Chain S vs H0 zs) (k : Nat) : Chain S vs H0 (zs.take k) := by
  have := (chain_app (xs := zs.take k) (ys := zs.drop k)).mp (by rw [List.take_append_drop]; exact c)
  exact this.1
theorem chain_from (c : Chain S vs H0 zs) (k : Nat) : Chain S vs (Hk H0 zs k) (zs.drop k) := by
  have := (chain_app (xs := zs.take k) (ys := zs.drop k)).mp (by rw [List.take_append_drop]; exact c)
  exact this.2
theorem hk_hgt (c : Chain S vs H0 zs) (h0 : hgt H0 = 0) {k : Nat} (hk : k ≤ zs.length) : hgt (Hk H0 zs k) = k := by
  rw [chain_hgt (chain_take c k), h0, List.length_take, Nat.min_eq_left hk]
  simp
theorem hk_mem (c : Chain S vs H0 zs) (k : Nat) : Hk H0 zs k ∈ vs := (chain_from c k).last
/-- ahead of k all are old -/
theorem skip (c : Chain S vs H0 zs) (h0 : hgt H0 = 0) {i k : Nat} (hi : i ≤ zs.length) (hk : i ≤ k) {rest : List Z} : (zs.take i ++ rest).dropWhile (oldB (k : Int)) = rest.dropWhile (oldB (k : Int)) := by
  refine drop_old (chain_old (chain_take c i) ?_)
  rw [h0, List.length_take, Nat.min_eq_left hi]; omega
theorem drop_from (c : Chain S vs H0 zs) (h0 : hgt H0 = 0) {k : Nat} (hk : k ≤ zs.length) : (zs.drop k).dropWhile (oldB (k : Int)) = zs.drop k := by
  have := chain_drop (chain_from c k)
  rw [hk_hgt c h0 hk] at this
  exact this
theorem mid (c : Chain S vs H0 zs) (h0 : hgt H0 = 0) {i k : Nat} (hi : i ≤ zs.length) (hk : k < i) {rest : List Z} : (zs.take i ++ rest).dropWhile (oldB (k : Int)) = (zs.drop k).take (i - k) ++ rest := by
  have e : zs.take i = zs.take k ++ (zs.drop k).take (i - k) := by
    rw [← List.take_add]
    congr 1; omega
  rw [e, List.append_assoc, skip c h0 (by omega) (Nat.le_refl k)]
  have cf := chain_from c k
  cases ed : zs.drop k with
  | nil =>
    have := congrArg List.length ed
    simp at this
    omega
  | cons z r =>
    rw [ed] at cf
    obtain ⟨m, em⟩ : ∃ m, i - k = m + 1 := ⟨i - k - 1, by omega⟩
    rw [em, List.take_succ_cons, List.cons_append]
    have := chain_new cf
    rw [hk_hgt c h0 (by omega)] at this
    exact drop_new this
theorem judge_mid (c : Chain S vs H0 zs) {i k : Nat} (hi : i ≤ zs.length) (hk : k ≤ i) {rest : List Z} :
    judgeZ S vs (Hk H0 zs k) ((zs.drop k).take (i - k) ++ rest) = ((zs.drop k).take (i - k) ++ (judgeZ S vs (Hk H0 zs i) rest).1, (judgeZ S vs (Hk H0 zs i) rest).2) := by
  have cf := chain_from c k
  have := (chain_app (xs := (zs.drop k).take (i - k)) (ys := (zs.drop k).drop (i - k))).mp (by rw [List.take_append_drop]; exact cf)
  rw [judge_app this.1]
  have e : lastO (Hk H0 zs k) ((zs.drop k).take (i - k)) = Hk H0 zs i := by
    rw [← lastO_app, ← List.take_add]
    congr 2; omega
  rw [e]
/-- one that is none, in the place of i -/
structure BadS (S : Seals) (vs : List Z) (H0 : Z) (zs : List Z) (i : Nat) (z : Z) : Prop where
  n : oldB (i : Int) z = false
  j : ∀ k, i ≤ k → k ≤ zs.length → oldB (k : Int) z = false → ∀ rest, judgeZ S vs (Hk H0 zs k) (z :: rest) = ([], vs)
theorem spoilt_lo (c : Chain S vs H0 zs) (h0 : hgt H0 = 0) {i k : Nat} (hi : i < zs.length) (hk : k ≤ i) {z : Z} (b : BadS S vs H0 zs i z) {rest : List Z} (p : plainB 30 (.tup (zs.take i ++ z :: rest)) = true) :
    judgedZ S vs (Hk H0 zs k) (.tup (zs.take i ++ z :: rest)) = ((zs.drop k).take (i - k), vs) := by
  unfold judgedZ
  rw [p]
  show judgeZ S vs (Hk H0 zs k) ((zs.take i ++ z :: rest).dropWhile (oldB (hgt (Hk H0 zs k)))) = _
  rw [hk_hgt c h0 (by omega)]
  by_cases e : k = i
  · subst e
    rw [skip c h0 (by omega) (Nat.le_refl k), drop_new b.n, b.j k (Nat.le_refl k) (by omega) b.n]
    simp
  · rw [mid c h0 (by omega) (by omega), judge_mid c (by omega) (by omega), b.j i (Nat.le_refl i) (by omega) b.n]
    simp
theorem spoilt_hi (c : Chain S vs H0 zs) (h0 : hgt H0 = 0) {i k : Nat} (hi : i < zs.length) (hk : i < k) (hk2 : k ≤ zs.length) {z : Z} (b : BadS S vs H0 zs i z) (p : plainB 30 (.tup (zs.take i ++ z :: zs.drop (i + 1))) = true) :
    judgedZ S vs (Hk H0 zs k) (.tup (zs.take i ++ z :: zs.drop (i + 1))) = (if oldB (k : Int) z = true then zs.drop k else [], vs) := by
  unfold judgedZ
  rw [p]
  show judgeZ S vs (Hk H0 zs k) ((zs.take i ++ z :: zs.drop (i + 1)).dropWhile (oldB (hgt (Hk H0 zs k)))) = _
  rw [hk_hgt c h0 hk2, skip c h0 (by omega) (by omega)]
  cases e : oldB (k : Int) z with
  | false =>
    rw [drop_new e, b.j k (by omega) hk2 e]; rfl
  | true =>
    rw [List.dropWhile_cons, e]
    have e2 : zs.drop (i + 1) = ((zs.drop (i + 1)).take (k - (i + 1))) ++ zs.drop k := by
      have : zs.drop k = (zs.drop (i + 1)).drop (k - (i + 1)) := by rw [List.drop_drop]; congr 1; omega
      rw [this, List.take_append_drop]
    have c1 := chain_from c (i + 1)
    have c2 : Chain S vs (Hk H0 zs (i + 1)) ((zs.drop (i + 1)).take (k - (i + 1))) := ((chain_app (xs := (zs.drop (i + 1)).take (k - (i + 1))) (ys := (zs.drop (i + 1)).drop (k - (i + 1)))).mp (by rw [List.take_append_drop]; exact c1)).1
    have e3 : (zs.drop (i + 1)).dropWhile (oldB (k : Int)) = zs.drop k := by
      rw [e2, drop_old (chain_old c2 ?_), drop_from c h0 hk2]
      rw [hk_hgt c h0 (by omega), List.length_take, List.length_drop]
      omega
    simp only [if_true]
    rw [e3, judge_all (chain_from c k)]
theorem whole (c : Chain S vs H0 zs) (h0 : hgt H0 = 0) {k : Nat} (hk : k ≤ zs.length) (p : plainB 30 (.tup zs) = true) : judgedZ S vs (Hk H0 zs k) (.tup zs) = (zs.drop k, vs) := by
  unfold judgedZ
  rw [p]
  show judgeZ S vs (Hk H0 zs k) (zs.dropWhile (oldB (hgt (Hk H0 zs k)))) = _
  rw [hk_hgt c h0 hk]
  have := skip c h0 hk (Nat.le_refl k) (rest := zs.drop k)
  rw [List.take_append_drop] at this
  rw [this, drop_from c h0 hk, judge_all (chain_from c k)]
/-- an elder one again -/
theorem elder_lo (c : Chain S vs H0 zs) (h0 : hgt H0 = 0) {i k e : Nat} (hi : i ≤ zs.length) (hk : k < i) (he : e < i) (p : plainB 30 (.tup (zs.take i ++ (zs.drop e).take 1 ++ zs.drop i)) = true) :
    judgedZ S vs (Hk H0 zs k) (.tup (zs.take i ++ (zs.drop e).take 1 ++ zs.drop i)) = ((zs.drop k).take (i - k), vs) := by
  unfold judgedZ
  rw [p]
  show judgeZ S vs (Hk H0 zs k) ((zs.take i ++ (zs.drop e).take 1 ++ zs.drop i).dropWhile (oldB (hgt (Hk H0 zs k)))) = _
  rw [hk_hgt c h0 (by omega), List.append_assoc, mid c h0 hi hk, judge_mid c hi (by omega)]
  have ce := chain_from c e
  have : judgeZ S vs (Hk H0 zs i) ((zs.drop e).take 1 ++ zs.drop i) = ([], vs) := by
    cases ed : zs.drop e with
    | nil =>
      have := congrArg List.length ed
      simp at this
      omega
    | cons z r =>
      rw [ed] at ce
      obtain ⟨⟨hd, ct, rfl, h1, h2, h3, h4, h5⟩, w⟩ := ce.2.1
      show judgeZ S vs (Hk H0 zs i) (.tup [hd, ct] :: _) = _
      rw [judge_cons, if_pos h1, if_neg]
      rw [h3, hk_hgt c h0 hi, hk_hgt c h0 (by omega)]
      omega
  rw [this]
  simp
theorem elder_eq (c : Chain S vs H0 zs) (h0 : hgt H0 = 0) {i e : Nat} (hi : i ≤ zs.length) (he : e < i) (p : plainB 30 (.tup (zs.take i ++ (zs.drop e).take 1 ++ zs.drop i)) = true) :
    judgedZ S vs (Hk H0 zs i) (.tup (zs.take i ++ (zs.drop e).take 1 ++ zs.drop i)) = (zs.drop i, vs) := by
  unfold judgedZ
  rw [p]
  show judgeZ S vs (Hk H0 zs i) ((zs.take i ++ (zs.drop e).take 1 ++ zs.drop i).dropWhile (oldB (hgt (Hk H0 zs i)))) = _
  rw [hk_hgt c h0 hi, List.append_assoc, skip c h0 hi (Nat.le_refl i)]
  have ce := chain_from c e
  have ct1 : Chain S vs (Hk H0 zs e) ((zs.drop e).take 1) := ((chain_app (xs := (zs.drop e).take 1) (ys := (zs.drop e).drop 1)).mp (by rw [List.take_append_drop]; exact ce)).1
  rw [drop_old (chain_old ct1 ?_), drop_from c h0 hi, judge_all (chain_from c i)]
  rw [hk_hgt c h0 (by omega), List.length_take, List.length_drop]
  omega
end
end K21
namespace K21
open PySem PySem.Spec PyProof.Rows L2 ZL ZG ZF ZN ZH
section
variable {s l : Nat} {ns : List Int} {h h' : ZH} {x ra rb rc p n3 n4 : Nat} {H0 : Z} {zs vs : List Z} {S : Seals} {O : List Int} {P : PZ} {E : XZ → ZH → Prop}
theorem judge_none {last z : Z} {rest : List Z} (h : ∀ hd ct, z = .tup [hd, ct] → headerB hd = false) : judgeZ S vs last (z :: rest) = ([], vs) := by
  by_cases e : ∃ hd ct, z = .tup [hd, ct]
  · obtain ⟨hd, ct, rfl⟩ := e
    rw [judge_cons, h hd ct rfl]; rfl
  · unfold judgeZ
    split
    · exact absurd ⟨_, _, rfl⟩ e
    · rfl
theorem bad_none {i : Nat} {z : Z} (h : ∀ hd ct, z = .tup [hd, ct] → headerB hd = false) : BadS S vs H0 zs i z := by
  refine ⟨?_, fun k _ _ _ rest => judge_none h⟩
  unfold oldB
  split
  · rename_i hd ct
    rw [h hd ct rfl]; rfl
  · rfl
/-- the same header, another certificate -/
theorem bad_cert (c : Chain S vs H0 zs) (h0 : hgt H0 = 0) {i : Nat} (hi : i < zs.length) {hd ct : Z} (hh : headerB hd = true) (hg : hgt hd = (i : Int) + 1) (hm : hd ∈ vs) (hc : certB S vs hd (hgt hd) (ownL (Hk H0 zs i)) ct = false) : BadS S vs H0 zs i (.tup [hd, ct]) := by
  have ho : ∀ k : Int, oldB k (.tup [hd, ct]) = decide ((i : Int) + 1 ≤ k) := fun k => by
    show (headerB hd && decide (hgt hd ≤ k)) = _
    rw [hh, hg, Bool.true_and]
  refine ⟨by rw [ho]; exact decide_eq_false (by omega), fun k k1 k2 k3 rest => ?_⟩
  rw [ho] at k3
  have := of_decide_eq_false k3
  have ek : k = i := by omega
  subst ek
  have ml := hk_mem c k
  rw [judge_cons, if_pos hh, ins_in ml]
  split
  · split
    · rw [if_neg (by rw [hc]; simp)]
      unfold certN
      split
      · rw [ins_in hm]
      · rfl
    · rfl
  · rfl
/-- another name before -/
theorem bad_prev (c : Chain S vs H0 zs) (h0 : hgt H0 = 0) {i : Nat} (hi : i < zs.length) {hd ct : Z} (hh : headerB hd = true) (hg : hgt hd = (i : Int) + 1) (hp : prevZ hd ≠ .int ((posZ vs (Hk H0 zs i) + 1 : Nat) : Int)) : BadS S vs H0 zs i (.tup [hd, ct]) := by
  have ho : ∀ k : Int, oldB k (.tup [hd, ct]) = decide ((i : Int) + 1 ≤ k) := fun k => by
    show (headerB hd && decide (hgt hd ≤ k)) = _
    rw [hh, hg, Bool.true_and]
  refine ⟨by rw [ho]; exact decide_eq_false (by omega), fun k k1 k2 k3 rest => ?_⟩
  rw [ho] at k3
  have := of_decide_eq_false k3
  have ek : k = i := by omega
  subst ek
  rw [judge_cons, if_pos hh, if_neg hp, ins_in (hk_mem c k)]
  split <;> rfl
theorem seal_num {S : Seals} (sn : SealN S) {o : Z} {a n : Int} {m : Nat} (hn : 4 ≤ n) : memS S o (bodyZ a n m) = false := by
  refine mem_none fun t mt e => ?_
  obtain ⟨a', n', m', e', h1, h2⟩ := sn t mt
  rw [e'] at e
  simp [bodyZ] at e
  omega
theorem spoilt_ok (w : Wd h s l ns x ra rb rc p n3 n4 H0 zs vs S O) (c : Chain S vs H0 zs) {i : Nat} (hi : i < zs.length) (lz : zs.length ≤ 6) (lv : vs.length ≤ 900) (lS : S.length ≤ 9000) (lO : O.length ≤ 900)
    (q : ∀ h' z vs' S' O', Wd h' s l ns x ra rb rc p n3 n4 H0 zs vs' S' O' → Chain S' vs' H0 zs → BadS S' vs' H0 zs i z → W 6 60 z → vs'.length ≤ vs.length + 1 → S'.length ≤ S.length + 10 → O'.length ≤ O.length + 17 → P z h') :
    f__law_spoilt [.ref s, .ref x, .ref p, .ref n3, .ref n4, .int (i : Int)] h P E := by
  unfold f__law_spoilt wfOf w__law_spoilt
  rw [next_eq]
  have h0 := w.h0
  have ai : L2.atI zs (i : Int) = some zs[i] := atI_nat hi
  have a3 : L2.atI (H0 :: zs.map hdO) (i : Int) = some (Hk H0 zs i) := by
    have e := lastO_take (H0 := H0) (zs := zs) (i := i) (by omega)
    have hlen : i < (H0 :: zs.map hdO).length := by simp; omega
    rw [atI_nat hlen]
    rw [List.getElem?_eq_getElem hlen] at e
    exact e
  obtain ⟨nb, few, ez, ci⟩ := w.cs zs[i] (List.getElem_mem hi)
  have gd : Good S vs (Hk H0 zs i) zs[i] := by
    have cf := chain_from c i
    rw [List.drop_eq_getElem_cons hi] at cf
    exact cf.2.1
  obtain ⟨⟨hd, ct, ez2, g1, g2, g3, g4, g5⟩, gw⟩ := gd
  rw [ez2] at ez
  have ehd : hdO zs[i] = hd := by rw [ez2]; rfl
  have ehd2 : hdO (.tup [hd, ct]) = hd := rfl
  rw [ehd2] at ez
  simp only [Z.tup.injEq, List.cons.injEq, true_and, and_true] at ez
  subst ez
  obtain ⟨a, b, cc, e, os, rfl, hI⟩ := w.hs hd (List.mem_cons_of_mem _ (List.mem_map.mpr ⟨zs[i], List.getElem_mem hi, ehd⟩))
  have hkm : Hk H0 zs i ∈ H0 :: zs.map hdO := List.mem_of_getElem? (lastO_take (H0 := H0) (zs := zs) (i := i) (by omega))
  have hkg := hk_hgt c h0 (k := i) (by omega)
  have hkv := hk_mem c i
  have hko := w.ow i hi
  obtain ⟨ba, bb, bc, be, bo, ebk, bI⟩ := w.hs _ hkm
  rw [hgt_hdr, hkg] at g3
  rw [prev_hdr] at g4
  have hb : b = ((posZ vs (Hk H0 zs i) + 1 : Nat) : Int) := Z.int.inj g4
  rw [hgt_hdr] at g5
  have hoL : ownL (Hk H0 zs i) = bo := by rw [ebk]; exact own_hdr
  rw [hoL] at g5 hko
  have a3 : L2.atI (H0 :: zs.map hdO) (i : Int) = some (hdrZ ba bb bc be bo) := by rw [a3, ebk]
  simp [w.e4, w.e3, ai, ez2, a3]
  refine next_ok (m := 9) w.st (by decide) (by decide) fun h1 pk k1 st1 pk0 pk1 => ?_
  have w1 := w.draw k1 st1
  have whd := hI.w
  have wct := ci.w
  simp
  refine kIf_of (fun c0 => ?_) (fun c0 => ?_)
  · -- 0
    simp [sizeLine_eq]
    refine next_ok (m := 7) (w1.app _).st (by decide) (by decide) fun h2 d2 k2 st2 d20 d21 => ?_
    have w2 := (w1.app _).draw k2 st2
    have e2 := at_new k2 st1.lt
    simp [e2]
    refine pick (xs := [Z.non, Z.tup [], Z.int 5, Z.tup [hdrZ a b cc e os], Z.tup [hdrZ a b cc e os, ctZ nb few, Z.int 0], Z.tup [ctZ nb few, hdrZ a b cc e os], Z.str (Str.ofString "head")]) d20 (by simpa using d21) fun z hz => ?_
    have : W 6 60 z ∧ BadS S vs H0 zs i z := by
      simp only [List.mem_cons, List.mem_nil_iff, or_false] at hz
      rcases hz with rfl | rfl | rfl | rfl | rfl | rfl | rfl
      · exact ⟨w_non.le (by decide) (by decide), bad_none (by simp)⟩
      · exact ⟨w_nil.le (by decide) (by decide), bad_none (by simp)⟩
      · exact ⟨(w_int (by decide)).le (by decide) (by decide), bad_none (by simp)⟩
      · exact ⟨(wt1 whd).le (by decide) (by decide), bad_none (by simp)⟩
      · exact ⟨(wt3 whd (wct.le (Nat.le_refl _) (by decide)) ((w_int (by decide)).le (by decide) (by decide))).le (by decide) (by decide), bad_none (by simp)⟩
      · refine ⟨(wt2 (wct.le (Nat.le_refl _) (by decide)) whd).le (by decide) (by decide), bad_none fun hd ct e => ?_⟩
        simp only [Z.tup.injEq, List.cons.injEq, and_true] at e
        rw [← e.1]
        unfold headerB
        rw [show headB (ctZ nb few) = false from rfl, Bool.and_false]
      · exact ⟨(w_str (by decide +kernel)).le (by decide) (by decide), bad_none (by simp)⟩
    exact q _ _ _ _ _ w2 c this.2 this.1 (by omega) (by omega) (by omega)
  have i1 : ∀ {a b c e : Int} {os : List Int}, oIx (hdrZ a b c e os) (.int 1) = fun h P => P (.int a) h := fun {a b c e os} => by
    funext h P
    simp [hdrZ]
  have i2 : ∀ {a b c e : Int} {os : List Int}, oIx (hdrZ a b c e os) (.int 2) = fun h P => P (.int b) h := fun {a b c e os} => by
    funext h P
    simp [hdrZ]
  have i4 : ∀ {a b c e : Int} {os : List Int}, oIx (hdrZ a b c e os) (.int 4) = fun h P => P (.int e) h := fun {a b c e os} => by
    funext h P
    simp [hdrZ]
  have i5 : ∀ {a b c e : Int} {os : List Int}, oIx (hdrZ a b c e os) (.int 5) = fun h P => P (.tup (os.map Z.int)) h := fun {a b c e os} => by
    funext h P
    simp [hdrZ]
  have j1 : oIx (ctZ nb few) (.int 1) = fun h P => P (.int nb) h := by
    funext h P
    simp [ctZ]
  have j2 : oIx (ctZ nb few) (.int 2) = fun h P => P (.tup (few.map Z.int)) h := by
    funext h P
    simp [ctZ]
  have lbo := bI.o.l
  have hq := quo_len lbo
  have hcw : ∀ {v : Z}, W 3 40 v → W 6 60 (.tup [hdrZ a b cc e os, v]) := fun {v} wv => (wp2 (d := 3) (n := 17) (m := 40) (whd.le (by decide) (by decide)) wv).le (by decide) (by decide)
  have hgg : hgt (hdrZ a b cc e os) = (i : Int) + 1 := by rw [hgt_hdr]; omega
  simp
  refine kIf_of (fun c1 => ?_) (fun c1 => ?_)
  · -- 1
    simp [i5, j1, j2]
    have cf : cutZ (few.map Z.int) (some 1) none = (few.drop 1).map Z.int := by
      by_cases hl : 1 ≤ few.length
      · exact (ZW.cut_from (xs := few.map Z.int) (k := 1) (by simpa using hl)).trans (by rw [List.map_drop])
      · have : few = [] := by cases few <;> simp_all
        subst this; rfl
    rw [cf]
    obtain ⟨k, hk⟩ : ∃ k : Nat, 2 * (((bo.length : Int) - 1) / 3) = (k : Int) := ⟨(2 * (((bo.length : Int) - 1) / 3)).toNat, by omega⟩
    have hkq : (k : Int) < quo bo.length := by unfold quo; omega
    refine ⟨⟨by omega, by omega⟩, .inl ⟨by decide, by decide⟩, ?_⟩
    rw [hk]
    have lct : ((cutZ ((few.drop 1).map Z.int) none (some (k : Int))).length : Int) ≤ k := by
      unfold cutZ
      rw [HT.sIx_nat]
      simp [HT.sIx]
      omega
    obtain ⟨fw, efw, hfw⟩ : ∃ fw : List Int, cutZ ((few.drop 1).map Z.int) none (some (k : Int)) = fw.map Z.int ∧ ∀ j ∈ fw, j ∈ few := by
      unfold cutZ
      rw [← List.map_drop, ← List.map_take]
      exact ⟨_, rfl, fun j m => List.mem_of_mem_drop (List.mem_of_mem_drop (List.mem_of_mem_take m))⟩
    rw [efw] at lct ⊢
    simp at lct
    simp [sizeLine_eq]
    refine q _ _ _ _ _ w1 c (bad_cert c h0 hi g1 hgg g2 ?_) (hcw ((ct_w (nb := nb) (few := fw) (by have := ci.n; omega) (fun j m => ci.b j (hfw j m)) (by omega)).le (d' := 3) (n' := 40) (by decide) (by decide))) (by omega) (by omega) (by omega)
    refine (show certB S vs _ _ _ (ctZ nb fw) = false from ?_)
    unfold certB
    have : askB (ownL (Hk H0 zs i)) (ctZ nb fw) = false := by
      show (wordB "certificate" (.str "certificate") && natB (.int nb) && decide (quo (ownL (Hk H0 zs i)).length ≤ ((fw.map Z.int).length : Int))) = false
      rw [hoL, decide_eq_false (by simp; omega), Bool.and_false]
    rw [this]; simp
  simp
  refine kIf_of (fun c2 => ?_) (fun c2 => ?_)
  · -- 2
    simp [j1, j2, sizeLine_eq]
    have nbb := ci.n
    refine q _ _ _ _ _ w1 c (bad_cert c h0 hi g1 hgg g2 ?_) (hcw ((ct_w (nb := nb + 9) (few := few) (by omega) ci.b ci.l).le (d' := 3) (n' := 40) (by decide) (by decide))) (by omega) (by omega) (by omega)
    refine (show certB S vs _ _ _ (ctZ (nb + 9) few) = false from ?_)
    cases hc : certB S vs (hdrZ a b cc e os) (hgt (hdrZ a b cc e os)) (ownL (Hk H0 zs i)) (ctZ (nb + 9) few) with
    | false => rfl
    | true =>
      unfold certB at hc
      simp only [Bool.and_eq_true] at hc
      have h1 := hc.1.2
      have h2 : sealsB S (bodyZ (hgt (hdrZ a b cc e os)) (nb + 9) (posZ vs (hdrZ a b cc e os) + 1)) (ownL (Hk H0 zs i)) 0 (few.map Z.int) = true := hc.2
      have h3 : quo (ownL (Hk H0 zs i)).length ≤ ((few.map Z.int).length : Int) := by
        have h1 : (wordB "certificate" (.str "certificate") && natB (.int (nb + 9)) && decide (quo (ownL (Hk H0 zs i)).length ≤ ((few.map Z.int).length : Int))) = true := h1
        simp only [Bool.and_eq_true, decide_eq_true_eq] at h1
        exact h1.2
      rw [hoL] at h3
      cases few with
      | nil => simp at h3; omega
      | cons j fs =>
        rw [List.map_cons, seals_int, seal_num w.sn (by omega)] at h2
        simp at h2
  simp
  refine kIf_of (fun c3 => ?_) (fun c3 => ?_)
  · -- 3
    have cf : ∀ {x : Z} {r : List Z}, cutZ (x :: r) (some 1) none = r := fun {x r} => by
      exact (ZW.cut_from (xs := x :: r) (k := 1) (by simp)).trans rfl
    have los := hI.o.l
    have c5 : oSl (hdrZ a b cc e os) none (some 5) = fun h P => P (.tup [.str "header", .int a, .int b, .int cc, .int e]) h := by
      funext h P
      simp [hdrZ]
      rfl
    obtain ⟨o1, or, rfl⟩ : ∃ o1 or, os = o1 :: or := by
      cases os with
      | nil => simp at los
      | cons o1 or => exact ⟨o1, or, rfl⟩
    simp [c5, i5, cf, sizeLine_eq]
    have wor : W 1 11 (.tup (or.map Z.int)) := (W.tup (d := 0) (n := 1) (zs := or.map Z.int) fun z m => by
      obtain ⟨i, hi, rfl⟩ := List.mem_map.mp m
      have := hI.o.b i (List.mem_cons_of_mem _ hi)
      exact w_int (by omega)).le (Nat.le_refl _) (by simp at los ⊢; omega)
    have hnew : W 2 17 (hdrZ a b cc e or) := by
      have := W.tup (d := 1) (n := 11) (zs := [.str "header", .int a, .int b, .int cc, .int e, .tup (or.map Z.int)]) (by
        intro z m
        have := hI.a; have := hI.b; have := hI.c; have := hI.e
        simp only [List.mem_cons, List.mem_nil_iff, or_false] at m
        rcases m with rfl | rfl | rfl | rfl | rfl | rfl
        · exact (w_str (by decide +kernel)).le (by decide) (by decide)
        · exact (w_int (by omega)).le (by decide) (by decide)
        · exact (w_int (by omega)).le (by decide) (by decide)
        · exact (w_int (by omega)).le (by decide) (by decide)
        · exact (w_int (by omega)).le (by decide) (by decide)
        · exact wor)
      refine ⟨this.nc, this.s, ?_, this.p⟩
      have := wor.z
      show 1 + (1 + (1 + (1 + (1 + (sizeZ (.tup (or.map Z.int)) + 0))))) + 1 ≤ 17
      omega
    refine q _ _ _ _ _ w1 c (bad_none fun hd ct e' => ?_) ((wt2 hnew (wct.le (Nat.le_refl _) (by decide))).le (by decide) (by decide)) (by omega) (by omega) (by omega)
    simp only [Z.tup.injEq, List.cons.injEq, and_true] at e'
    rw [← e'.1]
    unfold headerB
    have : headB (hdrZ a b cc e or) = false := by
      show (_ && _ && ownersB (.tup (or.map Z.int))) = false
      have : ownersB (.tup (or.map Z.int)) = false := by
        show ((decide (_ = 4) || decide (_ = 7) || decide (_ = 10)) && ownB _) = false
        simp at los
        rw [List.length_map]
        rcases los with h | h | h <;> simp [h]
      rw [this, Bool.and_false]
    rw [show headB (.tup [.str "header", .int a, .int b, .int cc, .int e, .tup (or.map Z.int)]) = false from this, Bool.and_false]
  simp
  refine kIf_of (fun c4 => ?_) (fun c4 => ?_)
  · -- 4
    simp [sizeLine_eq]
    refine q _ _ _ _ _ w1 c (bad_cert c h0 hi g1 hgg g2 ?_) (hcw (w_non.le (by decide) (by decide))) (by omega) (by omega) (by omega)
    unfold certB
    rw [show askB (ownL (Hk H0 zs i)) .non = false from rfl, Bool.and_false]; rfl
  have c2f : oSl (hdrZ a b cc e os) (some 2) none = fun h P => P (.tup [.int b, .int cc, .int e, .tup (os.map Z.int)]) h := by
    funext h P
    simp [hdrZ]
    rfl
  have c2t : oSl (hdrZ a b cc e os) none (some 2) = fun h P => P (.tup [.str "header", .int a]) h := by
    funext h P
    simp [hdrZ]
    rfl
  have c3f : oSl (hdrZ a b cc e os) (some 3) none = fun h P => P (.tup [.int cc, .int e, .tup (os.map Z.int)]) h := by
    funext h P
    simp [hdrZ]
    rfl
  have c4t : oSl (hdrZ a b cc e os) none (some 4) = fun h P => P (.tup [.str "header", .int a, .int b, .int cc]) h := by
    funext h P
    simp [hdrZ]
    rfl
  have c5f : oSl (hdrZ a b cc e os) (some 5) none = fun h P => P (.tup [.tup (os.map Z.int)]) h := by
    funext h P
    simp [hdrZ]
    rfl
  have pk5 : 5 ≤ pk := by
    have c0 : ¬ pk = 0 := by simpa using c0
    have c1 : ¬ pk = 1 := by simpa using c1
    have c2 : ¬ pk = 2 := by simpa using c2
    have c3 : ¬ pk = 3 := by simpa using c3
    have c4 : ¬ pk = 4 := by simpa using c4
    omega
  -- the name of the one before, whatever is named beside
  have hbv : ∀ {vs' : List Z} {S' : Seals}, Chain S' vs' H0 zs → b = ((posZ vs' (Hk H0 zs i) + 1 : Nat) : Int) := fun {vs' S'} c' => by
    have cf := chain_from c' i
    rw [List.drop_eq_getElem_cons hi] at cf
    obtain ⟨⟨hd', ct', ez3, _, _, _, g4', _⟩, _⟩ := cf.2.1
    rw [ez2] at ez3
    simp only [Z.tup.injEq, List.cons.injEq, and_true] at ez3
    rw [← ez3.1, prev_hdr] at g4'
    exact Z.int.inj g4'
  have ia := hI.a
  have ib := hI.b
  have ic := hI.c
  have ie := hI.e
  have fin : ∀ (a2 b2 e2 : Int) (h2 : ZH) (O2 co : List Int) (K : PZ) (EE : XZ → ZH → Prop), 0 ≤ a2 ∧ a2 ≤ 20 → 0 ≤ b2 ∧ b2 ≤ 2000 → 0 ≤ e2 ∧ e2 ≤ 2000 → Wd h2 s l ns x ra rb rc p n3 n4 H0 zs vs S O2 → OwnC co → (∀ j ∈ co, j ∈ O2) → O2.length ≤ O.length + 17 →
      (∀ vs' S' nb2 few2, Chain S' vs' H0 zs → hdrZ a2 b2 cc e2 os ∈ vs' → (∀ j ∈ few2, j ∈ co) → few2 ≠ [] → BadS S' vs' H0 zs i (.tup [hdrZ a2 b2 cc e2 os, ctZ nb2 few2])) →
      (∀ nb2 few2 h', P (.tup [hdrZ a2 b2 cc e2 os, ctZ nb2 few2]) h' → K (ctZ nb2 few2) h') → f__law_certified [.ref s, .ref x, .ref p, hdrZ a2 b2 cc e2 os, .tup (co.map Z.int)] h2 K EE := by
    intro a2 b2 e2 h2 O2 co K EE ha2 hb2 he2 w2 oc hO lO2 bad hK
    have wm : W 2 17 (hdrZ a2 b2 cc e2 os) := hdr_w hI.o (by omega) (by omega) (by omega) (by omega)
    have gm : headerB (hdrZ a2 b2 cc e2 os) = true := hdr_good hI.o (by omega) (by omega) (by omega) (by omega)
    refine certified_ok w2.st w2.rp (wm.rv (by decide) (by decide)) (by omega) oc hO (by omega) (by omega) fun h' nb2 few2 k' st' r' m0 m1 pf sf lf lf2 => ?_
    obtain ⟨ws, ews, lws⟩ := ins_pre (vs := vs) (v := hdrZ a2 b2 cc e2 os)
    have mm : hdrZ a2 b2 cc e2 os ∈ insV vs (hdrZ a2 b2 cc e2 os) := mem_ins
    have li := ins_len (vs := vs) (v := hdrZ a2 b2 cc e2 os)
    generalize hbd : bodyZ a2 nb2 (posZ vs (hdrZ a2 b2 cc e2 os) + 1) = body at r'
    have c' : Chain (S ++ sealAll few2 body) (insV vs (hdrZ a2 b2 cc e2 os)) H0 zs := by rw [ews]; exact c.mono
    have n34 := w2.n34
    have up : ∀ {m : Nat} {us : List Z}, h2[m]? = some (ZO.lst us) → m ≠ s → h'[m]? = some (ZO.lst us) := fun {m us} e hm => k'.get e (by
      have := w2.rp.nd4 e (by simp)
      simp at this ⊢
      exact ⟨hm, this.1, this.2.2.1⟩)
    have wd : Wd h' s l ns x ra rb rc p n3 n4 H0 zs (insV vs (hdrZ a2 b2 cc e2 os)) (S ++ sealAll few2 body) O2 :=
      ⟨st', r', up w2.e3 (by omega), up w2.e4 (by omega), .inr c', w2.h0, w2.hs, w2.cs, w2.ow, sealN_app' w2.sn hbd ⟨m0, m1⟩, n34⟩
    have hq2 := quo_len oc.l
    have nf : few2 ≠ [] := by
      intro z
      subst z
      simp at lf
      omega
    have ct2 : Z.tup [Z.str "certificate", Z.int nb2, Z.tup (few2.map Z.int)] = ctZ nb2 few2 := rfl
    rw [ct2]
    refine hK nb2 few2 h' (q _ _ _ _ _ wd c' (bad _ _ _ _ c' mm sf nf) ?_ li (by simp [sealAll]; omega) lO2)
    have wc2 : W 2 14 (ctZ nb2 few2) := ct_w (by omega) (fun j m => oc.b j (sf j m)) lf2
    exact (wp2 wm wc2).le (by decide) (by decide)
  simp [i1, i2, i4, c2f, c2t, c3f, c4t, c5f, sizeLine_eq]
  have hpk : pk = 5 ∨ pk = 6 ∨ pk = 7 ∨ pk = 8 := by omega
  generalize hg : h1 ++ _ = g
  have wg : Wd g s l ns x ra rb rc p n3 n4 H0 zs vs S O := by rw [← hg]; exact w1.app _
  clear hg
  rcases hpk with rfl | rfl | rfl | rfl
  · simp [i5, sizeLine_eq]
    refine fin (a + 1) b e g O bo _ _ (by omega) (by omega) (by omega) wg bI.o hko (by omega) (fun vs' S' nb2 few2 c' mm sf nf => ?_) (fun nb2 few2 h' hp => by simp [sizeLine_eq]; exact hp)
    have gm : headerB (hdrZ (a + 1) b cc e os) = true := hdr_good hI.o (by omega) (by omega) (by omega) (by omega)
    have ho : ∀ k : Int, oldB k (.tup [hdrZ (a + 1) b cc e os, ctZ nb2 few2]) = decide ((i : Int) + 2 ≤ k) := fun k => by
      show (headerB (hdrZ (a + 1) b cc e os) && decide (hgt (hdrZ (a + 1) b cc e os) ≤ k)) = _
      rw [gm, hgt_hdr, Bool.true_and, decide_eq_decide]
      rw [hgt_hdr] at hgg
      omega
    refine ⟨by rw [ho]; exact decide_eq_false (by omega), fun k k1 k2 k3 rest => ?_⟩
    rw [ho] at k3
    have k3 := of_decide_eq_false k3
    rw [hgt_hdr] at hgg
    rw [judge_cons, if_pos gm, hgt_hdr, hk_hgt c' w.h0 k2]
    by_cases ek : k = i
    · subst ek
      rw [if_neg (by omega)]
    · have ek : k = i + 1 := by omega
      subst ek
      rw [if_pos (by omega), if_neg, ins_in (hk_mem c' (i + 1))]
      rw [prev_hdr]
      intro z
      have z := Z.int.inj z
      have hb' := hbv c'
      have ep : posZ vs' (Hk H0 zs i) = posZ vs' (Hk H0 zs (i + 1)) := by omega
      have eh := pos_inj (hk_mem c' i) ep
      have h1 := hk_hgt c' w.h0 (k := i) (by omega)
      have h2 := hk_hgt c' w.h0 (k := i + 1) (by omega)
      rw [eh, h2] at h1
      omega
  · simp [i5, sizeLine_eq]
    refine fin a (b + 500) e g O bo _ _ (by omega) (by omega) (by omega) wg bI.o hko (by omega) (fun vs' S' nb2 few2 c' mm sf nf => ?_) (fun nb2 few2 h' hp => by simp [sizeLine_eq]; exact hp)
    have gm : headerB (hdrZ a (b + 500) cc e os) = true := hdr_good hI.o (by omega) (by omega) (by omega) (by omega)
    exact bad_prev c' w.h0 hi gm (by rw [hgt_hdr] at hgg ⊢; exact hgg) (by
      rw [prev_hdr, ← hbv c']
      intro z
      have := Z.int.inj z
      omega)
  · simp [i5, sizeLine_eq, RgOk]
    have er : rngZ 983 17 = ([983, 984, 985, 986, 987, 988, 989, 990, 991, 992, 993, 994, 995, 996, 997, 998, 999] : List Int).map Z.int := by decide
    rw [er]
    generalize hst : ([983, 984, 985, 986, 987, 988, 989, 990, 991, 992, 993, 994, 995, 996, 997, 998, 999] : List Int) = str
    have ls : str.length = 17 := by rw [← hst]; rfl
    have nds : str.Nodup := by rw [← hst]; decide
    have bs : ∀ j ∈ str, 983 ≤ j ∧ j ≤ 999 := by rw [← hst]; decide
    clear hst er
    have wg' := wg.app [ZO.lst (str.map Z.int)]
    have eg : (g ++ [ZO.lst (str.map Z.int)])[g.length]? = some (ZO.lst (str.map Z.int)) := by simp
    refine pensL_ok eg wg'.rp (by omega) fun h3 O3 k3 r3 sub1 sub2 lO3 => ?_
    have st3 : ZN.St h3 s l ns := St.rp wg'.st wg'.rp (k3.mono fun n _ m => by simp at m; rcases m with m | m <;> simp [m])
    have kb : ∀ n ∈ [rb, p], n ∈ [ra, rb, rc, p] := fun n m => by simp at m; rcases m with m | m <;> simp [m]
    have w3 : Wd h3 s l ns x ra rb rc p n3 n4 H0 zs vs S O3 := { wg' with st := st3, rp := r3, e3 := lst_keep wg'.rp k3 kb wg'.e3, e4 := lst_keep wg'.rp k3 kb wg'.e4, ow := fun j hj y my => sub1 y (wg'.ow j hj y my) }
    have eg3 := lst_keep wg'.rp k3 kb eg
    have cc17 : cutZ (str.map Z.int) none (some (bo.length : Int)) = (str.take bo.length).map Z.int := by
      rw [ZW.cut_to (by simp; omega), List.map_take]
    simp [eg3, cc17, -List.map_take]
    have mt : ∀ j ∈ str.take bo.length, j ∈ str := fun j m => List.mem_of_mem_take m
    have lt : (str.take bo.length).length = bo.length := by simp; omega
    refine fin a b (e + 100) _ O3 (str.take bo.length) _ _ (by omega) (by omega) (by omega) (w3.app _) ⟨by rw [lt]; exact lbo, nds.sublist (List.take_sublist _ _), fun j m => by have := bs j (mt j m); omega⟩ (fun j m => sub2 j (mt j m)) (by omega) (fun vs' S' nb2 few2 c' mm sf nf => ?_) (fun nb2 few2 h' hp => by simp [sizeLine_eq]; exact hp)
    have gm : headerB (hdrZ a b cc (e + 100) os) = true := hdr_good hI.o (by omega) (by omega) (by omega) (by omega)
    refine bad_cert c' w.h0 hi gm (by rw [hgt_hdr] at hgg ⊢; exact hgg) mm ?_
    rw [hoL]
    unfold certB
    have : rowsB S' (posZ vs' (hdrZ a b cc (e + 100) os) + 1) (hgt (hdrZ a b cc (e + 100) os)) bo (ctZ nb2 few2) = false := by
      show sealsB S' _ bo 0 (few2.map Z.int) = false
      cases few2 with
      | nil => exact absurd rfl nf
      | cons j fs =>
        have h1 := bs j (mt j (sf j List.mem_cons_self))
        have h2 : j ∉ bo := fun m => by have := bI.m j m; omega
        rw [List.map_cons, seals_int, decide_eq_false h2]
        simp
    rw [this, Bool.and_false]
  · simp [i5, sizeLine_eq]
    refine fin a 0 e g O bo _ _ (by omega) (by omega) (by omega) wg bI.o hko (by omega) (fun vs' S' nb2 few2 c' mm sf nf => ?_) (fun nb2 few2 h' hp => by simp [sizeLine_eq]; exact hp)
    have gm : headerB (hdrZ a 0 cc e os) = true := hdr_good hI.o (by omega) (by omega) (by omega) (by omega)
    exact bad_prev c' w.h0 hi gm (by rw [hgt_hdr] at hgg ⊢; exact hgg) (by
      rw [prev_hdr]
      intro z
      have := Z.int.inj z
      omega)
end
end K21
namespace K21
open PySem PySem.Spec PyProof.Rows L2 ZL ZG ZF ZN ZH
def shL (us : List Z) : Str := PyData.shown (.list (us.map Z.toD))
theorem tlens_w : ∀ {us : List Z}, (∀ z ∈ us, W 6 60 z) → tlenZs us ≤ 600600 * us.length
  | [], _ => Nat.le_refl _
  | z :: us, h => by
    have a := h z List.mem_cons_self
    have h1 := tlen_le a.s
    have h2 := a.z
    have h3 := tlens_w fun y m => h y (List.mem_cons_of_mem z m)
    show tlenZ z + 2 + tlenZs us ≤ 600600 * (us.length + 1)
    omega
section
variable {s l : Nat} {ns : List Int} {h h' : ZH} {x ra rb rc p n3 n4 : Nat} {H0 : Z} {zs vs : List Z} {S : Seals} {O : List Int} {P : PZ} {E : XZ → ZH → Prop}
theorem repr_at {n : Nat} {us : List Z} (e : h[n]? = some (.lst us)) (w : ∀ z ∈ us, W 6 60 z) (l : us.length ≤ 20) (q : P (.str (shL us)) h) : oRepr [.ref n] h P := by
  refine repr_lst (d := 6) e ?_ ?_ (by decide) ?_ q
  · rw [List.all_eq_true]; exact fun z m => (w z m).p 6 (Nat.le_refl _)
  · rw [List.all_eq_true]; exact fun z m => (w z m).s
  · have := tlens_w w; omega
theorem hk_at {k : Nat} (hk : k ≤ zs.length) : L2.atI (H0 :: zs.map hdO) (k : Int) = some (Hk H0 zs k) := by
  have e := lastO_take (H0 := H0) (zs := zs) (i := k) hk
  have hlen : k < (H0 :: zs.map hdO).length := by simp; omega
  rw [atI_nat hlen]
  rw [List.getElem?_eq_getElem hlen] at e
  exact e
theorem Wd.zw (w : Wd h s l ns x ra rb rc p n3 n4 H0 zs vs S O) : ∀ z ∈ zs, W 6 60 z := fun z m => by
  obtain ⟨nb, few, e, ci⟩ := w.cs z m
  obtain ⟨a, b, c, e', os, eh, hI⟩ := w.hs (hdO z) (List.mem_cons_of_mem _ (List.mem_map.mpr ⟨z, m, rfl⟩))
  rw [e, eh]
  exact (wp2 hI.w ci.w).le (by decide) (by decide)
theorem judge_at (w : Wd h s l ns x ra rb rc p n3 n4 H0 zs vs S O) (lv : vs.length ≤ 1000) {k : Nat} {v : Z} (o : Od 1600 h v) {res : List Z} (e : judgedZ S vs (Hk H0 zs k) v = (res, vs))
    (q : ∀ h' n, Keep h h' [ra] → Wd h' s l ns x ra rb rc p n3 n4 H0 zs vs S O → h'[n]? = some (ZO.lst res) → P (.ref n) h') : ZH.f_judged_heads [.ref x, Hk H0 zs k, v] h P E := by
  have hm : Hk H0 zs k ∈ H0 :: zs.map hdO := by
    show lastO H0 (zs.take k) ∈ _
    have := lastO_hd (H0 := H0) (zs := zs.take k)
    rcases List.mem_cons.mp this with m | m
    · rw [m]; exact List.mem_cons_self
    · obtain ⟨y, my, ey⟩ := List.mem_map.mp m
      exact List.mem_cons_of_mem _ (List.mem_map.mpr ⟨y, List.mem_of_mem_take my, ey⟩)
  obtain ⟨a, b, c, e', os, eh, hI⟩ := w.hs _ hm
  have rv : Rv (Hk H0 zs k) := by rw [eh]; exact hI.w.rv (by decide) (by decide)
  have hg : headerB (Hk H0 zs k) = true := by rw [eh]; exact hI.g
  refine judged_ok w.rp.re (by omega) hg rv o.f (o.nv 30) fun h' n k' re e2 ln => ?_
  rw [e] at re e2
  exact q h' n k' (w.judge k' re) e2
theorem row_od {us : List Z} (w : ∀ z ∈ us, W 6 60 z) (l : us.length ≤ 20) {h : ZH} : Od 1600 h (.tup us) ∧ plainB 30 (.tup us) = true := by
  have := W.tup w
  exact ⟨(this.od).le (by omega), this.p 30 (by decide)⟩
theorem asked_ok (w : Wd h s l ns x ra rb rc p n3 n4 H0 zs vs S O) (c : Chain S vs H0 zs) (lz : zs.length ≤ 6) (lv : vs.length ≤ 1000) (q : ∀ h', Wd h' s l ns x ra rb rc p n3 n4 H0 zs vs S O → P (.bl true) h') :
    f__law_asked [.ref x, .ref n3, .ref n4, .tup zs, .int (zs.length : Int)] h P E := by
  unfold f__law_asked wfOf w__law_asked
  rw [judge_eq]
  simp [w.e3]
  refine ⟨⟨by omega, by omega⟩, ?_⟩
  refine forZ_ind (fun us env h' => ∃ (i m : Nat) (a b : Option Z), us = rngZ (i : Int) m ∧ i + m = zs.length + 1 ∧ Wd h' s l ns x ra rb rc p n3 n4 H0 zs vs S O ∧ env = [some (.ref x), some (.ref n3), some (.ref n4), some (.tup zs), some (.int (zs.length : Int)), a, b]) ?_ ?_ _ _ _ ⟨0, zs.length + 1, _, _, by simp, by omega, w, rfl⟩
  · rintro env h' ⟨i, m, a, b, e1, e2, w', rfl⟩
    refine ⟨trivial, ?_⟩
    simp
    exact q h' w'
  · rintro z us env h' N hN ⟨i, m, a, b, e1, e2, w', rfl⟩
    refine ⟨trivial, ?_⟩
    cases m with
    | zero => cases e1
    | succ m =>
      rw [ZL.rng_cons] at e1
      obtain ⟨rfl, rfl⟩ := List.cons.inj e1
      simp [w'.e3, hk_at (H0 := H0) (zs := zs) (k := i) (by omega)]
      obtain ⟨o, pl⟩ := row_od w.zw (by omega) (h := h')
      refine judge_at w' lv o (whole c w.h0 (by omega) pl) fun h1 n k1 w1 e3 => ?_
      have wd : ∀ z ∈ zs.drop i, W 6 60 z := fun z mz => w.zw z (List.mem_of_mem_drop mz)
      simp [-oRepr_1, e3]
      refine repr_at e3 wd (by simp; omega) ?_
      have cz : cutZ zs (some (i : Int)) (some (if i < zs.length then (zs.length : Int) else (i : Int))) = zs.drop i := by
        have : (if i < zs.length then (zs.length : Int) else (i : Int)) = (zs.length : Int) := by split <;> omega
        rw [this]
        unfold cutZ
        rw [HT.sIx_nat, HT.sIx_nat, Nat.min_eq_left (by omega), Nat.min_eq_left (by omega)]
        rw [List.take_of_length_le (by simp)]
      simp [-oRepr_1, w1.e4, cz]
      refine repr_at (us := zs.drop i) (by simp) wd (by simp; omega) ?_
      simp
      exact hN _ _ ⟨i + 1, m, _, _, by simp, by omega, w1.app _, rfl⟩
theorem cut_mid {us : List Z} {a b : Nat} (ha : a ≤ b) (hb : b ≤ us.length) : cutZ us (some (a : Int)) (some (b : Int)) = (us.drop a).take (b - a) := by
  unfold cutZ
  rw [HT.sIx_nat, HT.sIx_nat, Nat.min_eq_left (by omega), Nat.min_eq_left (by omega)]
theorem elder_ok (w : Wd h s l ns x ra rb rc p n3 n4 H0 zs vs S O) (c : Chain S vs H0 zs) (l1 : 1 ≤ zs.length) (lz : zs.length ≤ 6) (lv : vs.length ≤ 1000) (q : ∀ h', Wd h' s l ns x ra rb rc p n3 n4 H0 zs vs S O → P (.bl true) h') :
    f__law_elder_again [.ref s, .ref x, .ref n3, .ref n4] h P E := by
  unfold f__law_elder_again wfOf w__law_elder_again
  rw [next_eq, judge_eq]
  simp [w.e4]
  refine next_ok (m := (zs.length : Int)) w.st (by omega) (by omega) fun h1 d1 k1 st1 d10 d11 => ?_
  have w1 := w.draw k1 st1
  obtain ⟨i', hi'⟩ : ∃ i' : Nat, 1 + d1 = (i' : Int) := ⟨(1 + d1).toNat, by omega⟩
  simp [hi']
  refine next_ok (m := (i' : Int)) w1.st (by omega) (by omega) fun h2 d2 k2 st2 d20 d21 => ?_
  have w2 := w1.draw k2 st2
  obtain ⟨e, rfl⟩ := Int.eq_ofNat_of_zero_le d20
  have he : e < i' := by omega
  have ct : cutZ zs none (some (i' : Int)) = zs.take i' := ZW.cut_to (by omega)
  have cf : cutZ zs (some (i' : Int)) none = zs.drop i' := ZW.cut_from (by omega)
  have ce : cutZ zs (some (e : Int)) (some ((e : Int) + 1)) = (zs.drop e).take 1 := by
    have := cut_mid (us := zs) (a := e) (b := e + 1) (by omega) (by omega)
    rw [show ((e + 1 : Nat) : Int) = (e : Int) + 1 by omega, show e + 1 - e = 1 by omega] at this
    exact this
  have g4 : ∀ g, (h2 ++ g)[n4]? = some (ZO.lst zs) := fun g => get_app w2.e4
  simp [w2.e4, g4, ct, cf, ce, sizeLine_eq]
  refine ⟨by omega, by omega, ⟨by omega, by omega⟩, ?_⟩
  generalize hg : h2 ++ _ = g
  have wg : Wd g s l ns x ra rb rc p n3 n4 H0 zs vs S O := by rw [← hg]; exact w2.app _
  clear hg
  have wrow : ∀ z ∈ zs.take i' ++ (zs.drop e).take 1 ++ zs.drop i', W 6 60 z := fun z m => by
    rcases List.mem_append.mp m with m | m
    · rcases List.mem_append.mp m with m | m
      · exact w.zw z (List.mem_of_mem_take m)
      · exact w.zw z (List.mem_of_mem_drop (List.mem_of_mem_take m))
    · exact w.zw z (List.mem_of_mem_drop m)
  have lrow : (zs.take i' ++ (zs.drop e).take 1 ++ zs.drop i').length ≤ 20 := by simp; omega
  have erow : zs.take i' ++ ((zs.drop e).take 1 ++ zs.drop i') = zs.take i' ++ (zs.drop e).take 1 ++ zs.drop i' := by rw [List.append_assoc]
  rw [erow]
  refine forZ_ind (fun us env h' => ∃ (k m : Nat) (a b : Option Z), us = rngZ (k : Int) m ∧ k + m = i' + 1 ∧ Wd h' s l ns x ra rb rc p n3 n4 H0 zs vs S O ∧ env = [some (.ref s), some (.ref x), some (.ref n3), some (.ref n4), some (.int (i' : Int)), some (.int (e : Int)), some (.tup (zs.take i' ++ (zs.drop e).take 1 ++ zs.drop i')), a, b]) ?_ ?_ _ _ _ ⟨0, i' + 1, _, _, by simp, by omega, wg, rfl⟩
  · rintro env h' ⟨k, m, a, b, e1, e2, w', rfl⟩
    refine ⟨trivial, ?_⟩
    simp
    exact q h' w'
  · rintro z us env h' N hN ⟨k, m, a, b, e1, e2, w', rfl⟩
    refine ⟨trivial, ?_⟩
    cases m with
    | zero => cases e1
    | succ m =>
      rw [ZL.rng_cons] at e1
      obtain ⟨rfl, rfl⟩ := List.cons.inj e1
      obtain ⟨o, pl⟩ := row_od wrow lrow (h := h')
      simp
      refine kIfE_via (fun z h5 => ∃ n, z = .ref n ∧ Wd h5 s l ns x ra rb rc p n3 n4 H0 zs vs S O ∧ h5[n]? = some (ZO.lst (if k < i' then (zs.drop k).take (i' - k) else zs.drop i'))) ?_ ?_ ?_
      rotate_left
      · intro M hM hk
        have hk : k < i' := by simpa using hk
        have cm := cut_mid (us := zs) (a := k) (b := i') (by omega) (by omega)
        simp [w'.e4, cm]
        exact hM _ _ ⟨_, rfl, w'.app _, by simp [hk]⟩
      · intro M hM hk
        have hk : ¬ k < i' := by simpa using hk
        simp [w'.e4, cf]
        exact hM _ _ ⟨_, rfl, w'.app _, by simp [hk]⟩
      rintro z h5 ⟨n5, rfl, w5, e5⟩
      simp [-oRepr_1, w5.e3, hk_at (H0 := H0) (zs := zs) (k := k) (by omega)]
      have ej : judgedZ S vs (Hk H0 zs k) (.tup (zs.take i' ++ (zs.drop e).take 1 ++ zs.drop i')) = (if k < i' then (zs.drop k).take (i' - k) else zs.drop i', vs) := by
        by_cases hk : k < i'
        · rw [if_pos hk]; exact elder_lo c w.h0 (by omega) hk he pl
        · have : k = i' := by omega
          subst this
          rw [if_neg hk]; exact elder_eq c w.h0 (by omega) he pl
      have wd : ∀ z ∈ (if k < i' then (zs.drop k).take (i' - k) else zs.drop i'), W 6 60 z := fun z m => by
        split at m
        · exact w.zw z (List.mem_of_mem_drop (List.mem_of_mem_take m))
        · exact w.zw z (List.mem_of_mem_drop m)
      have ld : (if k < i' then (zs.drop k).take (i' - k) else zs.drop i').length ≤ 20 := by
        split <;> simp <;> omega
      rw [← List.append_assoc]
      refine judge_at w5 lv (row_od wrow lrow (h := h5)).1 ej fun h6 n6 k6 w6 e6 => ?_
      have e5' : h6[n5]? = _ := k6.get e5 (by simpa using ne_of_get e5 w5.rp.re.ea (by simp))
      simp [-oRepr_1]
      refine repr_at e6 wd ld ?_
      simp [-oRepr_1]
      refine repr_at e5' wd ld ?_
      simp
      exact hN _ _ ⟨k + 1, m, some (.int (k : Int)), some (.ref n5), by simp, by omega, w6, by rw [erow]⟩
end
end K21
namespace K21
open PySem PySem.Spec PyProof.Rows L2 ZL ZG ZF ZN ZH
section
variable {s l : Nat} {ns : List Int} {h h' : ZH} {x ra rb rc p n3 n4 : Nat} {H0 : Z} {zs vs : List Z} {S : Seals} {O : List Int} {P : PZ} {E : XZ → ZH → Prop}
theorem ne_nil {n m : Nat} (e1 : h[n]? = some (.lst [])) (e2 : h[m]? = some (.lst [])) (q : P (.bl false) h) : oNe (.ref n) (.ref m) h P := ne_same e1 e2 okL_nil q
theorem Wd.chain (w : Wd h s l ns x ra rb rc p n3 n4 H0 zs vs S O) (l1 : 1 ≤ zs.length) : Chain S vs H0 zs := by
  rcases w.ch with c | c
  · subst c; simp at l1
  · exact c
theorem judged_odd {v : Z} (hn : plainB 30 v = false ∨ ∀ zs, v ≠ .tup zs) : judgedZ S vs H0 v = ([], vs) := by
  unfold judgedZ
  rcases hn with h | h
  · rw [h]; rfl
  · split
    · split
      · exact absurd rfl (h _)
      · rfl
    · rfl
end
def pairB : Z → Bool
  | .tup [hd, _] => headerB hd
  | _ => false
theorem pair_old {z : Z} {k : Int} (hp : pairB z = true) : ∃ a b c e os ct, z = .tup [hdrZ a b c e os, ct] ∧ oldB k z = decide (a ≤ k) := by
  unfold pairB at hp
  split at hp
  · obtain ⟨a, b, c, e, os, rfl, _⟩ := header_of hp
    refine ⟨a, b, c, e, os, _, rfl, ?_⟩
    show (headerB _ && decide (hgt _ ≤ k)) = _
    rw [hp]; rfl
  · cases hp
theorem pair_none {z : Z} {k : Int} (hp : pairB z = false) : oldB k z = false := by
  unfold pairB at hp
  unfold oldB
  split
  · simp at hp
    rw [hp]; rfl
  · rfl
section
variable {s l : Nat} {ns : List Int} {h h' : ZH} {x ra rb rc p n3 n4 : Nat} {H0 : Z} {zs vs : List Z} {S : Seals} {O : List Int} {P : PZ} {E : XZ → ZH → Prop}
theorem isp_ok {env : ZL.Env} {EE : EZ} {z : Z} (e9 : env[9]? = some (some z)) (w : W 6 60 z) (q : ∀ h', Pre h h' → P (.bl (pairB z)) h') : wAndV (wIsi .tuple [] (wVar 9)) (wAndV (w2 oEq (wCB oLen (wCons (wVar 9) wNil)) (wC (.int 2))) (wCall 1 ZH.f_is_header (wCons (w2 oIx (wVar 9) (wC (.int 0))) wNil))) env h P EE := by
  simp [e9]
  cases z with
  | ref n => have := w.p 6 (Nat.le_refl _); rw [pl_ref] at this; cases this
  | scr n => have := w.p 6 (Nat.le_refl _); rw [pl_scr] at this; cases this
  | err n => have := w.p 6 (Nat.le_refl _); cases this
  | tup us =>
    simp [e9]
    match us, w, q, e9 with
    | [], w, q, e9 => simpa [pairB] using q h (.refl _)
    | [_], w, q, e9 => simpa [pairB] using q h (.refl _)
    | [hd, ct], w, q, e9 =>
      have wh : W 5 60 hd := W.mem (d := 5) w (by simp)
      simp [e9]
      refine header_ok (wh.fit.le (by decide)) (fun _ => wh.nc) fun h1 p1 => ?_
      exact q h1 p1
    | a :: b :: c :: r, w, q, e9 =>
      have : ¬ ((r.length : Int) + 1 + 1 + 1 = 2) := by omega
      simp [this]
      simpa [pairB] using q h (.refl _)
  | _ => simpa [pairB] using q h (.refl _)
/-- one of later heads ahead -/
theorem front_late (c : Chain S vs H0 zs) (h0 : hgt H0 = 0) {k : Nat} (hk : k ≤ zs.length) {z : Z} (m : z ∈ zs.drop (k + 1)) : oldB (k : Int) z = false ∧ ∀ r, judgeZ S vs (Hk H0 zs k) (z :: r) = ([], vs) := by
  obtain ⟨j, hj, rfl⟩ := List.getElem_of_mem m
  rw [List.length_drop] at hj
  have e : (zs.drop (k + 1))[j]'(by rw [List.length_drop]; exact hj) = zs[k + 1 + j] := by simp
  rw [e]
  have cf := chain_from c (k + 1 + j)
  rw [List.drop_eq_getElem_cons (by omega)] at cf
  obtain ⟨⟨hd, ct, ez, h1, h2, h3, h4, h5⟩, w⟩ := cf.2.1
  rw [ez]
  rw [hk_hgt c h0 (by omega)] at h3
  refine ⟨?_, fun r => ?_⟩
  · show (headerB hd && decide (hgt hd ≤ (k : Int))) = false
    rw [decide_eq_false (by omega), Bool.and_false]
  · rw [judge_cons, if_pos h1, if_neg]
    rw [hk_hgt c h0 hk]
    omega
theorem front_judged (c : Chain S vs H0 zs) (h0 : hgt H0 = 0) {k : Nat} (hk : k ≤ zs.length) {z : Z} {r : List Z} (ho : oldB (k : Int) z = false) (hj : ∀ r, judgeZ S vs (Hk H0 zs k) (z :: r) = ([], vs)) : judgedZ S vs (Hk H0 zs k) (.tup (z :: r)) = ([], vs) := by
  unfold judgedZ
  split
  · show judgeZ S vs (Hk H0 zs k) ((z :: r).dropWhile (oldB (hgt (Hk H0 zs k)))) = _
    rw [hk_hgt c h0 hk, drop_new ho, hj]
  · rfl
theorem front_none {k : Int} {last z : Z} (h : ∀ hd ct, z = .tup [hd, ct] → headerB hd = false) : oldB k z = false ∧ ∀ r, judgeZ S vs last (z :: r) = ([], vs) := by
  refine ⟨?_, fun r => judge_none h⟩
  unfold oldB
  split
  · rename_i hd ct
    rw [h hd ct rfl]; rfl
  · rfl
theorem elder_none (c : Chain S vs H0 zs) (h0 : hgt H0 = 0) {k : Nat} (hk : k ≤ zs.length) (p : plainB 30 (.tup ((zs.take k).map (fun z => Z.tup [hdO z, .non]) ++ zs.drop k)) = true) :
    judgedZ S vs (Hk H0 zs k) (.tup ((zs.take k).map (fun z => Z.tup [hdO z, .non]) ++ zs.drop k)) = (zs.drop k, vs) := by
  unfold judgedZ
  rw [p]
  show judgeZ S vs (Hk H0 zs k) (((zs.take k).map (fun z => Z.tup [hdO z, .non]) ++ zs.drop k).dropWhile (oldB (hgt (Hk H0 zs k)))) = _
  rw [hk_hgt c h0 hk, drop_old, drop_from c h0 hk, judge_all (chain_from c k)]
  intro y my
  obtain ⟨z, mz, rfl⟩ := List.mem_map.mp my
  have := chain_old (chain_take c k) (ht := (k : Int)) (by rw [h0, List.length_take, Nat.min_eq_left hk]; omega) z mz
  unfold oldB at this
  split at this
  · exact this
  · cases this
end
theorem law_ok : LawOk f_law := by
  intro ns hn
  unfold f_law wfOf w_law
  rw [reg_eq, next_eq, judge_eq, head_eq]
  simp [sizeLine_eq]
  refine init_ok (x := 2) rfl fun h1 ra k1 rx ha hb hc la => ?_
  have st1 : ZN.St h1 1 0 ns := ⟨⟨0, 0, 1, k1.get rfl (by simp), by decide, by decide, by decide, by decide⟩, k1.get rfl (by simp), hn⟩
  have re1 : Re h1 2 ra (ra + 1) (ra + 2) [] [] := ⟨rx, ha, ⟨_, hc, seals0⟩, by simp, by omega, by omega, by omega⟩
  simp
  refine chain_ok st1 re1 hb fun h2 p n3 n4 H0 zs vs S O w l1 lz lv lS lO => ?_
  have c := w.chain l1
  simp [w.e4, sizeLine_eq]
  refine asked_ok w c lz (by omega) fun h3 w3 => ?_
  have k0 := hk_at (H0 := H0) (zs := zs) (k := 0) (by omega)
  have g4 : ∀ g, (h3 ++ g)[n4]? = some (ZO.lst zs) := fun g => get_app w3.e4
  simp [w3.e4, g4, sizeLine_eq]
  generalize hL : [Z.non, Z.int 5, Z.str (Str.ofString "heads"), Z.ref (List.length h3), Z.ref (List.length h3 + 1), Z.ref (List.length h3 + 2), Z.tup [], Z.tup [Z.non], Z.tup [Z.tup []]] = L
  generalize hG : h3 ++ _ = g
  have wg : Wd g 1 0 ns 2 ra (ra + 1) (ra + 2) p n3 n4 H0 zs vs S O := by rw [← hG]; exact w3.app _
  have gL : g[h3.length + 3]? = some (ZO.lst L) := by rw [← hG]; simp
  have oL : ∀ z ∈ L, Od 1600 g z ∧ judgedZ S vs H0 z = ([], vs) := by
    intro z m
    rw [← hL] at m
    simp only [List.mem_cons, List.mem_nil_iff, or_false] at m
    rcases m with rfl | rfl | rfl | rfl | rfl | rfl | rfl | rfl | rfl
    · exact ⟨w_non.od.le (by decide), judged_odd (.inr (by simp))⟩
    · exact ⟨(w_int (by decide)).od.le (by decide), judged_odd (.inr (by simp))⟩
    · exact ⟨(w_str (by decide +kernel)).od.le (by decide), judged_odd (.inr (by simp))⟩
    · exact ⟨(od_lst (zs := zs) (by rw [← hG]; simp)).le (by decide), judged_odd (.inr (by simp))⟩
    · exact ⟨(od_dict (zs := []) (by rw [← hG]; simp)).le (by decide), judged_odd (.inr (by simp))⟩
    · exact ⟨(od_lst (zs := [Z.str (Str.ofString "ab")]) (by rw [← hG]; simp)).le (by decide), judged_odd (.inr (by simp))⟩
    · exact ⟨w_nil.od.le (by decide), rfl⟩
    · exact ⟨(wt1 w_non).od.le (by decide), rfl⟩
    · exact ⟨(wt1 w_nil).od.le (by decide), rfl⟩
  clear hL hG
  refine forZ_ind (fun us env h' => (Wd h' 1 0 ns 2 ra (ra + 1) (ra + 2) p n3 n4 H0 zs vs S O ∧ h'[h3.length + 3]? = some (ZO.lst L) ∧ ∀ z ∈ us, Od 1600 h' z ∧ judgedZ S vs H0 z = ([], vs)) ∧
    ∃ y, env = [some (Z.scr ns), some (Z.ref 1), some (Z.ref 2), some (Z.ref p), some (Z.ref n3), some (Z.ref n4), y, none, none, none, none, none, none, none, none, none, none, none]) ?_ ?_ _ _ _ ⟨⟨wg, gL, oL⟩, _, rfl⟩
  rotate_left
  · rintro z us env h' N hN ⟨⟨w', g', o'⟩, y, rfl⟩
    refine ⟨g', ?_⟩
    obtain ⟨oz, jz⟩ := o' z List.mem_cons_self
    simp [w'.e3, k0]
    refine judge_at (k := 0) w' (by omega) oz jz fun h4 n4' k4 w4 e4 => ?_
    simp [sizeLine_eq]
    refine ne_nil (get_app e4) (by simp) ?_
    simp
    refine hN _ _ ⟨⟨w4.app _, get_app (k4.get g' (by simpa using ne_of_get g' w'.rp.re.ea (by simp))), fun y my => ?_⟩, _, rfl⟩
    obtain ⟨o1, o2⟩ := o' y (List.mem_cons_of_mem _ my)
    exact ⟨(o1.keep k4 fun i mi => by simp at mi; subst mi; exact .inr ⟨_, w4.rp.re.ea⟩).app _, o2⟩
  rintro env h4 ⟨⟨w4, g4', _⟩, y, rfl⟩
  refine ⟨g4', ?_⟩
  simp [w4.e3, w4.e4, k0, sizeLine_eq]
  refine ⟨by omega, ?_⟩
  have w4' := w4.app [ZO.lst [Z.int 1]]
  have e1' : (h4 ++ [ZO.lst [Z.int 1]])[h4.length]? = some (ZO.lst [Z.int 1]) := by simp
  generalize h4 ++ [ZO.lst [Z.int 1]] = h5 at w4' e1'
  have od5 : Od 1600 h5 (.tup (zs ++ [.ref h4.length])) := (Od.tup (n := 60) fun z m => by
    rcases List.mem_append.mp m with m | m
    · exact (w.zw z m).od
    · simp at m; subst m; exact (od_lst e1').le (by decide)).le (by simp; omega)
  have np : plainB 30 (.tup (zs ++ [Z.ref h4.length])) = false := by
    show plainBs 29 _ = false
    rw [plainBs_all, List.all_eq_false]
    exact ⟨_, List.mem_append_right _ List.mem_cons_self, by rw [pl_ref]; simp⟩
  refine judge_at (k := 0) w4' (by omega) od5 (judged_odd (.inl np)) fun h6 n6 k6 w6 e6 => ?_
  simp [sizeLine_eq]
  refine ne_nil (get_app e6) (by simp) ?_
  simp
  have w7 := w6.app [ZO.lst []]
  refine ⟨⟨by omega, by omega⟩, ?_⟩
  generalize h6 ++ [ZO.lst []] = h7 at w7
  clear w w3 wg w4 w4' w6 c
  refine forZ_ind (fun us env h' => ∃ (vs : List Z) (S : Seals) (O : List Int) (t : Nat) (a b c d e f g i : Option Z) (u v : Option Z), us.length + t = 4 ∧ Wd h' 1 0 ns 2 ra (ra + 1) (ra + 2) p n3 n4 H0 zs vs S O ∧ vs.length ≤ 20 + t ∧ S.length ≤ 100 + 10 * t ∧ O.length ≤ 100 + 17 * t ∧
    env = [some (Z.scr ns), some (Z.ref 1), some (Z.ref 2), some (Z.ref p), some (Z.ref n3), some (Z.ref n4), a, b, c, d, e, f, g, i, u, v, none, none]) ?_ ?_ _ _ _ ⟨vs, S, O, 0, _, _, _, _, _, _, _, _, _, _, by simp [rngZ], w7, by omega, by omega, by omega, rfl⟩
  · rintro env h8 ⟨vs, S, O, t, a, b, c, d, e, f, g, i, u, v, e1, w, lv, lS, lO, rfl⟩
    refine ⟨trivial, ?_⟩
    have c := w.chain l1
    simp at e1
    simp [w.e3]
    refine next_ok (m := (zs.length : Int) + 1) w.st (by omega) (by omega) fun h9 d9 k9 st9 d90 d91 => ?_
    have w9 := w.draw k9 st9
    obtain ⟨k, rfl⟩ := Int.eq_ofNat_of_zero_le d90
    have hk : k ≤ zs.length := by omega
    have ct : cutZ zs none (some (k : Int)) = zs.take k := ZW.cut_to hk
    have cf : cutZ zs (some (k : Int)) none = zs.drop k := ZW.cut_from hk
    have g9 : ∀ g, (h9 ++ g)[n4]? = some (ZO.lst zs) := fun g => get_app w9.e4
    simp [w9.e4, ct]
    refine lcZ_map (f := fun z => Z.tup [hdO z, .non]) (S := fun z => z ∈ zs) (C := fun h' => h'[h9.length]? = some (ZO.lst (zs.take k))) (fun h h' e p => p.get e) (fun h' e => e) (by rw [sizeLine_eq]; simp; omega) (by simp) (fun z m => List.mem_of_mem_take m) (fun z hz => ?_) ?_
    · refine ⟨_, rfl, fun h4 K e hK => ?_⟩
      obtain ⟨nb, few, ez, _⟩ := w9.cs z hz
      have := hK h4 (.refl _)
      rw [ez]
      simp [wipeE, sizeLine_eq]
      exact this
    intro h10 p10
    have w10 := (w9.app [ZO.lst (zs.take k)]).pre p10
    have wrow : ∀ y ∈ (zs.take k).map (fun z => Z.tup [hdO z, .non]) ++ zs.drop k, W 6 60 y := fun y my => by
      rcases List.mem_append.mp my with my | my
      · obtain ⟨z, hz, rfl⟩ := List.mem_map.mp my
        obtain ⟨a, b, c, e', os, eh, hI⟩ := w9.hs (hdO z) (List.mem_cons_of_mem _ (List.mem_map.mpr ⟨z, List.mem_of_mem_take hz, rfl⟩))
        rw [eh]
        exact (wt2 (d := 2) (n := 17) hI.w (w_non.le (by decide) (by decide))).le (by decide) (by decide)
      · exact w9.zw y (List.mem_of_mem_drop my)
    have lrow : ((zs.take k).map (fun z => Z.tup [hdO z, .non]) ++ zs.drop k).length ≤ 20 := by simp; omega
    have g10 : ∀ g, (h10 ++ g)[n4]? = some (ZO.lst zs) := fun g => get_app w10.e4
    have g10' : ∀ g, (h10 ++ g)[n3]? = some (ZO.lst (H0 :: zs.map hdO)) := fun g => get_app w10.e3
    simp [-oRepr_1, -List.map_take, g10, g10', hk_at (H0 := H0) (zs := zs) (k := k) hk, cf, sizeLine_eq]
    refine ⟨by omega, ?_⟩
    generalize hG : h10 ++ _ = g11
    have w11 : Wd g11 1 0 ns 2 ra (ra + 1) (ra + 2) p n3 n4 H0 zs vs S O := by rw [← hG]; exact w10.app _
    clear hG
    obtain ⟨o11, pl11⟩ := row_od wrow lrow (h := g11)
    have wd : ∀ y ∈ zs.drop k, W 6 60 y := fun y my => w11.zw y (List.mem_of_mem_drop my)
    refine judge_at w11 (by omega) o11 (elder_none c w.h0 hk pl11) fun h12 n12 k12 w12 e12 => ?_
    simp [-oRepr_1]
    refine repr_at e12 wd (by simp; omega) ?_
    simp [-oRepr_1, w12.e4, cf]
    refine repr_at (us := zs.drop k) (by simp) wd (by simp; omega) ?_
    simp
  · rintro z us env h' N hN ⟨vs, S, O, t, a, b, c, d, e, f, g, i, u, v, e1, w, lv, lS, lO, rfl⟩
    refine ⟨trivial, ?_⟩
    have c := w.chain l1
    rw [List.length_cons] at e1
    simp
    refine elder_ok w c l1 lz (by omega) fun h1 w1 => ?_
    simp [w1.e4]
    refine next_ok (m := (zs.length : Int)) w1.st (by omega) (by omega) fun h2 d2 k2 st2 d20 d21 => ?_
    have w2 := w1.draw k2 st2
    obtain ⟨i, rfl⟩ := Int.eq_ofNat_of_zero_le d20
    have hi : i < zs.length := by omega
    simp
    refine spoilt_ok w2 c hi lz (by omega) (by omega) (by omega) fun h3 sz vs' S' O' w3 c' bs ws lv' lS' lO' => ?_
    have ct : cutZ zs none (some (i : Int)) = zs.take i := ZW.cut_to (by omega)
    have cf : cutZ zs (some ((i : Int) + 1)) none = zs.drop (i + 1) := by
      rw [show ((i : Int) + 1) = ((i + 1 : Nat) : Int) by omega]
      exact ZW.cut_from (by omega)
    have g4 : ∀ g, (h3 ++ g)[n4]? = some (ZO.lst zs) := fun g => get_app w3.e4
    simp [w3.e4, g4, ct, cf, sizeLine_eq, -m_andV]
    refine ⟨by omega, by omega, ?_⟩
    generalize hg : h3 ++ _ = g5
    have w5 : Wd g5 1 0 ns 2 ra (ra + 1) (ra + 2) p n3 n4 H0 zs vs' S' O' := by rw [← hg]; exact w3.app _
    clear hg
    refine isp_ok rfl ws fun h6 p6 => ?_
    have w6 := w5.pre p6
    simp [w6.e3]
    refine ⟨⟨by omega, by omega⟩, ?_⟩
    have wrow : ∀ z ∈ zs.take i ++ sz :: zs.drop (i + 1), W 6 60 z := fun z m => by
      rcases List.mem_append.mp m with m | m
      · exact w6.zw z (List.mem_of_mem_take m)
      · rcases List.mem_cons.mp m with rfl | m
        · exact ws
        · exact w6.zw z (List.mem_of_mem_drop m)
    have lrow : (zs.take i ++ sz :: zs.drop (i + 1)).length ≤ 20 := by simp; omega
    refine forZ_ind (fun us env h' => ∃ (k m : Nat) (a' b' : Option Z), us = rngZ (k : Int) m ∧ k + m = zs.length + 1 ∧ Wd h' 1 0 ns 2 ra (ra + 1) (ra + 2) p n3 n4 H0 zs vs' S' O' ∧
      env = [some (Z.scr ns), some (Z.ref 1), some (Z.ref 2), some (Z.ref p), some (Z.ref n3), some (Z.ref n4), a, some z, some (Z.int (i : Int)), some sz, some (Z.tup (zs.take i ++ sz :: zs.drop (i + 1))), some (.bl (pairB sz)), a', b', u, v, none, none]) ?_ ?_ _ _ _ ⟨0, zs.length + 1, _, _, by simp, by omega, w6, rfl⟩
    rotate_left
    · rintro z' us' env h8 N' hN' ⟨k, m, a', b', e3, e4, w8, rfl⟩
      refine ⟨trivial, ?_⟩
      cases m with
      | zero => cases e3
      | succ m =>
        rw [ZL.rng_cons] at e3
        obtain ⟨rfl, rfl⟩ := List.cons.inj e3
        have hk : k ≤ zs.length := by omega
        have hdue : ∃ due, (if i < k then (if oldB (k : Int) sz = true then zs.drop k else []) else (zs.drop k).take (i - k)) = due := ⟨_, rfl⟩
        obtain ⟨due, hdue⟩ := hdue
        have cs : cutZ zs (some (k : Int)) (some (i : Int)) = (zs.drop k).take (i - k) := by
          unfold cutZ
          rw [HT.sIx_nat, HT.sIx_nat, Nat.min_eq_left (by omega), Nat.min_eq_left (by omega)]
        have cfk : cutZ zs (some (k : Int)) none = zs.drop k := ZW.cut_from hk
        have g8 : ∀ g, (h8 ++ g)[n4]? = some (ZO.lst zs) := fun g => get_app w8.e4
        simp [w8.e4, cs]
        refine kAndIf_via (fun env h9 => ∃ m', Wd h9 1 0 ns 2 ra (ra + 1) (ra + 2) p n3 n4 H0 zs vs' S' O' ∧ h9[m']? = some (ZO.lst due) ∧
          env = [some (Z.scr ns), some (Z.ref 1), some (Z.ref 2), some (Z.ref p), some (Z.ref n3), some (Z.ref n4), a, some z, some (Z.int (i : Int)), some sz, some (Z.tup (zs.take i ++ sz :: zs.drop (i + 1))), some (.bl (pairB sz)), some (.int (k : Int)), some (.ref m'), u, v, none, none]) ?_ ?_ ?_
        · intro M hM hik
          have hik : i < k := by simpa using hik
          rw [if_pos hik] at hdue
          have e0 : (zs.drop k).take (i - k) = [] := by rw [show i - k = 0 by omega]; rfl
          simp [e0]
          cases hp : pairB sz with
          | false =>
            rw [pair_none hp] at hdue
            simp
            exact hM _ _ ⟨h8.length, w8.app _, by rw [← hdue]; simp, by rw [hp]⟩
          | true =>
            obtain ⟨a1, b1, c1, e1', os1, ct1, rfl, ho⟩ := pair_old (k := (k : Int)) hp
            rw [ho] at hdue
            have i1 : ∀ {a b c e : Int} {os : List Int}, oIx (hdrZ a b c e os) (.int 1) = fun h P => P (.int a) h := fun {a b c e os} => by
              funext h P
              simp [hdrZ]
            simp [i1]
            refine kIf_of (fun c1' => ?_) (fun c1' => ?_)
            · rw [c1'] at hdue
              simp [g8, cfk]
              exact hM _ _ ⟨h8.length + 1, w8.app _, by rw [← hdue]; simp, by rw [hp]⟩
            · rw [c1'] at hdue
              simp
              exact hM _ _ ⟨h8.length, w8.app _, by rw [← hdue]; simp, by rw [hp]⟩
        · intro M hM hik
          have hik : ¬ i < k := by simpa using hik
          rw [if_neg hik] at hdue
          simp
          exact hM _ _ ⟨_, w8.app _, by rw [← hdue]; simp, rfl⟩
        rintro env h9 ⟨m', w9, e9, rfl⟩
        obtain ⟨o9, pl9⟩ := row_od wrow lrow (h := h9)
        have ej : judgedZ S' vs' (Hk H0 zs k) (.tup (zs.take i ++ sz :: zs.drop (i + 1))) = (due, vs') := by
          by_cases hik : i < k
          · rw [spoilt_hi c' w6.h0 hi hik hk bs pl9, ← hdue, if_pos hik]
          · rw [spoilt_lo c' w6.h0 hi (by omega) bs pl9, ← hdue, if_neg hik]
        have wd : ∀ y ∈ due, W 6 60 y := fun y my => by
          rw [← hdue] at my
          split at my
          · split at my
            · exact w6.zw y (List.mem_of_mem_drop my)
            · cases my
          · exact w6.zw y (List.mem_of_mem_drop (List.mem_of_mem_take my))
        have ld : due.length ≤ 20 := by
          rw [← hdue]
          split
          · split <;> simp <;> omega
          · simp; omega
        simp [-oRepr_1, w9.e3, hk_at (H0 := H0) (zs := zs) (k := k) hk]
        refine judge_at w9 (by omega) o9 ej fun h10 n10 k10 w10 e10 => ?_
        have e9' : h10[m']? = _ := k10.get e9 (by simpa using ne_of_get e9 w9.rp.re.ea (by simp))
        simp [-oRepr_1]
        refine repr_at e10 wd ld ?_
        simp [-oRepr_1]
        refine repr_at e9' wd ld ?_
        simp
        exact hN' _ _ ⟨k + 1, m, _, _, by simp, by omega, w10, rfl⟩
    rintro env h8 ⟨k0', m0', a', b', _, _, w8, rfl⟩
    refine ⟨trivial, ?_⟩
    simp [w8.e3]
    refine next_ok (m := (zs.length : Int) + 1) w8.st (by omega) (by omega) fun h9 d9 k9 st9 d90 d91 => ?_
    have w9 := w8.draw k9 st9
    obtain ⟨k, rfl⟩ := Int.eq_ofNat_of_zero_le d90
    have hk : k ≤ zs.length := by omega
    have cf1 : cutZ zs (some ((k : Int) + 1)) none = zs.drop (k + 1) := by
      by_cases hk1 : k + 1 ≤ zs.length
      · rw [show ((k : Int) + 1) = ((k + 1 : Nat) : Int) by omega]
        exact ZW.cut_from hk1
      · unfold cutZ
        rw [show ((k : Int) + 1) = ((k + 1 : Nat) : Int) by omega, HT.sIx_nat]
        rw [List.drop_of_length_le (by omega), List.drop_of_length_le (by omega)]
        simp
    have cfk : cutZ zs (some (k : Int)) none = zs.drop k := ZW.cut_from hk
    obtain ⟨lz', elz, hlz⟩ : ∃ y, L2.atI zs (-1) = some y ∧ y ∈ zs := by
      refine ⟨zs[zs.length - 1]'(by omega), ?_, List.getElem_mem _⟩
      unfold L2.atI
      have e : L2.ixN zs.length (-1) = some (zs.length - 1) := by
        unfold L2.ixN
        rw [if_neg (by omega), if_pos (by omega)]
        congr 1
        omega
      rw [e]
      show zs[zs.length - 1]? = _
      rw [List.getElem?_eq_getElem (by omega)]
    obtain ⟨nb, few, ely, cil⟩ := w9.cs lz' hlz
    obtain ⟨a2, b2, c2, e2, os2, ehd, hI2⟩ := w9.hs (hdO lz') (List.mem_cons_of_mem _ (List.mem_map.mpr ⟨lz', hlz, rfl⟩))
    rw [ely, ehd] at elz
    have g9 : ∀ g, (h9 ++ g)[n4]? = some (ZO.lst zs) := fun g => get_app w9.e4
    simp [w9.e4, g9, elz, cf1, sizeLine_eq]
    refine ⟨by omega, ?_⟩
    generalize hJ : Z.non :: Z.tup [] :: Z.int 7 :: Z.str (Str.ofString "head") :: Z.tup [hdrZ a2 b2 c2 e2 os2, ctZ nb few, Z.int 0] :: Z.tup [Z.non, hdrZ a2 b2 c2 e2 os2] :: zs.drop (k + 1) = J
    have lJ : J.length = zs.length - (k + 1) + 6 := by rw [← hJ]; simp
    have oJ : ∀ y ∈ J, W 6 60 y ∧ oldB (k : Int) y = false ∧ ∀ r, judgeZ S' vs' (Hk H0 zs k) (y :: r) = ([], vs') := by
      intro y my
      rw [← hJ] at my
      simp only [List.mem_cons] at my
      rcases my with rfl | rfl | rfl | rfl | rfl | rfl | my
      · exact ⟨w_non.le (by decide) (by decide), front_none (by simp)⟩
      · exact ⟨w_nil.le (by decide) (by decide), front_none (by simp)⟩
      · exact ⟨(w_int (by decide)).le (by decide) (by decide), front_none (by simp)⟩
      · exact ⟨(w_str (by decide +kernel)).le (by decide) (by decide), front_none (by simp)⟩
      · exact ⟨(wt3 (d := 2) (n := 17) hI2.w (cil.w.le (Nat.le_refl _) (by decide)) ((w_int (by decide)).le (by decide) (by decide))).le (by decide) (by decide), front_none (by simp)⟩
      · refine ⟨(wt2 (d := 2) (n := 17) (w_non.le (by decide) (by decide)) hI2.w).le (by decide) (by decide), front_none fun hd ct e => ?_⟩
        simp only [Z.tup.injEq, List.cons.injEq, and_true] at e
        rw [← e.1]
        rfl
      · exact ⟨w9.zw y (List.mem_of_mem_drop my), front_late c' w9.h0 hk my⟩
    have em : ((zs.length - (k + 1) : Nat) : Int) + 1 + 1 + 1 + 1 + 1 + 1 = (J.length : Int) := by rw [lJ]; omega
    rw [em]
    generalize hG : h9 ++ _ = g10
    have w10 : Wd g10 1 0 ns 2 ra (ra + 1) (ra + 2) p n3 n4 H0 zs vs' S' O' := by rw [← hG]; exact w9.app _
    have eJ : g10[h9.length + 2]? = some (ZO.lst J) := by rw [← hG]; simp
    have lg : 1 < h9.length + 2 := by have := w9.st.lt; omega
    clear hG hJ em
    refine next_ok (m := (J.length : Int)) w10.st (by omega) (by omega) fun h11 d11 k11 st11 d110 d111 => ?_
    have w11 := w10.draw k11 st11
    have eJ' := k11.get eJ (by simp <;> omega)
    simp [eJ']
    refine pick (xs := J) d110 d111 fun fr hfr => ?_
    obtain ⟨wf, of, jf⟩ := oJ fr hfr
    simp [w11.e3, w11.e4, hk_at (H0 := H0) (zs := zs) (k := k) hk, cfk, sizeLine_eq]
    refine ⟨by omega, ?_⟩
    have wrow2 : ∀ y ∈ fr :: zs.drop k, W 6 60 y := fun y my => by
      rcases List.mem_cons.mp my with rfl | my
      · exact wf
      · exact w11.zw y (List.mem_of_mem_drop my)
    have w12 := w11.app [ZO.lst (zs.drop k)]
    refine judge_at w12 (by omega) (row_od wrow2 (by simp; omega)).1 (front_judged c' w9.h0 hk of jf) fun h13 n13 k13 w13 e13 => ?_
    simp [sizeLine_eq]
    refine ne_nil (get_app e13) (by simp) ?_
    simp
    exact hN _ _ ⟨vs', S', O', t + 1, _, _, _, _, _, _, _, _, _, _, by omega, w13.app _, by omega, by omega, by omega, rfl⟩
end K21

namespace K21
open PySem PySem.Spec PyProof.Rows L2 ZL
abbrev R : PySem.W.OpenRow := PySem.W.OpenLaw.row PySem.Challenge.rw_trothbase_k21_judged_heads
abbrev hk : PySem.W.Hook := hookZ 4 fa fb fn
def ob (s : PySem.W.SharedT) : He.AlD × Bool := obsZ 4 fa fb fn (HandSHeadRun.getT s)
theorem ob_eq (s : PySem.W.SharedT) : ob s = hk.obs s.abs := obsZ_eq (HandSHeadRun.getT_eq s)
def names : List PySem.Str := (["TrothError", "InvalidArgument", "MOST_DEEP", "MOST_INTEGER", "is_within", "is_plain", "Pen", "Registry", "is_count", "is_row_of", "MOST_OWNER", "are_owners", "is_natural", "is_header", "quorum", "is_certificate", "is_old", "judged_heads", "_law_next", "_law_owners", "_law_pens", "_law_certified", "_law_chain", "_law_spoilt", "_law_asked", "_law_elder_again"] : List PySem.Str)
theorem run (w : World) : HandSHeadRun.RunEq R (PySem.W.view R.prog [31]) hk ob 4000 names w := by
  intro os
  kernel_rfl
theorem law_fn {P : Program} {w : World} {K : PySem.W.Frag} {h : Heap} {mg : Str → Option Value} {f : Addr} (X : K.In h) (G : h.Ns mainGlobals mg) (hfa : mg ("law" : Str) = some (.ref f)) (c : SaysZ fa fb fn K) :
    ∃ fd : FuncData, (∀ (s : Shared) (v : Value), BindsTo s fd ⟨[v], []⟩ [("script", v)]) ∧ ∀ base : Heap, K.In base → base.Ns mainGlobals mg → FnG P w K mg base CX0 7 f fd ["script"] (spZ0 K mg 1 f_law) := by
  have T : Txt fa fb fn K mg := ⟨⟨h, X, G⟩, c⟩
  obtain ⟨fd, F⟩ := T.def_ 26 (d := d_law) rfl
  have e := hfa.symm.trans (T.glo 52)
  cases e
  have b := FunD.bindsA (ps := ["script"]) F fun _ _ _ _ _ _ us hl => match us, hl with | [_], _ => rfl
  exact ⟨fd, fun s v => b s [v] rfl, fun base _ _ => fn_ok0 (x := "law") F sc_law rfl (z_law T)⟩
end K21
open PySem PySem.W PySem.Calls PyProof.Rows
theorem PySem.Challenge.cw_trothbase_k21_judged_heads_holds : PySem.Challenge.rw_trothbase_k21_judged_heads.Holds := by
  w_on; o_law
  refine HandSHeadRun.head_any (r := OpenLaw.row PySem.Challenge.rw_trothbase_k21_judged_heads) (q := view (OpenLaw.row PySem.Challenge.rw_trothbase_k21_judged_heads).prog [31]) (H := K21.hk) (ob := K21.ob) (M := 4000) (loose := K21.names) (d := HandSHeadRun.topDef (OpenLaw.row PySem.Challenge.rw_trothbase_k21_judged_heads).prog 31) (kwd := []) K21.ob_eq
    (by kernel_rfl) (fun s => by kernel_rfl) K21.run (by kernel_rfl) (by kernel_rfl) (by kernel_rfl) (by rfl) (by first | assumption | decide +kernel) (by decide +kernel) ⟨rfl, rfl, rfl, rfl, rfl, by decide +kernel⟩ ?hw ?hc
  case hw => w_witness2
  case hc =>
    refine ZL.walkG (l := PySem.Challenge.rw_trothbase_k21_judged_heads) (k := 7) (x := "script") rfl (by kernel_rfl) ⟨rfl, by decide, by decide⟩ ?F
    intro w mg fa h Y G hmg0
    obtain ⟨K, KX, c⟩ := Y
    have hmg : mg ("law" : PySem.Str) = some (.ref fa) := by
      have e : (HandSHeadRun.topDef (OpenLaw.row PySem.Challenge.rw_trothbase_k21_judged_heads).prog 31).name = ("law" : PySem.Str) := by kernel_rfl
      rw [← e]
      exact hmg0
    obtain ⟨fd, hb, hF⟩ := K21.law_fn (P := (PySem.Challenge.rw_trothbase_k21_judged_heads).prog) (w := w) KX G hmg c
    exact ⟨K, fd, ZL.spZ0 K mg 1 K21.f_law, KX, hb, fun H a ns hl hO hS => ZL.law_sp K21.law_ok H a ns hl hO hS, hF⟩
