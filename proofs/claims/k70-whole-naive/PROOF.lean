import PyProof.Rows.All
import Wide.All
import OpenK.AllK
import Wide.FinOn
import HandS.ForMost
import HandS.ForExc
import HandS.IsInst
import HandS.Style
import HandS.Flow
import HandS.TupLe
import HandS.TupAny
import HandS.TupMul
import HandS.Zip
import HandS.Wide
import HandS.Conv
import HandS.SortInts
import HandS.NoneIn
import KE.SortData
import KE.DataEq
import HandS.TupSets
import HandS.SetFor
import HandS.Strs
import HandS.ExcIs
import KE.KRevSl
import KE.GoesMore
import KE.GoesEnum
import HandS.Deep
import KE.KDictDisplayH
import HandS.Defaults
import HandS.WordsExc
import HandS.HeadHook1
import HandS.HeadHook2
import HandS.HeadHook3
import HandS.HeadHook4
import HandS.EndBits
import HandS.HeadEnd
import HandS.Head0
import HandS.Head1
import HandS.Head2
import HandS.Codes
import PySem.Challenge.RW_bandrules_k70_whole_naive
set_option Elab.async false
set_option linter.all false
set_option maxRecDepth 100000
set_option maxHeartbeats 4000000
set_option autoImplicit false
/-! the pure layer: data, results, what represents data in the abstract heap -/
namespace BR
open PySem PySem.Spec PyProof.Rows L2

abbrev D := PyData
/-- a result: a value, an exception of an own class (by its name), or nothing said -/
inductive R (α : Type) where
  | ok (a : α) | exc (c : Str) | stk
@[inline] def R.bind {α β : Type} (r : R α) (f : α → R β) : R β := match r with
  | .ok a => f a
  | .exc c => .exc c
  | .stk => .stk
/-- dict entries whose keys are tuples of ints -/
abbrev KD := List (List Int × D)
/-- what an expression gives: data; a new list; a new dict; a list, a dict of the frame's own (borrowed); a constant of the module -/
inductive Vw where
  | dt (d : D) | fl (ds : List D) | fd (ks : KD) | bl (ds : List D) | bd (ks : KD) | kc (d : D)
/-- a slot: empty, data, a list of one's own, a dict of one's own -/
inductive Sl where
  | em | dd (d : D) | ol (ds : List D) | od (ks : KD)
abbrev Env := List Sl

def keyD (k : List Int) : D := .tuple (k.map .int)
def dicD (ks : KD) : D := .dict (ks.map fun p => (keyD p.1, p.2))
def toKey (k : List Int) : List Key := k.map Sum.inl

/-! ### representation -/
/-- the list at a stands still -/
def FzL (K : PySem.W.Frag) (F : Addr → Prop) (H : Hp) (a : Addr) (xs : List V) : Prop :=
  (F a ∧ H a = some (.lst xs)) ∨ (∃ o, H a = some (.frz o (.lst xs))) ∨
    ∃ (o : Obj) (its : Array Value) (n : Nat), K.lookup a = some o ∧ o.cls = .type "list" ∧ o.dict = none ∧ o.data = .seq its n ∧ its.size ≤ sizeLine ∧ Vals xs its.toList
theorem FzL.sq {K : PySem.W.Frag} {F : Addr → Prop} {H : Hp} {a : Addr} {xs : List V} (h : FzL K F H a xs) : SqL K H a xs := by
  rcases h with ⟨_, h⟩ | ⟨o, h⟩ | h
  · exact .inl (.inl h)
  · exact .inl (.inr ⟨o, h⟩)
  · exact .inr h
mutual
inductive Rep (K : PySem.W.Frag) (F : Addr → Prop) (H : Hp) : V → D → Prop
  | non : Rep K F H .non .none
  | bl (b : Bool) : Rep K F H (.bl b) (.bool b)
  | int (i : Int) : Rep K F H (.int i) (.int i)
  | str (x : Str) : Rep K F H (.str x) (.str x)
  | lst {a : Addr} {xs : List V} {ds : List D} : FzL K F H a xs → RepL K F H xs ds → Rep K F H (.ref a) (.list ds)
  | tup {a : Addr} {xs : List V} {ds : List D} : H a = some (.tup xs) → RepL K F H xs ds → Rep K F H (.ref a) (.tuple ds)
  | dct {a : Addr} {o : Obj} {kvs : List (List Key × V)} {ds : List (D × D)} : H a = some (.frz o (.dT kvs)) → RepK K F H kvs ds → Rep K F H (.ref a) (.dict ds)
inductive RepL (K : PySem.W.Frag) (F : Addr → Prop) (H : Hp) : List V → List D → Prop
  | nil : RepL K F H [] []
  | cons {v : V} {vs : List V} {d : D} {ds : List D} : Rep K F H v d → RepL K F H vs ds → RepL K F H (v :: vs) (d :: ds)
inductive RepK (K : PySem.W.Frag) (F : Addr → Prop) (H : Hp) : List (List Key × V) → List (D × D) → Prop
  | nil : RepK K F H [] []
  | cons {k : List Int} {v : V} {vs : List (List Key × V)} {d : D} {ds : List (D × D)} : Rep K F H v d → RepK K F H vs ds → RepK K F H ((toKey k, v) :: vs) ((keyD k, d) :: ds)
end

/-- the heap grows, what is frozen grows by new objects -/
structure Ext (F : Addr → Prop) (H : Hp) (F' : Addr → Prop) (H' : Hp) : Prop where
  same : Same H H'
  mono : ∀ a, F a → F' a
  new : ∀ a, F' a → F a ∨ H a = none
theorem Ext.refl {F : Addr → Prop} {H : Hp} : Ext F H F H := ⟨Same.refl H, fun _ h => h, fun _ h => .inl h⟩
theorem Ext.trans {F F1 F2 : Addr → Prop} {H H1 H2 : Hp} (a : Ext F H F1 H1) (b : Ext F1 H1 F2 H2) : Ext F H F2 H2 :=
  ⟨a.same.trans b.same, fun x h => b.mono x (a.mono x h), fun x h => (b.new x h).elim (fun q => a.new x q) fun q => .inr (a.same.free q)⟩
/-- what is frozen is tracked -/
def Dom (F : Addr → Prop) (H : Hp) : Prop := ∀ a, F a → H a ≠ none
theorem Dom.same {F : Addr → Prop} {H H' : Hp} (d : Dom F H) (s : Same H H') : Dom F H' := fun a h e => d a h (s.free e)
theorem same_upd {H : Hp} {p : Addr} {o : HO} (h : H p = none) : Same H (upd H p o) := fun b x e => by
  rw [upd_ne (ne_of_none e h)]
  exact e
theorem Ext.upd {F : Addr → Prop} {H : Hp} {p : Addr} {o : HO} (h : H p = none) : Ext F H F (upd H p o) := ⟨same_upd h, fun _ x => x, fun _ x => .inl x⟩
/-- freeze a new object -/
def Fz (F : Addr → Prop) (p : Addr) : Addr → Prop := fun a => F a ∨ a = p
theorem Ext.fz {F : Addr → Prop} {H : Hp} {F1 : Addr → Prop} {H1 : Hp} {p : Addr} (e : Ext F H F1 H1) (h : H p = none) : Ext F H (Fz F1 p) H1 :=
  ⟨e.same, fun a x => .inl (e.mono a x), fun a x => x.elim (fun q => e.new a q) fun q => .inr (q ▸ h)⟩
theorem Dom.fz {F : Addr → Prop} {H : Hp} {p : Addr} (d : Dom F H) (h : H p ≠ none) : Dom (Fz F p) H := fun a x => x.elim (d a) fun q => q ▸ h

section
variable {K : PySem.W.Frag} {F F' : Addr → Prop} {H H' : Hp}
/-- what is frozen stays -/
structure Kp (F : Addr → Prop) (H H' : Hp) : Prop where
  fz : ∀ a o, F a → H a = some o → H' a = some o
  tup : ∀ a xs, H a = some (.tup xs) → H' a = some (.tup xs)
  frz : ∀ a o u, H a = some (.frz o u) → H' a = some (.frz o u)
theorem Kp.of (s : Same H H') : Kp F H H' := ⟨fun a o _ e => s a o e, fun a xs e => s a _ e, fun a o u e => s a _ e⟩
theorem Kp.refl : Kp F H H := .of (Same.refl H)
theorem Kp.trans {H1 : Hp} (a : Kp F H H1) (m : ∀ a, F a → F' a) (b : Kp F' H1 H') : Kp F H H' :=
  ⟨fun x o f e => b.fz x o (m x f) (a.fz x o f e), fun x o e => b.tup x o (a.tup x o e), fun x o u e => b.frz x o u (a.frz x o u e)⟩
theorem FzL.mono {a : Addr} {xs : List V} (h : FzL K F H a xs) (s : Kp F H H') (m : ∀ a, F a → F' a) : FzL K F' H' a xs := by
  rcases h with ⟨f, h⟩ | ⟨o, h⟩ | h
  · exact .inl ⟨m _ f, s.fz _ _ f h⟩
  · exact .inr (.inl ⟨o, s.frz _ _ _ h⟩)
  · exact .inr (.inr h)
mutual
theorem Rep.mono (s : Kp F H H') (m : ∀ a, F a → F' a) : ∀ {v : V} {d : D}, Rep K F H v d → Rep K F' H' v d
  | _, _, .non => .non
  | _, _, .bl b => .bl b
  | _, _, .int i => .int i
  | _, _, .str x => .str x
  | _, _, .lst h r => .lst (h.mono s m) (RepL.mono s m r)
  | _, _, .tup h r => .tup (s.tup _ _ h) (RepL.mono s m r)
  | _, _, .dct h r => .dct (s.frz _ _ _ h) (RepK.mono s m r)
theorem RepL.mono (s : Kp F H H') (m : ∀ a, F a → F' a) : ∀ {v : List V} {d : List D}, RepL K F H v d → RepL K F' H' v d
  | _, _, .nil => .nil
  | _, _, .cons h r => .cons (Rep.mono s m h) (RepL.mono s m r)
theorem RepK.mono (s : Kp F H H') (m : ∀ a, F a → F' a) : ∀ {v : List (List Key × V)} {d : List (D × D)}, RepK K F H v d → RepK K F' H' v d
  | _, _, .nil => .nil
  | _, _, .cons h r => .cons (Rep.mono s m h) (RepK.mono s m r)
end
theorem Rep.ext {v : V} {d : D} (h : Rep K F H v d) (e : Ext F H F' H') : Rep K F' H' v d := h.mono (.of e.same) e.mono
theorem RepL.ext {v : List V} {d : List D} (h : RepL K F H v d) (e : Ext F H F' H') : RepL K F' H' v d := h.mono (.of e.same) e.mono
theorem RepK.ext {v : List (List Key × V)} {d : List (D × D)} (h : RepK K F H v d) (e : Ext F H F' H') : RepK K F' H' v d := h.mono (.of e.same) e.mono
theorem RepL.length : ∀ {vs : List V} {ds : List D}, RepL K F H vs ds → vs.length = ds.length
  | _, _, .nil => rfl
  | _, _, .cons _ r => by rw [List.length_cons, List.length_cons, RepL.length r]
theorem RepL.get : ∀ {vs : List V} {ds : List D} {i : Nat} {d : D}, RepL K F H vs ds → ds[i]? = some d → ∃ v, vs[i]? = some v ∧ Rep K F H v d
  | _, _, _, _, .nil, e => by simp at e
  | _, _, 0, _, .cons h _, e => by simp at e; subst e; exact ⟨_, rfl, h⟩
  | _, _, i + 1, d, .cons _ r, e => by
    obtain ⟨v, h1, h2⟩ := RepL.get (i := i) (d := d) r (by simpa using e)
    exact ⟨v, by simpa using h1, h2⟩
theorem RepL.getV : ∀ {vs : List V} {ds : List D} {i : Nat} {v : V}, RepL K F H vs ds → vs[i]? = some v → ∃ d, ds[i]? = some d ∧ Rep K F H v d
  | _, _, _, _, .nil, e => by simp at e
  | _, _, 0, _, .cons h _, e => by simp at e; subst e; exact ⟨_, rfl, h⟩
  | _, _, i + 1, d, .cons _ r, e => by
    obtain ⟨v, h1, h2⟩ := RepL.getV (i := i) (v := d) r (by simpa using e)
    exact ⟨v, by simpa using h1, h2⟩
theorem RepL.append : ∀ {vs ws : List V} {ds es : List D}, RepL K F H vs ds → RepL K F H ws es → RepL K F H (vs ++ ws) (ds ++ es)
  | _, _, _, _, .nil, s => s
  | _, _, _, _, .cons h r, s => .cons h (RepL.append r s)
theorem RepL.take : ∀ {vs : List V} {ds : List D} (n : Nat), RepL K F H vs ds → RepL K F H (vs.take n) (ds.take n)
  | _, _, 0, _ => .nil
  | _, _, _ + 1, .nil => .nil
  | _, _, n + 1, .cons r t => .cons r (RepL.take n t)
theorem RepL.drop : ∀ {vs : List V} {ds : List D} (n : Nat), RepL K F H vs ds → RepL K F H (vs.drop n) (ds.drop n)
  | _, _, 0, r => r
  | _, _, _ + 1, .nil => .nil
  | _, _, n + 1, .cons _ t => RepL.drop n t
theorem RepL.set {v : V} {d : D} (h : Rep K F H v d) : ∀ {vs : List V} {ds : List D} (i : Nat), RepL K F H vs ds → RepL K F H (vs.set i v) (ds.set i d)
  | _, _, _, .nil => .nil
  | _, _, 0, .cons _ t => .cons h t
  | _, _, i + 1, .cons q t => .cons q (RepL.set h i t)
theorem RepL.reverse {vs : List V} {ds : List D} (h : RepL K F H vs ds) : RepL K F H vs.reverse ds.reverse := by
  induction ds generalizing vs with
  | nil => cases h; exact .nil
  | cons d ds ih =>
    cases h with
    | cons h r =>
      rw [List.reverse_cons, List.reverse_cons]
      exact (ih r).append (.cons h .nil)
theorem RepL.dropLast : ∀ {vs : List V} {ds : List D}, RepL K F H vs ds → RepL K F H vs.dropLast ds.dropLast := fun {vs ds} h => by
  rw [List.dropLast_eq_take, List.dropLast_eq_take, h.length]
  exact h.take _
/-- ints -/
theorem repL_ints : ∀ (ns : List Int), RepL K F H (ns.map V.int) (ns.map .int)
  | [] => .nil
  | n :: ns => .cons (.int n) (repL_ints ns)
theorem RepL.ints : ∀ {ns : List Int} {vs : List V}, RepL K F H vs (ns.map .int) → vs = ns.map V.int
  | [], _, .nil => rfl
  | n :: ns, _, .cons h r => by cases h; rw [RepL.ints r]; rfl
theorem RepL.bls : ∀ {ns : List Bool} {vs : List V}, RepL K F H vs (ns.map .bool) → vs = ns.map V.bl
  | [], _, .nil => rfl
  | n :: ns, _, .cons h r => by cases h; rw [RepL.bls r]; rfl
end

/-- data without dicts, nested at most n deep -/
def fin : Nat → D → Bool
  | _, .none | _, .bool _ | _, .int _ | _, .str _ => true
  | n + 1, .list xs | n + 1, .tuple xs => xs.all (fin n)
  | _, _ => false
theorem plainAll_iff : ∀ xs : List D, PyData.plainAll xs = xs.all PyData.plain
  | [] => rfl
  | x :: xs => by rw [PyData.plainAll, plainAll_iff xs]; rfl
theorem fin_plain : ∀ (n : Nat) (d : D), fin n d = true → d.plain = true
  | _, .none, _ => rfl
  | _, .bool _, _ => rfl
  | _, .int _, _ => rfl
  | _, .str _, _ => rfl
  | n + 1, .list xs, h => by
    rw [PyData.plain, plainAll_iff, List.all_eq_true]
    exact fun x hx => fin_plain n x (List.all_eq_true.mp h x hx)
  | n + 1, .tuple xs, h => by
    rw [PyData.plain, plainAll_iff, List.all_eq_true]
    exact fun x hx => fin_plain n x (List.all_eq_true.mp h x hx)
  | 0, .list xs, h => by cases h
  | 0, .tuple xs, h => by cases h
  | 0, .dict xs, h => by cases h
  | n + 1, .dict xs, h => by cases h
end BR
namespace BR
open PySem PySem.Spec PyProof.Rows L2
/-! ### a tuple once, or not at all -/
theorem mulT1 (l : Addr) (items : Array Value) (n : Nat) (dd : Option Addr) (sl : Array (Option Value)) (u : Tok) :
    Meets (Builtin.«tuple.__mul__» ⟨[.ref l, .int 1 u], []⟩) (fun _ R s => s.heap.get? l = some { cls := .type "tuple", dict := dd, data := .seq items n, slots := sl } ∧ R (.ok (.ret (Value.ref l))) s) :=
  .of_wp fun prog w A R s h => by
    obtain ⟨z1, z2, z3, z4, z5⟩ := s
    obtain ⟨ho, hq⟩ := h
    have fi := AutoSeq1.idx_int
    have k0 : (decide ((1 : Int) < -(2 ^ 63)) || decide ((1 : Int) ≥ 2 ^ 63)) = false := by decide
    have k1 : (items.isEmpty || (1 : Int) == 1) = true := by rw [Bool.or_eq_true]; exact .inr rfl
    wp_walk using wpAny_loadPart' ho
    repeat (first
      | (refine wpAny_ite_false (decide_eq_false (by rw [k0]; exact Bool.false_ne_true)) ?_; wp_walk using wpAny_loadPart' ho)
      | (refine wpAny_ite_true (decide_eq_true k1) ?_; wp_walk using wpAny_loadPart' ho))
    exact ⟨_, rfl, hq⟩
theorem mulT0 (l : Addr) (items : Array Value) (n : Nat) (dd : Option Addr) (sl : Array (Option Value)) (x : Int) (u : Tok) (k0 : (decide (x < -(2 ^ 63)) || decide (x ≥ 2 ^ 63)) = false) (k1 : (items.isEmpty || x == 1) = false) (k2 : (decide (x ≤ 0) || items.isEmpty) = true) :
    Meets (Builtin.«tuple.__mul__» ⟨[.ref l, .int x u], []⟩) (fun _ R s => s.heap.get? l = some { cls := .type "tuple", dict := dd, data := .seq items n, slots := sl } ∧
      R (.ok (.ret (Value.ref s.heap.objs.size))) { s with heap := s.heap.push { cls := Value.type "tuple", data := Data.seq #[] }, toks := s.toks }) :=
  .of_wp fun prog w A R s h => by
    obtain ⟨z1, z2, z3, z4, z5⟩ := s
    obtain ⟨ho, hq⟩ := h
    have fi := AutoSeq1.idx_int
    wp_walk using wpAny_loadPart' ho
    repeat (first
      | (refine wpAny_ite_false (decide_eq_false (by rw [k0]; exact Bool.false_ne_true)) ?_; wp_walk using wpAny_loadPart' ho)
      | (refine wpAny_ite_false (decide_eq_false (by rw [k1]; exact Bool.false_ne_true)) ?_; wp_walk using wpAny_loadPart' ho)
      | (refine wpAny_ite_true (decide_eq_true k2) ?_; wp_walk using wpAny_loadPart' ho))
    exact ⟨_, rfl, hq⟩
section
variable {X : Cx}
def rRep01 (K : PySem.W.Frag) : R2 := fun x y H Q => ∃ l k xs, x = .ref l ∧ y = .int k ∧ SqT K H l xs ∧ xs ≠ [] ∧ -1000 ≤ k ∧ k ≤ 1 ∧ (k = 1 → Q (.ref l) H) ∧ (k ≤ 0 → ∀ p, H p = none → Q (.ref p) (upd H p (.tup [])))
theorem op_rep01 : OpR X (binaryOp .Mult) (rRep01 X.K) := by
  intro pins s σ H x y v u Q I rx ry h
  obtain ⟨l, k, xs, rfl, rfl, hT, hne, h1, h2, q1, q0⟩ := h
  cases rx
  obtain ⟨t, rfl⟩ := ry
  obtain ⟨its, r, ⟨⟨cc, dz, da, sz⟩, ho, hcc, nn, hda⟩, hs⟩ := I.tuple hT
  dsimp only at hcc hda
  subst hcc hda
  have hnn : its.toArray.isEmpty = false := by
    cases its with
    | cons a b => rfl
    | nil =>
      refine absurd ?_ hne
      have := r.length
      cases xs with
      | nil => rfl
      | cons a b => cases this
  by_cases hk : k = 1
  · subst hk
    refine wpAny_binaryOp_repeat_ref (T := "tuple") (U := "int") (by decide) ⟨_, ho, rfl⟩ (fun s' => typeIs_int s' 1 t) noFill_tuple_mul F.fills_int_mul F.slot_int_rmul repeat_tuple F.slot_int_index.lookup ?_
    refine call_meets F.slot_int_rmul (typeIs_int s 1 t) F.entry_int_rmul (F.args_int_rmul_2 _ _) (int_rmul_tuple 1 t l its.toArray nn dz sz) ⟨ho, rfl, ⟨_, ho, rfl⟩, ?_⟩
    refine call_meets F.slot_tuple_mul ⟨_, ho, rfl⟩ F.entry_tuple_mul (F.args_tuple_mul_2 _ _) (mulT1 l its.toArray nn dz sz t) ⟨ho, ?_⟩
    exact ⟨.ref l, H, I, rfl, q1 rfl⟩
  · have k0 : k ≤ 0 := by omega
    have b0 : (decide (k < -(2 ^ 63)) || decide (k ≥ 2 ^ 63)) = false := by
      rw [Bool.or_eq_false_iff]
      exact ⟨decide_eq_false (by omega), decide_eq_false (by omega)⟩
    have b1 : (its.toArray.isEmpty || k == 1) = false := by
      rw [Bool.or_eq_false_iff]
      exact ⟨hnn, beq_eq_false_iff_ne.mpr hk⟩
    have b2 : (decide (k ≤ 0) || its.toArray.isEmpty) = true := by
      rw [Bool.or_eq_true]
      exact .inl (decide_eq_true k0)
    refine wpAny_binaryOp_repeat_ref (T := "tuple") (U := "int") (by decide) ⟨_, ho, rfl⟩ (fun s' => typeIs_int s' k t) noFill_tuple_mul F.fills_int_mul F.slot_int_rmul repeat_tuple F.slot_int_index.lookup ?_
    refine call_meets F.slot_int_rmul (typeIs_int s k t) F.entry_int_rmul (F.args_int_rmul_2 _ _) (int_rmul_tuple k t l its.toArray nn dz sz) ⟨ho, rfl, ⟨_, ho, rfl⟩, ?_⟩
    refine call_meets F.slot_tuple_mul ⟨_, ho, rfl⟩ F.entry_tuple_mul (F.args_tuple_mul_2 _ _) (mulT0 l its.toArray nn dz sz k t b0 b1 b2) ⟨ho, ?_⟩
    refine ⟨.ref s.heap.objs.size, _, I.laid (t' := s.toks) (o := .tup []) (fun b ob q => Heap.get?_push_of_some _ q) (Nat.le_refl _) ⟨Nat.zero_le _, _, .nil, IsTup.new _ _⟩, rfl, q0 k0 _ (I.hok.fresh (Nat.le_refl _))⟩
/-! lists that are read, one behind the other -/
def rCatS (K : PySem.W.Frag) : R2 := fun x y H Q => ∃ l m xs zs, x = .ref l ∧ y = .ref m ∧ SqL K H l xs ∧ SqL K H m zs ∧ xs.length + zs.length ≤ sizeLine ∧ ∀ p, H p = none → Q (.ref p) (upd H p (.lst (xs ++ zs)))
theorem op_catS : OpR X (binaryOp .Add) (rCatS X.K) := by
  intro pins s σ H x y v u Q I rx ry h
  obtain ⟨l, m, xs, zs, rfl, rfl, hL, hM, hz, q⟩ := h
  cases rx
  cases ry
  obtain ⟨ia, ra, pa, _⟩ := I.list hL
  obtain ⟨ib, rb, pb, _⟩ := I.list hM
  obtain ⟨⟨ca, ta, va, za⟩, ga, ka, na, wa⟩ := pa.isList
  obtain ⟨⟨cb, tb, vb, zb⟩, gb, kb, nb, wb⟩ := pb.isList
  dsimp only at ka wa kb wb
  subst ka wa kb wb
  have el : ia.toArray ++ ib.toArray = (ia ++ ib).toArray := List.append_toArray ia ib
  have sz : (ia ++ ib).length ≤ sizeLine := by rw [List.length_append, ← ra.length, ← rb.length]; exact hz
  refine concat_meets ⟨_, ga, rfl⟩ ⟨_, gb, rfl⟩ noFill_list_add seq_list_add F.slot_list_add F.entry_list_add (F.args_list_add_2 _ _) (list_addW l m ia.toArray ib.toArray na nb ta tb za zb (by rw [List.size_toArray, List.size_toArray]; rw [List.length_append] at sz; exact sz)) ⟨ga, gb, ?_⟩
  rw [el]
  exact ⟨.ref _, _, I.lnew (t' := s.toks) (ra.append rb) (by rw [List.length_append]; exact hz), rfl, q _ I.fresh⟩
end
end BR
namespace BR
open PySem PySem.Spec PyProof.Rows L2

def Vw.peek : Vw → D
  | .dt d => d
  | .fl ds => .list ds
  | .fd ks => dicD ks
  | .bl ds => .list ds
  | .bd ks => dicD ks
  | .kc d => d
def Vw.toD : Vw → R D
  | .dt d => .ok d
  | .fl ds => .ok (.list ds)
  | _ => .stk

/-- what may be read as d -/
inductive PRep (K : PySem.W.Frag) (F : Addr → Prop) (H : Hp) : V → D → Prop
  | non : PRep K F H .non .none
  | bl (b : Bool) : PRep K F H (.bl b) (.bool b)
  | int (i : Int) : PRep K F H (.int i) (.int i)
  | str (x : Str) : PRep K F H (.str x) (.str x)
  | lst {a : Addr} {xs : List V} {ds : List D} : SqL K H a xs → RepL K F H xs ds → PRep K F H (.ref a) (.list ds)
  | tup {a : Addr} {xs : List V} {ds : List D} : SqT K H a xs → RepL K F H xs ds → PRep K F H (.ref a) (.tuple ds)
  | dct {a : Addr} {kvs : List (List Key × V)} {ds : List (D × D)} : Rd H a (.dT kvs) → RepK K F H kvs ds → PRep K F H (.ref a) (.dict ds)

/-- a value as a view says; H0: the heap ahead -/
def VRep (K : PySem.W.Frag) (F : Addr → Prop) (H0 H : Hp) (v : V) : Vw → Prop
  | .dt d => Rep K F H v d
  | .fl ds => ∃ l xs, v = .ref l ∧ H l = some (.lst xs) ∧ RepL K F H xs ds ∧ H0 l = none ∧ ¬ F l
  | .fd ks => ∃ l kvs, v = .ref l ∧ H l = some (.dT kvs) ∧ RepK K F H kvs (ks.map fun p => (keyD p.1, p.2)) ∧ H0 l = none ∧ ¬ F l
  | .bl ds => ∃ l xs, v = .ref l ∧ H l = some (.lst xs) ∧ RepL K F H xs ds
  | .bd ks => ∃ l kvs, v = .ref l ∧ H l = some (.dT kvs) ∧ RepK K F H kvs (ks.map fun p => (keyD p.1, p.2))
  | .kc d => PRep K F H v d

section
variable {K : PySem.W.Frag} {F F' : Addr → Prop} {H0 H H' : Hp}
theorem SqT.mono {a : Addr} {xs : List V} (h : SqT K H a xs) (s : Same H H') : SqT K H' a xs := by
  rcases h with (h | ⟨o, h⟩) | h
  · exact .inl (.inl (s _ _ h))
  · exact .inl (.inr ⟨o, s _ _ h⟩)
  · exact .inr h
theorem PRep.ext {v : V} {d : D} (h : PRep K F H v d) (e : Ext F H F' H') : PRep K F' H' v d := by
  cases h with
  | non => exact .non
  | bl b => exact .bl b
  | int i => exact .int i
  | str x => exact .str x
  | lst h r => exact .lst (e.same.seq h) (r.ext e)
  | tup h r => exact .tup (SqT.mono h e.same) (r.ext e)
  | dct h r => exact .dct (h.elim (fun h => .inl (e.same _ _ h)) fun ⟨o, h⟩ => .inr ⟨o, e.same _ _ h⟩) (r.ext e)
theorem Rep.p {v : V} {d : D} (h : Rep K F H v d) : PRep K F H v d := by
  cases h with
  | non => exact .non
  | bl b => exact .bl b
  | int i => exact .int i
  | str x => exact .str x
  | lst h r => exact .lst h.sq r
  | tup h r => exact .tup (.inl (.inl h)) r
  | dct h r => exact .dct (.inr ⟨_, h⟩) r
theorem VRep.p {v : V} {w : Vw} (h : VRep K F H0 H v w) : PRep K F H v w.peek := by
  cases w with
  | dt d => exact Rep.p h
  | fl ds => obtain ⟨l, xs, rfl, h, r, _⟩ := h; exact .lst (.inl (.inl h)) r
  | fd ks => obtain ⟨l, xs, rfl, h, r, _⟩ := h; exact .dct (.inl h) r
  | bl ds => obtain ⟨l, xs, rfl, h, r⟩ := h; exact .lst (.inl (.inl h)) r
  | bd ks => obtain ⟨l, xs, rfl, h, r⟩ := h; exact .dct (.inl h) r
  | kc d => exact h
/-- later, as long as nothing new is frozen that the view holds -/
theorem VRep.ext {v : V} {w : Vw} (h : VRep K F H0 H v w) (e : Ext F H F' H') : VRep K F' H0 H' v w := by
  cases w with
  | dt d => exact Rep.ext h e
  | fl ds =>
    obtain ⟨l, xs, rfl, h, r, n, f⟩ := h
    exact ⟨l, xs, rfl, e.same _ _ h, r.ext e, n, fun q => (e.new l q).elim f fun z => by rw [h] at z; cases z⟩
  | fd ks =>
    obtain ⟨l, xs, rfl, h, r, n, f⟩ := h
    exact ⟨l, xs, rfl, e.same _ _ h, r.ext e, n, fun q => (e.new l q).elim f fun z => by rw [h] at z; cases z⟩
  | bl ds => obtain ⟨l, xs, rfl, h, r⟩ := h; exact ⟨l, xs, rfl, e.same _ _ h, r.ext e⟩
  | bd ks => obtain ⟨l, xs, rfl, h, r⟩ := h; exact ⟨l, xs, rfl, e.same _ _ h, r.ext e⟩
  | kc d => exact PRep.ext h e
theorem VRep.back {H1 : Hp} {v : V} {w : Vw} (h : VRep K F H1 H v w) (s : Same H0 H1) : VRep K F H0 H v w := by
  cases w with
  | dt d => exact h
  | fl ds => obtain ⟨l, xs, rfl, h, r, n, f⟩ := h; exact ⟨l, xs, rfl, h, r, s.free n, f⟩
  | fd ks => obtain ⟨l, xs, rfl, h, r, n, f⟩ := h; exact ⟨l, xs, rfl, h, r, s.free n, f⟩
  | bl ds => exact h
  | bd ks => exact h
  | kc d => exact h
/-- frozen -/
theorem VRep.freeze {v : V} {w : Vw} {d : D} (h : VRep K F H0 H v w) (dm : Dom F H) (e : w.toD = .ok d) : ∃ F', Ext F H0 F' H0 ∧ (∀ a, F a → F' a) ∧ Dom F' H ∧ Rep K F' H v d := by
  cases w with
  | dt d' => cases e; exact ⟨F, .refl, fun _ x => x, dm, h⟩
  | fl ds =>
    cases e
    obtain ⟨l, xs, rfl, h, r, n, f⟩ := h
    exact ⟨Fz F l, Ext.fz .refl n, fun _ x => .inl x, dm.fz (by rw [h]; simp), .lst (.inl ⟨.inr rfl, h⟩) (r.mono Kp.refl fun _ x => .inl x)⟩
  | fd ks => cases e
  | bl ds => cases e
  | bd ks => cases e
  | kc d => cases e
end

/-- what is wanted of an expression's result; W: of an exception -/
def Post (K : PySem.W.Frag) (W : Str → Hp → Prop) (F : Addr → Prop) (H : Hp) (Q : VK) : R Vw → Prop
  | .ok w => ∀ v F' H', Ext F H F' H' → Dom F' H' → VRep K F' H H' v w → Q v H'
  | .exc c => ∀ F' H', Ext F H F' H' → Dom F' H' → W c H'
  | .stk => False
section
variable {K : PySem.W.Frag} {W : Str → Hp → Prop} {F F' : Addr → Prop} {H H' : Hp} {Q : VK}
theorem Post.ext {r : R Vw} (p : Post K W F H Q r) (e : Ext F H F' H') : Post K W F' H' Q r := by
  cases r with
  | ok w => exact fun v F2 H2 e2 d2 h => p v F2 H2 (e.trans e2) d2 (h.back e.same)
  | exc c => exact fun F2 H2 e2 d2 => p F2 H2 (e.trans e2) d2
  | stk => exact p
/-- the value is there, the heap as it was -/
theorem Post.here {w : Vw} {v : V} (p : Post K W F H Q (.ok w)) (d : Dom F H) (h : VRep K F H H v w) : Q v H := p v F H .refl d h
theorem Post.dat {d : D} {v : V} (p : Post K W F H Q (.ok (.dt d))) (dm : Dom F H) (h : Rep K F H v d) : Q v H := p v F H .refl dm h
/-- a new tuple -/
theorem Post.tup {ds : List D} {xs : List V} {l : Addr} (p : Post K W F H Q (.ok (.dt (.tuple ds)))) (dm : Dom F H) (n : H l = none) (r : RepL K F H xs ds) : Q (.ref l) (upd H l (.tup xs)) :=
  p _ F _ (Ext.upd n) (dm.same (same_upd n)) (.tup upd_same (r.ext (Ext.upd n)))
/-- a new list -/
theorem Post.lst {ds : List D} {xs : List V} {l : Addr} (p : Post K W F H Q (.ok (.fl ds))) (dm : Dom F H) (n : H l = none) (r : RepL K F H xs ds) : Q (.ref l) (upd H l (.lst xs)) :=
  p _ F _ (Ext.upd n) (dm.same (same_upd n)) ⟨l, xs, rfl, upd_same, r.ext (Ext.upd n), n, fun f => dm l f n⟩
theorem Post.bind {α : Type} {r : R α} {f : α → R Vw} (p : Post K W F H Q (r.bind f)) (k : ∀ a, r = .ok a → Post K W F H Q (f a) → Post K W F H Q (f a)) : (∃ a, r = .ok a ∧ Post K W F H Q (f a)) ∨ (∃ c, r = .exc c ∧ ∀ F' H', Ext F H F' H' → Dom F' H' → W c H') := by
  cases r with
  | ok a => exact .inl ⟨a, rfl, p⟩
  | exc c => exact .inr ⟨c, rfl, p⟩
  | stk => exact p.elim
end

/-- a value that a view tells -/
def XR (K : PySem.W.Frag) (F : Addr → Prop) (H : Hp) (v : V) (w : Vw) : Prop := ∃ H0, VRep K F H0 H v w
def rV2 (K : PySem.W.Frag) (W : Str → Hp → Prop) (g : Vw → Vw → R Vw) : R2 := fun x y H Q => ∃ F a b, Dom F H ∧ XR K F H x a ∧ XR K F H y b ∧ Post K W F H Q (g a b)
def rD2 (K : PySem.W.Frag) (W : Str → Hp → Prop) (g : D → D → R Vw) : R2 := fun x y H Q => ∃ F a b, Dom F H ∧ PRep K F H x a ∧ PRep K F H y b ∧ Post K W F H Q (g a b)
def rD1 (K : PySem.W.Frag) (W : Str → Hp → Prop) (g : D → R Vw) : V → Hp → VK → Prop := fun x H Q => ∃ F a, Dom F H ∧ PRep K F H x a ∧ Post K W F H Q (g a)
/-- operations on data alone -/
def onD (g : D → D → R Vw) : Vw → Vw → R Vw := fun a b => g a.peek b.peek
theorem rD2.v {K : PySem.W.Frag} {W : Str → Hp → Prop} {g : D → D → R Vw} {X : Cx} {f : Value → Value → Sem Value} (h : OpR X f (rD2 K W g)) : OpR X f (rV2 K W (onD g)) := by
  intro pins s σ H x y v u Q I rx ry q
  obtain ⟨F, a, b, dm, ⟨_, ha⟩, ⟨_, hb⟩, p⟩ := q
  exact h pins s σ H x y v u Q I rx ry ⟨F, _, _, dm, ha.p, hb.p, p⟩

theorem RepL.nil_iff {K : PySem.W.Frag} {F : Addr → Prop} {H : Hp} {vs : List V} {ds : List D} (r : RepL K F H vs ds) : vs = [] ↔ ds = [] := by
  cases r <;> simp
section
variable {X : Cx} {W : Str → Hp → Prop}
/-! ### + - * // % ** -/
def gAdd : Vw → Vw → R Vw
  | .dt (.int a), .dt (.int b) => .ok (.dt (.int (a + b)))
  | .dt (.tuple xs), .dt (.tuple ys) => if xs.length + ys.length ≤ 16777216 then .ok (.dt (.tuple (xs ++ ys))) else .stk
  | .dt (.str a), .dt (.str b) => if a.length + b.length ≤ 16777216 then .ok (.dt (.str (a ++ b))) else .stk
  | .bl xs, .fl ys => if xs.length + ys.length ≤ 16777216 then .ok (.fl (xs ++ ys)) else .stk
  | .fl xs, .fl ys => if xs.length + ys.length ≤ 16777216 then .ok (.fl (xs ++ ys)) else .stk
  | .bl xs, .bl ys => if xs.length + ys.length ≤ 16777216 then .ok (.fl (xs ++ ys)) else .stk
  | .fl xs, .bl ys => if xs.length + ys.length ≤ 16777216 then .ok (.fl (xs ++ ys)) else .stk
  | .dt (.list xs), .fl ys => if xs.length + ys.length ≤ 16777216 then .ok (.fl (xs ++ ys)) else .stk
  | .dt (.list xs), .bl ys => if xs.length + ys.length ≤ 16777216 then .ok (.fl (xs ++ ys)) else .stk
  | .fl xs, .dt (.list ys) => if xs.length + ys.length ≤ 16777216 then .ok (.fl (xs ++ ys)) else .stk
  | .bl xs, .dt (.list ys) => if xs.length + ys.length ≤ 16777216 then .ok (.fl (xs ++ ys)) else .stk
  | .dt (.list xs), .dt (.list ys) => if xs.length + ys.length ≤ 16777216 then .ok (.fl (xs ++ ys)) else .stk
  | _, _ => .stk
theorem post_if {K : PySem.W.Frag} {F : Addr → Prop} {H : Hp} {Q : VK} {c : Prop} [Decidable c] {r : R Vw} (p : Post K W F H Q (if c then r else .stk)) : c ∧ Post K W F H Q r := by
  by_cases h : c
  · rw [if_pos h] at p; exact ⟨h, p⟩
  · rw [if_neg h] at p; exact p.elim
theorem op_gAdd : OpR X (binaryOp .Add) (rV2 X.K W gAdd) := by
  intro pins s σ H x y v u Q I rx ry h
  obtain ⟨F, a, b, dm, ⟨H1, ha⟩, ⟨H2, hb⟩, p⟩ := h
  have lists : ∀ (l m : Addr) (vs ws : List V) (xs ys : List D), x = .ref l → y = .ref m → SqL X.K H l vs → RepL X.K F H vs xs → SqL X.K H m ws → RepL X.K F H ws ys → Post X.K W F H Q (if xs.length + ys.length ≤ 16777216 then .ok (.fl (xs ++ ys)) else .stk) →
      wpAny (model X.prog X.w) X.A (binaryOp .Add v u) (EP X pins σ Q) X.xe s := by
    intro l m vs ws xs ys e1 e2 h1 r1 h2 r2 p
    subst e1 e2
    obtain ⟨hz, p⟩ := post_if p
    exact op_catS pins s σ H _ _ v u Q I rx ry ⟨_, _, _, _, rfl, rfl, h1, h2, by rw [sizeLine_eq, r1.length, r2.length]; exact hz, fun q n => p.lst dm n (r1.append r2)⟩
  unfold gAdd at p
  split at p
  · cases ha; cases hb
    exact op_add pins s σ H _ _ v u Q I rx ry ⟨_, _, rfl, rfl, p.dat dm (.int _)⟩
  · rename_i ds es
    obtain ⟨hz, p⟩ := post_if p
    cases ha with
    | tup h1 r1 =>
    cases hb with
    | tup h2 r2 =>
    refine op_catA pins s σ H _ _ v u Q I rx ry ⟨_, _, _, _, rfl, rfl, .inl (.inl h1), .inl (.inl h2), by rw [sizeLine_eq, r1.length, r2.length]; exact hz, fun e => ?_, fun _ e => ?_, fun _ _ l n => p.tup dm n (r1.append r2)⟩
    · rw [(r1.nil_iff).mp e, List.nil_append] at p
      exact p.dat dm (.tup h2 r2)
    · rw [(r2.nil_iff).mp e, List.append_nil] at p
      exact p.dat dm (.tup h1 r1)
  · obtain ⟨hz, p⟩ := post_if p
    cases ha; cases hb
    exact op_add_str pins s σ H _ _ v u Q I rx ry ⟨_, _, rfl, rfl, by rw [sizeLine_eq]; exact hz, p.dat dm (.str _)⟩
  · obtain ⟨l, xs, e1, h1, r1⟩ := ha
    obtain ⟨m, ys, e2, h2, r2, _⟩ := hb
    exact lists _ _ _ _ _ _ e1 e2 (.inl (.inl h1)) r1 (.inl (.inl h2)) r2 p
  · obtain ⟨l, xs, e1, h1, r1, _⟩ := ha
    obtain ⟨m, ys, e2, h2, r2, _⟩ := hb
    exact lists _ _ _ _ _ _ e1 e2 (.inl (.inl h1)) r1 (.inl (.inl h2)) r2 p
  · obtain ⟨l, xs, e1, h1, r1⟩ := ha
    obtain ⟨m, ys, e2, h2, r2⟩ := hb
    exact lists _ _ _ _ _ _ e1 e2 (.inl (.inl h1)) r1 (.inl (.inl h2)) r2 p
  · obtain ⟨l, xs, e1, h1, r1, _⟩ := ha
    obtain ⟨m, ys, e2, h2, r2⟩ := hb
    exact lists _ _ _ _ _ _ e1 e2 (.inl (.inl h1)) r1 (.inl (.inl h2)) r2 p
  · obtain ⟨m, ys, e2, h2, r2, _⟩ := hb
    cases ha with
    | lst h1 r1 => exact lists _ _ _ _ _ _ rfl e2 h1.sq r1 (.inl (.inl h2)) r2 p
  · obtain ⟨m, ys, e2, h2, r2⟩ := hb
    cases ha with
    | lst h1 r1 => exact lists _ _ _ _ _ _ rfl e2 h1.sq r1 (.inl (.inl h2)) r2 p
  · obtain ⟨l, xs, e1, h1, r1, _⟩ := ha
    cases hb with
    | lst h2 r2 => exact lists _ _ _ _ _ _ e1 rfl (.inl (.inl h1)) r1 h2.sq r2 p
  · obtain ⟨l, xs, e1, h1, r1⟩ := ha
    cases hb with
    | lst h2 r2 => exact lists _ _ _ _ _ _ e1 rfl (.inl (.inl h1)) r1 h2.sq r2 p
  · cases ha with
    | lst h1 r1 =>
    cases hb with
    | lst h2 r2 => exact lists _ _ _ _ _ _ rfl rfl h1.sq r1 h2.sq r2 p
  · exact p.elim
def gSub : D → D → R Vw
  | .int a, .int b => .ok (.dt (.int (a - b)))
  | _, _ => .stk
theorem op_gSub : OpR X (binaryOp .Sub) (rD2 X.K W gSub) := by
  intro pins s σ H x y v u Q I rx ry h
  obtain ⟨F, a, b, dm, ha, hb, p⟩ := h
  unfold gSub at p
  split at p
  · cases ha; cases hb
    exact op_sub pins s σ H _ _ v u Q I rx ry ⟨_, _, rfl, rfl, p.dat dm (.int _)⟩
  · exact p.elim
/-- * of two factors of together less than a hundred million bits -/
def CMulX (i j : Int) : Prop := i.natAbs.log2 + j.natAbs.log2 < 100000000
theorem CMulX.ok {i j : Int} (h : CMulX i j) : IntMulOk i j := by
  have b : ∀ x : Int, Builtin.Int.intBits x ≤ x.natAbs.log2 + 1 := fun x => by
    unfold Builtin.Int.intBits
    split <;> omega
  have h1 := b i
  have h2 := b j
  have h3 : i.natAbs.log2 + j.natAbs.log2 < 100000000 := h
  have e : bitsLine = 134217728 := by decide
  unfold IntMulOk
  intro z
  rw [Bool.and_eq_true] at z
  have z2 := z.2
  unfold Builtin.Int.intTooBig at z2
  have z3 := of_decide_eq_true z2
  rw [e] at z3
  omega
theorem op_mulX : OpR X (binaryOp .Mult) (rI CMulX fun i j => .int (i * j)) := opI fun _ _ _ _ _ _ _ hc q => mul_int q hc.ok
instance (a b : Int) : Decidable (CMulX a b) := inferInstanceAs (Decidable (_ < _))
instance (a b : Int) : Decidable (CDivW a b) := inferInstanceAs (Decidable (_ ∧ _))
def gMul : Vw → Vw → R Vw
  | .dt (.int a), .dt (.int b) => if CMulX a b then .ok (.dt (.int (a * b))) else .stk
  | .dt (.tuple xs), .dt (.int k) => if xs ≠ [] ∧ -1000 ≤ k ∧ k ≤ 1000 ∧ xs.length ≤ 1000 then .ok (.dt (.tuple (List.replicate k.toNat xs).flatten)) else .stk
  | .fl xs, .dt (.int k) => if 0 ≤ k ∧ k ≤ 1000 ∧ xs.length ≤ 1000 then .ok (.fl (List.replicate k.toNat xs).flatten) else .stk
  | _, _ => .stk
theorem repL_rep {K : PySem.W.Frag} {F : Addr → Prop} {H : Hp} {vs : List V} {ds : List D} (r : RepL K F H vs ds) : ∀ k : Nat, RepL K F H (List.replicate k vs).flatten (List.replicate k ds).flatten
  | 0 => .nil
  | k + 1 => by
    rw [List.replicate_succ, List.flatten_cons, List.replicate_succ, List.flatten_cons]
    exact r.append (repL_rep r k)
theorem op_gMul : OpR X (binaryOp .Mult) (rV2 X.K W gMul) := by
  intro pins s σ H x y v u Q I rx ry h
  obtain ⟨F, a, b, dm, ⟨H1, ha⟩, ⟨H2, hb⟩, p⟩ := h
  unfold gMul at p
  split at p
  · obtain ⟨hz, p⟩ := post_if p
    cases ha; cases hb
    exact op_mulX pins s σ H _ _ v u Q I rx ry ⟨_, _, rfl, rfl, hz, p.dat dm (.int _)⟩
  · rename_i ds k
    obtain ⟨⟨h1, h2, h3, h4⟩, p⟩ := post_if p
    cases ha with
    | tup ht r =>
    cases hb
    by_cases k2 : 2 ≤ k
    · exact op_repT pins s σ H _ _ v u Q I rx ry ⟨_, _, _, rfl, rfl, .inl (.inl ht), fun e => h1 (r.nil_iff.mp e), k2, h3, by rw [r.length]; exact h4, fun q n => p.tup dm n (repL_rep r _)⟩
    · refine op_rep01 pins s σ H _ _ v u Q I rx ry ⟨_, _, _, rfl, rfl, .inl (.inl ht), fun e => h1 (r.nil_iff.mp e), h2, by omega, fun e => ?_, fun e q n => ?_⟩
      · subst e
        have e1 : (List.replicate (1 : Int).toNat ds).flatten = ds := by
          show (List.replicate 1 ds).flatten = ds
          simp
        rw [e1] at p
        exact p.dat dm (.tup ht r)
      · have e0 : (List.replicate k.toNat ds).flatten = [] := by
          rw [show k.toNat = 0 from by omega]
          rfl
        rw [e0] at p
        exact p.tup dm n .nil
  · rename_i ds k
    obtain ⟨⟨h1, h2, h3⟩, p⟩ := post_if p
    obtain ⟨l, xs, e1, hl, rl, _⟩ := ha
    cases hb
    have p63 : (2 : Int) ^ 63 = 9223372036854775808 := by decide
    have hz : xs.length * k.toNat ≤ sizeLine := by
      rw [sizeLine_eq, rl.length]
      have : ds.length * k.toNat ≤ 1000 * 1000 := Nat.mul_le_mul h3 (by omega)
      omega
    exact op_rep pins s σ H _ _ v u Q I rx ry ⟨l, k, xs, e1, rfl, hl, by omega, by omega, hz, fun q n => p.lst dm n (repL_rep rl _)⟩
  · exact p.elim
def gDiv : D → D → R Vw
  | .int a, .int b => if CDivW a b then .ok (.dt (.int (a / b))) else .stk
  | _, _ => .stk
theorem op_gDiv : OpR X (binaryOp .FloorDiv) (rD2 X.K W gDiv) := by
  intro pins s σ H x y v u Q I rx ry h
  obtain ⟨F, a, b, dm, ha, hb, p⟩ := h
  unfold gDiv at p
  split at p
  · obtain ⟨hz, p⟩ := post_if p
    cases ha; cases hb
    exact op_fdivW pins s σ H _ _ v u Q I rx ry ⟨_, _, rfl, rfl, hz, p.dat dm (.int _)⟩
  · exact p.elim
def gMod : D → D → R Vw
  | .int a, .int b => if 0 < b then .ok (.dt (.int (a % b))) else .stk
  | _, _ => .stk
theorem op_gMod : OpR X (binaryOp .Mod) (rD2 X.K W gMod) := by
  intro pins s σ H x y v u Q I rx ry h
  obtain ⟨F, a, b, dm, ha, hb, p⟩ := h
  unfold gMod at p
  split at p
  · obtain ⟨hz, p⟩ := post_if p
    cases ha; cases hb
    exact op_mod pins s σ H _ _ v u Q I rx ry ⟨_, _, rfl, rfl, hz, p.dat dm (.int _)⟩
  · exact p.elim
def gPow : D → D → R Vw
  | .int a, .int b => if 0 ≤ b ∧ b ≤ 1000 ∧ a.natAbs < 1000 then .ok (.dt (.int (a ^ b.toNat))) else .stk
  | _, _ => .stk
theorem op_gPow : OpR X (binaryOp .Pow) (rD2 X.K W gPow) := by
  intro pins s σ H x y v u Q I rx ry h
  obtain ⟨F, a, b, dm, ha, hb, p⟩ := h
  unfold gPow at p
  split at p
  · obtain ⟨⟨h1, h2, h3⟩, p⟩ := post_if p
    cases ha; cases hb
    exact op_pow pins s σ H _ _ v u Q I rx ry ⟨_, _, rfl, rfl, ⟨h1, by omega, by omega⟩, p.dat dm (.int _)⟩
  · exact p.elim
/-- the binary operators -/
def gBin : Operator → Vw → Vw → R Vw
  | .Add => gAdd
  | .Sub => onD gSub
  | .Mult => gMul
  | .FloorDiv => onD gDiv
  | .Mod => onD gMod
  | .Pow => onD gPow
  | _ => fun _ _ => .stk
theorem op_none {f : Value → Value → Sem Value} : OpR X f (rV2 X.K W fun _ _ => .stk) := by
  intro pins s σ H x y v u Q I rx ry h
  obtain ⟨F, a, b, dm, ha, hb, p⟩ := h
  exact p.elim
theorem op_gBin : ∀ (op : Operator), OpR X (binaryOp op) (rV2 X.K W (gBin op))
  | .Add => op_gAdd
  | .Sub => rD2.v op_gSub
  | .Mult => op_gMul
  | .FloorDiv => rD2.v op_gDiv
  | .Mod => rD2.v op_gMod
  | .Pow => rD2.v op_gPow
  | .MatMult => op_none
  | .Div => op_none
  | .LShift => op_none
  | .RShift => op_none
  | .BitOr => op_none
  | .BitXor => op_none
  | .BitAnd => op_none
def gUn : UnaryOp → D → R Vw
  | .USub, .int a => .ok (.dt (.int (-a)))
  | _, _ => .stk
theorem op_gUSub : UnR X (unaryOp .USub) (rD1 X.K W (gUn .USub)) := by
  intro pins s σ H x v Q I rx h
  obtain ⟨F, a, dm, ha, p⟩ := h
  cases a <;> try exact p.elim
  cases ha
  exact un_neg pins s σ H _ v Q I rx ⟨_, rfl, p.dat dm (.int _)⟩
end
end BR
namespace BR
open PySem PySem.Spec PyProof.Rows L2

/-! ### depth -/
theorem depthAll_le : ∀ (n : Nat) (xs : List D), (∀ x ∈ xs, PyData.depth x ≤ n) → PyData.depthAll xs ≤ n
  | _, [], _ => Nat.zero_le _
  | n, x :: xs, h => by
    rw [PyData.depthAll]
    exact Nat.max_le.mpr ⟨h x List.mem_cons_self, depthAll_le n xs fun y hy => h y (List.mem_cons_of_mem _ hy)⟩
theorem fin_depth : ∀ (n : Nat) (d : D), fin n d = true → PyData.depth d ≤ n
  | n, .none, _ => by simp [PyData.depth]
  | _, .bool _, _ => by simp [PyData.depth]
  | _, .int _, _ => by simp [PyData.depth]
  | _, .str _, _ => by simp [PyData.depth]
  | n + 1, .list xs, h => by
    rw [PyData.depth]
    exact Nat.succ_le_succ (depthAll_le n xs fun x hx => fin_depth n x (List.all_eq_true.mp h x hx))
  | n + 1, .tuple xs, h => by
    rw [PyData.depth]
    exact Nat.succ_le_succ (depthAll_le n xs fun x hx => fin_depth n x (List.all_eq_true.mp h x hx))
  | 0, .list xs, h => by cases h
  | 0, .tuple xs, h => by cases h
  | 0, .dict xs, h => by cases h
  | n + 1, .dict xs, h => by cases h
/-! ### from representation to the library's data -/
section
variable {K : PySem.W.Frag} {F : Addr → Prop} {H : Hp}
mutual
theorem Rep.dp : ∀ {v : V} {d : D}, Rep K F H v d → d.plain = true → Dp K H v d
  | _, _, .non, _ => .non
  | _, _, .bl b, _ => .bl b
  | _, _, .int i, _ => .int i
  | _, _, .str x, _ => .str x
  | _, _, .lst h r, p => .lst h.sq (RepL.dp r (by rw [PyData.plain] at p; exact p))
  | _, _, .tup h r, p => .tup (.inl (.inl h)) (RepL.dp r (by rw [PyData.plain] at p; exact p))
  | _, _, .dct _ _, p => by rw [PyData.plain] at p; cases p
theorem RepL.dp : ∀ {v : List V} {d : List D}, RepL K F H v d → PyData.plainAll d = true → DpAll K H v d
  | _, _, .nil, _ => .nil
  | _, _, .cons h r, p => by
    rw [PyData.plainAll, Bool.and_eq_true] at p
    exact .cons (Rep.dp h p.1) (RepL.dp r p.2)
end
theorem PRep.dp {v : V} {d : D} (h : PRep K F H v d) (p : d.plain = true) : Dp K H v d := by
  cases h with
  | non => exact .non
  | bl b => exact .bl b
  | int i => exact .int i
  | str x => exact .str x
  | lst h r => exact .lst h (r.dp (by rw [PyData.plain] at p; exact p))
  | tup h r => exact .tup h (r.dp (by rw [PyData.plain] at p; exact p))
  | dct h r => rw [PyData.plain] at p; cases p
end
/-- ints in a list of data -/
def intsOf : List D → Option (List Int)
  | [] => some []
  | .int i :: r => (intsOf r).map (i :: ·)
  | _ => none
theorem intsOf_some : ∀ {xs : List D} {ns : List Int}, intsOf xs = some ns → xs = ns.map .int
  | [], ns, h => by cases h; rfl
  | .int i :: r, ns, h => by
    rw [intsOf] at h
    cases q : intsOf r with
    | none => rw [q] at h; cases h
    | some ms => rw [q] at h; cases h; rw [intsOf_some q]; rfl
  | .none :: _, _, h => by cases h
  | .bool _ :: _, _, h => by cases h
  | .str _ :: _, _, h => by cases h
  | .list _ :: _, _, h => by cases h
  | .tuple _ :: _, _, h => by cases h
  | .dict _ :: _, _, h => by cases h
theorem intsOf_map : ∀ ns : List Int, intsOf (ns.map .int) = some ns
  | [] => rfl
  | n :: ns => by
    show (intsOf (ns.map .int)).map (n :: ·) = _
    rw [intsOf_map ns]; rfl
/-- a key of a dict -/
def isKey (k : List Int) : D → Bool
  | .tuple xs => decide (intsOf xs = some k)
  | _ => false
theorem isKey_keyD (k j : List Int) : isKey k (keyD j) = decide (j = k) := by
  show decide (intsOf (j.map .int) = some k) = _
  rw [intsOf_map]
  exact decide_eq_decide.mpr ⟨fun h => Option.some.inj h, fun h => h ▸ rfl⟩
/-- look-up -/
def dget (ds : List (D × D)) (k : List Int) : Option D := (ds.find? fun p => isKey k p.1).map (·.2)
theorem toKey_inj {a b : List Int} (h : toKey a = toKey b) : a = b := by
  unfold toKey at h
  induction a generalizing b with
  | nil =>
    cases b with
    | nil => rfl
    | cons x r => cases h
  | cons x r ih =>
    cases b with
    | nil => cases h
    | cons y r' =>
      rw [List.map_cons, List.map_cons] at h
      injection h with h1 h2
      rw [Sum.inl.inj h1, ih h2]
section
variable {K : PySem.W.Frag} {F : Addr → Prop} {H : Hp}
theorem RepK.val (k : List Int) : ∀ {kvs : List (List Key × V)} {ds : List (D × D)}, RepK K F H kvs ds →
    match dget ds k with
    | some d => ∃ v, valV kvs (toKey k) = some v ∧ Rep K F H v d
    | none => valV kvs (toKey k) = none
  | _, _, .nil => rfl
  | _, _, .cons (k := j) (v := v) (vs := vs) (d := d) (ds := ds) h r => by
    have ih := RepK.val k r
    by_cases e : j = k
    · subst e
      have e2 : dget ((keyD j, d) :: ds) j = some d := by
        unfold dget
        rw [List.find?_cons, show isKey j (keyD j) = true by rw [isKey_keyD]; simp]
        rfl
      rw [e2]
      exact ⟨v, valV_pos rfl, h⟩
    · have e2 : dget ((keyD j, d) :: ds) k = dget ds k := by
        unfold dget
        rw [List.find?_cons, show isKey k (keyD j) = false by rw [isKey_keyD]; simp [e]]
      rw [e2, valV_neg (p := (toKey j, v)) (fun z => e (toKey_inj z))]
      exact ih
theorem toKey_kV (k : List Int) : (toKey k).map kV = k.map V.int := by
  unfold toKey
  rw [List.map_map]
  rfl
end
section
variable {X : Cx} {W : Str → Hp → Prop}
/-! ### == != < in is -/
def gEq (a b : D) : R Vw := if fin 9 a = true ∧ fin 9 b = true then .ok (.dt (.bool (PyData.eqv a b))) else .stk
def gNe (a b : D) : R Vw := if fin 9 a = true ∧ fin 9 b = true then .ok (.dt (.bool (!PyData.eqv a b))) else .stk
theorem room9 {A : Around} {a b : D} (hu : A.units + 64 < cLine) (h : fin 9 a = true) : A.units + min a.depth b.depth < cLine := by
  have h1 := fin_depth 9 a h
  have h2 : min a.depth b.depth ≤ a.depth := Nat.min_le_left _ _
  omega
theorem op_gEq (hu : X.A.units + 64 < cLine) : OpR X (compareOp .Eq) (rD2 X.K W gEq) := by
  intro pins s σ H x y v u Q I rx ry h
  obtain ⟨F, a, b, dm, ha, hb, p⟩ := h
  obtain ⟨⟨f1, f2⟩, p⟩ := post_if p
  obtain ⟨as, r1⟩ := Dp.reads I a x v (ha.dp (fin_plain _ _ f1)) rx
  obtain ⟨bs, r2⟩ := Dp.reads I b y u (hb.dp (fin_plain _ _ f2)) ry
  exact SeqAt.eq_plain r1 r2 (fin_plain _ _ f1) (fin_plain _ _ f2) (room9 hu f1) ⟨.bl _, H, I, rfl, p.dat dm (.bl _)⟩
theorem op_gNe (hu : X.A.units + 64 < cLine) : OpR X (compareOp .NotEq) (rD2 X.K W gNe) := by
  intro pins s σ H x y v u Q I rx ry h
  obtain ⟨F, a, b, dm, ha, hb, p⟩ := h
  obtain ⟨⟨f1, f2⟩, p⟩ := post_if p
  obtain ⟨as, r1⟩ := Dp.reads I a x v (ha.dp (fin_plain _ _ f1)) rx
  obtain ⟨bs, r2⟩ := Dp.reads I b y u (hb.dp (fin_plain _ _ f2)) ry
  exact SeqAt.ne_plain r1 r2 (fin_plain _ _ f1) (fin_plain _ _ f2) (room9 hu f1) ⟨.bl _, H, I, rfl, p.dat dm (.bl _)⟩
def gLt : D → D → R Vw
  | .int a, .int b => .ok (.dt (.bool (decide (a < b))))
  | .tuple xs, .tuple ys => match intsOf xs, intsOf ys with
    | some ns, some ms => .ok (.dt (.bool (HT.lexLt ns ms)))
    | _, _ => .stk
  | _, _ => .stk
theorem op_gLt (hu : X.A.units < cLine) : OpR X (compareOp .Lt) (rD2 X.K W gLt) := by
  intro pins s σ H x y v u Q I rx ry h
  obtain ⟨F, a, b, dm, ha, hb, p⟩ := h
  unfold gLt at p
  split at p
  · cases ha; cases hb
    exact op_lt pins s σ H _ _ v u Q I rx ry ⟨_, _, rfl, rfl, p.dat dm (.bl _)⟩
  · split at p
    · rename_i e1 e2
      cases ha with
      | tup h1 r1 =>
      cases hb with
      | tup h2 r2 =>
      rw [intsOf_some e1] at r1
      rw [intsOf_some e2] at r2
      have q1 := r1.ints
      have q2 := r2.ints
      subst q1 q2
      exact op_ltT hu pins s σ H _ _ v u Q I rx ry ⟨_, _, _, _, rfl, rfl, h1, h2, p.dat dm (.bl _)⟩
    · exact p.elim
  · exact p.elim
def gIntC (f : Int → Int → Bool) : D → D → R Vw
  | .int a, .int b => .ok (.dt (.bool (f a b)))
  | _, _ => .stk
theorem op_gIntC {op : CmpOp} {f : Int → Int → Bool} (h : OpR X (compareOp op) (rI0 fun i j => .bl (f i j))) : OpR X (compareOp op) (rD2 X.K W (gIntC f)) := by
  intro pins s σ H x y v u Q I rx ry q
  obtain ⟨F, a, b, dm, ha, hb, p⟩ := q
  unfold gIntC at p
  split at p
  · cases ha; cases hb
    exact h pins s σ H _ _ v u Q I rx ry ⟨_, _, rfl, rfl, p.dat dm (.bl _)⟩
  · exact p.elim
/-- is, is not: None or truth values -/
def gIs (neg : Bool) : D → D → R Vw
  | .bool a, .bool b => .ok (.dt (.bool (xor neg (decide (a = b)))))
  | .none, .none => .ok (.dt (.bool (!neg)))
  | .int _, .none => .ok (.dt (.bool neg))
  | .bool _, .none => .ok (.dt (.bool neg))
  | .str _, .none => .ok (.dt (.bool neg))
  | .tuple _, .none => .ok (.dt (.bool neg))
  | .list _, .none => .ok (.dt (.bool neg))
  | _, _ => .stk
theorem op_gIs : OpR X (compareOp .Is) (rD2 X.K W (gIs false)) := by
  intro pins s σ H x y v u Q I rx ry h
  obtain ⟨F, a, b, dm, ha, hb, p⟩ := h
  cases b with
  | bool b =>
    cases a with
    | bool a =>
      cases ha; cases hb
      exact op_isBl pins s σ H _ _ v u Q I rx ry ⟨_, _, rfl, rfl, by have := p.dat dm (.bl _); simpa using this⟩
    | _ => exact p.elim
  | none =>
    cases hb
    have key : Q (.bl (decide (x = .non))) H := by
      cases ha with
      | non => simpa [gIs] using (p.dat dm (.bl _) : Q (.bl _) H)
      | bl b => simpa [gIs] using (p.dat dm (.bl _) : Q (.bl _) H)
      | int i => simpa [gIs] using (p.dat dm (.bl _) : Q (.bl _) H)
      | str i => simpa [gIs] using (p.dat dm (.bl _) : Q (.bl _) H)
      | lst h r => simpa [gIs] using (p.dat dm (.bl _) : Q (.bl _) H)
      | tup h r => simpa [gIs] using (p.dat dm (.bl _) : Q (.bl _) H)
      | dct h r => exact p.elim
    exact op_isN pins s σ H _ _ v u Q I rx ry ⟨rfl, key⟩
  | _ => cases a <;> exact p.elim
theorem op_gIsNot : OpR X (compareOp .IsNot) (rD2 X.K W (gIs true)) := by
  intro pins s σ H x y v u Q I rx ry h
  obtain ⟨F, a, b, dm, ha, hb, p⟩ := h
  cases b with
  | bool b =>
    cases a with
    | bool a =>
      cases ha; cases hb
      exact op_notBl pins s σ H _ _ v u Q I rx ry ⟨_, _, rfl, rfl, by have := p.dat dm (.bl _); simpa using this⟩
    | _ => exact p.elim
  | none =>
    cases hb
    have key : Q (.bl (!decide (x = .non))) H := by
      cases ha with
      | non => simpa [gIs] using (p.dat dm (.bl _) : Q (.bl _) H)
      | bl b => simpa [gIs] using (p.dat dm (.bl _) : Q (.bl _) H)
      | int i => simpa [gIs] using (p.dat dm (.bl _) : Q (.bl _) H)
      | str i => simpa [gIs] using (p.dat dm (.bl _) : Q (.bl _) H)
      | lst h r => simpa [gIs] using (p.dat dm (.bl _) : Q (.bl _) H)
      | tup h r => simpa [gIs] using (p.dat dm (.bl _) : Q (.bl _) H)
      | dct h r => exact p.elim
    exact op_notN pins s σ H _ _ v u Q I rx ry ⟨rfl, key⟩
  | _ => cases a <;> exact p.elim
/-- in, not in -/
def gIn (neg : Bool) (a b : Vw) : R Vw :=
  match b.peek with
  | .list xs => if fin 9 a.peek = true ∧ xs.all (fin 9) = true then .ok (.dt (.bool (xor neg (xs.any fun y => PyData.eqv y a.peek)))) else .stk
  | .tuple xs => if fin 9 a.peek = true ∧ xs.all (fin 9) = true then .ok (.dt (.bool (xor neg (xs.any fun y => PyData.eqv y a.peek)))) else .stk
  | .str z => match a.peek with
    | .str x => .ok (.dt (.bool (xor neg (!(Builtin.Str.occurrences z x 0 z.length 1).isEmpty))))
    | _ => .stk
  | .dict ds => match a with
    | .dt (.tuple xs) => match intsOf xs with
      | some k => .ok (.dt (.bool (xor neg (dget ds k).isSome)))
      | none => .stk
    | _ => .stk
  | _ => .stk
theorem room9in {A : Around} {a : D} {xs : List D} (hu : A.units + 64 < cLine) (h : fin 9 a = true) : A.units + 1 + min (PyData.depthAll xs) a.depth < cLine := by
  have h1 := fin_depth 9 a h
  have h2 : min (PyData.depthAll xs) a.depth ≤ a.depth := Nat.min_le_right _ _
  omega
theorem all_plain {xs : List D} (h : xs.all (fin 9) = true) : PyData.plainAll xs = true := by
  rw [plainAll_iff, List.all_eq_true]
  exact fun x hx => fin_plain 9 x (List.all_eq_true.mp h x hx)
theorem op_gIn (hu : X.A.units + 64 < cLine) : OpR X (compareOp .In) (rV2 X.K W (gIn false)) := by
  intro pins s σ H x y v u Q I rx ry h
  obtain ⟨F, a, b, dm, ⟨H1, ha⟩, ⟨H2, hb⟩, p⟩ := h
  unfold gIn at p
  have hb' := hb.p
  split at p
  · rename_i xs e
    rw [e] at hb'
    obtain ⟨⟨f1, f2⟩, p⟩ := post_if p
    obtain ⟨as, r1⟩ := Dp.reads I _ x v (ha.p.dp (fin_plain _ _ f1)) rx
    obtain ⟨bs, r2⟩ := Dp.reads I _ y u (hb'.dp (by rw [PyData.plain]; exact all_plain f2)) ry
    exact SeqAt.in_list_data r2 r1 (all_plain f2) (fin_plain _ _ f1) (room9in hu f1) ⟨.bl _, H, I, rfl, by simpa using (p.dat dm (.bl _) : Q (.bl _) H)⟩
  · rename_i xs e
    rw [e] at hb'
    obtain ⟨⟨f1, f2⟩, p⟩ := post_if p
    obtain ⟨as, r1⟩ := Dp.reads I _ x v (ha.p.dp (fin_plain _ _ f1)) rx
    obtain ⟨bs, r2⟩ := Dp.reads I _ y u (hb'.dp (by rw [PyData.plain]; exact all_plain f2)) ry
    exact SeqAt.in_tuple_data r2 r1 (all_plain f2) (fin_plain _ _ f1) (room9in hu f1) ⟨.bl _, H, I, rfl, by simpa using (p.dat dm (.bl _) : Q (.bl _) H)⟩
  · rename_i z e
    rw [e] at hb'
    split at p
    · rename_i z2 e2
      have ha' := ha.p
      rw [e2] at ha'
      cases ha'; cases hb'
      exact op_in_str pins s σ H _ _ v u Q I rx ry ⟨_, _, rfl, rfl, by simpa using (p.dat dm (.bl _) : Q (.bl _) H)⟩
    · exact p.elim
  · rename_i ds e
    rw [e] at hb'
    split at p
    · split at p
      · rename_i k ek
        cases ha with
        | tup h1 r1 =>
        cases hb' with
        | dct h2 r2 =>
        rw [intsOf_some ek] at r1
        have q1 := r1.ints
        subst q1
        have g : DGet H _ (.ref _) (valV _ (toKey k)) := .inr ⟨_, toKey k, _, h2, rfl, by rw [toKey_kV]; exact h1, rfl⟩
        cases ry
        refine d_in (by omega) I g rx fun s' I' => ⟨.bl _, H, I', rfl, ?_⟩
        have := r2.val k
        split at this
        · rename_i d ed
          obtain ⟨w, ew, _⟩ := this
          rw [ew]
          rw [ed] at p
          exact p.dat dm (.bl _)
        · rename_i ed
          rw [this]
          rw [ed] at p
          exact p.dat dm (.bl _)
      · exact p.elim
    · exact p.elim
  · exact p.elim
theorem op_gNotIn (hu : X.A.units + 64 < cLine) : OpR X (compareOp .NotIn) (rV2 X.K W (gIn true)) := by
  intro pins s σ H x y v u Q I rx ry h
  obtain ⟨F, a, b, dm, ⟨H1, ha⟩, ⟨H2, hb⟩, p⟩ := h
  unfold gIn at p
  have hb' := hb.p
  split at p
  · rename_i xs e
    rw [e] at hb'
    obtain ⟨⟨f1, f2⟩, p⟩ := post_if p
    obtain ⟨as, r1⟩ := Dp.reads I _ x v (ha.p.dp (fin_plain _ _ f1)) rx
    obtain ⟨bs, r2⟩ := Dp.reads I _ y u (hb'.dp (by rw [PyData.plain]; exact all_plain f2)) ry
    exact SeqAt.notIn_list_data r2 r1 (all_plain f2) (fin_plain _ _ f1) (room9in hu f1) ⟨.bl _, H, I, rfl, by simpa using (p.dat dm (.bl _) : Q (.bl _) H)⟩
  · rename_i xs e
    rw [e] at hb'
    obtain ⟨⟨f1, f2⟩, p⟩ := post_if p
    obtain ⟨as, r1⟩ := Dp.reads I _ x v (ha.p.dp (fin_plain _ _ f1)) rx
    obtain ⟨bs, r2⟩ := Dp.reads I _ y u (hb'.dp (by rw [PyData.plain]; exact all_plain f2)) ry
    exact SeqAt.notIn_tuple_data r2 r1 (all_plain f2) (fin_plain _ _ f1) (room9in hu f1) ⟨.bl _, H, I, rfl, by simpa using (p.dat dm (.bl _) : Q (.bl _) H)⟩
  · rename_i z e
    rw [e] at hb'
    split at p
    · rename_i z2 e2
      have ha' := ha.p
      rw [e2] at ha'
      cases ha'; cases hb'
      exact op_notIn_str pins s σ H _ _ v u Q I rx ry ⟨_, _, rfl, rfl, by simpa using (p.dat dm (.bl _) : Q (.bl _) H)⟩
    · exact p.elim
  · rename_i ds e
    rw [e] at hb'
    split at p
    · split at p
      · rename_i k ek
        cases ha with
        | tup h1 r1 =>
        cases hb' with
        | dct h2 r2 =>
        rw [intsOf_some ek] at r1
        have q1 := r1.ints
        subst q1
        have g : DGet H _ (.ref _) (valV _ (toKey k)) := .inr ⟨_, toKey k, _, h2, rfl, by rw [toKey_kV]; exact h1, rfl⟩
        cases ry
        refine d_notIn (by omega) I g rx fun s' I' => ⟨.bl _, H, I', rfl, ?_⟩
        have := r2.val k
        split at this
        · rename_i d ed
          obtain ⟨w, ew, _⟩ := this
          rw [ew]
          rw [ed] at p
          exact p.dat dm (.bl _)
        · rename_i ed
          rw [this]
          rw [ed] at p
          exact p.dat dm (.bl _)
      · exact p.elim
    · exact p.elim
  · exact p.elim
def gCmp : CmpOp → Vw → Vw → R Vw
  | .Eq => onD gEq
  | .NotEq => onD gNe
  | .Lt => onD gLt
  | .LtE => onD (gIntC fun a b => decide (a ≤ b))
  | .Gt => onD (gIntC fun a b => decide (b < a))
  | .GtE => onD (gIntC fun a b => decide (b ≤ a))
  | .Is => onD (gIs false)
  | .IsNot => onD (gIs true)
  | .In => gIn false
  | .NotIn => gIn true
theorem op_gCmp (hu : X.A.units + 64 < cLine) : ∀ (op : CmpOp), OpR X (compareOp op) (rV2 X.K W (gCmp op))
  | .Eq => rD2.v (op_gEq hu)
  | .NotEq => rD2.v (op_gNe hu)
  | .Lt => rD2.v (op_gLt (by omega))
  | .LtE => rD2.v (op_gIntC op_le)
  | .Gt => rD2.v (op_gIntC op_gt)
  | .GtE => rD2.v (op_gIntC op_ge)
  | .Is => rD2.v op_gIs
  | .IsNot => rD2.v op_gIsNot
  | .In => op_gIn hu
  | .NotIn => op_gNotIn hu
end
end BR
namespace BR
open PySem PySem.Spec PyProof.Rows L2

/-- values that views tell -/
inductive XRL (K : PySem.W.Frag) (F : Addr → Prop) (H : Hp) : List V → List Vw → Prop
  | nil : XRL K F H [] []
  | cons {v : V} {vs : List V} {w : Vw} {ws : List Vw} : XR K F H v w → XRL K F H vs ws → XRL K F H (v :: vs) (w :: ws)
theorem XR.p {K : PySem.W.Frag} {F : Addr → Prop} {H : Hp} {v : V} {w : Vw} (h : XR K F H v w) : PRep K F H v w.peek := h.elim fun _ h => h.p
theorem XR.ext {K : PySem.W.Frag} {F F' : Addr → Prop} {H H' : Hp} {v : V} {w : Vw} (h : XR K F H v w) (e : Ext F H F' H') : XR K F' H' v w := h.elim fun H0 h => ⟨H0, h.ext e⟩
theorem XRL.ext {K : PySem.W.Frag} {F F' : Addr → Prop} {H H' : Hp} : ∀ {v : List V} {w : List Vw}, XRL K F H v w → Ext F H F' H' → XRL K F' H' v w
  | _, _, .nil, _ => .nil
  | _, _, .cons h r, e => .cons (h.ext e) (r.ext e)
def rVs (K : PySem.W.Frag) (W : Str → Hp → Prop) (g : List Vw → R Vw) : List V → Hp → VK → Prop := fun vs H Q => ∃ F ws, Dom F H ∧ XRL K F H vs ws ∧ Post K W F H Q (g ws)

/-- truth values in a list of data -/
def blsOf : List D → Option (List Bool)
  | [] => some []
  | .bool i :: r => (blsOf r).map (i :: ·)
  | _ => none
theorem blsOf_some : ∀ {xs : List D} {ns : List Bool}, blsOf xs = some ns → xs = ns.map .bool
  | [], ns, h => by cases h; rfl
  | .bool i :: r, ns, h => by
    rw [blsOf] at h
    cases q : blsOf r with
    | none => rw [q] at h; cases h
    | some ms => rw [q] at h; cases h; rw [blsOf_some q]; rfl
  | .none :: _, _, h => by cases h
  | .int _ :: _, _, h => by cases h
  | .str _ :: _, _, h => by cases h
  | .list _ :: _, _, h => by cases h
  | .tuple _ :: _, _, h => by cases h
  | .dict _ :: _, _, h => by cases h
theorem blsOf_map : ∀ ns : List Bool, blsOf (ns.map .bool) = some ns
  | [] => rfl
  | n :: ns => by
    show (blsOf (ns.map .bool)).map (n :: ·) = _
    rw [blsOf_map ns]; rfl

section
variable {X : Cx} {W : Str → Hp → Prop}
/-! ### built-ins of one datum -/
def on1 (g : D → R Vw) : List Vw → R Vw
  | [w] => g w.peek
  | _ => .stk
theorem call_on1 {f : Value} {g : D → R Vw} {r : List V → Hp → VK → Prop} (h : CallR X f r) (k : ∀ v H Q F d, Dom F H → PRep X.K F H v d → Post X.K W F H Q (g d) → r [v] H Q) : CallR X f (rVs X.K W (on1 g)) := by
  intro pins s σ H xs us Q I rv q
  obtain ⟨F, ws, dm, hx, p⟩ := q
  cases hx with
  | nil => exact p.elim
  | cons h1 h2 =>
    cases h2 with
    | nil => exact h pins s σ H _ us Q I rv (k _ H Q F _ dm h1.p p)
    | cons _ _ => exact p.elim
def gLen : D → R Vw
  | .list xs => .ok (.dt (.int (xs.length : Nat)))
  | .tuple xs => .ok (.dt (.int (xs.length : Nat)))
  | .str z => if z.length ≤ 16777216 then .ok (.dt (.int (z.length : Nat))) else .stk
  | _ => .stk
theorem call_gLen : CallR X (.builtin "len") (rVs X.K W (on1 gLen)) := call_on1 call_len fun v H Q F d dm h p => by
  cases h with
  | lst h r => exact ⟨_, _, rfl, .inl ⟨_, h, rfl⟩, by rw [r.length]; exact p.dat dm (.int _)⟩
  | tup h r => exact ⟨_, _, rfl, .inr ⟨_, h, rfl⟩, by rw [r.length]; exact p.dat dm (.int _)⟩
  | str z =>
    obtain ⟨hz, p⟩ := post_if p
    exact ⟨_, _, rfl, ⟨by rw [sizeLine_eq]; exact hz, rfl⟩, p.dat dm (.int _)⟩
  | _ => exact p.elim
def gAll (any : Bool) : D → R Vw
  | .list xs => match blsOf xs with
    | some bs => .ok (.dt (.bool (if any then bs.any id else bs.all id)))
    | none => .stk
  | _ => .stk
theorem call_gAny (hc : X.calm = true) : CallR X (.builtin "any") (rVs X.K W (on1 (gAll true))) := call_on1 (cr_any hc) fun v H Q F d dm h p => by
  cases h with
  | lst h r =>
    unfold gAll at p
    dsimp only at p
    split at p
    · rename_i bs e
      rw [blsOf_some e] at r
      have q := r.bls
      subst q
      exact ⟨_, _, rfl, h, p.dat dm (.bl _)⟩
    · exact p.elim
  | _ => exact p.elim
theorem call_gAll (hc : X.calm = true) : CallR X (.builtin "all") (rVs X.K W (on1 (gAll false))) := call_on1 (cr_all hc) fun v H Q F d dm h p => by
  cases h with
  | lst h r =>
    unfold gAll at p
    dsimp only at p
    split at p
    · rename_i bs e
      rw [blsOf_some e] at r
      have q := r.bls
      subst q
      exact ⟨_, _, rfl, h, p.dat dm (.bl _)⟩
    · exact p.elim
  | _ => exact p.elim
def gSum : D → R Vw
  | .list xs => match intsOf xs with
    | some ns => .ok (.dt (.int ns.sum))
    | none => .stk
  | _ => .stk
theorem call_gSum (hc : X.calm = true) : CallR X (.builtin "sum") (rVs X.K W (on1 gSum)) := call_on1 (cr_sum hc) fun v H Q F d dm h p => by
  cases h with
  | lst h r =>
    unfold gSum at p
    dsimp only at p
    split at p
    · rename_i bs e
      rw [intsOf_some e] at r
      have q := r.ints
      subst q
      exact ⟨_, _, rfl, h, p.dat dm (.int _)⟩
    · exact p.elim
  | _ => exact p.elim
def gAbs : D → R Vw
  | .int i => .ok (.dt (.int (if i < 0 then -i else i)))
  | _ => .stk
theorem call_gAbs : CallR X (.builtin "abs") (rVs X.K W (on1 gAbs)) := call_on1 call_abs fun v H Q F d dm h p => by
  cases h with
  | int i => exact ⟨_, rfl, p.dat dm (.int _)⟩
  | _ => exact p.elim
/-- max, min of two ints -/
def gInt : D → R Vw
  | .int i => .ok (.dt (.int i))
  | _ => .stk
theorem call_gInt : CallR X (.type "int") (rVs X.K W (on1 gInt)) := call_on1 call_int1 fun v H Q F d dm h p => by
  cases d <;> try exact p.elim
  cases h
  exact .inl ⟨_, rfl, p.dat dm (.int _)⟩
/-- sorted(xs), ints -/
def insI (x : Int) : List Int → List Int
  | [] => [x]
  | y :: l => if x ≤ y then x :: y :: l else y :: insI x l
def srtI : List Int → List Int
  | [] => []
  | x :: l => insI x (srtI l)
theorem insI_perm (x : Int) : ∀ l : List Int, (insI x l).Perm (x :: l)
  | [] => .refl _
  | y :: l => by
    unfold insI
    split
    · exact .refl _
    · exact ((insI_perm x l).cons y).trans (.swap x y l)
theorem insI_pw (x : Int) : ∀ {l : List Int}, l.Pairwise (· ≤ ·) → (insI x l).Pairwise (· ≤ ·)
  | [], _ => List.pairwise_cons.mpr ⟨fun _ h => (nomatch h), .nil⟩
  | y :: l, h => by
    obtain ⟨h1, h2⟩ := List.pairwise_cons.mp h
    unfold insI
    split
    · rename_i q
      exact List.pairwise_cons.mpr ⟨fun z hz => (List.mem_cons.mp hz).elim (fun e => e ▸ q) fun e => Int.le_trans q (h1 z e), h⟩
    · rename_i q
      refine List.pairwise_cons.mpr ⟨fun z hz => ?_, insI_pw x h2⟩
      rcases List.mem_cons.mp ((insI_perm x l).mem_iff.mp hz) with e | e
      · subst e; omega
      · exact h1 z e
theorem srtI_perm : ∀ l : List Int, (srtI l).Perm l
  | [] => .refl _
  | x :: l => (insI_perm x _).trans ((srtI_perm l).cons x)
theorem srtI_pw : ∀ l : List Int, (srtI l).Pairwise (· ≤ ·)
  | [] => .nil
  | x :: l => insI_pw x (srtI_pw l)
theorem pw_uniq : ∀ {a b : List Int}, a.Perm b → a.Pairwise (· ≤ ·) → b.Pairwise (· ≤ ·) → a = b
  | [], b, h, _, _ => h.nil_eq
  | x :: a, [], h, _, _ => by cases h.eq_nil
  | x :: a, y :: b, h, ha, hb => by
    obtain ⟨a1, a2⟩ := List.pairwise_cons.mp ha
    obtain ⟨b1, b2⟩ := List.pairwise_cons.mp hb
    have e : x = y := by
      rcases List.mem_cons.mp (h.mem_iff.mp List.mem_cons_self) with e | e
      · exact e
      · rcases List.mem_cons.mp (h.symm.mem_iff.mp List.mem_cons_self) with e2 | e2
        · exact e2.symm
        · have := a1 y e2
          have := b1 x e
          omega
    subst e
    rw [pw_uniq (h.cons_inv) a2 b2]
def gSrt : D → R Vw
  | .list xs => match intsOf xs with
    | some ns => .ok (.fl ((srtI ns).map .int))
    | none => .stk
  | _ => .stk
theorem call_gSrt : CallR X (.builtin "sorted") (rVs X.K W (on1 gSrt)) := call_on1 cr_sortedI fun v H Q F d dm h p => by
  cases h with
  | lst h r =>
    unfold gSrt at p
    dsimp only at p
    split at p
    · rename_i bs e
      rw [intsOf_some e] at r
      have q := r.ints
      subst q
      refine ⟨_, _, rfl, h, fun ns' l pm pw hn => ?_⟩
      rw [pw_uniq (pm.trans (srtI_perm bs).symm) pw (srtI_pw bs)]
      exact p.lst dm hn (repL_ints _)
    · exact p.elim
  | _ => exact p.elim
/-- the greatest or least -/
def extI (mx : Bool) : Int → List Int → Int
  | n, [] => n
  | n, k :: ks => extI mx (if mx then (if k > n then k else n) else (if k < n then k else n)) ks
theorem extI_ok (mx : Bool) : ∀ (ns : List Int) (n : Int), extI mx n ns ∈ n :: ns ∧ ∀ y ∈ n :: ns, if mx then y ≤ extI mx n ns else extI mx n ns ≤ y
  | [], n => ⟨List.mem_cons_self, fun y hy => by
    rcases List.mem_cons.mp hy with e | e
    · subst e
      unfold extI
      split <;> exact Int.le_refl _
    · cases e⟩
  | k :: ks, n => by
    have h := extI_ok mx ks (if mx then (if k > n then k else n) else (if k < n then k else n))
    unfold extI
    generalize hq : extI mx (if mx then (if k > n then k else n) else (if k < n then k else n)) ks = q at h ⊢
    refine ⟨?_, fun y hy => ?_⟩
    · rcases List.mem_cons.mp h.1 with e | e
      · rw [e]
        split <;> split <;> first
          | exact List.mem_cons_self
          | exact List.mem_cons_of_mem _ List.mem_cons_self
      · exact List.mem_cons_of_mem _ (List.mem_cons_of_mem _ e)
    · have h0 := h.2 _ List.mem_cons_self
      rcases List.mem_cons.mp hy with e | e
      · subst e
        cases mx
        · simp only [Bool.false_eq_true, if_false] at h0 ⊢
          split at h0 <;> omega
        · simp only [if_true] at h0 ⊢
          split at h0 <;> omega
      · rcases List.mem_cons.mp e with e | e
        · subst e
          cases mx
          · simp only [Bool.false_eq_true, if_false] at h0 ⊢
            split at h0 <;> omega
          · simp only [if_true] at h0 ⊢
            split at h0 <;> omega
        · exact h.2 y (List.mem_cons_of_mem _ e)
def gM1 (mx : Bool) (w : Vw) : R Vw := match w.peek with
  | .list xs => match intsOf xs with
    | some (n :: ns) => .ok (.dt (.int (extI mx n ns)))
    | _ => .stk
  | _ => .stk
def gMM (mx : Bool) : List Vw → R Vw
  | [a, b] => match a.peek, b.peek with
    | .int i, .int j => .ok (.dt (.int (if mx then (if j > i then j else i) else (if j < i then j else i))))
    | _, _ => .stk
  | [w] => gM1 mx w
  | _ => .stk
theorem call_gMax (hc : X.calm = true) : CallR X (.builtin "max") (rVs X.K W (gMM true)) := by
  intro pins s σ H xs us Q I rv q
  obtain ⟨F, ws, dm, hx, p⟩ := q
  unfold gMM at p
  split at p
  · split at p
    · rename_i e1 e2
      cases hx with
      | cons h1 h2 =>
      cases h2 with
      | cons h2 h3 =>
      cases h3
      have h1 := h1.p
      have h2 := h2.p
      rw [e1] at h1
      rw [e2] at h2
      cases h1; cases h2
      exact call_max2 hc pins s σ H _ us Q I rv ⟨_, _, rfl, p.dat dm (.int _)⟩
    · exact p.elim
  · unfold gM1 at p
    split at p
    · rename_i e1
      split at p
      · rename_i n ns e
        cases hx with
        | cons h1 h2 =>
        cases h2
        have h1 := h1.p
        rw [e1] at h1
        cases h1 with
        | lst h r =>
        rw [intsOf_some e] at r
        have q := r.ints
        subst q
        refine cr_max hc pins s σ H _ us Q I rv ⟨_, n :: ns, rfl, h, Nat.succ_pos _, fun m hm1 hm2 => ?_⟩
        have hk := extI_ok true ns n
        have k1 := hk.2 m hm1
        have k2 := hm2 _ hk.1
        have : m = extI true n ns := by
          first
            | exact Int.le_antisymm k1 k2
            | exact Int.le_antisymm k2 k1
        rw [this]
        exact p.dat dm (.int _)
      · exact p.elim
    · exact p.elim
  · exact p.elim
theorem call_gMin (hc : X.calm = true) : CallR X (.builtin "min") (rVs X.K W (gMM false)) := by
  intro pins s σ H xs us Q I rv q
  obtain ⟨F, ws, dm, hx, p⟩ := q
  unfold gMM at p
  split at p
  · split at p
    · rename_i e1 e2
      cases hx with
      | cons h1 h2 =>
      cases h2 with
      | cons h2 h3 =>
      cases h3
      have h1 := h1.p
      have h2 := h2.p
      rw [e1] at h1
      rw [e2] at h2
      cases h1; cases h2
      exact call_min2 hc pins s σ H _ us Q I rv ⟨_, _, rfl, p.dat dm (.int _)⟩
    · exact p.elim
  · unfold gM1 at p
    split at p
    · rename_i e1
      split at p
      · rename_i n ns e
        cases hx with
        | cons h1 h2 =>
        cases h2
        have h1 := h1.p
        rw [e1] at h1
        cases h1 with
        | lst h r =>
        rw [intsOf_some e] at r
        have q := r.ints
        subst q
        refine cr_min hc pins s σ H _ us Q I rv ⟨_, n :: ns, rfl, h, Nat.succ_pos _, fun m hm1 hm2 => ?_⟩
        have hk := extI_ok false ns n
        have k1 := hk.2 m hm1
        have k2 := hm2 _ hk.1
        have : m = extI false n ns := by
          first
            | exact Int.le_antisymm k1 k2
            | exact Int.le_antisymm k2 k1
        rw [this]
        exact p.dat dm (.int _)
      · exact p.elim
    · exact p.elim
  · exact p.elim
/-- tuple(xs) of a list -/
def gTup : List Vw → R Vw
  | [w] => match w.peek with
    | .list xs => .ok (.dt (.tuple xs))
    | _ => .stk
  | _ => .stk
theorem call_gTup : CallR X (.type "tuple") (rVs X.K W gTup) := by
  intro pins s σ H xs us Q I rv q
  obtain ⟨F, ws, dm, hx, p⟩ := q
  unfold gTup at p
  split at p
  · split at p
    · rename_i e1
      cases hx with
      | cons h1 h2 =>
      cases h2
      have h1 := h1.p
      rw [e1] at h1
      cases h1 with
      | lst h r => exact call_tuple_of pins s σ H _ us Q I rv ⟨_, _, rfl, .inl ⟨h, fun l n => p.tup dm n r⟩⟩
    · exact p.elim
  · exact p.elim
/-- list(xs) of a list -/
def gList : List Vw → R Vw
  | [w] => match w.peek with
    | .list xs => .ok (.fl xs)
    | _ => .stk
  | _ => .stk
theorem call_gList : CallR X (.type "list") (rVs X.K W gList) := by
  intro pins s σ H xs us Q I rv q
  obtain ⟨F, ws, dm, hx, p⟩ := q
  unfold gList at p
  split at p
  · split at p
    · rename_i e1
      cases hx with
      | cons h1 h2 =>
      cases h2
      have h1 := h1.p
      rw [e1] at h1
      cases h1 with
      | lst h r => exact call_list_of pins s σ H _ us Q I rv ⟨_, _, rfl, .inl h, fun l n => p.lst dm n r⟩
    · exact p.elim
  · exact p.elim

/-! ### subscripts -/
def gIx : D → D → R Vw
  | .list xs, .int i => match atI xs i with
    | some d => .ok (.dt d)
    | none => .stk
  | .tuple xs, .int i => match atI xs i with
    | some d => .ok (.dt d)
    | none => .stk
  | .str z, .int i => if z.length ≤ 16777216 then (match atI z.cps.toList i with
    | some c => .ok (.dt (.str ⟨#[c]⟩))
    | none => .stk) else .stk
  | _, _ => .stk
theorem repL_atI {K : PySem.W.Frag} {F : Addr → Prop} {H : Hp} {vs : List V} {ds : List D} {i : Int} {d : D} (r : RepL K F H vs ds) (e : atI ds i = some d) : ∃ v, atI vs i = some v ∧ Rep K F H v d := by
  unfold atI at e ⊢
  rw [r.length]
  cases q : ixN ds.length i with
  | none => rw [q] at e; cases e
  | some j =>
    rw [q] at e
    exact r.get e
theorem ix_gIx : IxR X (rD2 X.K W gIx) := by
  intro value slice pins s σ H x y v u Q I rx ry h hs
  obtain ⟨F, a, b, dm, ha, hb, p⟩ := h
  unfold gIx at p
  split at p
  · split at p
    · rename_i e
      cases hb
      cases ha with
      | lst h r =>
        obtain ⟨z, e2, r2⟩ := repL_atI r e
        exact ix_list value slice pins s σ H _ _ v u Q I rx ry ⟨_, _, _, _, rfl, rfl, h, e2, p.dat dm r2⟩ hs
    · exact p.elim
  · split at p
    · rename_i e
      cases hb
      cases ha with
      | tup h r =>
        obtain ⟨z, e2, r2⟩ := repL_atI r e
        exact ix_tup value slice pins s σ H _ _ v u Q I rx ry ⟨_, _, _, _, rfl, rfl, h, e2, p.dat dm r2⟩ hs
    · exact p.elim
  · obtain ⟨hz, p⟩ := post_if p
    split at p
    · rename_i e
      cases hb
      cases ha
      exact ix_str value slice pins s σ H _ _ v u Q I rx ry ⟨_, _, _, rfl, rfl, by rw [sizeLine_eq]; exact hz, e, p.dat dm (.str _)⟩ hs
    · exact p.elim
  · exact p.elim
/-! ### slices -/
def cutL {α : Type} (xs : List α) (lo hi : Option Int) : List α := (xs.drop (HT.sIx xs.length 0 lo)).take (HT.sIx xs.length xs.length hi - HT.sIx xs.length 0 lo)
theorem RepL.cut {K : PySem.W.Frag} {F : Addr → Prop} {H : Hp} {vs : List V} {ds : List D} (r : RepL K F H vs ds) (lo hi : Option Int) : RepL K F H (cutV vs lo hi) (cutL ds lo hi) := by
  unfold cutV cutL
  rw [r.length]
  exact (r.drop _).take _
theorem cutL_whole {α : Type} (xs : List α) (lo hi : Option Int) (h : HT.sIx xs.length 0 lo = 0 ∧ HT.sIx xs.length xs.length hi = xs.length) : cutL xs lo hi = xs := by
  unfold cutL
  rw [h.1, h.2, List.drop_zero, Nat.sub_zero, List.take_length]
def gSl (w : Vw) (lo hi : Option Int) : R Vw := match w with
  | .dt (.tuple xs) => .ok (.dt (.tuple (cutL xs lo hi)))
  | .dt (.str z) => if z.length ≤ 16777216 then .ok (.dt (.str (cutS z lo hi))) else .stk
  | .dt (.list xs) => .ok (.fl (cutL xs lo hi))
  | .fl xs => .ok (.fl (cutL xs lo hi))
  | .bl xs => .ok (.fl (cutL xs lo hi))
  | _ => .stk
def rSlV (K : PySem.W.Frag) (W : Str → Hp → Prop) : V → Option Int → Option Int → Hp → VK → Prop := fun x lo hi H Q => ∃ F w, Dom F H ∧ XR K F H x w ∧ Post K W F H Q (gSl w lo hi)
theorem sl_gSl : SlR X (rSlV X.K W) := by
  intro pins s σ H x v vl vu lo hi sl Q I rx hs pl pu h
  obtain ⟨F, w, dm, ⟨H0, hw⟩, p⟩ := h
  have lists : ∀ (a : Addr) (vs : List V) (xs : List D), x = .ref a → SqL X.K H a vs → RepL X.K F H vs xs → Post X.K W F H Q (.ok (.fl (cutL xs lo hi))) → _ := fun a vs xs e h r p =>
    sl_list pins s σ H x v vl vu lo hi sl Q I rx hs pl pu ⟨a, vs, e, h, fun q n => p.lst dm n (r.cut lo hi)⟩
  unfold gSl at p
  split at p
  · cases hw with
    | tup ht r =>
      refine sl_tupA pins s σ H _ v vl vu lo hi sl Q I rx hs pl pu ⟨_, _, rfl, .inl (.inl ht), fun e => ?_, fun _ q n => p.tup dm n (r.cut lo hi)⟩
      rw [r.length] at e
      rw [cutL_whole _ _ _ e] at p
      exact p.dat dm (.tup ht r)
  · obtain ⟨hz, p⟩ := post_if p
    cases hw
    exact sl_str pins s σ H _ v vl vu lo hi sl Q I rx hs pl pu ⟨_, rfl, by rw [sizeLine_eq]; exact hz, p.dat dm (.str _)⟩
  · cases hw with
    | lst h r => exact lists _ _ _ rfl h.sq r p
  · obtain ⟨l, vs, e, h, r, _⟩ := hw
    exact lists _ _ _ e (.inl (.inl h)) r p
  · obtain ⟨l, vs, e, h, r⟩ := hw
    exact lists _ _ _ e (.inl (.inl h)) r p
  · exact p.elim
end
end BR
namespace BR
open PySem PySem.Spec PyProof.Rows L2

section
variable {X : Cx} {W : Str → Hp → Prop}
/-- d[k], a tuple of ints -/
def gIxV (a b : Vw) : R Vw := match a.peek with
  | .dict ds => match b with
    | .dt (.tuple xs) => match intsOf xs with
      | some k => match dget ds k with
        | some d => .ok (.dt d)
        | none => .stk
      | none => .stk
    | _ => .stk
  | _ => gIx a.peek b.peek
theorem ix_gIxV (hu : X.A.units + 1 < cLine) : IxR X (rV2 X.K W gIxV) := by
  intro value slice pins s σ H x y v u Q I rx ry h hs
  obtain ⟨F, a, b, dm, ha, ⟨H2, hb⟩, p⟩ := h
  unfold gIxV at p
  have ha' := ha.p
  split at p
  · rename_i ds e
    rw [e] at ha'
    split at p
    · split at p
      · rename_i k ek
        split at p
        · rename_i d ed
          cases hb with
          | @tup b' _ _ h1 r1 =>
          cases ha' with
          | @dct a' kvs _ h2 r2 =>
          rw [intsOf_some ek] at r1
          have q1 := r1.ints
          subst q1
          have q := r2.val k
          rw [ed] at q
          obtain ⟨w', ew, rw'⟩ := q
          have g : DGet H a' (.ref b') (some w') := by
            rw [← ew]
            exact .inr ⟨kvs, toKey k, b', h2, rfl, by rw [toKey_kV]; exact h1, rfl⟩
          cases rx
          refine tail_any (dict_typeIs I g) PySem.F.slot_dict_getitem.lookup (d_getItem hu I g ry fun w2 s3 I3 r3 => ⟨w', H, I3, r3, p.dat dm rw'⟩) hs
        · exact p.elim
      · exact p.elim
    · exact p.elim
  · exact ix_gIx value slice pins s σ H x y v u Q I rx ry ⟨F, _, _, dm, ha', VRep.p hb, p⟩ hs
end

/-! ### the frame's slots -/
def Sl.own : Sl → Bool
  | .ol _ | .od _ => true
  | _ => false
def SRep (K : PySem.W.Frag) (F : Addr → Prop) (H0 H : Hp) (v : V) : Sl → Prop
  | .em => True
  | .dd d => Rep K F H v d
  | .ol ds => VRep K F H0 H v (.fl ds)
  | .od ks => VRep K F H0 H v (.fd ks)
/-- the slots σ as ρ says; H0: the heap at the def's entry -/
structure RepS (K : PySem.W.Frag) (H0 : Hp) (F : Addr → Prop) (H : Hp) (σ : L2.St) (ρ : Env) : Prop where
  len : ρ.length = σ.length
  get : ∀ (i : Nat) (s : Sl), ρ[i]? = some s → s = .em ∨ ∃ v, σ[i]? = some (some v) ∧ SRep K F H0 H v s
  inj : ∀ (i j : Nat) (s t : Sl) (l : Addr), ρ[i]? = some s → ρ[j]? = some t → s.own = true → t.own = true → σ[i]? = some (some (.ref l)) → σ[j]? = some (some (.ref l)) → i = j
section
variable {K : PySem.W.Frag} {F F' : Addr → Prop} {H0 H H' : Hp} {σ : L2.St} {ρ : Env}
theorem SRep.ext {v : V} {s : Sl} (h : SRep K F H0 H v s) (e : Ext F H F' H') : SRep K F' H0 H' v s := by
  cases s with
  | em => trivial
  | dd d => exact Rep.ext h e
  | ol ds => exact VRep.ext (w := .fl ds) h e
  | od ks => exact VRep.ext (w := .fd ks) h e
theorem RepS.ext (r : RepS K H0 F H σ ρ) (e : Ext F H F' H') : RepS K H0 F' H' σ ρ :=
  ⟨r.len, fun i s h => (r.get i s h).imp id fun ⟨v, h1, h2⟩ => ⟨v, h1, h2.ext e⟩, r.inj⟩
/-- a slot is read -/
def slotV : Sl → R Vw
  | .dd d => .ok (.dt d)
  | .ol ds => .ok (.bl ds)
  | .od ks => .ok (.bd ks)
  | .em => .stk
theorem RepS.read (r : RepS K H0 F H σ ρ) {i : Nat} {s : Sl} {w : Vw} (h : ρ[i]? = some s) (e : slotV s = .ok w) {H1 : Hp} : ∃ v, σ[i]? = some (some v) ∧ VRep K F H1 H v w := by
  rcases r.get i s h with q | ⟨v, h1, h2⟩
  · subst q; cases e
  · refine ⟨v, h1, ?_⟩
    cases s with
    | em => cases e
    | dd d => cases e; exact h2
    | ol ds => cases e; obtain ⟨l, xs, e1, e2, e3, _⟩ := h2; exact ⟨l, xs, e1, e2, e3⟩
    | od ks => cases e; obtain ⟨l, xs, e1, e2, e3, _⟩ := h2; exact ⟨l, xs, e1, e2, e3⟩
/-- own slots are emptied -/
def wipeE (ρ : Env) : List Nat → Env
  | [] => ρ
  | v :: vs => (wipeE ρ vs).set v .em
theorem wipeE_length (ρ : Env) : ∀ vs : List Nat, (wipeE ρ vs).length = ρ.length
  | [] => rfl
  | v :: vs => by unfold wipeE; rw [List.length_set, wipeE_length ρ vs]
theorem RepS.em (r : RepS K H0 F H σ ρ) (j : Nat) (o : Option V) : RepS K H0 F H (σ.set j o) (ρ.set j .em) := by
  refine ⟨by rw [List.length_set, List.length_set]; exact r.len, fun i s h => ?_, fun a b s t l h1 h2 o1 o2 e1 e2 => ?_⟩
  · by_cases e : j = i
    · subst e
      by_cases hl : j < ρ.length
      · rw [List.getElem?_set_self hl] at h; cases h; exact .inl rfl
      · rw [List.getElem?_eq_none (by rw [List.length_set]; omega)] at h; cases h
    · rw [List.getElem?_set_ne e] at h ⊢
      exact r.get i s h
  · have ha : j ≠ a := fun e => by
      subst e
      by_cases hl : j < ρ.length
      · rw [List.getElem?_set_self hl] at h1; cases h1; cases o1
      · rw [List.getElem?_eq_none (by rw [List.length_set]; omega)] at h1; cases h1
    have hb : j ≠ b := fun e => by
      subst e
      by_cases hl : j < ρ.length
      · rw [List.getElem?_set_self hl] at h2; cases h2; cases o2
      · rw [List.getElem?_eq_none (by rw [List.length_set]; omega)] at h2; cases h2
    rw [List.getElem?_set_ne ha] at h1 e1
    rw [List.getElem?_set_ne hb] at h2 e2
    exact r.inj a b s t l h1 h2 o1 o2 e1 e2
theorem RepS.wipe (r : RepS K H0 F H σ ρ) : ∀ vs : List Nat, RepS K H0 F H (L2.wipe σ vs) (wipeE ρ vs)
  | [] => r
  | v :: vs => (RepS.wipe r vs).em v none
/-- a view is stored -/
def slOf : Vw → R Sl
  | .dt d => .ok (.dd d)
  | .fl ds => .ok (.ol ds)
  | .fd ks => .ok (.od ks)
  | _ => .stk
theorem slOf_own {w : Vw} {s : Sl} (e : slOf w = .ok s) (o : s.own = true) : (∃ ds, w = .fl ds) ∨ ∃ ks, w = .fd ks := by
  cases w <;> cases e
  · cases o
  · exact .inl ⟨_, rfl⟩
  · exact .inr ⟨_, rfl⟩
theorem RepS.put {F1 : Addr → Prop} {H1 : Hp} (r : RepS K H0 F H σ ρ) (r1 : RepS K H0 F1 H1 σ ρ) (sm : Same H0 H1) {i : Nat} {v : V} {w : Vw} {s : Sl} (e : slOf w = .ok s) (h : VRep K F H1 H v w) : RepS K H0 F H (σ.set i (some v)) (ρ.set i s) := by
  have hs : SRep K F H0 H v s := by
    have h := h.back sm
    cases w <;> cases e <;> exact h
  have newl : s.own = true → ∀ l, v = .ref l → H1 l = none := fun o l ev => by
    rcases slOf_own e o with ⟨ds, rfl⟩ | ⟨ks, rfl⟩
    · obtain ⟨l', xs, e1, _, _, n, _⟩ := h; rw [ev] at e1; cases e1; exact n
    · obtain ⟨l', xs, e1, _, _, n, _⟩ := h; rw [ev] at e1; cases e1; exact n
  have oldl : ∀ (j : Nat) (t : Sl) (l : Addr), ρ[j]? = some t → t.own = true → σ[j]? = some (some (.ref l)) → H1 l ≠ none := fun j t l h1 o1 e1 n => by
    rcases r1.get j t h1 with q | ⟨v', q1, q2⟩
    · subst q; cases o1
    · rw [e1] at q1; cases q1
      cases t with
      | ol ds => obtain ⟨l', xs, z, z2, _⟩ := q2; cases z; rw [n] at z2; cases z2
      | od ds => obtain ⟨l', xs, z, z2, _⟩ := q2; cases z; rw [n] at z2; cases z2
      | _ => cases o1
  refine ⟨by rw [List.length_set, List.length_set]; exact r.len, fun j t h => ?_, fun a b t u l h1 h2 o1 o2 e1 e2 => ?_⟩
  · by_cases ej : i = j
    · subst ej
      by_cases hl : i < ρ.length
      · rw [List.getElem?_set_self hl] at h; cases h
        exact .inr ⟨v, by rw [List.getElem?_set_self (by rw [← r.len]; exact hl)], hs⟩
      · rw [List.getElem?_eq_none (by rw [List.length_set]; omega)] at h; cases h
    · rw [List.getElem?_set_ne ej] at h ⊢
      exact r.get j t h
  · by_cases ha : i = a
    · by_cases hb : i = b
      · rw [← ha, ← hb]
      · subst ha
        have hl : i < ρ.length := by
          rcases Nat.lt_or_ge i ρ.length with q | q
          · exact q
          · rw [List.getElem?_eq_none (by rw [List.length_set]; exact q)] at h1; cases h1
        rw [List.getElem?_set_self hl] at h1; cases h1
        rw [List.getElem?_set_self (by rw [← r.len]; exact hl)] at e1
        rw [List.getElem?_set_ne hb] at h2 e2
        exact (oldl b u l h2 o2 e2 (newl o1 l (Option.some.inj (Option.some.inj e1)))).elim
    · by_cases hb : i = b
      · subst hb
        have hl : i < ρ.length := by
          rcases Nat.lt_or_ge i ρ.length with q | q
          · exact q
          · rw [List.getElem?_eq_none (by rw [List.length_set]; exact q)] at h2; cases h2
        rw [List.getElem?_set_self hl] at h2; cases h2
        rw [List.getElem?_set_self (by rw [← r.len]; exact hl)] at e2
        rw [List.getElem?_set_ne ha] at h1 e1
        exact (oldl a t l h1 o1 e1 (newl o2 l (Option.some.inj (Option.some.inj e2)))).elim
      · rw [List.getElem?_set_ne ha] at h1 e1
        rw [List.getElem?_set_ne hb] at h2 e2
        exact r.inj a b t u l h1 h2 o1 o2 e1 e2
end

/-! ### canonical readings -/
def EvOk (X : Cx) (e : Expr) : TE := fun σ H Q => ∀ pins s, Inv X pins σ H s → wpAny (model X.prog X.w) X.A (eval e X.env) (EP X pins σ Q) X.xe s
theorem pe_can {X : Cx} {e : Expr} : PE X e (EvOk X e) := ⟨fun pins s σ H Q I h => h pins s I⟩
theorem pe_ev {X : Cx} {e : Expr} {t : TE} {σ : L2.St} {H : Hp} {Q : VK} (h : PE X e t) (q : t σ H Q) : EvOk X e σ H Q := fun pins s I => h.run pins s σ H Q I q
def EtOk (X : Cx) (e : Expr) : TT := fun σ H Q => ∀ pins s, Inv X pins σ H s → wpAny (model X.prog X.w) X.A (isTrue e X.env (eval e X.env)) (TP X pins σ Q) X.xe s
theorem pt_can {X : Cx} {e : Expr} : PT X e (EtOk X e) := ⟨fun pins s σ H Q I h => h pins s I⟩
theorem pt_ev {X : Cx} {e : Expr} {t : TT} {σ : L2.St} {H : Hp} {Q : Bool → Hp → Prop} (h : PT X e t) (q : t σ H Q) : EtOk X e σ H Q := fun pins s I => h.run pins s σ H Q I q
def EaOk (X : Cx) (es : List Expr) : TA := fun σ H Q => ∀ pos pins s, Inv X pins σ H s → wpAny (model X.prog X.w) X.A (spliced (backTo pos (starEach es X.env))) (AP X pins σ Q) X.xe s
theorem pa_can {X : Cx} {es : List Expr} : PA X es (EaOk X es) := ⟨fun pos pins s σ H Q I h => h pos pins s I⟩
theorem pa_ev {X : Cx} {es : List Expr} {t : TA} {σ : L2.St} {H : Hp} {Q : List V → Hp → Prop} (h : PA X es t) (q : t σ H Q) : EaOk X es σ H Q := fun pos pins s I => h.run pos pins s σ H Q I q
def EsOk (X : Cx) (st : Stmt) : TS := fun D σ H => ∀ pins s, Inv X pins σ H s → wpAny (model X.prog X.w) X.A (exec st X.env) (SP X pins D) X.xe s
theorem ps_can {X : Cx} {st : Stmt} : PS X st (EsOk X st) := ⟨fun pins s σ H D I h => h pins s I⟩
theorem ps_ev {X : Cx} {st : Stmt} {t : TS} {D : Ends} {σ : L2.St} {H : Hp} (h : PS X st t) (q : t D σ H) : EsOk X st D σ H := fun pins s I => h.run pins s σ H D I q
def EssOk (X : Cx) (st : List Stmt) : TS := fun D σ H => ∀ pins s, Inv X pins σ H s → wpAny (model X.prog X.w) X.A (execs st X.env) (SP X pins D) X.xe s
theorem pss_can {X : Cx} {st : List Stmt} : PSs X st (EssOk X st) := ⟨fun pins s σ H D I h => h pins s I⟩
theorem pss_ev {X : Cx} {st : List Stmt} {t : TS} {D : Ends} {σ : L2.St} {H : Hp} (h : PSs X st t) (q : t D σ H) : EssOk X st D σ H := fun pins s I => h.run pins s σ H D I q

/-! ### soundness of an evaluator's function at an expression -/
abbrev WS := Str → L2.St → Hp → Prop
def SndE (X : Cx) (W : WS) (H0 : Hp) (f : Env → R Vw) (e : Expr) : Prop :=
  ∀ ρ σ F H Q, RepS X.K H0 F H σ ρ → Dom F H → Same H0 H → Post X.K (fun c H => W c σ H) F H Q (f ρ) → EvOk X e σ H Q
def PostT (W : Str → Hp → Prop) (F : Addr → Prop) (H : Hp) (Q : Bool → Hp → Prop) : R Bool → Prop
  | .ok b => ∀ F' H', Ext F H F' H' → Dom F' H' → Q b H'
  | .exc c => ∀ F' H', Ext F H F' H' → Dom F' H' → W c H'
  | .stk => False
theorem PostT.ext {W : Str → Hp → Prop} {F F' : Addr → Prop} {H H' : Hp} {Q : Bool → Hp → Prop} {r : R Bool} (p : PostT W F H Q r) (e : Ext F H F' H') : PostT W F' H' Q r := by
  cases r with
  | ok w => exact fun F2 H2 e2 d2 => p F2 H2 (e.trans e2) d2
  | exc c => exact fun F2 H2 e2 d2 => p F2 H2 (e.trans e2) d2
  | stk => exact p
def SndT (X : Cx) (W : WS) (H0 : Hp) (f : Env → R Bool) (e : Expr) : Prop :=
  ∀ ρ σ F H Q, RepS X.K H0 F H σ ρ → Dom F H → Same H0 H → PostT (fun c H => W c σ H) F H Q (f ρ) → EtOk X e σ H Q
section
variable {X : Cx} {W : WS} {H0 : Hp} {ρ : Env} {σ : L2.St} {F : Addr → Prop} {H : Hp}
/-- then -/
theorem SndE.thn {f : Env → R Vw} {e : Expr} {g : Vw → R Vw} {Q Q1 : VK} (h : SndE X W H0 f e) (r : RepS X.K H0 F H σ ρ) (dm : Dom F H) (sm : Same H0 H) (p : Post X.K (fun c H => W c σ H) F H Q ((f ρ).bind g))
    (k : ∀ w v F1 H1, f ρ = .ok w → Ext F H F1 H1 → Dom F1 H1 → RepS X.K H0 F1 H1 σ ρ → Same H0 H1 → VRep X.K F1 H H1 v w → Post X.K (fun c H => W c σ H) F1 H1 Q (g w) → Q1 v H1) : EvOk X e σ H Q1 := by
  refine h ρ σ F H Q1 r dm sm ?_
  cases q : f ρ with
  | ok w =>
    rw [q] at p
    exact fun v F1 H1 e1 d1 rv => k w v F1 H1 q e1 d1 (r.ext e1) (sm.trans e1.same) rv (Post.ext (r := g w) p e1)
  | exc c => rw [q] at p; exact p
  | stk => rw [q] at p; exact p.elim
theorem SndE.thnT {f : Env → R Vw} {e : Expr} {g : Vw → R Bool} {Q : Bool → Hp → Prop} {Q1 : VK} (h : SndE X W H0 f e) (r : RepS X.K H0 F H σ ρ) (dm : Dom F H) (sm : Same H0 H) (p : PostT (fun c H => W c σ H) F H Q ((f ρ).bind g))
    (k : ∀ w v F1 H1, f ρ = .ok w → Ext F H F1 H1 → Dom F1 H1 → RepS X.K H0 F1 H1 σ ρ → Same H0 H1 → VRep X.K F1 H H1 v w → PostT (fun c H => W c σ H) F1 H1 Q (g w) → Q1 v H1) : EvOk X e σ H Q1 := by
  refine h ρ σ F H Q1 r dm sm ?_
  cases q : f ρ with
  | ok w =>
    rw [q] at p
    exact fun v F1 H1 e1 d1 rv => k w v F1 H1 q e1 d1 (r.ext e1) (sm.trans e1.same) rv (PostT.ext (r := g w) p e1)
  | exc c => rw [q] at p; exact p
  | stk => rw [q] at p; exact p.elim
theorem SndT.thn {f : Env → R Bool} {e : Expr} {g : Bool → R Vw} {Q : VK} {Q1 : Bool → Hp → Prop} (h : SndT X W H0 f e) (r : RepS X.K H0 F H σ ρ) (dm : Dom F H) (sm : Same H0 H) (p : Post X.K (fun c H => W c σ H) F H Q ((f ρ).bind g))
    (k : ∀ b F1 H1, f ρ = .ok b → Ext F H F1 H1 → Dom F1 H1 → RepS X.K H0 F1 H1 σ ρ → Same H0 H1 → Post X.K (fun c H => W c σ H) F1 H1 Q (g b) → Q1 b H1) : EtOk X e σ H Q1 := by
  refine h ρ σ F H Q1 r dm sm ?_
  cases q : f ρ with
  | ok w =>
    rw [q] at p
    exact fun F1 H1 e1 d1 => k w F1 H1 q e1 d1 (r.ext e1) (sm.trans e1.same) (Post.ext (r := g w) p e1)
  | exc c => rw [q] at p; exact p
  | stk => rw [q] at p; exact p.elim
theorem SndT.thnT {f : Env → R Bool} {e : Expr} {g : Bool → R Bool} {Q : Bool → Hp → Prop} {Q1 : Bool → Hp → Prop} (h : SndT X W H0 f e) (r : RepS X.K H0 F H σ ρ) (dm : Dom F H) (sm : Same H0 H) (p : PostT (fun c H => W c σ H) F H Q ((f ρ).bind g))
    (k : ∀ b F1 H1, f ρ = .ok b → Ext F H F1 H1 → Dom F1 H1 → RepS X.K H0 F1 H1 σ ρ → Same H0 H1 → PostT (fun c H => W c σ H) F1 H1 Q (g b) → Q1 b H1) : EtOk X e σ H Q1 := by
  refine h ρ σ F H Q1 r dm sm ?_
  cases q : f ρ with
  | ok w =>
    rw [q] at p
    exact fun F1 H1 e1 d1 => k w F1 H1 q e1 d1 (r.ext e1) (sm.trans e1.same) (PostT.ext (r := g w) p e1)
  | exc c => rw [q] at p; exact p
  | stk => rw [q] at p; exact p.elim
end
end BR
namespace BR
open PySem PySem.Spec PyProof.Rows L2
/-! ### sorted(set(..)) of tuples of small ints -/
section
theorem code_inj : ∀ {a b : List Int}, a.length = b.length → TS.Bd 64 a → TS.Bd 64 b → TS.code 64 a = TS.code 64 b → a = b
  | [], [], _, _, _, _ => rfl
  | [], _ :: _, h, _, _, _ => nomatch h
  | _ :: _, [], h, _, _, _ => nomatch h
  | x :: a, y :: b, h, ha, hb, e => by
    have hl : a.length = b.length := Nat.succ.inj h
    have ha' := TS.Bd.tail ha
    have hb' := TS.Bd.tail hb
    rcases Int.lt_trichotomy x y with q | q | q
    · have := TS.code_lt hl ha' hb' q
      omega
    · subst q
      rcases Int.lt_trichotomy (TS.code 64 a) (TS.code 64 b) with z | z | z
      · have := (TS.code_same (B := 64) (d := x) hl).mpr z
        omega
      · rw [code_inj hl ha' hb' z]
      · have := (TS.code_same (B := 64) (d := x) hl.symm).mpr z
        omega
    · have := TS.code_lt hl.symm hb' ha' q
      omega
theorem code_lex : ∀ {a b : List Int}, a.length = b.length → TS.Bd 64 a → TS.Bd 64 b → TS.code 64 a < TS.code 64 b → HT.lexLt a b = true
  | [], [], _, _, _, e => absurd e (Int.lt_irrefl _)
  | [], _ :: _, h, _, _, _ => nomatch h
  | _ :: _, [], h, _, _, _ => nomatch h
  | x :: a, y :: b, h, ha, hb, e => by
    have hl : a.length = b.length := Nat.succ.inj h
    have ha' := TS.Bd.tail ha
    have hb' := TS.Bd.tail hb
    rw [HT.lexLt_cons]
    rcases Int.lt_trichotomy x y with q | q | q
    · rw [if_neg (by omega)]
      exact decide_eq_true q
    · subst q
      rw [if_pos rfl]
      exact code_lex hl ha' hb' ((TS.code_same hl).mp e)
    · have := TS.code_lt hl.symm hb' ha' q
      omega
/-- strictly by the code -/
abbrev SrtC (l : List (List Int)) : Prop := l.Pairwise fun a b => TS.code 64 a < TS.code 64 b
theorem srt_uniq : ∀ {l m : List (List Int)}, SrtC l → SrtC m → (∀ x, x ∈ l ↔ x ∈ m) → l = m
  | [], [], _, _, _ => rfl
  | [], b :: m, _, _, h => nomatch (h b).mpr List.mem_cons_self
  | a :: l, [], _, _, h => nomatch (h a).mp List.mem_cons_self
  | a :: l, b :: m, hl, hm, h => by
    obtain ⟨l1, l2⟩ := List.pairwise_cons.mp hl
    obtain ⟨m1, m2⟩ := List.pairwise_cons.mp hm
    have e : a = b := by
      rcases List.mem_cons.mp ((h a).mp List.mem_cons_self) with q | q
      · exact q
      · rcases List.mem_cons.mp ((h b).mpr List.mem_cons_self) with z | z
        · exact z.symm
        · have := m1 a q
          have := l1 b z
          omega
    subst e
    congr 1
    refine srt_uniq l2 m2 fun x => ⟨fun hx => ?_, fun hx => ?_⟩
    · rcases List.mem_cons.mp ((h x).mp (List.mem_cons_of_mem _ hx)) with q | q
      · subst q; exact absurd (l1 x hx) (Int.lt_irrefl _)
      · exact q
    · rcases List.mem_cons.mp ((h x).mpr (List.mem_cons_of_mem _ hx)) with q | q
      · subst q; exact absurd (m1 x hx) (Int.lt_irrefl _)
      · exact q
def insC (x : List Int) : List (List Int) → List (List Int)
  | [] => [x]
  | y :: ys => if TS.code 64 x < TS.code 64 y then x :: y :: ys else if TS.code 64 x = TS.code 64 y then y :: ys else y :: insC x ys
def srtSet : List (List Int) → List (List Int)
  | [] => []
  | x :: xs => insC x (srtSet xs)
theorem insC_sub {x y : List Int} : ∀ {l : List (List Int)}, y ∈ insC x l → y = x ∨ y ∈ l
  | [], h => .inl (List.mem_singleton.mp h)
  | z :: l, h => by
    unfold insC at h
    split at h
    · exact List.mem_cons.mp h
    · split at h
      · exact .inr h
      · rcases List.mem_cons.mp h with q | q
        · exact .inr (q ▸ List.mem_cons_self)
        · exact (insC_sub q).imp id fun q => List.mem_cons_of_mem _ q
theorem insC_old {x y : List Int} : ∀ {l : List (List Int)}, y ∈ l → y ∈ insC x l
  | z :: l, h => by
    unfold insC
    split
    · exact List.mem_cons_of_mem _ h
    · split
      · exact h
      · rcases List.mem_cons.mp h with q | q
        · exact q ▸ List.mem_cons_self
        · exact List.mem_cons_of_mem _ (insC_old q)
theorem insC_srt {x : List Int} : ∀ {l : List (List Int)}, SrtC l → SrtC (insC x l)
  | [], _ => List.pairwise_singleton _ _
  | z :: l, h => by
    obtain ⟨h1, h2⟩ := List.pairwise_cons.mp h
    unfold insC
    split
    · rename_i q
      refine List.pairwise_cons.mpr ⟨fun y hy => ?_, h⟩
      rcases List.mem_cons.mp hy with e | e
      · subst e; exact q
      · have := h1 y e
        omega
    · split
      · exact h
      · rename_i q1 q2
        refine List.pairwise_cons.mpr ⟨fun y hy => ?_, insC_srt h2⟩
        rcases insC_sub hy with e | e
        · subst e; omega
        · exact h1 y e
theorem srtSet_srt : ∀ l : List (List Int), SrtC (srtSet l)
  | [] => .nil
  | x :: l => insC_srt (srtSet_srt l)
theorem srtSet_sub {y : List Int} : ∀ {l : List (List Int)}, y ∈ srtSet l → y ∈ l
  | x :: l, h => (insC_sub h).elim (fun e => e ▸ List.mem_cons_self) fun e => List.mem_cons_of_mem _ (srtSet_sub e)
theorem insC_new {x : List Int} {d : Nat} (hx : x.length = d ∧ TS.Bd 64 x) : ∀ {l : List (List Int)}, (∀ y ∈ l, y.length = d ∧ TS.Bd 64 y) → x ∈ insC x l
  | [], _ => List.mem_singleton.mpr rfl
  | z :: l, h => by
    unfold insC
    split
    · exact List.mem_cons_self
    · split
      · rename_i q
        have hz := h z List.mem_cons_self
        rw [code_inj (hx.1.trans hz.1.symm) hx.2 hz.2 q]
        exact List.mem_cons_self
      · exact List.mem_cons_of_mem _ (insC_new hx fun y hy => h y (List.mem_cons_of_mem _ hy))
theorem srtSet_mem {d : Nat} : ∀ {l : List (List Int)}, (∀ y ∈ l, y.length = d ∧ TS.Bd 64 y) → ∀ {y : List Int}, y ∈ l → y ∈ srtSet l
  | x :: l, h, y, hy => by
    have h' : ∀ y ∈ l, y.length = d ∧ TS.Bd 64 y := fun y hy => h y (List.mem_cons_of_mem _ hy)
    rcases List.mem_cons.mp hy with e | e
    · subst e
      exact insC_new (h y List.mem_cons_self) fun z hz => h' z (srtSet_sub hz)
    · exact insC_old (srtSet_mem h' e)
end
/-- rows of ints -/
def rowsI : List PyData → Option (List (List Int))
  | [] => some []
  | .tuple xs :: r => match intsOf xs with
    | some k => (rowsI r).map (k :: ·)
    | none => none
  | _ => none
theorem rowsI_some : ∀ {ds : List PyData} {ks : List (List Int)}, rowsI ds = some ks → ds = ks.map keyD
  | [], ks, h => by cases h; rfl
  | .tuple xs :: r, ks, h => by
    rw [rowsI] at h
    cases q : intsOf xs with
    | none => rw [q] at h; cases h
    | some k =>
      rw [q] at h
      obtain ⟨js, h1, h2⟩ := Option.map_eq_some_iff.mp h
      subst h2
      rw [rowsI_some h1, intsOf_some q]
      rfl
  | .none :: _, _, h => by cases h
  | .bool _ :: _, _, h => by cases h
  | .int _ :: _, _, h => by cases h
  | .str _ :: _, _, h => by cases h
  | .list _ :: _, _, h => by cases h
  | .dict _ :: _, _, h => by cases h
theorem rowsI_map : ∀ ks : List (List Int), rowsI (ks.map keyD) = some ks
  | [] => rfl
  | k :: ks => by
    show (match intsOf (k.map .int) with | some k => (rowsI (ks.map keyD)).map (k :: ·) | none => none) = _
    rw [intsOf_map, rowsI_map ks]
    rfl
def rowOk (d : Nat) (k : List Int) : Bool := decide (k.length = d) && k.all fun m => decide (0 ≤ m) && decide (m < 64)
def ssOk : List (List Int) → Bool
  | [] => true
  | k :: ks => decide (1 ≤ k.length) && decide ((k :: ks).length < 64) && (k :: ks).all (rowOk k.length)
theorem rowOk_of {d : Nat} {k : List Int} (h : rowOk d k = true) : k.length = d ∧ TS.Bd 64 k := by
  unfold rowOk at h
  rw [Bool.and_eq_true, decide_eq_true_eq, List.all_eq_true] at h
  refine ⟨h.1, fun m hm => ?_⟩
  have := h.2 m hm
  rw [Bool.and_eq_true, decide_eq_true_eq, decide_eq_true_eq] at this
  exact this
theorem ssOk_of {ks : List (List Int)} (h : ssOk ks = true) : ∃ d, 1 ≤ d ∧ ks.length < 64 ∧ ∀ k ∈ ks, k.length = d ∧ TS.Bd 64 k := by
  cases ks with
  | nil => exact ⟨1, Nat.le_refl _, by decide, fun _ h => nomatch h⟩
  | cons k ks =>
    unfold ssOk at h
    rw [Bool.and_eq_true, Bool.and_eq_true, decide_eq_true_eq, decide_eq_true_eq, List.all_eq_true] at h
    exact ⟨k.length, h.1.1, h.1.2, fun j hj => rowOk_of (h.2 j hj)⟩
/-! sorted(set(..)) of ints -/
def insU (x : Int) : List Int → List Int
  | [] => [x]
  | y :: l => if x < y then x :: y :: l else if x = y then y :: l else y :: insU x l
def srtU : List Int → List Int
  | [] => []
  | x :: l => insU x (srtU l)
theorem insU_mem {x y : Int} : ∀ {l : List Int}, y ∈ insU x l ↔ y = x ∨ y ∈ l
  | [] => by simp [insU]
  | z :: l => by
    unfold insU
    split
    · exact List.mem_cons
    · split
      · rename_i h
        subst h
        simp
      · rw [List.mem_cons, insU_mem (l := l), List.mem_cons]
        constructor
        · rintro (h | h | h)
          · exact .inr (.inl h)
          · exact .inl h
          · exact .inr (.inr h)
        · rintro (h | h | h)
          · exact .inr (.inl h)
          · exact .inl h
          · exact .inr (.inr h)
theorem srtU_mem {y : Int} : ∀ {l : List Int}, y ∈ srtU l ↔ y ∈ l
  | [] => Iff.rfl
  | x :: l => by
    unfold srtU
    rw [insU_mem, srtU_mem (l := l), List.mem_cons]
theorem insU_pw {x : Int} : ∀ {l : List Int}, l.Pairwise (· < ·) → (insU x l).Pairwise (· < ·)
  | [], _ => List.pairwise_singleton _ _
  | z :: l, h => by
    obtain ⟨h1, h2⟩ := List.pairwise_cons.mp h
    unfold insU
    split
    · rename_i q
      refine List.pairwise_cons.mpr ⟨fun y hy => ?_, h⟩
      rcases List.mem_cons.mp hy with e | e
      · rw [e]; exact q
      · exact Int.lt_trans q (h1 y e)
    · split
      · exact h
      · refine List.pairwise_cons.mpr ⟨fun y hy => ?_, insU_pw h2⟩
        rcases insU_mem.mp hy with e | e
        · omega
        · exact h1 y e
theorem srtU_pw : ∀ l : List Int, (srtU l).Pairwise (· < ·)
  | [] => .nil
  | x :: l => insU_pw (srtU_pw l)
theorem lt_uniq : ∀ {a b : List Int}, a.Pairwise (· < ·) → b.Pairwise (· < ·) → (∀ x, x ∈ a ↔ x ∈ b) → a = b
  | [], [], _, _, _ => rfl
  | [], b :: m, _, _, h => nomatch (h b).mpr List.mem_cons_self
  | a :: l, [], _, _, h => nomatch (h a).mp List.mem_cons_self
  | a :: l, b :: m, hl, hm, h => by
    obtain ⟨l1, l2⟩ := List.pairwise_cons.mp hl
    obtain ⟨m1, m2⟩ := List.pairwise_cons.mp hm
    have e : a = b := by
      rcases List.mem_cons.mp ((h a).mp List.mem_cons_self) with q | q
      · exact q
      · rcases List.mem_cons.mp ((h b).mpr List.mem_cons_self) with z | z
        · exact z.symm
        · have := m1 a q
          have := l1 b z
          omega
    subst e
    congr 1
    refine lt_uniq l2 m2 fun x => ⟨fun hx => ?_, fun hx => ?_⟩
    · rcases List.mem_cons.mp ((h x).mp (List.mem_cons_of_mem _ hx)) with q | q
      · subst q; exact absurd (l1 x hx) (Int.lt_irrefl _)
      · exact q
    · rcases List.mem_cons.mp ((h x).mpr (List.mem_cons_of_mem _ hx)) with q | q
      · subst q; exact absurd (m1 x hx) (Int.lt_irrefl _)
      · exact q
theorem lt_len : ∀ {a b : List Int}, a.Pairwise (· < ·) → (∀ x ∈ a, x ∈ b) → a.length ≤ b.length := by
  intro a
  induction a with
  | nil => exact fun _ _ => Nat.zero_le _
  | cons x l ih =>
    intro b h hs
    obtain ⟨h1, h2⟩ := List.pairwise_cons.mp h
    have hx := hs x List.mem_cons_self
    have := ih (b := b.erase x) h2 fun y hy => (List.mem_erase_of_ne (fun e => by subst e; exact absurd (h1 y hy) (Int.lt_irrefl _))).mpr (hs y (List.mem_cons_of_mem _ hy))
    rw [List.length_erase_of_mem hx] at this
    have := List.length_pos_of_mem hx
    rw [List.length_cons]
    omega
def gSSi (ds : List PyData) : R Vw := match intsOf ds with
  | some ns => if ns.length < 64 then .ok (.fl ((srtU ns).map .int)) else .stk
  | none => .stk
def gSSs (ds : List PyData) : R Vw := match rowsI ds with
  | some ks => if ssOk ks = true then .ok (.fl ((srtSet ks).map keyD)) else .stk
  | none => gSSi ds
def gSS (w : Vw) : R Vw := match w.peek with
  | .list ds => gSSs ds
  | .tuple ds => gSSs ds
  | _ => .stk
end BR
namespace BR
open PySem PySem.Spec PyProof.Rows L2
/-! ### set(xs) of a list or a tuple; what the loop does is told apart -/
abbrev sObj (w : World) : Obj := { cls := .type "set", dict := none, data := .set #[] 0 (.fresh 0 0 (!w.params.followText "set-order")) }
section
variable {P : Program} {w : World} {A : Around} {E : Value → Shared → Prop} {s : Shared}
def SetLoop (P : Program) (w : World) (items : Array Value) (s : Shared) (Good : Heap → Prop) : Prop :=
  ∀ (B : Around) (I : Addr) (fp wr : List Addr) (G : Array GenState → Array GenState → Prop) (Pv : Nat → Value → Prop) (St : Nat → Shared → Prop) (R : Result → Shared → Prop) (s1 : Shared),
    WalksS P w B.in1 I fp wr G items.size Pv St → B.in1.units < cLine → s.heap.objs.size ∉ fp → (∀ i v, Pv i v → items[i]? = some v) → (∀ b ∈ wr, s.heap.get? b = none) → St 0 s1 →
    (∀ b o, s.heap.get? b = some o → s1.heap.get? b = some o) → s1.heap.get? s.heap.objs.size = some (sObj w) →
    (∀ s', Moved (s.heap.objs.size :: wr) G s1 s' → Good s'.heap → R (.ok (.ret .none)) s') →
    codeAny (model P w) B (.builtin "set.update.loop" ⟨[.ref s.heap.objs.size, .ref I], []⟩) R s1
theorem set_seq {l : Addr} {items : Array Value} {Good : Heap → Prop} {Q : Value → Shared → Prop} (src : s.heap.IsList l items ∨ s.heap.IsTuple l items) (hh : A.handled = none) (hu : A.units + 3 < cLine) (lp : SetLoop P w items s Good)
    (fin : ∀ (h' : Heap) (tk : Nat), Good h' → (∀ b o, s.heap.get? b = some o → h'.get? b = some o) → Q (.ref s.heap.objs.size) { s with heap := h', toks := tk }) :
    wpAny (model P w) A (call (.type "set") [.ref l]) Q E s := by
  have ⟨cc, cl, cm⟩ := F.called_set.mro
  have cmade := F.called_set.made
  have csub := F.called_set.sub
  refine wpAny_call (codeAny_of_tree ?_)
  show wpAny _ _ (callAny (.type "set") _) _ _ _
  refine wpAny_pure ⟨Code.quiet_builtin _ (by decide +kernel), codeAny_builtin F.entry_type_call ?_⟩
  rw [Around.under_plain (weight_type_call_type "set" [.ref l] []) rfl]
  have n1 := F.called_set.notType
  have n2 := F.called_set.canCreate
  have n3 := F.typeCall_set_1 (.ref l)
  repeat (any_goals (first | assumption | wp_step))
  refine codeAny_mono (code_set_led1 (.ref l) (E := E) (Q₁ := fun u z => u = .ref s.heap.objs.size ∧ z = { s with heap := s.heap.push (sObj w) }) ⟨rfl, rfl⟩) fun rr z1 hz1 => ?_
  cases rr with
  | error e => exact hz1
  | ok f1 =>
  cases f1 with
  | ret u =>
    obtain ⟨rfl, rfl⟩ := hz1
    have at0 : (s.heap.push (sObj w)).get? s.heap.objs.size = some (sObj w) := Heap.get?_push_size _ rfl
    have ty0 : Shared.TypeIs { s with heap := s.heap.push (sObj w) } (.ref s.heap.objs.size) "set" := ⟨_, at0, rfl⟩
    have i1 := F.called_set.init.lookup
    have i2 := F.called_set.init.bind (.ref s.heap.objs.size)
    have none_of : ∀ b, s.heap.objs.size ≤ b → s.heap.get? b = none := fun b hb => by
      cases q : s.heap.get? b with
      | some o => exact absurd (Nat.lt_of_lt_of_le (Heap.lt_size q) hb) (Nat.lt_irrefl _)
      | none => rfl
    have sz1 : (s.heap.push (sObj w)).objs.size = s.heap.objs.size + 1 := Heap.size_push ..
    have hin : A.in1.in1.in1.handled = none := by simp [hh]
    repeat (any_goals (first | assumption | wp_step))
    refine codeAny_mono (codeAny_call_builtin (R := wants (fun r z => r = .none ∧ ∃ h' tk, z = { s with heap := h', toks := tk } ∧ Good h' ∧ ∀ b o, s.heap.get? b = some o → h'.get? b = some o) E) F.called_set.init.plain F.entry_set_init (check_set_init_1 ty0 ?_)) fun r2 z2 hz2 => ?_
    · rcases src with src | src
      · have src1 : (s.heap.push (sObj w)).IsList l items := src.push _
        obtain ⟨⟨oc, od, oa, os⟩, ho, hoc, nn, hoa⟩ := src
        dsimp only at hoc hoa
        subst hoc hoa
        have ho1 : (s.heap.push (sObj w)).get? l = some { cls := .type "list", dict := od, data := .seq items nn, slots := os } := Heap.get?_push_of_some _ ho
        have b1 := F.sub_list_set
        have b2 := F.sub_list_frozenset
        have b3 : (Value.type "list" == Value.type "dict") = false := by decide
        have ll : l < s.heap.objs.size := Heap.lt_size ho
        unfold Builtin.«set.__init__» noKeywords Builtin.Frozenset.updateFrom
        generalize hPI : pyIter = PI
        wp_walk
        subst hPI
        refine wpAny_pyIter_list src1 (wpAny_bind (wpAny_runValue ?_))
        have ne1 : l ≠ (s.heap.push (sObj w)).objs.size := by rw [sz1]; exact Nat.ne_of_lt (Nat.lt_succ_of_lt ll)
        refine lp _ _ _ _ _ _ _ _ _ ((Walks.list hin _ l ne1 items).toS) hu ?_ (fun i v hv => hv) ?_ ⟨⟨_, Heap.get?_push_size _ rfl, rfl, rfl⟩, (src1.push _)⟩ (fun b o e => Heap.get?_push_of_some _ (Heap.get?_push_of_some _ e)) (Heap.get?_push_of_some _ at0) ?_
        · rw [sz1]
          intro z
          rcases List.mem_cons.mp z with z | z
          · exact absurd z (Nat.ne_of_lt (Nat.lt_succ_self _))
          · exact absurd (List.mem_singleton.mp z) (Nat.ne_of_gt ll)
        · intro b hb
          exact none_of b (by rw [List.mem_singleton.mp hb, sz1]; exact Nat.le_succ _)
        · intro z4 mv gd
          obtain ⟨h4, g4, d4, t4, o4⟩ := z4
          have e1 : g4 = s.gens := mv.gens
          have e2 : d4 = s.drawn := mv.drawn
          have e3 : o4 = s.os := mv.os
          subst e1 e2 e3
          show wpAny _ _ _ _ _ _
          refine wpAny_pure ?_
          show wpAny _ _ (ret Value.none) _ _ _
          refine wpAny_pure ⟨rfl, h4, t4, rfl, gd, fun b o e => mv.heap b o ?_ (Heap.get?_push_of_some _ (Heap.get?_push_of_some _ e))⟩
          have bl : b < s.heap.objs.size := Heap.lt_size e
          rw [sz1]
          intro z
          rcases List.mem_cons.mp z with z | z
          · exact absurd z (Nat.ne_of_lt bl)
          · exact absurd (List.mem_singleton.mp z) (Nat.ne_of_lt (Nat.lt_succ_of_lt bl))
      · have src1 : (s.heap.push (sObj w)).IsTuple l items := src.push _
        obtain ⟨⟨oc, od, oa, os⟩, ho, hoc, nn, hoa⟩ := src
        dsimp only at hoc hoa
        subst hoc hoa
        have ho1 : (s.heap.push (sObj w)).get? l = some { cls := .type "tuple", dict := od, data := .seq items nn, slots := os } := Heap.get?_push_of_some _ ho
        have b1 := F.sub_tuple_set
        have b2 := F.sub_tuple_frozenset
        have b3 : (Value.type "tuple" == Value.type "dict") = false := by decide
        have ll : l < s.heap.objs.size := Heap.lt_size ho
        unfold Builtin.«set.__init__» noKeywords Builtin.Frozenset.updateFrom
        generalize hPI : pyIter = PI
        wp_walk
        subst hPI
        refine wpAny_pyIter_tuple src1 (wpAny_bind (wpAny_runValue ?_))
        have ne1 : l ≠ (s.heap.push (sObj w)).objs.size := by rw [sz1]; exact Nat.ne_of_lt (Nat.lt_succ_of_lt ll)
        refine lp _ _ _ _ _ _ _ _ _ ((Walks.tuple hin _ l ne1 items).toS) hu ?_ (fun i v hv => hv) ?_ ⟨⟨_, Heap.get?_push_size _ rfl, rfl, rfl⟩, (src1.push _)⟩ (fun b o e => Heap.get?_push_of_some _ (Heap.get?_push_of_some _ e)) (Heap.get?_push_of_some _ at0) ?_
        · rw [sz1]
          intro z
          rcases List.mem_cons.mp z with z | z
          · exact absurd z (Nat.ne_of_lt (Nat.lt_succ_self _))
          · exact absurd (List.mem_singleton.mp z) (Nat.ne_of_gt ll)
        · intro b hb
          exact none_of b (by rw [List.mem_singleton.mp hb, sz1]; exact Nat.le_succ _)
        · intro z4 mv gd
          obtain ⟨h4, g4, d4, t4, o4⟩ := z4
          have e1 : g4 = s.gens := mv.gens
          have e2 : d4 = s.drawn := mv.drawn
          have e3 : o4 = s.os := mv.os
          subst e1 e2 e3
          show wpAny _ _ _ _ _ _
          refine wpAny_pure ?_
          show wpAny _ _ (ret Value.none) _ _ _
          refine wpAny_pure ⟨rfl, h4, t4, rfl, gd, fun b o e => mv.heap b o ?_ (Heap.get?_push_of_some _ (Heap.get?_push_of_some _ e))⟩
          have bl : b < s.heap.objs.size := Heap.lt_size e
          rw [sz1]
          intro z
          rcases List.mem_cons.mp z with z | z
          · exact absurd z (Nat.ne_of_lt bl)
          · exact absurd (List.mem_singleton.mp z) (Nat.ne_of_lt (Nat.lt_succ_of_lt bl))
    · cases r2 with
      | error e => exact hz2
      | ok f2 =>
        cases f2 with
        | ret r =>
          obtain ⟨rfl, h4, t4, rfl, gd, kp⟩ := hz2
          repeat (any_goals (first | assumption | wp_step))
          exact fin _ _ gd kp
        | _ => exact hz2.elim
  | _ => exact hz1.elim
end
end BR
namespace BR
open PySem PySem.Spec PyProof.Rows L2
section
variable {P : Program} {w : World} {A : Around} {E : Value → Shared → Prop} {s : Shared}
/-- rows of ints -/
theorem loop_tups {items : Array Value} (ks : List (Addr × List Int)) (hit : items.toList = ks.map fun p => Value.ref p.1) (hk : ∀ p ∈ ks, IsT P w s.heap p.2 p.1) (hfew : ks.length < 64) :
    SetLoop P w items s fun h' => ∃ L es ep t, SetTR P w h' s.heap.objs.size L es ep t ∧ Got ks ks.length L := by
  have hisz : items.size = ks.length := by
    have q := congrArg List.length hit
    rw [Array.length_toList, List.length_map] at q
    exact q
  have none_of : s.heap.get? s.heap.objs.size = none := by
    cases q : s.heap.get? s.heap.objs.size with
    | none => rfl
    | some o => exact absurd (Heap.lt_size q) (Nat.lt_irrefl _)
  intro B I fp wr G Pv St R s1 W hu hSf hv hw st kp hS hR
  refine set_update_tups W s.heap.objs.size hSf ks hisz hfew (fun i v hp => ?_) s.heap hk none_of hw hu items.size 0 s1 rfl (Nat.zero_le _) st kp ⟨[], #[], 0, _, setTR_fresh hS, Got.zero ks⟩ fun s' L es ep t m R' g k => hR s' m ⟨L, es, ep, t, R', by rw [← hisz]; exact g⟩
  have q : items.toList[i]? = some v := by rw [Array.getElem?_toList]; exact hv i v hp
  rw [hit, List.getElem?_map] at q
  obtain ⟨p, h1, h2⟩ := Option.map_eq_some_iff.mp q
  exact ⟨p, h1, h2.symm⟩
/-- ints -/
theorem loop_ints {items : Array Value} (ns : List Int) (hit : IntsAre items.toList ns) (hb : ns.length + 1 < scanBound) :
    SetLoop P w items s fun h' => ∃ c, c ≤ ns.length ∧ SetR w h' s.heap.objs.size (fun j => decide (j ∈ ns)) c := by
  have hv2 : Vals (ns.map V.int) items.toList := vals_of_ints hit
  have hisz : items.size = ns.length := by
    have q := hv2.length
    rw [List.length_map, Array.length_toList] at q
    exact q.symm
  intro B I fp wr G Pv St R s1 W hu hSf hv hw st kp hS hR
  refine set_update_ints W s.heap.objs.size hSf ns hisz hb (fun i v hp => ?_) items.size 0 s1 rfl (Nat.zero_le _) st ⟨0, Nat.le_refl _, setR_new_at hS⟩ fun s' c m hc R' => hR s' m ⟨c, by rw [← hisz]; exact hc, R'⟩
  have q : items.toList[i]? = some v := by rw [Array.getElem?_toList]; exact hv i v hp
  have hi : i < ns.length := by
    rw [← hisz, ← Array.length_toList]
    exact (List.getElem?_eq_some_iff.mp q).1
  have h3 : ns[i]? = some ns[i] := List.getElem?_eq_getElem hi
  obtain ⟨u, h1, h2⟩ := hv2.get (i := i) (x := V.int ns[i]) (by rw [List.getElem?_map, h3]; rfl)
  obtain ⟨t, rfl⟩ := h2
  rw [q] at h1
  exact ⟨_, t, h3, Option.some.inj h1⟩
end
section
variable {X : Cx}
def rSetT2 (K : PySem.W.Frag) (P : Program) (w : World) : List V → Hp → VK → Prop := fun xs H Q => ∃ (l : Addr) (ks : List (Addr × List Int)), xs = [V.ref l] ∧ (SqL K H l (ks.map fun p => V.ref p.1) ∨ SqT K H l (ks.map fun p => V.ref p.1)) ∧ (∀ p ∈ ks, SqT K H p.1 (p.2.map V.int)) ∧ ks.length < 64 ∧
  ∀ a L, H a = none → (∀ p ∈ L, p ∈ ks) → (∀ p ∈ ks, p.2 ∈ L.map (·.2)) → Q (.ref a) (upd H a (SetTO P w a L))
theorem seq_src {pins : List (Addr × Obj)} {σ : L2.St} {H : Hp} {s : Shared} {l : Addr} {xs : List V} (I : Inv X pins σ H s) (h : SqL X.K H l xs ∨ SqT X.K H l xs) : ∃ its : List Value, Vals xs its ∧ (s.heap.IsList l its.toArray ∨ s.heap.IsTuple l its.toArray) := by
  rcases h with h | h
  · obtain ⟨its, rv, pl, _⟩ := I.list h
    exact ⟨its, rv, .inl pl.isList⟩
  · obtain ⟨its, rv, pl, _⟩ := I.tuple h
    exact ⟨its, rv, .inr pl⟩
theorem cr_setT2 (hc : X.calm = true) (hu : X.A.units + 64 < cLine) : CallR X (.type "set") (rSetT2 X.K X.prog X.w) := by
  intro pins s σ H xs us Q I r h
  obtain ⟨l, ks, rfl, hl, hk, hf, q⟩ := h
  rw [Vals.ref1 r]
  obtain ⟨its, rv, src⟩ := seq_src I hl
  have hn : H s.heap.objs.size = none := I.hok.fresh (Nat.le_refl _)
  refine set_seq (P := X.prog) (w := X.w) src (I.ok.hd hc) (by omega) (loop_tups ks (by simpa using refs_of_vals rv) (fun p hp => I.isT (hk p hp)) hf) fun h' tk ⟨L, es, ep, t, R, g⟩ k => ?_
  refine ⟨.ref s.heap.objs.size, upd H s.heap.objs.size (SetTO X.prog X.w s.heap.objs.size L), I.laid (t' := tk) k (Nat.le_refl _) (setTO_new R.t0), rfl, q _ L hn (fun p hp => ?_) fun p hp => ?_⟩
  · exact List.mem_of_mem_take (g.sub p hp)
  · exact g.all p (by rw [List.take_length]; exact hp)
def rSetI2 (K : PySem.W.Frag) (w : World) : List V → Hp → VK → Prop := fun xs H Q => ∃ (l : Addr) (ns : List Int), xs = [V.ref l] ∧ (SqL K H l (ns.map V.int) ∨ SqT K H l (ns.map V.int)) ∧ ns.length + 1 < scanBound ∧
  ∀ a c, H a = none → c ≤ ns.length → Q (.ref a) (upd H a (SetO w a (fun j => decide (j ∈ ns)) c))
theorem cr_setI2 (hc : X.calm = true) (hu : X.A.units + 64 < cLine) : CallR X (.type "set") (rSetI2 X.K X.w) := by
  intro pins s σ H xs us Q I r h
  obtain ⟨l, ns, rfl, hl, hb, q⟩ := h
  rw [Vals.ref1 r]
  obtain ⟨its, rv, src⟩ := seq_src I hl
  have hn : H s.heap.objs.size = none := I.hok.fresh (Nat.le_refl _)
  refine set_seq (P := X.prog) (w := X.w) src (I.ok.hd hc) (by omega) (loop_ints ns (by simpa using ints_of_vals rv) hb) fun h' tk ⟨c, hc2, R⟩ k => ?_
  exact ⟨.ref s.heap.objs.size, upd H s.heap.objs.size (SetO X.w s.heap.objs.size (fun j => decide (j ∈ ns)) c), I.laid (t' := tk) k (Nat.le_refl _) (setO_new R), rfl, q _ c hn hc2⟩
end
end BR
namespace BR
open PySem PySem.Spec PyProof.Rows L2

/-! ### the evaluator -/
/-- what a name of the module stands for -/
inductive GV where
  | fn (ps : List Str) (f : List D → R Vw)
  | con (w : Vw)
  | cls (rel : List (Str × Bool))
  | blt
abbrev Tab := List (Str × GV)
/-- how a statement ends -/
inductive Fl where
  | nx (ρ : Env) | rt (w : Vw)
theorem R.bind_assoc {α β γ : Type} (r : R α) (f : α → R β) (g : β → R γ) : (r.bind f).bind g = r.bind fun a => (f a).bind g := by cases r <;> rfl
structure Ev where
  e : Scope → Expr → Env → R Vw
  t : Scope → Expr → Env → R Bool
  ss : Scope → List Stmt → Env → R Fl

def idxFrom (x : Str) : List Str → Nat → Option Nat
  | [], _ => none
  | y :: r, i => if y == x then some i else idxFrom x r (i + 1)
def idx (N : List Str) (x : Str) : Option Nat := idxFrom x N 0
def gConst : Const → R Vw
  | .int i => .ok (.dt (.int i))
  | .bool b => .ok (.dt (.bool b))
  | .none => .ok (.dt .none)
  | .str x => .ok (.dt (.str x))
  | _ => .stk
def isGlob (sc : Scope) (x : Str) : Bool := match sc.names.lookup x with
  | some .globalImplicit => !(x == ("__debug__" : Str)) && !(x == ("__classdict__" : Str)) && !(x == ("__name__" : Str))
  | _ => false
def evName (T : Tab) (N : List Str) (sc : Scope) (x : Str) (ρ : Env) : R Vw :=
  if (x == ("__debug__" : Str)) || (x == ("__classdict__" : Str)) then .stk else
  match sc.names.lookup x with
  | some .globalImplicit => (match T.lookup x with | some (.con w) => .ok w | _ => .stk)
  | some .globalExplicit => .stk
  | none => .stk
  | some _ => (match idx N x with
      | some i => (match ρ[i]? with | some s => slotV s | none => .stk)
      | none => .stk)
def isStar : Expr → Bool
  | .Starred _ _ => true
  | _ => false
def evL0 (ev : Expr → Env → R Vw) : List Expr → Env → R (List Vw)
  | [], _ => .ok []
  | e :: es, ρ => (ev e ρ).bind fun w => (evL0 ev es ρ).bind fun ws => .ok (w :: ws)
def evL (ev : Expr → Env → R Vw) (es : List Expr) (ρ : Env) : R (List Vw) := match es.any isStar with
  | true => .stk
  | false => evL0 ev es ρ
def toDs : List Vw → R (List D)
  | [] => .ok []
  | w :: ws => w.toD.bind fun d => (toDs ws).bind fun ds => .ok (d :: ds)
/-- a value's truth -/
def gTru : D → R Bool
  | .bool b => .ok b
  | .none => .ok false
  | .int i => .ok (i != 0)
  | .list xs => .ok (!xs.isEmpty)
  | .tuple xs => .ok (!xs.isEmpty)
  | _ => .stk
def isB : D → R Bool
  | .bool b => .ok b
  | _ => .stk
/-- and, or of truth values; the last may be anything -/
def evBo (ev : Expr → Env → R Vw) (op : BoolOp) : List Expr → Env → R Vw
  | [], _ => .stk
  | [a], ρ => ev a ρ
  | a :: r, ρ => (ev a ρ).bind fun w => (isB w.peek).bind fun b => match op, b with
    | .And, false => .ok (.dt (.bool false))
    | .Or, true => .ok (.dt (.bool true))
    | .And, true => evBo ev op r ρ
    | .Or, false => evBo ev op r ρ
def evTs (et : Expr → Env → R Bool) (op : BoolOp) : List Expr → Env → R Bool
  | [], _ => .stk
  | [a], ρ => et a ρ
  | a :: r, ρ => (et a ρ).bind fun b => match op, b with
    | .And, false => .ok false
    | .Or, true => .ok true
    | .And, true => evTs et op r ρ
    | .Or, false => evTs et op r ρ
/-- built-ins by their names -/
inductive BK where
  | fn | ty
def gBlt (x : Str) : Option (BK × (List Vw → R Vw)) :=
  if x == ("len" : Str) then some (.fn, on1 gLen)
  else if x == ("all" : Str) then some (.fn, on1 (gAll false))
  else if x == ("any" : Str) then some (.fn, on1 (gAll true))
  else if x == ("sum" : Str) then some (.fn, on1 gSum)
  else if x == ("abs" : Str) then some (.fn, on1 gAbs)
  else if x == ("max" : Str) then some (.fn, gMM true)
  else if x == ("min" : Str) then some (.fn, gMM false)
  else if x == ("tuple" : Str) then some (.ty, gTup)
  else if x == ("list" : Str) then some (.ty, gList)
  else if x == ("int" : Str) then some (.ty, on1 gInt)
  else if x == ("sorted" : Str) then some (.fn, on1 gSrt)
  else none
/-- isinstance with a built-in class -/
def dTy : D → Option String
  | .none => some "NoneType"
  | .bool _ => some "bool"
  | .int _ => some "int"
  | .str _ => some "str"
  | .list _ => some "list"
  | .tuple _ => some "tuple"
  | .dict _ => none
def gIsi (t : String) (d : D) : R Vw := match dTy d with
  | some a => .ok (.dt (.bool (a == t || (a == "bool" && t == "int"))))
  | none => .stk
def isiTy (t : Str) : Option String :=
  if t == ("int" : Str) then some "int"
  else if t == ("bool" : Str) then some "bool"
  else if t == ("str" : Str) then some "str"
  else if t == ("list" : Str) then some "list"
  else if t == ("tuple" : Str) then some "tuple"
  else none
def isBlt (T : Tab) (sc : Scope) (x : Str) : Bool := isGlob sc x && (match T.lookup x with | some .blt => true | _ => false)
def gBltN (ev : Expr → Env → R Vw) (x : Str) (args : List Expr) (ρ : Env) : R Vw := match gBlt x with
  | some (_, g) => (evL ev args ρ).bind g
  | none => .stk
/-- sorted(set(a)) -/
def setArg : List Expr → Option (Str × Expr)
  | [.Call (.Name y _) [a] [] _] => some (y, a)
  | _ => none
def gBlt1 (T : Tab) (sc : Scope) (ev : Expr → Env → R Vw) (x : Str) (args : List Expr) (ρ : Env) : R Vw := match x == ("sorted" : Str), setArg args with
  | true, some (y, a) => (match y == ("set" : Str), isBlt T sc y, isStar a with
    | true, true, false => (ev a ρ).bind gSS
    | _, _, _ => .stk)
  | true, none => gBltN ev x args ρ
  | false, _ => gBltN ev x args ρ
def gCallN (T : Tab) (sc : Scope) (ev : Expr → Env → R Vw) (x : Str) (args : List Expr) (ρ : Env) : R Vw :=
  match isGlob sc x with
  | false => .stk
  | true => match T.lookup x with
    | some (.fn ps g) => (evL ev args ρ).bind fun ws => (toDs ws).bind fun ds => if ds.length = ps.length then g ds else .stk
    | some .blt => (match x == ("isinstance" : Str), args with
      | true, [a, .Name t _] => (match isBlt T sc t, isiTy t, isStar a with
        | true, some ty, false => (ev a ρ).bind fun w => gIsi ty w.peek
        | _, _, _ => .stk)
      | true, _ => .stk
      | false, [] => .stk
      | false, a :: r => gBlt1 T sc ev x (a :: r) ρ)
    | _ => .stk
def isSlice : Expr → Bool
  | .Slice _ _ _ _ => true
  | _ => false
def evO (ev : Expr → Env → R Vw) : Option Expr → Env → R (Option Int)
  | none, _ => .ok none
  | some e, ρ => (ev e ρ).bind fun w => match w.peek with
    | .int i => .ok (some i)
    | _ => .stk
/-- t[::-1] -/
def gRev (w : Vw) : R Vw := match w.peek with
  | .tuple ds => .ok (.dt (.tuple ds.reverse))
  | _ => .stk
/-! comprehensions -/
def wB {α : Type} (r : R α) : R α := match r with
  | .ok a => .ok a
  | _ => .stk
/-- the names of a comprehension that have a slot -/
def ownOf (N : List Str) (scope : Scope) : List (Str × Nat) := scope.names.filterMap fun y => match y.2 with
  | .local => (idx N y.1).map fun i => (y.1, i)
  | .cell => (idx N y.1).map fun i => (y.1, i)
  | _ => none
/-- a name is stored; sc0: the scope whose own the name is -/
def asgN (N : List Str) (sc0 : Scope) (t : Expr) (w : Vw) (ρ : Env) : R Env := match t with
  | .Name x _ => (slOf w).bind fun s => match sc0.names.lookup x, idx N x with
    | some .local, some i => .ok (ρ.set i s)
    | some .cell, some i => .ok (ρ.set i s)
    | _, _ => .stk
  | _ => .stk
def asgNs (N : List Str) (sc0 : Scope) : List Expr → List Vw → Env → R Env
  | [], [], ρ => .ok ρ
  | t :: ts, w :: ws, ρ => (asgN N sc0 t w ρ).bind fun ρ' => asgNs N sc0 ts ws ρ'
  | _, _, _ => .stk
def asg (N : List Str) (sc0 : Scope) (t : Expr) (w : Vw) (ρ : Env) : R Env := match t with
  | .Tuple ts _ _ => (match w with
    | .dt (.tuple ds) => asgNs N sc0 ts (ds.map .dt) ρ
    | _ => .stk)
  | .Name _ _ => asgN N sc0 t w ρ
  | _ => .stk
/-- the items that are walked; kp: lists of the frame's own are not (the body may change them) -/
def itV (kp : Bool) : Vw → R (List D)
  | .dt (.list xs) => .ok xs
  | .dt (.tuple xs) => .ok xs
  | .kc (.tuple xs) => .ok xs
  | .fl xs => .ok xs
  | .bl xs => match kp with
    | true => .stk
    | false => .ok xs
  | .dt (.dict ds) => .ok (ds.map (·.1))
  | _ => .stk
def rgD (a b : Int) : List D := (List.range (b - a).toNat).map fun i => .int (a + (i : Nat))
def zipD (xs ys : List D) : List D := (xs.zip ys).map fun p => .tuple [p.1, p.2]
def enumD (xs : List D) : List D := (xs.zipIdx).map fun p => .tuple [.int (p.2 : Nat), p.1]
def rgOk (i : Int) : Bool := Nat.ble i.natAbs.log2 28
def isTupT : Expr → Bool
  | .Tuple ts _ _ => true
  | _ => false
inductive IK where
  | rng | zp | en | val
def itKind (T : Tab) (sc : Scope) (x : Str) : IK := match isBlt T sc x with
  | false => .val
  | true => if x == ("range" : Str) then .rng else if x == ("zip" : Str) then .zp else if x == ("enumerate" : Str) then .en else .val
def evRng (ev : Expr → Env → R Vw) (args : List Expr) (ρ : Env) : R (List D) := match args with
  | [a] => (match isStar a with
    | true => .stk
    | false => (ev a ρ).bind fun w => match w.peek with
      | .int j => if rgOk j = true then .ok (rgD 0 j) else .stk
      | _ => .stk)
  | [a, b] => (match isStar a, isStar b with
    | false, false => (ev a ρ).bind fun w => (ev b ρ).bind fun u => match w.peek, u.peek with
      | .int i, .int j => if rgOk i = true ∧ rgOk j = true then .ok (rgD i j) else .stk
      | _, _ => .stk
    | _, _ => .stk)
  | _ => .stk
/-- a list or a tuple to be walked; which -/
def sqV (kp : Bool) : Vw → Option (Bool × List D)
  | .dt (.list xs) => some (false, xs)
  | .dt (.tuple xs) => some (true, xs)
  | .kc (.tuple xs) => some (true, xs)
  | .fl xs => some (false, xs)
  | .bl xs => match kp with
    | true => none
    | false => some (false, xs)
  | _ => none
def enV (kp : Bool) (w : Vw) : R (List D) := match sqV kp w with
  | some (_, xs) => .ok (enumD xs)
  | none => .stk
def zpL (kp : Bool) (w u : Vw) : R (List D) := match sqV kp w, sqV kp u with
  | some (false, xs), some (false, ys) => .ok (zipD xs ys)
  | _, _ => .stk
def zpE (kp : Bool) (w u : Vw) : R (List D) := match w.peek, u.peek with
  | .tuple xs, .tuple ys => .ok (zipD xs ys)
  | _, _ => zpL kp w u
def evZip (kp : Bool) (ev : Expr → Env → R Vw) (tg : Expr) (args : List Expr) (ρ : Env) : R (List D) := match args with
  | [a, b] => (match isStar a, isStar b, tg with
    | false, false, .Tuple _ _ _ => (ev a ρ).bind fun w => (ev b ρ).bind fun u => zpE kp w u
    | _, _, _ => .stk)
  | _ => .stk
def evEnum (kp : Bool) (ev : Expr → Env → R Vw) (tg : Expr) (args : List Expr) (ρ : Env) : R (List D) := match args with
  | [a] => (match isStar a, tg with
    | false, .Tuple _ _ _ => (ev a ρ).bind (enV kp)
    | _, _ => .stk)
  | _ => .stk
def evIt (kp : Bool) (T : Tab) (sc : Scope) (ev : Expr → Env → R Vw) (tg : Expr) (e : Expr) (ρ : Env) : R (List D) :=
  match e with
  | .Set _ _ _ => .stk
  | .Call (.Name x _) args [] _ => (match itKind T sc x with
    | .rng => evRng ev args ρ
    | .zp => evZip kp ev tg args ρ
    | .en => evEnum kp ev tg args ρ
    | .val => (ev e ρ).bind (itV kp))
  | _ => (ev e ρ).bind (itV kp)
def lcL (f : D → R (Option D)) : List D → R (List D)
  | [] => .ok []
  | x :: xs => (f x).bind fun o => (lcL f xs).bind fun ys => .ok (match o with
    | some y => y :: ys
    | none => ys)
def evIfs (et : Expr → Env → R Bool) : List Expr → Env → R Bool
  | [], _ => .ok true
  | [c], ρ => et c ρ
  | _, _ => .stk
/-- one turn of a comprehension -/
def lcTurn (N : List Str) (scope sc' : Scope) (ev : Ev) (tg elt : Expr) (ifs : List Expr) (ρ : Env) (x : D) : R (Option D) :=
  wB ((asg N scope tg (.dt x) ρ).bind fun ρ1 => (evIfs (ev.t sc') ifs ρ1).bind fun b => match b with
    | true => (ev.e sc' elt ρ1).bind fun w => w.toD.bind fun d => .ok (some d)
    | false => .ok none)
/-- the target's names are the comprehension's own -/
def tgOwn (N : List Str) (own : List (Str × Nat)) : Expr → Bool
  | .Name x _ => (match idx N x with | some i => (own.map (·.2)).contains i | none => false)
  | .Tuple ts _ _ => ts.all fun t => match t with
    | .Name x _ => (match idx N x with | some i => (own.map (·.2)).contains i | none => false)
    | _ => false
  | _ => false
def evLc (T : Tab) (N : List Str) (sc : Scope) (ev : Ev) (elt : Expr) (gs : List Comprehension) (scope : Scope) (ρ : Env) : R (List D) :=
  match gs with
  | [⟨tg, iter, ifs, 0⟩] =>
    let own := ownOf N scope
    match blkC N sc scope own && tgOwn N own tg with
    | true => (evIt false T sc (ev.e sc) tg iter ρ).bind fun items =>
      (lcL (lcTurn N scope (relS scope sc) ev tg elt ifs (wipeE ρ (own.map (·.2)))) items).bind fun ds => if ds.length ≤ 16777216 then .ok ds else .stk
    | false => .stk
  | _ => .stk
/-! two clauses: the inner source stands still -/
def lcM (f : D → R (List D)) : List D → R (List D)
  | [] => .ok []
  | x :: xs => (f x).bind fun a => (lcM f xs).bind fun b => .ok (a ++ b)
def tgSlots (N : List Str) : Expr → List Nat
  | .Name x _ => (match idx N x with | some i => [i] | none => [])
  | .Tuple ts _ _ => ts.filterMap fun t => match t with
    | .Name x _ => idx N x
    | _ => none
  | _ => []
def lcTurn2 (T : Tab) (N : List Str) (scope sc' : Scope) (ev : Ev) (tg elt : Expr) (ifs : List Expr) (tg1 iter1 : Expr) (ifs1 : List Expr) (ρ : Env) (x : D) : R (List D) :=
  wB ((asg N scope tg (.dt x) ρ).bind fun ρ1 => (evIfs (ev.t sc') ifs ρ1).bind fun b => match b with
    | true => (evIt true T sc' (ev.e sc') tg1 iter1 ρ1).bind fun items => lcL (lcTurn N scope sc' ev tg1 elt ifs1 (wipeE ρ1 (tgSlots N tg1))) items
    | false => .ok [])
def isSetE : Expr → Bool
  | .Set _ _ _ => true
  | _ => false
def evLc2 (T : Tab) (N : List Str) (sc : Scope) (ev : Ev) (elt tg iter : Expr) (ifs : List Expr) (tg1 iter1 : Expr) (ifs1 : List Expr) (scope : Scope) (ρ : Env) : R (List D) :=
  match blkC N sc scope (ownOf N scope) && tgOwn N (ownOf N scope) tg && tgOwn N (ownOf N scope) tg1 && !isSetE iter && !isSetE iter1 with
  | true => (evIt false T sc (ev.e sc) tg iter ρ).bind fun items =>
    (lcM (lcTurn2 T N scope (relS scope sc) ev tg elt ifs tg1 iter1 ifs1 (wipeE ρ ((ownOf N scope).map (·.2)))) items).bind fun ds => if ds.length ≤ 16777216 then .ok ds else .stk
  | false => .stk
def evLcs (T : Tab) (N : List Str) (sc : Scope) (ev : Ev) (elt : Expr) (gs : List Comprehension) (scope : Scope) (ρ : Env) : R (List D) := match gs with
  | [⟨tg, iter, ifs, 0⟩, ⟨tg1, iter1, ifs1, 0⟩] => evLc2 T N sc ev elt tg iter ifs tg1 iter1 ifs1 scope ρ
  | _ => evLc T N sc ev elt gs scope ρ
/-! further expressions -/
def dctV (w : Vw) : R (List (D × D)) := match w.peek with
  | .dict ds => .ok ds
  | _ => .stk
def gGet (ds : List (D × D)) (u o : Vw) : R Vw := match u with
  | .dt (.tuple xs) => match intsOf xs with
    | some k => match dget ds k with
      | some d => .ok (.dt d)
      | none => match o with
        | .dt d => .ok (.dt d)
        | _ => .stk
    | none => .stk
  | _ => .stk
def gDisp (w u : Vw) : R Vw := match w with
  | .dt (.tuple xs) => match intsOf xs with
    | some k => u.toD.bind fun d => .ok (.fd [(k, d)])
    | none => .stk
  | _ => .stk
/-- data without dicts and texts, nested at most n deep -/
def finS : Nat → D → Bool
  | _, .none | _, .bool _ | _, .int _ => true
  | n + 1, .list xs | n + 1, .tuple xs => xs.all (finS n)
  | _, _ => false
/-- xs.index(x) -/
def lsW (w : Vw) : R (List D) := match w.peek with
  | .list xs => .ok xs
  | _ => .stk
def gIdx (xs : List D) (u : Vw) : R Vw := if finS 9 u.peek = true ∧ xs.all (finS 9) = true then (match xs.findIdx? (fun z => PyData.eqv z u.peek) with
    | some j => .ok (.dt (.int (j : Nat)))
    | none => .stk) else .stk
/-! one of some functions, called -/
abbrev GF := List Str × (List D → R Vw)
def fnOf (T : Tab) (sc : Scope) : Expr → Option GF
  | .Name x _ => match isGlob sc x, T.lookup x with
    | true, some (.fn ps g) => some (ps, g)
    | _, _ => none
  | _ => none
def fnsOf (T : Tab) (sc : Scope) : List Expr → Option (List GF)
  | [] => some []
  | e :: es => match fnOf T sc e, fnsOf T sc es with
    | some p, some ps => some (p :: ps)
    | _, _ => none
def pkF (fl : List GF) (w : Vw) : R GF := match w.peek with
  | .int j => match atI fl j with
    | some p => .ok p
    | none => .stk
  | _ => .stk
def apF (p : GF) (ds : List D) : R Vw := if ds.length = p.1.length then p.2 ds else .stk
def gPick (T : Tab) (sc : Scope) (ev : Expr → Env → R Vw) (fs : List Expr) (ix : Expr) (args : List Expr) (ρ : Env) : R Vw := match fnsOf T sc fs, (isSlice ix || (args.any isStar || !(Nat.ble fs.length 1000))), args with
  | some fl, false, a :: r => (ev ix ρ).bind fun w => (pkF fl w).bind fun p => (evL ev (a :: r) ρ).bind fun ws => (toDs ws).bind fun ds => apF p ds
  | _, _, _ => .stk
def isBase : Expr → Bool
  | .Call (.Name _ _) [] [] _ => false
  | _ => true
/-- methods of built-in things, with values -/
def gMeth (ev : Expr → Env → R Vw) (o : Expr) (m : Str) (args : List Expr) (ρ : Env) : R Vw := match args with
  | [a, b] => (match m == ("get" : Str), isStar a, isStar b with
    | true, false, false => (ev o ρ).bind fun w => (dctV w).bind fun ds => (ev a ρ).bind fun u => (ev b ρ).bind fun z => gGet ds u z
    | _, _, _ => .stk)
  | [a] => (match m == ("index" : Str), isStar a with
    | true, false => (ev o ρ).bind fun w => (lsW w).bind fun xs => (ev a ρ).bind fun u => gIdx xs u
    | _, _ => .stk)
  | _ => .stk
def stepX (T : Tab) (N : List Str) (ev : Ev) (sc : Scope) (e : Expr) (ρ : Env) : R Vw := match e with
  | .Dict [some k] [v] _ => (ev.e sc k ρ).bind fun w => (ev.e sc v ρ).bind fun u => gDisp w u
  | .Call (.Attribute o m ap) args [] cp => (match (ap.endLine == cp.line), isBase o with
    | true, true => gMeth (ev.e sc) o m args ρ
    | _, _ => .stk)
  | .Call (.Subscript (.List fs _) ix _) args [] _ => gPick T sc (ev.e sc) fs ix args ρ
  | _ => .stk
/-! expressions -/
def stepE (T : Tab) (N : List Str) (ev : Ev) (sc : Scope) (e : Expr) (ρ : Env) : R Vw := match e with
  | .Constant c _ _ => gConst c
  | .Name x _ => evName T N sc x ρ
  | .BinOp a op b _ => (ev.e sc a ρ).bind fun w => (ev.e sc b ρ).bind fun u => gBin op w u
  | .UnaryOp op a _ => (match op with
    | .Not => (ev.e sc a ρ).bind fun w => (isB w.peek).bind fun b => .ok (.dt (.bool (!b)))
    | .USub => (ev.e sc a ρ).bind fun w => gUn .USub w.peek
    | _ => .stk)
  | .BoolOp op xs _ => evBo (ev.e sc) op xs ρ
  | .IfExp t a b _ => (ev.t sc t ρ).bind fun c => match c with
    | true => ev.e sc a ρ
    | false => ev.e sc b ρ
  | .Tuple es _ _ => (evL (ev.e sc) es ρ).bind fun ws => (toDs ws).bind fun ds => if ds.length ≤ 1000 then .ok (.dt (.tuple ds)) else .stk
  | .List es _ => (evL (ev.e sc) es ρ).bind fun ws => (toDs ws).bind fun ds => if ds.length ≤ 1000 then .ok (.fl ds) else .stk
  | .Dict [] [] _ => .ok (.fd [])
  | .Compare a [op] [b] _ => (match behindInMarks op b with
    | true => .stk
    | false => (ev.e sc a ρ).bind fun w => (ev.e sc b ρ).bind fun u => gCmp op w u)
  | .Compare a [op, op'] [b, c] _ => (match lastMarks [op, op'] [b, c] with
    | true => .stk
    | false => (ev.e sc a ρ).bind fun w => (ev.e sc b ρ).bind fun u => (gCmp op w u).bind fun z => (isB z.peek).bind fun k => match k with
      | true => (ev.e sc c ρ).bind fun v => gCmp op' u v
      | false => .ok (.dt (.bool false)))
  | .Call (.Name x _) args [] _ => gCallN T sc (ev.e sc) x args ρ
  | .Subscript a b _ => (match b with
    | .Slice lo hi none _ => (ev.e sc a ρ).bind fun w => (evO (ev.e sc) lo ρ).bind fun l => (evO (ev.e sc) hi ρ).bind fun h => gSl w l h
    | .Slice none none (some (.UnaryOp .USub (.Constant (.int 1) _ _) _)) _ => (ev.e sc a ρ).bind gRev
    | _ => match isSlice b with
      | true => .stk
      | false => (ev.e sc a ρ).bind fun w => (ev.e sc b ρ).bind fun u => gIxV w u)
  | .ListComp elt gs scope _ => (evLcs T N sc ev elt gs scope ρ).bind fun ds => .ok (.fl ds)
  | e => stepX T N ev sc e ρ
def stepT (T : Tab) (N : List Str) (ev : Ev) (sc : Scope) (e : Expr) (ρ : Env) : R Bool := match e with
  | .UnaryOp .Not a _ => (ev.t sc a ρ).bind fun b => .ok (!b)
  | .BoolOp op xs _ => evTs (ev.t sc) op xs ρ
  | .Compare a [op] [b] pos => (stepE T N ev sc (.Compare a [op] [b] pos) ρ).bind fun w => isB w.peek
  | .Compare a [op, op'] [b, c] pos => (stepE T N ev sc (.Compare a [op, op'] [b, c] pos) ρ).bind fun w => isB w.peek
  | .Name x pos => (ev.e sc (.Name x pos) ρ).bind fun w => gTru w.peek
  | .Call f as ks pos => (ev.e sc (.Call f as ks pos) ρ).bind fun w => gTru w.peek
  | .Subscript a b pos => (ev.e sc (.Subscript a b pos) ρ).bind fun w => gTru w.peek
  | _ => .stk
/-! statements -/
def forL (f : D → Env → R Fl) : List D → Env → R Fl
  | [], ρ => .ok (.nx ρ)
  | x :: xs, ρ => (f x ρ).bind fun z => match z with
    | .nx ρ' => forL f xs ρ'
    | .rt w => .ok (.rt w)
def whileF (t : Env → R Bool) (f : Env → R Fl) : Nat → Env → R Fl
  | 0, _ => .stk
  | n + 1, ρ => (t ρ).bind fun b => match b with
    | false => .ok (.nx ρ)
    | true => (f ρ).bind fun z => match z with
      | .nx ρ' => whileF t f n ρ'
      | .rt w => .ok (.rt w)
end BR
namespace BR
open PySem PySem.Spec PyProof.Rows L2

/-! ### what a def promises -/
/-- an exception of the class that the module calls c -/
def EX (mg : Str → Option Value) (E : XK) (c : Str) (H : Hp) : Prop := ∀ C, mg c = some (.ref C) → E (.ref C) none H
def spOf (K : PySem.W.Frag) (mg : Str → Option Value) (n : Nat) (f : List D → R Vw) : Sp := fun vs H Q E =>
  ∃ F ds, ds.length = n ∧ Dom F H ∧ RepL K F H vs ds ∧ Post K (EX mg E) F H Q (f ds)
structure GFn (k : Nat) (P : Program) (w : World) (K : PySem.W.Frag) (mg : Str → Option Value) (base : Heap) (x : Str) (ps : List Str) (f : List D → R Vw) : Prop where
  ok : ∃ a fd, mg x = some (.ref a) ∧ PySem.W.keepIn K (.ref a) = true ∧ Binds K fd ps [] ∧ FnOk P w K mg base (L2.CX P w) k a fd ps (spOf K mg ps.length f)
/-- an own exception class without __init__; rel: of which other own classes it is a subclass -/
structure GCls (K : PySem.W.Frag) (mg : Str → Option Value) (x : Str) (rel : List (Str × Bool)) : Prop where
  ok : ∃ C, mg x = some (.ref C) ∧ PySem.W.excIn K C [.type "ValueError", .type "Exception", .type "BaseException", .type "object"] "ValueError.__new__" = true ∧ PySem.W.keepIn K (.ref C) = true ∧
    PySem.W.subIn K (.ref C) (.type "BaseException") = some true ∧ PySem.W.typeIn K (.ref C) = some (.type "type")
  is : ∀ y b, rel.lookup y = some b → ∃ C D, mg x = some (.ref C) ∧ mg y = some (.ref D) ∧ ExcC K C ∧ PySem.W.exmOne K (.ref C) (.ref D) = some b ∧ PySem.W.kitOne K (.ref C) (.ref D) = some b
def GOk (k : Nat) (P : Program) (w : World) (K : PySem.W.Frag) (mg : Str → Option Value) (base : Heap) (x : Str) : GV → Prop
  | .fn ps f => GFn k P w K mg base x ps f
  | .con w => ∃ u v, mg x = some u ∧ RelV v u ∧ ∀ F H0 H, VRep K F H0 H v w
  | .cls rel => GCls K mg x rel
  | .blt => mg x = none
def TOk (T : Tab) (k : Nat) (P : Program) (w : World) (K : PySem.W.Frag) (mg : Str → Option Value) (base : Heap) : Prop := ∀ x g, T.lookup x = some g → GOk k P w K mg base x g

/-- where the evaluator's function runs -/
structure XOk (T : Tab) (k : Nat) (N : List Str) (X : Cx) (sc : Scope) (W : WS) : Prop where
  hN : X.N = N
  nd : X.N.Nodup
  hsc : X.env.scope = sc
  calm : X.calm = true
  room : Room k X.A
  tab : TOk T k X.prog X.w X.K X.mg X.base
  takes : Takes X (fun cls d σ H => ∃ c C, X.mg c = some (.ref C) ∧ cls = .ref C ∧ d = none ∧ W c σ H)

section
variable {T : Tab} {k : Nat} {N : List Str} {X : Cx} {sc : Scope} {W : WS} {H0 : Hp}
theorem XOk.hu (x : XOk T k N X sc W) : X.A.units + 64 < cLine := x.room.units
theorem XOk.hu65 (x : XOk T k N X sc W) : X.A.units + 65 < cLine := by have := x.room.un; omega
theorem XOk.hu1 (x : XOk T k N X sc W) : X.A.units + 1 < cLine := by have := x.hu; omega
/-! ### names -/
theorem idxFrom_get {x : Str} : ∀ {N : List Str} {i j : Nat}, idxFrom x N i = some j → i ≤ j ∧ N[j - i]? = some x
  | [], _, _, h => by cases h
  | y :: r, i, j, h => by
    unfold idxFrom at h
    by_cases e : (y == x) = true
    · rw [if_pos e] at h
      cases h
      refine ⟨Nat.le_refl _, ?_⟩
      rw [Nat.sub_self, beq_iff_eq.mp e]
      rfl
    · rw [if_neg e] at h
      obtain ⟨h1, h2⟩ := idxFrom_get h
      refine ⟨by omega, ?_⟩
      have : j - i = (j - (i + 1)) + 1 := by omega
      rw [this]
      exact h2
theorem idx_get {N : List Str} {x : Str} {i : Nat} (h : idx N x = some i) : N[i]? = some x := (idxFrom_get h).2
theorem isGlob_of {x : Str} (h : isGlob sc x = true) : sc.names.lookup x = some .globalImplicit ∧ (x == ("__debug__" : Str)) = false ∧ x ≠ "__name__" := by
  unfold isGlob at h
  split at h
  · rename_i e
    simp only [Bool.and_eq_true, Bool.not_eq_true'] at h
    exact ⟨e, h.1.1, beq_eq_false_iff_ne.mp h.2⟩
  · cases h
theorem snd_name0 (hN : X.N = N) (hsc : X.env.scope = sc) (tab : TOk T k X.prog X.w X.K X.mg X.base) {n : Str} {pos : Pos} : SndE X W H0 (evName T N sc n) (.Name n pos) := by
  intro ρ σ F H Q r dm sm p
  unfold evName at p
  by_cases hd : ((n == ("__debug__" : Str)) || (n == ("__classdict__" : Str))) = true
  · rw [if_pos hd] at p; exact p.elim
  · rw [if_neg hd] at p
    rw [Bool.not_eq_true, Bool.or_eq_false_iff] at hd
    have loc : Vis X.env.scope n → Post X.K (fun c H => W c σ H) F H Q (match idx N n with
      | some i => (match ρ[i]? with | some s => slotV s | none => .stk)
      | none => .stk) → EvOk X (.Name n pos) σ H Q := fun vis p => by
      split at p
      · rename_i i ei
        split at p
        · rename_i s es
          cases q : slotV s with
          | ok w =>
            rw [q] at p
            obtain ⟨v, e1, e2⟩ := r.read (H1 := H) es q
            exact pe_ev (pe_var (i := i) (by rw [hN]; exact idx_get ei) vis hd.1 hd.2) ⟨v, e1, p.here dm e2⟩
          | exc c => cases s <;> cases q
          | stk => rw [q] at p; exact p.elim
        · exact p.elim
      · exact p.elim
    split at p
    · rename_i ek
      split at p
      · rename_i w el
        obtain ⟨u, v, hm, rv, hv⟩ := tab n _ el
        exact pe_ev (pe_glob (v := v) (show X.env.scope.names.lookup n = _ by rw [hsc]; exact ek) hm rv hd.1) (p.here dm (hv _ _ _))
      · exact p.elim
    · exact p.elim
    · exact p.elim
    · rename_i kk n1 n2 ek
      refine loc ?_ p
      rw [hsc]
      cases kk with
      | «local» => exact .inl ek
      | cell => exact .inr (.inl ek)
      | free => exact .inr (.inr ek)
      | globalExplicit => exact absurd rfl n2
      | globalImplicit => exact absurd rfl n1
theorem snd_name (x : XOk T k N X sc W) {n : Str} {pos : Pos} : SndE X W H0 (evName T N sc n) (.Name n pos) := snd_name0 x.hN x.hsc x.tab
theorem snd_const {c : Const} {j : Nat} {pos : Pos} : SndE X W H0 (fun _ => gConst c) (.Constant c j pos) := by
  intro ρ σ F H Q r dm sm p
  cases c with
  | int i => exact pe_ev pe_int (p.dat dm (.int _) : Q _ H)
  | bool i => exact pe_ev pe_bl (p.dat dm (.bl _) : Q _ H)
  | none => exact pe_ev pe_non (p.dat dm .non : Q _ H)
  | str i => exact pe_ev pe_str (p.dat dm (.str _) : Q _ H)
  | _ => exact p.elim
/-! ### operators -/
theorem snd_bin {f g : Env → R Vw} {a b : Expr} {op : Operator} {pos : Pos} (ha : SndE X W H0 f a) (hb : SndE X W H0 g b) : SndE X W H0 (fun ρ => (f ρ).bind fun w => (g ρ).bind fun u => gBin op w u) (.BinOp a op b pos) := by
  intro ρ σ F H Q r dm sm p
  refine pe_ev (pe_op (op_gBin (W := fun c H => W c σ H) op) pe_can pe_can) (ha.thn r dm sm p fun w v F1 H1 e1 x1 d1 r1 s1 v1 p1 => ?_)
  refine hb.thn r1 d1 s1 p1 fun u v2 F2 H2 e2 x2 d2 r2 s2 q2 p2 => ?_
  exact ⟨F2, w, u, d2, ⟨_, v1.ext x2⟩, ⟨_, q2⟩, p2⟩
theorem snd_cmp (x : XOk T k N X sc W) {f g : Env → R Vw} {a b : Expr} {op : CmpOp} {pos : Pos} (ha : SndE X W H0 f a) (hb : SndE X W H0 g b) (hm : behindInMarks op b = false) :
    SndE X W H0 (fun ρ => (f ρ).bind fun w => (g ρ).bind fun u => gCmp op w u) (.Compare a [op] [b] pos) := by
  intro ρ σ F H Q r dm sm p
  refine pe_ev (pe_cmpR (op_gCmp (W := fun c H => W c σ H) x.hu op) pe_can pe_can hm) (ha.thn r dm sm p fun w v F1 H1 e1 x1 d1 r1 s1 v1 p1 => ?_)
  refine hb.thn r1 d1 s1 p1 fun u v2 F2 H2 e2 x2 d2 r2 s2 q2 p2 => ?_
  exact ⟨F2, w, u, d2, ⟨_, v1.ext x2⟩, ⟨_, q2⟩, p2⟩
theorem isB_ok {d : D} {b : Bool} (h : isB d = .ok b) : d = .bool b := by
  cases d <;> cases h <;> rfl
/-- a truth value that a view tells -/
theorem bool_of {K : PySem.W.Frag} {F : Addr → Prop} {H1 H : Hp} {v : V} {w : Vw} {b : Bool} (h : VRep K F H1 H v w) (e : isB w.peek = .ok b) : v = .bl b := by
  have h := h.p
  rw [isB_ok e] at h
  cases h
  rfl
theorem isB_bind {α : Type} {K : PySem.W.Frag} {W : Str → Hp → Prop} {F : Addr → Prop} {H : Hp} {Q : VK} {d : D} {g : Bool → R Vw} (p : Post K W F H Q ((isB d).bind g)) : ∃ b, isB d = .ok b ∧ Post K W F H Q (g b) := by
  cases q : isB d with
  | ok b => rw [q] at p; exact ⟨b, rfl, p⟩
  | exc c => cases d <;> cases q
  | stk => rw [q] at p; exact p.elim
theorem isB_bindT {W : Str → Hp → Prop} {F : Addr → Prop} {H : Hp} {Q : Bool → Hp → Prop} {d : D} (p : PostT W F H Q (isB d)) : ∃ b, isB d = .ok b ∧ PostT W F H Q (.ok b) := by
  cases q : isB d with
  | ok b => rw [q] at p; exact ⟨b, rfl, p⟩
  | exc c => cases d <;> cases q
  | stk => rw [q] at p; exact p.elim
theorem snd_chain (x : XOk T k N X sc W) {f g h : Env → R Vw} {a b c : Expr} {op op' : CmpOp} {pos : Pos} (ha : SndE X W H0 f a) (hb : SndE X W H0 g b) (hc : SndE X W H0 h c) (hm : lastMarks [op, op'] [b, c] = false) :
    SndE X W H0 (fun ρ => (f ρ).bind fun w => (g ρ).bind fun u => (gCmp op w u).bind fun z => (isB z.peek).bind fun k => match k with
      | true => (h ρ).bind fun v => gCmp op' u v
      | false => .ok (.dt (.bool false))) (.Compare a [op, op'] [b, c] pos) := by
  intro ρ σ F H Q r dm sm p
  refine pe_ev (pe_chain (op_gCmp (W := fun c H => W c σ H) x.hu op) (op_gCmp (W := fun c H => W c σ H) x.hu op') pe_can pe_can pe_can hm) (ha.thn r dm sm p fun w v F1 H1 e1 x1 d1 r1 s1 v1 p1 => ?_)
  refine hb.thn r1 d1 s1 p1 fun u v2 F2 H2 e2 x2 d2 r2 s2 q2 p2 => ?_
  refine ⟨F2, w, u, d2, ⟨_, v1.ext x2⟩, ⟨_, q2⟩, ?_⟩
  cases qz : gCmp op w u with
  | stk => rw [qz] at p2; exact p2.elim
  | exc cc => rw [qz] at p2; exact p2
  | ok z =>
    rw [qz] at p2
    intro vz F3 H3 x3 d3 rz
    obtain ⟨bz, eb, p3⟩ := isB_bind (α := Unit) (Post.ext (r := (isB z.peek).bind _) p2 x3)
    refine ⟨bz, bool_of rz eb, ?_⟩
    cases bz with
    | true =>
      refine iteT (hc.thn (r2.ext x3) d3 (s2.trans x3.same) p3 fun y vy F4 H4 e4 x4 d4 r4 s4 q4 p4 => ?_)
      exact ⟨F4, u, y, d4, ⟨_, (q2.ext x3).ext x4⟩, ⟨_, q4⟩, p4⟩
    | false => exact iteF (p3.dat d3 (.bl _))
theorem snd_not {f : Env → R Vw} {a : Expr} {pos : Pos} (ha : SndE X W H0 f a) : SndE X W H0 (fun ρ => (f ρ).bind fun w => (isB w.peek).bind fun b => .ok (.dt (.bool (!b)))) (.UnaryOp .Not a pos) := by
  intro ρ σ F H Q r dm sm p
  refine pe_ev (pe_not pe_can) (ha.thn r dm sm p fun w v F1 H1 e1 x1 d1 r1 s1 v1 p1 => ?_)
  obtain ⟨b, eb, p2⟩ := isB_bind (α := Unit) p1
  exact ⟨b, bool_of v1 eb, p2.dat d1 (.bl _)⟩
theorem snd_usub {f : Env → R Vw} {a : Expr} {pos : Pos} (ha : SndE X W H0 f a) : SndE X W H0 (fun ρ => (f ρ).bind fun w => gUn .USub w.peek) (.UnaryOp .USub a pos) := by
  intro ρ σ F H Q r dm sm p
  refine pe_ev (pe_un (op_gUSub (W := fun c H => W c σ H)) pe_can) (ha.thn r dm sm p fun w v F1 H1 e1 x1 d1 r1 s1 v1 p1 => ?_)
  exact ⟨F1, _, d1, v1.p, p1⟩
theorem snd_if {f g : Env → R Vw} {t : Env → R Bool} {c a b : Expr} {pos : Pos} (hc : SndT X W H0 t c) (ha : SndE X W H0 f a) (hb : SndE X W H0 g b) : SndE X W H0 (fun ρ => (t ρ).bind fun z => match z with
    | true => f ρ
    | false => g ρ) (.IfExp c a b pos) := by
  intro ρ σ F H Q r dm sm p
  refine pe_ev (pe_ifExp pt_can pe_can pe_can) (hc.thn r dm sm p fun z F1 H1 e1 x1 d1 r1 s1 p1 => ?_)
  cases z with
  | true => exact iteT (ha ρ σ F1 H1 Q r1 d1 s1 p1)
  | false => exact iteF (hb ρ σ F1 H1 Q r1 d1 s1 p1)
theorem snd_bo {ev : Expr → Env → R Vw} (h : ∀ e, SndE X W H0 (ev e) e) {op : BoolOp} {pos : Pos} : ∀ xs : List Expr, SndE X W H0 (evBo ev op xs) (.BoolOp op xs pos)
  | [] => fun ρ σ F H Q r dm sm p => p.elim
  | [a] => fun ρ σ F H Q r dm sm p => pe_ev (pe_one pe_can) (h a ρ σ F H Q r dm sm p)
  | a :: b :: rest => fun ρ σ F H Q r dm sm p => by
    have ih := snd_bo h (op := op) (pos := pos) (b :: rest)
    cases op with
    | And =>
      refine pe_ev (pe_and pe_can pe_can) ((h a).thn r dm sm p fun w v F1 H1 e1 x1 d1 r1 s1 v1 p1 => ?_)
      obtain ⟨z, ez, p2⟩ := isB_bind (α := Unit) p1
      refine ⟨z, bool_of v1 ez, ?_⟩
      cases z with
      | true => exact iteT (ih ρ σ F1 H1 Q r1 d1 s1 p2)
      | false => exact iteF (p2.dat d1 (.bl _))
    | Or =>
      refine pe_ev (pe_or pe_can pe_can) ((h a).thn r dm sm p fun w v F1 H1 e1 x1 d1 r1 s1 v1 p1 => ?_)
      obtain ⟨z, ez, p2⟩ := isB_bind (α := Unit) p1
      refine ⟨z, bool_of v1 ez, ?_⟩
      cases z with
      | true => exact iteT (p2.dat d1 (.bl _))
      | false => exact iteF (ih ρ σ F1 H1 Q r1 d1 s1 p2)
theorem snd_ts {et : Expr → Env → R Bool} (h : ∀ e, SndT X W H0 (et e) e) {op : BoolOp} {pos : Pos} : ∀ xs : List Expr, ∀ ρ σ F H Q, RepS X.K H0 F H σ ρ → Dom F H → Same H0 H → PostT (fun c H => W c σ H) F H Q (evTs et op xs ρ) →
    ∀ (wh : Sem Value) pins s, Inv X pins σ H s → wpAny (model X.prog X.w) X.A (isTrue (.BoolOp op xs pos) X.env wh) (TP X pins σ Q) X.xe s
  | [], ρ, σ, F, H, Q, r, dm, sm, p => p.elim
  | [a], ρ, σ, F, H, Q, r, dm, sm, p => fun wh pins s I => by
    cases op with
    | And => exact (pw_and1 (pos := pos) (pt_can (X := X) (e := a))).run wh pins s σ H Q I (h a ρ σ F H Q r dm sm p)
    | Or => exact (pw_or1 (pos := pos) (pt_can (X := X) (e := a))).run wh pins s σ H Q I (h a ρ σ F H Q r dm sm p)
  | a :: b :: rest, ρ, σ, F, H, Q, r, dm, sm, p => fun wh pins s I => by
    have ih := fun ρ σ F H Q r dm sm p => snd_ts h (op := op) (pos := pos) (b :: rest) ρ σ F H Q r dm sm p
    have can : PW X (.BoolOp op (b :: rest) pos) (fun σ H Q => ∀ (wh : Sem Value) pins s, Inv X pins σ H s → wpAny (model X.prog X.w) X.A (isTrue (.BoolOp op (b :: rest) pos) X.env wh) (TP X pins σ Q) X.xe s) := ⟨fun wh pins s σ H Q I h => h wh pins s I⟩
    cases op with
    | And =>
      refine (pw_and (pt_can (X := X) (e := a)) can).run wh pins s σ H Q I ((h a).thnT r dm sm p fun z F1 H1 e1 x1 d1 r1 s1 p1 => ?_)
      cases z with
      | true => exact iteT (ih ρ σ F1 H1 Q r1 d1 s1 p1)
      | false => exact iteF (p1 F1 H1 .refl d1)
    | Or =>
      refine (pw_or (pt_can (X := X) (e := a)) can).run wh pins s σ H Q I ((h a).thnT r dm sm p fun z F1 H1 e1 x1 d1 r1 s1 p1 => ?_)
      cases z with
      | true => exact iteT (p1 F1 H1 .refl d1)
      | false => exact iteF (ih ρ σ F1 H1 Q r1 d1 s1 p1)
end
end BR
namespace BR
open PySem PySem.Spec PyProof.Rows L2

/-- values as views say, behind the heap H0 -/
inductive VRL (K : PySem.W.Frag) (F : Addr → Prop) (H0 H : Hp) : List V → List Vw → Prop
  | nil : VRL K F H0 H [] []
  | cons {v : V} {vs : List V} {w : Vw} {ws : List Vw} : VRep K F H0 H v w → VRL K F H0 H vs ws → VRL K F H0 H (v :: vs) (w :: ws)
section
variable {K : PySem.W.Frag} {F F' : Addr → Prop} {H0 H1 H H' : Hp}
theorem VRL.ext : ∀ {v : List V} {w : List Vw}, VRL K F H0 H v w → Ext F H F' H' → VRL K F' H0 H' v w
  | _, _, .nil, _ => .nil
  | _, _, .cons h r, e => .cons (h.ext e) (r.ext e)
theorem VRL.back : ∀ {v : List V} {w : List Vw}, VRL K F H1 H v w → Same H0 H1 → VRL K F H0 H v w
  | _, _, .nil, _ => .nil
  | _, _, .cons h r, e => .cons (h.back e) (r.back e)
theorem VRL.x : ∀ {v : List V} {w : List Vw}, VRL K F H0 H v w → XRL K F H v w
  | _, _, .nil => .nil
  | _, _, .cons h r => .cons ⟨_, h⟩ r.x
/-- all that is new since H0 is frozen -/
def FzA (F : Addr → Prop) (H0 H : Hp) : Addr → Prop := fun a => F a ∨ (H0 a = none ∧ H a ≠ none)
theorem FzA.dom (d : Dom F H) : Dom (FzA F H0 H) H := fun a h => h.elim (d a) fun h => h.2
theorem FzA.mono : ∀ a, F a → FzA F H0 H a := fun _ h => .inl h
theorem FzA.ext (e : Ext F H0 F' H) : Ext F H0 (FzA F' H0 H) H := ⟨e.same, fun a h => .inl (e.mono a h), fun a h => h.elim (e.new a) fun h => .inr h.1⟩
theorem VRep.fz {v : V} {w : Vw} {d : D} (h : VRep K F H0 H v w) (e : w.toD = .ok d) : Rep K (FzA F H0 H) H v d := by
  cases w with
  | dt d' => cases e; exact Rep.mono .refl FzA.mono h
  | fl ds =>
    cases e
    obtain ⟨l, xs, rfl, h, r, n, f⟩ := h
    exact .lst (.inl ⟨.inr ⟨n, by rw [h]; simp⟩, h⟩) (r.mono Kp.refl FzA.mono)
  | fd ks => cases e
  | bl ds => cases e
  | bd ks => cases e
  | kc d => cases e
theorem bind_ok {α β : Type} {r : R α} {f : α → R β} {b : β} (h : r.bind f = .ok b) : ∃ a, r = .ok a ∧ f a = .ok b := by
  cases r with
  | ok a => exact ⟨a, rfl, h⟩
  | exc c => cases h
  | stk => cases h
theorem VRL.fz : ∀ {vs : List V} {ws : List Vw} {ds : List D}, VRL K F H0 H vs ws → toDs ws = .ok ds → RepL K (FzA F H0 H) H vs ds
  | _, _, _, .nil, e => by cases e; exact .nil
  | _, _, _, .cons h r, e => by
    unfold toDs at e
    obtain ⟨d, e1, e⟩ := bind_ok e
    obtain ⟨ds, e2, e⟩ := bind_ok e
    cases e
    exact .cons (h.fz e1) (r.fz e2)
theorem toDs_len : ∀ {ws : List Vw} {ds : List D}, toDs ws = .ok ds → ds.length = ws.length
  | [], _, e => by cases e; rfl
  | w :: ws, _, e => by
    unfold toDs at e
    obtain ⟨d, e1, e⟩ := bind_ok e
    obtain ⟨ds, e2, e⟩ := bind_ok e
    cases e
    rw [List.length_cons, List.length_cons, toDs_len e2]
theorem VRL.length : ∀ {vs : List V} {ws : List Vw}, VRL K F H0 H vs ws → vs.length = ws.length
  | _, _, .nil => rfl
  | _, _, .cons _ r => by rw [List.length_cons, List.length_cons, r.length]
end
theorem toDs_noexc : ∀ {ws : List Vw} {c : Str}, toDs ws ≠ .exc c
  | [], _, h => by cases h
  | w :: ws, c, h => by
    unfold toDs at h
    cases q : w.toD with
    | exc c => cases w <;> cases q
    | stk => rw [q] at h; cases h
    | ok d =>
      rw [q] at h
      cases q2 : toDs ws with
      | exc c => exact toDs_noexc q2
      | stk => rw [q2] at h; cases h
      | ok ds => rw [q2] at h; cases h
theorem toDs_bind {K : PySem.W.Frag} {W : Str → Hp → Prop} {F : Addr → Prop} {H : Hp} {Q : VK} {ws : List Vw} {g : List D → R Vw} (p : Post K W F H Q ((toDs ws).bind g)) : ∃ ds, toDs ws = .ok ds ∧ Post K W F H Q (g ds) := by
  cases q : toDs ws with
  | ok b => rw [q] at p; exact ⟨b, rfl, p⟩
  | exc c => exact (toDs_noexc q).elim
  | stk => rw [q] at p; exact p.elim

section
variable {T : Tab} {k : Nat} {N : List Str} {X : Cx} {sc : Scope} {W : WS} {H0 : Hp}
theorem star_cons {e : Expr} {es : List Expr} {env : PySem.Env} (h : isStar e = false) : starEach (e :: es) env = (false, eval e env) :: starEach es env := by
  cases e <;> first | rfl | cases h
theorem evL_stars {ev : Expr → Env → R Vw} {es : List Expr} {ρ : Env} {K : PySem.W.Frag} {W : Str → Hp → Prop} {F : Addr → Prop} {H : Hp} {Q : VK} {g : List Vw → R Vw} (p : Post K W F H Q ((evL ev es ρ).bind g)) : (∀ e ∈ es, isStar e = false) ∧ Post K W F H Q ((evL0 ev es ρ).bind g) := by
  unfold evL at p
  split at p
  · exact p.elim
  · rename_i q
    refine ⟨fun e he => ?_, p⟩
    cases z : isStar e with
    | false => rfl
    | true => rw [List.any_eq_true.mpr ⟨e, he, z⟩] at q; cases q
theorem back_plain {env : PySem.Env} {pos : Pos} : ∀ {es : List Expr}, (∀ e ∈ es, isStar e = false) → (backTo pos (starEach es env)).any (·.1) = false
  | [], _ => rfl
  | a :: es, h => by
    rw [star_cons (h a List.mem_cons_self)]
    show (false || (backTo pos (starEach es env)).any (·.1)) = false
    rw [back_plain fun e he => h e (List.mem_cons_of_mem _ he)]
    rfl
/-- then, from a base on -/
theorem SndE.thnB {f : Env → R Vw} {e : Expr} {g : Vw → R Vw} {Q Q1 : VK} {ρ : Env} {σ : L2.St} {F Fb : Addr → Prop} {H Hb : Hp} (h : SndE X W H0 f e) (x : Ext Fb Hb F H) (r : RepS X.K H0 F H σ ρ) (dm : Dom F H) (sm : Same H0 H) (p : Post X.K (fun c H => W c σ H) Fb Hb Q ((f ρ).bind g))
    (k : ∀ w v F1 H1, f ρ = .ok w → Ext Fb Hb F1 H1 → Ext F H F1 H1 → Dom F1 H1 → RepS X.K H0 F1 H1 σ ρ → Same H0 H1 → VRep X.K F1 Hb H1 v w → Post X.K (fun c H => W c σ H) Fb Hb Q (g w) → Q1 v H1) : EvOk X e σ H Q1 := by
  refine h ρ σ F H Q1 r dm sm ?_
  cases q : f ρ with
  | ok w =>
    rw [q] at p
    exact fun v F1 H1 e1 d1 rv => k w v F1 H1 q (x.trans e1) e1 d1 (r.ext e1) (sm.trans e1.same) (rv.back x.same) p
  | exc c => rw [q] at p; exact Post.ext (r := .exc c) p x
  | stk => rw [q] at p; exact p.elim
/-- a list of arguments -/
theorem evL0_ok {ev : Expr → Env → R Vw} (h : ∀ e, SndE X W H0 (ev e) e) {Q : VK} {Fb : Addr → Prop} {Hb : Hp} : ∀ (es : List Expr) {g : List Vw → R Vw} {Q1 : List V → Hp → Prop} {ρ : Env} {σ : L2.St} {F : Addr → Prop} {H : Hp}, (∀ e ∈ es, isStar e = false) → Ext Fb Hb F H → RepS X.K H0 F H σ ρ → Dom F H → Same H0 H →
    Post X.K (fun c H => W c σ H) Fb Hb Q ((evL0 ev es ρ).bind g) →
    (∀ ws vs F1 H1, evL0 ev es ρ = .ok ws → Ext Fb Hb F1 H1 → Ext F H F1 H1 → Dom F1 H1 → RepS X.K H0 F1 H1 σ ρ → Same H0 H1 → VRL X.K F1 Hb H1 vs ws → Post X.K (fun c H => W c σ H) Fb Hb Q (g ws) → Q1 vs H1) → EaOk X es σ H Q1
  | [], g, Q1, ρ, σ, F, H, _, x, r, dm, sm, p, k => pa_ev pa_nil (k [] [] F H rfl x .refl dm r sm .nil p)
  | e :: es, g, Q1, ρ, σ, F, H, ns, x, r, dm, sm, p, k => by
    unfold evL0 at p k
    have p' : Post X.K (fun c H => W c σ H) Fb Hb Q ((ev e ρ).bind fun w => (evL0 ev es ρ).bind fun ws => g (w :: ws)) := by
      cases q : ev e ρ with
      | exc c => rw [q] at p; exact p
      | stk => rw [q] at p; exact p
      | ok w =>
        rw [q] at p
        cases q2 : evL0 ev es ρ with
        | exc c => simp only [R.bind, q2] at p ⊢; exact p
        | stk => simp only [R.bind, q2] at p ⊢; exact p
        | ok ws => simp only [R.bind, q2] at p ⊢; exact p
    refine pa_ev (pa_cons pe_can pa_can (star_cons (ns e List.mem_cons_self))) ((h e).thnB x r dm sm p' fun w v F1 H1 e1 x1 y1 d1 r1 s1 v1 p1 => ?_)
    refine evL0_ok h es (fun e' he => ns e' (List.mem_cons_of_mem _ he)) x1 r1 d1 s1 p1 fun ws vs F2 H2 e2 x2 y2 d2 r2 s2 q2 p2 => ?_
    refine k (w :: ws) (v :: vs) F2 H2 ?_ x2 (y1.trans y2) d2 r2 s2 (.cons (v1.ext y2) q2) p2
    rw [e1]
    show (evL0 ev es ρ).bind _ = _
    rw [e2]
    rfl
theorem evL_ok {ev : Expr → Env → R Vw} (h : ∀ e, SndE X W H0 (ev e) e) {Q : VK} {Fb : Addr → Prop} {Hb : Hp} (es : List Expr) {g : List Vw → R Vw} {Q1 : List V → Hp → Prop} {ρ : Env} {σ : L2.St} {F : Addr → Prop} {H : Hp} (x : Ext Fb Hb F H) (r : RepS X.K H0 F H σ ρ) (dm : Dom F H) (sm : Same H0 H)
    (p : Post X.K (fun c H => W c σ H) Fb Hb Q ((evL ev es ρ).bind g))
    (k : ∀ ws vs F1 H1, evL0 ev es ρ = .ok ws → Ext Fb Hb F1 H1 → Ext F H F1 H1 → Dom F1 H1 → RepS X.K H0 F1 H1 σ ρ → Same H0 H1 → VRL X.K F1 Hb H1 vs ws → Post X.K (fun c H => W c σ H) Fb Hb Q (g ws) → Q1 vs H1) : EaOk X es σ H Q1 :=
  let ⟨ns, p⟩ := evL_stars p
  evL0_ok h es ns x r dm sm p k
/-! ### displays -/
theorem snd_tuple {ev : Expr → Env → R Vw} (h : ∀ e, SndE X W H0 (ev e) e) {es : List Expr} {j : Nat} {pos : Pos} : SndE X W H0 (fun ρ => (evL ev es ρ).bind fun ws => (toDs ws).bind fun ds => if ds.length ≤ 1000 then .ok (.dt (.tuple ds)) else .stk) (.Tuple es j pos) := by
  intro ρ σ F H Q r dm sm p
  refine pe_ev (pe_tup pa_can) (evL_ok h es .refl r dm sm p fun ws vs F1 H1 e1 x1 _ d1 r1 s1 v1 p1 => ?_)
  obtain ⟨ds, e2, p2⟩ := toDs_bind p1
  obtain ⟨hz, p3⟩ := post_if p2
  have rl := v1.fz e2
  refine ⟨by rw [sizeLine_eq, rl.length]; omega, fun l n => ?_⟩
  have x2 := FzA.ext x1
  exact p3 _ _ _ (x2.trans (Ext.upd n)) ((FzA.dom d1).same (same_upd n)) (.tup upd_same (rl.ext (Ext.upd n)))
theorem snd_list {ev : Expr → Env → R Vw} (h : ∀ e, SndE X W H0 (ev e) e) {es : List Expr} {pos : Pos} : SndE X W H0 (fun ρ => (evL ev es ρ).bind fun ws => (toDs ws).bind fun ds => if ds.length ≤ 1000 then .ok (.fl ds) else .stk) (.List es pos) := by
  intro ρ σ F H Q r dm sm p
  refine pe_ev (pe_lst pa_can) (evL_ok h es .refl r dm sm p fun ws vs F1 H1 e1 x1 _ d1 r1 s1 v1 p1 => ?_)
  obtain ⟨ds, e2, p2⟩ := toDs_bind p1
  obtain ⟨hz, p3⟩ := post_if p2
  have rl := v1.fz e2
  refine ⟨by rw [sizeLine_eq, rl.length]; omega, fun l n => ?_⟩
  have x2 := FzA.ext x1
  exact p3 _ _ _ (x2.trans (Ext.upd n)) ((FzA.dom d1).same (same_upd n)) ⟨l, vs, rfl, upd_same, rl.ext (Ext.upd n), x1.same.free n, fun q => (FzA.dom d1) l q n⟩
theorem snd_dict0 {pos : Pos} : SndE X W H0 (fun _ => .ok (.fd [])) (.Dict [] [] pos) := by
  intro ρ σ F H Q r dm sm p
  refine pe_ev pe_dnewT fun l n => ?_
  exact p _ _ _ (Ext.upd n) (dm.same (same_upd n)) ⟨l, [], rfl, upd_same, .nil, n, fun q => dm l q n⟩
/-! ### calls -/
theorem post_len {K : PySem.W.Frag} {W : Str → Hp → Prop} {F : Addr → Prop} {H : Hp} {Q : VK} {c : Prop} [Decidable c] {r : R Vw} (p : Post K W F H Q (if c then r else .stk)) : c ∧ Post K W F H Q r := post_if p
theorem toDs_nil {ws : List Vw} (h : toDs ws = .ok []) : ws = [] := by
  have := toDs_len h
  cases ws with
  | nil => rfl
  | cons => cases this
theorem Post.imp {K : PySem.W.Frag} {W W' : Str → Hp → Prop} {F : Addr → Prop} {H : Hp} {Q : VK} {r : R Vw} (p : Post K W F H Q r) (h : ∀ c H, W c H → W' c H) : Post K W' F H Q r := by
  cases r with
  | ok w => exact p
  | exc c => exact fun F' H' e d => h _ _ (p F' H' e d)
  | stk => exact p
theorem run_fn0 {pins : List (Addr × Obj)} {X : Cx} {σ : L2.St} {E : XK} {CX : CXT} {k : Nat} {f : Addr} {fd : FuncData} {ps : List Str} {sp : Sp} {x : Str} {p pos : Pos} {s : Shared} {H : Hp} {Q : VK} (F : FnOk X.prog X.w X.K X.mg X.base CX k f fd ps sp) (hr : Room k X.A) (hg : Gl X x) (hm : X.mg x = some (.ref f)) (hk : PySem.W.keepIn X.K (.ref f) = true) (hb : Binds X.K fd ps [])
    (hx : PassesAt CX X σ E) (hdb : (x == ("__debug__" : Str)) = false) (I : Inv X pins σ H s) (h : sp [] H Q E) : wpAny (model X.prog X.w) X.A (eval (.Call (.Name x p) [] [] pos) X.env) (EP X pins σ Q) X.xe s := by
  refine wpAny_Call_Name_kw (ld_glob I hg hm ?_ hdb)
  exact PySem.W.callWith_K0 I.kIn hk (run_fnS (us := []) (E := fun _ => E) F hr hb hx I .nil h)
theorem snd_callF (x : XOk T k N X sc W) {ev : Expr → Env → R Vw} (h : ∀ e, SndE X W H0 (ev e) e) {n : Str} {pp pos : Pos} {ps : List Str} {g : List D → R Vw} (hg : isGlob sc n = true) (hl : T.lookup n = some (.fn ps g)) (es : List Expr) :
    SndE X W H0 (fun ρ => (evL ev es ρ).bind fun ws => (toDs ws).bind fun ds => if ds.length = ps.length then g ds else .stk) (.Call (.Name n pp) es [] pos) := by
  intro ρ σ F H Q r dm sm p
  obtain ⟨a, fd, hm, hk, hb, hf⟩ := (x.tab n _ hl).ok
  obtain ⟨g1, g2, g3⟩ := isGlob_of hg
  have gl : Gl X n := (show X.env.scope.names.lookup n = _ by rw [x.hsc]; exact g1)
  have hx : ∀ σ, PassesAt (L2.CX X.prog X.w) X σ (WE (fun cls d σ H => ∃ c C, X.mg c = some (.ref C) ∧ cls = .ref C ∧ d = none ∧ W c σ H) σ) := fun σ => passAt x.takes σ
  have ex : ∀ c H, W c σ H → EX X.mg (WE (fun cls d σ H => ∃ c C, X.mg c = some (.ref C) ∧ cls = .ref C ∧ d = none ∧ W c σ H) σ) c H := fun c H hw C hC => ⟨c, C, hC, rfl, rfl, hw⟩
  cases es with
  | nil =>
    intro pins s I
    refine run_fn0 hf x.room gl hm hk hb (hx σ) g2 I ?_
    have p' : Post X.K (fun c H => W c σ H) F H Q (if ([] : List D).length = ps.length then g [] else .stk) := p
    obtain ⟨hz, p3⟩ := post_if p'
    exact ⟨F, [], hz, dm, .nil, p3.imp ex⟩
  | cons e es =>
    have ns := (evL_stars p).1
    refine pe_ev (pe_callS (pos := pos) (p := pp) hf x.room gl hm hk hb hx pa_can g2 (star_cons (ns e List.mem_cons_self)) (back_plain fun e' he => ns e' (List.mem_cons_of_mem _ he))) ?_
    refine evL_ok h (e :: es) .refl r dm sm p fun ws vs F1 H1 e1 x1 _ d1 r1 s1 v1 p1 => ?_
    obtain ⟨ds, e2, p2⟩ := toDs_bind p1
    obtain ⟨hz, p3⟩ := post_if p2
    have rl := v1.fz e2
    exact ⟨FzA F1 H H1, ds, hz, FzA.dom d1, rl, (p3.ext (FzA.ext x1)).imp ex⟩
end
end BR
namespace BR
open PySem PySem.Spec PyProof.Rows L2
section
variable {X : Cx} {W : WS} {H0 : Hp}
/-- tuples of ints, by their places -/
theorem repL_rows {K : PySem.W.Frag} {F : Addr → Prop} {H : Hp} : ∀ {ks : List (List Int)} {vs : List V}, RepL K F H vs (ks.map keyD) → ∃ ps : List (Addr × List Int), vs = ps.map (fun p => V.ref p.1) ∧ ps.map (·.2) = ks ∧ ∀ p ∈ ps, H p.1 = some (.tup (p.2.map V.int))
  | [], _, .nil => ⟨[], rfl, rfl, fun _ h => nomatch h⟩
  | k :: ks, _, .cons h r => by
    obtain ⟨ps, h1, h2, h3⟩ := repL_rows r
    unfold keyD at h
    cases h with
    | @tup a xs _ ht rl =>
      have e := rl.ints
      subst e
      exact ⟨(a, k) :: ps, by rw [h1]; rfl, by rw [← h2]; rfl, fun p hp => (List.mem_cons.mp hp).elim (fun e => by subst e; exact ht) (h3 p)⟩
theorem callR_or {f : Value} {r1 r2 : List V → Hp → VK → Prop} (h1 : CallR X f r1) (h2 : CallR X f r2) : CallR X f (fun xs H Q => r1 xs H Q ∨ r2 xs H Q) := fun pins s σ H xs us Q I r h => h.elim (h1 pins s σ H xs us Q I r) (h2 pins s σ H xs us Q I r)
theorem rSS_rows {ds : List PyData} {ks : List (List Int)} {l : Addr} {xs : List V} {F1 : Addr → Prop} {H1 : Hp} {Q : VK} {W : Str → Hp → Prop} (d1 : Dom F1 H1) (ek : rowsI ds = some ks) (hq : SqL X.K H1 l xs ∨ SqT X.K H1 l xs) (rl : RepL X.K F1 H1 xs ds)
    (p1 : Post X.K W F1 H1 Q (if ssOk ks = true then .ok (.fl ((srtSet ks).map keyD)) else .stk)) :
    rSetT2 X.K X.prog X.w [V.ref l] H1 (fun v H => rSortedT X.K X.prog X.w [v] H Q ∨ rSortedSet X.w [v] H Q) := by
        obtain ⟨ho, p2⟩ := post_if p1
        obtain ⟨d, hd, hl, hk⟩ := ssOk_of ho
        rw [rowsI_some ek] at rl
        obtain ⟨ps, rfl, h2, h3⟩ := repL_rows rl
        have hlen : ps.length < 64 := by rw [← h2, List.length_map] at hl; exact hl
        refine ⟨l, ps, rfl, hq, fun q hq => .inl (.inl (h3 q hq)), hlen, fun b L hb hL hA => .inl ?_⟩
        have e2 := Ext.upd (F := F1) (o := SetTO X.prog X.w b L) hb
        refine ⟨b, L, d, 64, rfl, upd_same, fun q hq => .inl (.inl (e2.same _ _ (h3 q (hL q hq)))), hd, fun q hq => hk q.2 (by rw [← h2]; exact List.mem_map.mpr ⟨q, hL q hq, rfl⟩), fun L' m pm nd l64 pw hm => ?_⟩
        have e3 := e2.trans (Ext.upd (F := F1) (o := .lst (L'.map fun q => V.ref q.1)) hm)
        have memL : ∀ q ∈ L', q ∈ ps := fun q hq => hL q (pm.mem_iff.mp hq)
        have vals : L'.map (·.2) = srtSet ks := by
          have bd : ∀ x ∈ L'.map (·.2), x.length = d ∧ TS.Bd 64 x := fun x hx => by
            obtain ⟨q, hq, rfl⟩ := List.mem_map.mp hx
            exact hk q.2 (by rw [← h2]; exact List.mem_map.mpr ⟨q, memL q hq, rfl⟩)
          refine srt_uniq ?_ (srtSet_srt ks) fun x => ⟨fun hx => ?_, fun hx => ?_⟩
          · have pw2 : (L'.map (·.2)).Pairwise fun a b => TS.code 64 a ≤ TS.code 64 b := by rw [List.pairwise_map]; exact pw
            refine (pw2.and nd).imp_of_mem fun {x y} hx hy h => ?_
            rcases Int.lt_or_eq_of_le h.1 with q | q
            · exact q
            · exact absurd (code_inj ((bd x hx).1.trans (bd y hy).1.symm) (bd x hx).2 (bd y hy).2 q) h.2
          · obtain ⟨q, hq, rfl⟩ := List.mem_map.mp hx
            exact srtSet_mem hk (by rw [← h2]; exact List.mem_map.mpr ⟨q, memL q hq, rfl⟩)
          · have hx2 := srtSet_sub hx
            rw [← h2] at hx2
            obtain ⟨q, hq, rfl⟩ := List.mem_map.mp hx2
            obtain ⟨q', hq', e⟩ := List.mem_map.mp (hA q hq)
            exact List.mem_map.mpr ⟨q', pm.mem_iff.mpr hq', e⟩
        refine p2 _ F1 _ e3 (d1.same e3.same) ⟨m, _, rfl, upd_same, ?_, e2.same.free hm, fun q => ?_⟩
        · rw [← vals]
          have key : ∀ L'' : List (Addr × List Int), (∀ q ∈ L'', q ∈ ps) → RepL X.K F1 (upd (upd H1 b (SetTO X.prog X.w b L)) m (.lst (L'.map fun q => V.ref q.1))) (L''.map fun q => V.ref q.1) ((L''.map (·.2)).map keyD) := by
            intro L''
            induction L'' with
            | nil => exact fun _ => .nil
            | cons q L'' ih =>
              intro h
              refine .cons ?_ (ih fun z hz => h z (List.mem_cons_of_mem _ hz))
              exact .tup (e3.same _ _ (h3 q (h q List.mem_cons_self))) (repL_ints q.2)
          exact key L' memL
        · rcases e3.new m q with z | z
          · exact d1 m z (e2.same.free hm)
          · exact d1 m q (e2.same.free hm)
theorem rSS_ints {ds : List PyData} {l : Addr} {xs : List V} {F1 : Addr → Prop} {H1 : Hp} {Q : VK} {W : Str → Hp → Prop} (d1 : Dom F1 H1) (hq : SqL X.K H1 l xs ∨ SqT X.K H1 l xs) (rl : RepL X.K F1 H1 xs ds)
    (p1 : Post X.K W F1 H1 Q (gSSi ds)) :
    rSetI2 X.K X.w [V.ref l] H1 (fun v H => rSortedT X.K X.prog X.w [v] H Q ∨ rSortedSet X.w [v] H Q) := by
  unfold gSSi at p1
  split at p1
  · rename_i ns en
    obtain ⟨ho, p2⟩ := post_if p1
    rw [intsOf_some en] at rl
    have q1 := rl.ints
    subst q1
    refine ⟨l, ns, rfl, hq, by show ns.length + 1 < 4096; omega, fun b c hb hc => .inr ?_⟩
    have e2 := Ext.upd (F := F1) (o := SetO X.w b (fun j => decide (j ∈ ns)) c) hb
    refine ⟨b, _, c, rfl, upd_same, by omega, fun ms m pw hm hl hn => ?_⟩
    have e3 := e2.trans (Ext.upd (F := F1) (o := .lst (ms.map V.int)) hn)
    have eq : ms = srtU ns := lt_uniq pw (srtU_pw ns) fun x => by
      rw [hm x, srtU_mem]
      exact decide_eq_true_iff
    subst eq
    refine p2 _ F1 _ e3 (d1.same e3.same) ⟨m, _, rfl, upd_same, repL_ints _, e2.same.free hn, fun q => ?_⟩
    exact d1 m q (e2.same.free hn)
  · exact p1.elim
theorem rSS_seq {ds : List PyData} {l : Addr} {xs : List V} {F1 : Addr → Prop} {H1 : Hp} {Q : VK} {W : Str → Hp → Prop} (d1 : Dom F1 H1) (hq : SqL X.K H1 l xs ∨ SqT X.K H1 l xs) (rl : RepL X.K F1 H1 xs ds)
    (p1 : Post X.K W F1 H1 Q (gSSs ds)) : rSetT2 X.K X.prog X.w [V.ref l] H1 (fun v H => rSortedT X.K X.prog X.w [v] H Q ∨ rSortedSet X.w [v] H Q) ∨ rSetI2 X.K X.w [V.ref l] H1 (fun v H => rSortedT X.K X.prog X.w [v] H Q ∨ rSortedSet X.w [v] H Q) := by
  unfold gSSs at p1
  split at p1
  · rename_i ks ek
    exact .inl (rSS_rows d1 ek hq rl p1)
  · exact .inr (rSS_ints d1 hq rl p1)
theorem snd_sset (hc : X.calm = true) (hu : X.A.units + 64 < cLine) {f : Env → R Vw} {a : Expr} {p1 p2 q1 q2 : Pos} (ha : SndE X W H0 f a) (gs : Gl X "sorted") (ms : X.mg "sorted" = none) (gt : Gl X "set") (mt : X.mg "set" = none) (hs : isStar a = false) :
    SndE X W H0 (fun ρ => (f ρ).bind gSS) (.Call (.Name "sorted" p1) [.Call (.Name "set" p2) [a] [] q2] [] q1) := by
  intro ρ σ F H Q r dm sm p
  refine pe_ev (pe_callB (callR_or (cr_sortedT hc) (cr_sortedSet hc)) gs ms (by decide +kernel) (pa_cons (pe_callTy (callR_or (cr_setT2 hc hu) (cr_setI2 hc hu)) gt mt (by decide +kernel) (pa_cons pe_can pa_nil (star_cons hs)) (by decide) (by decide) (star_cons hs) rfl) pa_nil rfl) (by decide) (by decide) rfl rfl) ?_
  refine ha.thn r dm sm p fun w v F1 H1 e1 x1 d1 r1 s1 v1 p1 => ?_
  have vp := v1.p
  unfold gSS at p1
  split at p1
  · rename_i ds e
    rw [e] at vp
    cases vp with
    | lst hq rl => exact rSS_seq d1 (.inl hq) rl p1
  · rename_i ds e
    rw [e] at vp
    cases vp with
    | tup hq rl => exact rSS_seq d1 (.inr hq) rl p1
  · exact p1.elim
end
end BR
namespace BR
open PySem PySem.Spec PyProof.Rows L2

section
variable {T : Tab} {k : Nat} {N : List Str} {X : Cx} {sc : Scope} {W : WS} {H0 : Hp}
/-! ### built-ins -/
def BltOk (X : Cx) (W : Str → Hp → Prop) (x : Str) : BK × (List Vw → R Vw) → Prop
  | (.fn, g) => ∃ id, bootBuiltins x = some (.builtin id) ∧ CallR X (.builtin id) (rVs X.K W g)
  | (.ty, g) => ∃ id, bootBuiltins x = some (.type id) ∧ CallR X (.type id) (rVs X.K W g)
theorem gBlt_ok {W : Str → Hp → Prop} (hc : X.calm = true) {x : Str} {b : BK × (List Vw → R Vw)} (h : gBlt x = some b) : BltOk X W x b := by
  unfold gBlt at h
  repeat' split at h
  all_goals (first | (rename_i e; have e' := beq_iff_eq.mp e; subst e'; cases h) | cases h)
  · exact ⟨"len", by decide +kernel, call_gLen⟩
  · exact ⟨"all", by decide +kernel, call_gAll hc⟩
  · exact ⟨"any", by decide +kernel, call_gAny hc⟩
  · exact ⟨"sum", by decide +kernel, call_gSum hc⟩
  · exact ⟨"abs", by decide +kernel, call_gAbs⟩
  · exact ⟨"max", by decide +kernel, call_gMax hc⟩
  · exact ⟨"min", by decide +kernel, call_gMin hc⟩
  · exact ⟨"tuple", by decide +kernel, call_gTup⟩
  · exact ⟨"list", by decide +kernel, call_gList⟩
  · exact ⟨"int", by decide +kernel, call_gInt⟩
  · exact ⟨"sorted", by decide +kernel, call_gSrt⟩
theorem snd_callB (x : XOk T k N X sc W) {ev : Expr → Env → R Vw} (h : ∀ e, SndE X W H0 (ev e) e) {n : Str} {pp pos : Pos} {b : BK × (List Vw → R Vw)} (hg : isGlob sc n = true) (hl : T.lookup n = some .blt) (hb : gBlt n = some b) (e : Expr) (es : List Expr) :
    SndE X W H0 (fun ρ => (evL ev (e :: es) ρ).bind b.2) (.Call (.Name n pp) (e :: es) [] pos) := by
  intro ρ σ F H Q r dm sm p
  have hm : X.mg n = none := x.tab n _ hl
  obtain ⟨g1, g2, g3⟩ := isGlob_of hg
  have gl : Gl X n := (show X.env.scope.names.lookup n = _ by rw [x.hsc]; exact g1)
  have ns := (evL_stars p).1
  have q := gBlt_ok (X := X) (W := fun c H => W c σ H) x.calm hb
  have args : EaOk X (e :: es) σ H (fun vs H1 => rVs X.K (fun c H => W c σ H) b.2 vs H1 Q) := evL_ok h (e :: es) .refl r dm sm p fun ws vs F1 H1 e1 x1 _ d1 r1 s1 v1 p1 => ⟨F1, ws, d1, v1.x, p1.ext x1⟩
  obtain ⟨bk, g⟩ := b
  cases bk with
  | fn =>
    obtain ⟨id, hv, hc⟩ := q
    exact pe_ev (pe_callB (pos := pos) (p := pp) hc gl hm hv pa_can g3 g2 (star_cons (ns e List.mem_cons_self)) (back_plain fun e' he => ns e' (List.mem_cons_of_mem _ he))) args
  | ty =>
    obtain ⟨id, hv, hc⟩ := q
    exact pe_ev (pe_callTy (pos := pos) (p := pp) hc gl hm hv pa_can g3 g2 (star_cons (ns e List.mem_cons_self)) (back_plain fun e' he => ns e' (List.mem_cons_of_mem _ he))) args
/-! isinstance -/
theorem tyX_of {K : PySem.W.Frag} {F : Addr → Prop} {H : Hp} {v : V} {d : D} {a : String} (h : PRep K F H v d) (e : dTy d = some a) : TyX K H v (.type a) := by
  cases h with
  | non => cases e; exact .base .non
  | bl b => cases e; exact .base (.bl b)
  | int b => cases e; exact .base (.int b)
  | str b => cases e; exact .base (.str b)
  | lst h r =>
    cases e
    rcases h with (h | ⟨o, h⟩) | ⟨o, its, n, hk, hc, _⟩
    · exact .base (.lst h)
    · exact .base (.frz h)
    · exact .kList hk hc
  | tup h r =>
    cases e
    rcases h with (h | ⟨o, h⟩) | ⟨o, its, n, hk, hc, _⟩
    · exact .base (.tup h)
    · exact .fTuple h
    · exact .kTuple hk hc
  | dct h r => cases e
def isiAll : List (String × String) := ["NoneType", "bool", "int", "str", "list", "tuple"].flatMap fun a => ["int", "bool", "str", "list", "tuple"].map fun t => (a, t)
theorem isi_tab : isiAll.all (fun p => kitB p.1 p.2 == some (p.1 == p.2 || (p.1 == "bool" && p.2 == "int"))) = true := by decide +kernel
theorem isiTy_mem {t : Str} {ty : String} (h : isiTy t = some ty) : ty ∈ ["int", "bool", "str", "list", "tuple"] ∧ bootBuiltins t = some (.type ty) := by
  unfold isiTy at h
  repeat' split at h
  all_goals (first | (rename_i e; have e' := beq_iff_eq.mp e; subst e'; cases h) | cases h)
  all_goals exact ⟨by decide, by decide +kernel⟩
theorem dTy_mem {d : D} {a : String} (h : dTy d = some a) : a ∈ ["NoneType", "bool", "int", "str", "list", "tuple"] := by
  cases d <;> cases h <;> decide
theorem snd_isi (x : XOk T k N X sc W) {f : Env → R Vw} {a : Expr} {t n : Str} {pp p2 pos : Pos} {ty : String} (ha : SndE X W H0 f a) (hn : n = "isinstance") (hg : isGlob sc n = true) (hl : T.lookup n = some .blt) (ht : isBlt T sc t = true) (hty : isiTy t = some ty) (hs : isStar a = false) :
    SndE X W H0 (fun ρ => (f ρ).bind fun w => gIsi ty w.peek) (.Call (.Name n pp) [a, .Name t p2] [] pos) := by
  intro ρ σ F H Q r dm sm p
  subst hn
  have hm : X.mg "isinstance" = none := x.tab _ _ hl
  obtain ⟨g1, g2, g3⟩ := isGlob_of hg
  have gl : Gl X "isinstance" := (show X.env.scope.names.lookup _ = _ by rw [x.hsc]; exact g1)
  unfold isBlt at ht
  rw [Bool.and_eq_true] at ht
  obtain ⟨t1, t2, t3⟩ := isGlob_of ht.1
  have glt : Gl X t := (show X.env.scope.names.lookup _ = _ by rw [x.hsc]; exact t1)
  have hmt : X.mg t = none := by
    have h2 := ht.2
    split at h2
    · rename_i e; exact x.tab _ _ e
    · cases h2
  obtain ⟨my, bt⟩ := isiTy_mem hty
  have pt : PE X (.Name t p2) (tC (.ty ty)) := pe_bltn glt hmt bt rfl t3 t2
  refine pe_ev (pe_callB (id := "isinstance") (r := rIsi X.K) call_isi gl hm (by decide +kernel) (pa_cons pe_can (pa_cons pt pa_nil) (star_cons hs)) g3 g2 (star_cons hs) rfl) ?_
  refine ha.thn r dm sm p fun w v F1 H1 e1 x1 d1 r1 s1 v1 p1 => ?_
  unfold gIsi at p1
  split at p1
  · rename_i a' ea
    refine ⟨v, .ty ty, .type a', .type ty, _, rfl, .ty ty, tyX_of v1.p ea, kit_ty (r := (a' == ty || (a' == "bool" && ty == "int"))) ?_, p1.dat d1 (.bl _)⟩
    have := List.all_eq_true.mp isi_tab (a', ty) (List.mem_flatMap.mpr ⟨a', dTy_mem ea, List.mem_map.mpr ⟨ty, my, rfl⟩⟩)
    exact beq_iff_eq.mp this
  · exact p1.elim
theorem isBlt_of0 (x : XOk T k N X sc W) {n : Str} (h : isBlt T sc n = true) : Gl X n ∧ X.mg n = none := by
  unfold isBlt at h
  rw [Bool.and_eq_true] at h
  obtain ⟨g1, g2, g3⟩ := isGlob_of h.1
  have h2 := h.2
  refine ⟨(show X.env.scope.names.lookup n = _ by rw [x.hsc]; exact g1), ?_⟩
  split at h2
  · rename_i e; exact x.tab _ _ e
  · cases h2
theorem snd_bltN (x : XOk T k N X sc W) {ev : Expr → Env → R Vw} (h : ∀ e, SndE X W H0 (ev e) e) {n : Str} {pp pos : Pos} (hg : isGlob sc n = true) (hl : T.lookup n = some .blt) {e : Expr} {es : List Expr} : SndE X W H0 (gBltN ev n (e :: es)) (.Call (.Name n pp) (e :: es) [] pos) := by
  intro ρ σ F H Q r dm sm p
  unfold gBltN at p
  split at p
  · rename_i g hb
    exact snd_callB x h hg hl hb _ _ ρ σ F H Q r dm sm p
  · exact p.elim
theorem setArg_of {args : List Expr} {y : Str} {a : Expr} (h : setArg args = some (y, a)) : ∃ p q, args = [.Call (.Name y p) [a] [] q] := by
  unfold setArg at h
  split at h
  · cases h
    exact ⟨_, _, rfl⟩
  · cases h
theorem snd_blt1 (x : XOk T k N X sc W) {ev : Expr → Env → R Vw} (h : ∀ e, SndE X W H0 (ev e) e) {n : Str} {pp pos : Pos} (hg : isGlob sc n = true) (hl : T.lookup n = some .blt) {e : Expr} {es : List Expr} : SndE X W H0 (gBlt1 T sc ev n (e :: es)) (.Call (.Name n pp) (e :: es) [] pos) := by
  intro ρ σ F H Q r dm sm p
  unfold gBlt1 at p
  split at p
  · rename_i y a h1 h5
    split at p
    · rename_i h2 h3 h4
      have gt := isBlt_of0 x h3
      cases beq_iff_eq.mp h1
      cases beq_iff_eq.mp h2
      obtain ⟨p1, q1, e1⟩ := setArg_of h5
      cases e1
      obtain ⟨g1, g2, g3⟩ := isGlob_of hg
      exact snd_sset x.calm x.hu (h _) (show X.env.scope.names.lookup _ = _ by rw [x.hsc]; exact g1) (x.tab _ _ hl) gt.1 gt.2 h4 ρ σ F H Q r dm sm p
    · exact p.elim
  · exact snd_bltN x h hg hl ρ σ F H Q r dm sm p
  · exact snd_bltN x h hg hl ρ σ F H Q r dm sm p
theorem snd_callN (x : XOk T k N X sc W) {ev : Expr → Env → R Vw} (h : ∀ e, SndE X W H0 (ev e) e) {n : Str} {pp pos : Pos} (es : List Expr) : SndE X W H0 (gCallN T sc ev n es) (.Call (.Name n pp) es [] pos) := by
  intro ρ σ F H Q r dm sm p
  unfold gCallN at p
  split at p
  · exact p.elim
  · rename_i hg
    split at p
    · rename_i ps g hl
      exact snd_callF x h hg hl es ρ σ F H Q r dm sm p
    · rename_i hl
      split at p
      · rename_i hi
        split at p
        · rename_i h1 h2 h3
          exact snd_isi x (h _) (beq_iff_eq.mp hi) hg hl h1 h2 h3 ρ σ F H Q r dm sm p
        · exact p.elim
      · exact p.elim
      · exact p.elim
      · exact snd_blt1 x h hg hl ρ σ F H Q r dm sm p
    · exact p.elim
/-! ### subscripts, slices -/
theorem plainIx_of {b : Expr} (h : isSlice b = false) : PlainIx b := by
  intro o i
  cases b <;> first | rfl | cases h
theorem snd_ix (x : XOk T k N X sc W) {f g : Env → R Vw} {a b : Expr} {pos : Pos} (ha : SndE X W H0 f a) (hb : SndE X W H0 g b) (hs : isSlice b = false) : SndE X W H0 (fun ρ => (f ρ).bind fun w => (g ρ).bind fun u => gIxV w u) (.Subscript a b pos) := by
  intro ρ σ F H Q r dm sm p
  refine pe_ev (pe_ix (ix_gIxV (W := fun c H => W c σ H) x.hu1) pe_can pe_can (plainIx_of hs)) (ha.thn r dm sm p fun w v F1 H1 e1 x1 d1 r1 s1 v1 p1 => ?_)
  refine hb.thn r1 d1 s1 p1 fun u v2 F2 H2 e2 x2 d2 r2 s2 q2 p2 => ?_
  exact ⟨F2, w, u, d2, ⟨_, v1.ext x2⟩, ⟨_, q2⟩, p2⟩
end
end BR
namespace HT
open PySem PySem.Spec PyProof.Rows PyProof.Rows.Copied
section
variable {prog : Program} {w : World} {A : Around} {E : Value → Shared → Prop} {s : Shared}
theorem adjust_rev (n : Nat) : Builtin.Slice.sliceAdjust none none (-1) (n : Int) = ((n : Int) - 1, -1) := by
  unfold Builtin.Slice.sliceAdjust
  have h1 : ((-1 : Int) < 0) := by omega
  simp only [h1, if_true]
theorem places_rev (n : Nat) : Builtin.Slice.slicePlaces ((n : Int) - 1) (-1) (-1) = n := by
  unfold Builtin.Slice.slicePlaces
  have h1 : ¬ ((-1 : Int) > 0) := by omega
  simp only [h1, if_false]
  have e : (- -1 : Int) = 1 := by decide
  rw [e, Int.ediv_one]
  split <;> omega
theorem sliceApplied_rev {sl : Addr} {vl vu vs : Value} {n : Nat} {Q : Int × Int × Nat → Shared → Prop} (hs : s.heap.IsSliceOf sl vl vu vs) (pl : IsPart vl none) (pu : IsPart vu none) (ps : IsPart vs (some (-1)))
    (h : Q ((n : Int) - 1, -1, n) s) : wpAny (model prog w) A (Builtin.Slice.sliceApplied (.ref sl) (pure (n : Int))) Q E s := by
  obtain ⟨os, hos, hcs, hds⟩ := id hs
  unfold Builtin.Slice.sliceApplied Builtin.Slice.sliceFields
  refine wpAny_bind (wpAny_bind (wpAny_field hos hds (x := vl) rfl (wpAny_bind (wpAny_field hos hds (x := vu) rfl (wpAny_bind (wpAny_field hos hds (x := vs) rfl (wpAny_pure ?_)))))))
  refine wpAny_bind (slicePart_ ps ?_)
  show wpAny _ _ (if ((-1 : Int) == 0) = true then _ else _) _ _ s
  rw [if_neg (by decide)]
  refine wpAny_bind (slicePart_ pl (wpAny_bind (slicePart_ pu (wpAny_bind (wpAny_pure ?_)))))
  show wpAny _ _ (match Builtin.Slice.sliceAdjust none none (-1) (n : Int) with | (lo, hi) => pure (lo, (-1 : Int), Builtin.Slice.slicePlaces lo hi (-1))) _ _ s
  rw [adjust_rev n]
  show wpAny _ _ (pure ((n : Int) - 1, (-1 : Int), Builtin.Slice.slicePlaces ((n : Int) - 1) (-1) (-1))) _ _ s
  rw [places_rev]
  exact wpAny_pure h
theorem pick_rev (xs : Array Value) : ((List.range xs.size).filterMap fun (m : Nat) => xs[((xs.size : Int) - 1 + (m : Int) * -1).toNat]?).toArray = xs.toList.reverse.toArray := by
  have e : (fun (m : Nat) => xs[((xs.size : Int) - 1 + (m : Int) * -1).toNat]?) = (fun k => xs[k]?) ∘ fun k => xs.size - 1 - k := by
    funext m
    have : ((xs.size : Int) - 1 + (m : Int) * -1).toNat = xs.size - 1 - m := by omega
    show _ = xs[xs.size - 1 - m]?
    rw [this]
  rw [e, ← List.filterMap_map, PySem.W.krv_range, List.filterMap_reverse, PySem.W.krv_all]
theorem getItem_tuple_rev {t sl : Addr} {items : Array Value} {vl vu vs : Value} {Q : Value → Shared → Prop} (ht : IsTup s.heap t items) (hs : s.heap.IsSliceOf sl vl vu vs) (pl : IsPart vl none) (pu : IsPart vu none) (ps : IsPart vs (some (-1)))
    (h : Q (.ref s.heap.objs.size) { s with heap := s.heap.push { cls := .type "tuple", data := .seq items.toList.reverse.toArray } }) (hsz : items.size ≤ sizeLine) : wpAny (model prog w) A (getItem (.ref t) (.ref sl)) Q E s := by
  have htake : sizeOk (.seq items.toList.reverse.toArray) := by
    show items.toList.reverse.toArray.size ≤ sizeLine
    rw [List.size_toArray, List.length_reverse, Array.length_toList]
    exact hsz
  obtain ⟨os, hos, hcs, hds⟩ := id hs
  have hTs : s.TypeIs (.ref sl) "slice" := ⟨os, hos, hcs⟩
  unfold getItem
  try with_reducible refine wpAny_holding ?_
  first | refine wpAny_bind (wpAny_pure ?_) | skip
  refine wpAny_bind (wpAny_sequenceKey ht.typeIs (by decide) ?_)
  refine wpAny_bind (wpAny_callSpecial?_slot (name := Str.ofString "__getitem__") ht.typeIs PyProof.Rows.slot_tuple_getitem
    (wpAny_call_entry PyProof.Rows.slot_tuple_getitem ht.typeIs entry_tuple_getitem ?_ (args_tuple_getitem _ _)))
  show wpAny _ _ (Builtin.Tuple.tupleItemsOf (.ref t) >>= _) _ _ s
  refine wpAny_bind (tupleItemsOf_ ht ?_)
  refine wpAny_bind (wpAny_typeOf hTs ?_)
  rw [if_pos (by decide)]
  refine wpAny_bind (sliceApplied_rev hs pl pu ps ?_)
  have hno : ¬ ((((items.size : Int) - 1) == 0 && (-1 : Int) == 1 && items.size == items.size) = true) := by
    intro q
    rw [Bool.and_eq_true, Bool.and_eq_true] at q
    exact absurd q.1.2 (by decide)
  show wpAny _ _ (if (((items.size : Int) - 1) == 0 && (-1 : Int) == 1 && items.size == items.size) = true then _ else _) _ _ s
  rw [if_neg hno, pick_rev]
  first
    | exact wpAny_bind (m := Builtin.Tuple.tupleExact _) (wpAny_newObj_type (wpAny_pure ⟨_, rfl, wpAny_pure h⟩) htake)
    | exact wpAny_bind (m := Builtin.Tuple.tupleExact _) (wpAny_newObj_type (wpAny_bind (wpAny_pure (wpAny_pure ⟨_, rfl, wpAny_pure h⟩))) htake)
    | exact wpAny_bind (wpAny_bind (m := Builtin.Tuple.tupleExact _) (wpAny_newObj_type (wpAny_pure (wpAny_pure ⟨_, rfl, wpAny_pure h⟩)) htake))
    | exact wpAny_bind (wpAny_bind (m := Builtin.Tuple.tupleExact _) (wpAny_newObj_type (wpAny_pure ⟨_, rfl, wpAny_pure h⟩) htake))
end
end HT
namespace BR
open PySem PySem.Spec PyProof.Rows L2
def tRevT (K : PySem.W.Frag) (te : TE) : TE := fun σ H Q => te σ H fun x H1 => ∃ a xs, x = .ref a ∧ SqT K H1 a xs ∧ ∀ p, H1 p = none → Q (.ref p) (upd H1 p (.tup xs.reverse))
theorem pe_revT {X : Cx} {e : Expr} {te : TE} {k : Nat} {p1 p2 p3 pos : Pos} (he : PE X e te) : PE X (.Subscript e (.Slice none none (some (.UnaryOp .USub (.Constant (.int 1) k p1) p2)) p3) pos) (tRevT X.K te) := by
  refine ⟨fun pins s σ H Q I h => ?_⟩
  refine Subscript_ (thn (he.run pins s σ H _ I h) fun v s1 ⟨x, H1, I1, r1, q1⟩ => ?_)
  obtain ⟨a, xs, ex, hx, q⟩ := q1
  subst ex
  cases r1
  have hst : PO X (some (.UnaryOp .USub (.Constant (.int 1) k p1) p2)) (tPart (tUn (rU fun i => .int (-i)) (tC (.int 1)))) := po_some (pe_un un_neg pe_int)
  refine wpAny_Slice (thn (po_none.run pins s1 σ H1 (fun o H2 => o = none ∧ H2 = H1) I1 ⟨rfl, rfl⟩) fun vl s2 ⟨l, H2, I2, pl, el, e2⟩ => ?_)
  subst el e2
  refine thn (po_none.run pins s2 σ H2 (fun o H3 => o = none ∧ H3 = H2) I2 ⟨rfl, rfl⟩) fun vu s3 ⟨u, H3, I3, pu, eu, e3⟩ => ?_
  subst eu e3
  refine thn (hst.run pins s3 σ H3 (fun o H4 => o = some (-1) ∧ H4 = H3) I3 ⟨1, rfl, -1, rfl, rfl, rfl⟩) fun vs s4 ⟨o, H4, I4, ps, eo, e4⟩ => ?_
  subst eo e4
  have I5 : Inv X pins σ H4 { s4 with heap := s4.heap.push { cls := .type "slice", data := .fields #[vl, vu, vs] } } := I4.kept (t' := s4.toks) fun b ob q => Heap.get?_push_of_some _ q
  obtain ⟨its, r, ht, hz⟩ := I5.tuple hx
  have hlen := r.length
  show wpAny (model X.prog X.w) X.A (subscriptTail e (.Slice none none (some (.UnaryOp .USub (.Constant (.int 1) k p1) p2)) p3) (.ref a) (.ref s4.heap.objs.size)) (EP X pins σ Q) X.xe { s4 with heap := s4.heap.push { cls := .type "slice", data := .fields #[vl, vu, vs] } }
  refine tail_any (ops := [.ref a, .ref s4.heap.objs.size]) ht.typeIs (PyProof.Rows.slot_tuple_getitem.lookup) ?_ (by with_unfolding_all rfl)
  refine HT.getItem_tuple_rev ht (Heap.IsSliceOf.new _ vl vu vs) pl pu ps ?_ (by rw [List.size_toArray]; omega)
  refine ⟨.ref _, _, I5.laid (t' := s4.toks) (o := .tup xs.reverse) (fun b ob q => Heap.get?_push_of_some _ q) (Nat.le_refl _) ?_, rfl, q _ (I5.hok.fresh (Nat.le_refl _))⟩
  exact ⟨by rw [List.length_reverse]; exact hz, _, r.reverse, ⟨_, Heap.get?_push_size _ rfl, rfl, 0, rfl⟩⟩
theorem snd_rev {X : Cx} {W : WS} {H0 : Hp} {f : Env → R Vw} {a : Expr} {k : Nat} {p1 p2 p3 pos : Pos} (h : SndE X W H0 f a) : SndE X W H0 (fun ρ => (f ρ).bind gRev) (.Subscript a (.Slice none none (some (.UnaryOp .USub (.Constant (.int 1) k p1) p2)) p3) pos) := by
  intro ρ σ F H Q r dm sm p
  refine pe_ev (pe_revT pe_can) (h.thn r dm sm p fun w v F1 H1 e1 x1 d1 r1 s1 v1 p1 => ?_)
  have vp := v1.p
  unfold gRev at p1
  split at p1
  · rename_i ds e
    rw [e] at vp
    cases vp with
    | tup ht rl => exact ⟨_, _, rfl, ht, fun l n => p1.tup d1 n rl.reverse⟩
  · exact p1.elim
end BR
/-! ### enumerate(tuple) -/
namespace BR
open PySem PySem.Spec PyProof.Rows L2
theorem enum_newT (l : Addr) (items : Array Value) (n : Nat) (dct : Option Addr) (sl : Array (Option Value)) :
    Meets (Builtin.«enumerate.__new__» ⟨[.type "enumerate", .ref l], []⟩) (fun _ R s => s.heap.get? l = some { cls := .type "tuple", dict := dct, data := .seq items n, slots := sl } ∧
      R (.ok (.ret (.ref (s.heap.push { cls := .type "tuple_iterator", data := .fields #[.ref l, .int 0 0] }).objs.size)))
        { s with heap := (s.heap.push { cls := .type "tuple_iterator", data := .fields #[.ref l, .int 0 0] }).push { cls := .type "enumerate", data := .fields #[.none, .bool false, .ref s.heap.objs.size, rawInt 0, .none, .none] } }) :=
  .of_wp fun prog w A R s h => by
    obtain ⟨z1, z2, z3, z4, z5⟩ := s
    obtain ⟨ho, q⟩ := h
    have sb := sub_enumerate
    have T0 : Heap.IsTuple (Shared.heap ⟨z1, z2, z3, z4, z5⟩) l items := ⟨_, ho, rfl, n, rfl⟩
    wp_walk using AutoSeq1.wpAny_loadPart' ho
    refine wpAny_stack_any fun st => wpAny_pure ?_
    split
    · rename_i c _ _ _ _ _
      cases (c == Value.type "enumerate")
      · wp_walk using AutoSeq1.wpAny_loadPart' ho, wpAny_pyIter_tuple T0
        exact ⟨_, rfl, q⟩
      · wp_walk using AutoSeq1.wpAny_loadPart' ho, wpAny_pyIter_tuple T0
        exact ⟨_, rfl, q⟩
    · wp_walk using AutoSeq1.wpAny_loadPart' ho, wpAny_pyIter_tuple T0
      exact ⟨_, rfl, q⟩
section
variable {P : Program} {w : World} {A : Around} {E : Value → Shared → Prop} {s : Shared}
theorem call_enumT {l : Addr} {items : Array Value} {Q : Value → Shared → Prop} (hT : s.heap.IsTuple l items)
    (h : ∀ h', IsEnum h' (s.heap.objs.size + 1) s.heap.objs.size 0 .none → h'.IsTupleIter s.heap.objs.size l 0 → h'.objs.size = s.heap.objs.size + 2 → (∀ b o, s.heap.get? b = some o → h'.get? b = some o) → Q (.ref (s.heap.objs.size + 1)) { s with heap := h' }) :
    wpAny (model P w) A (call (.type "enumerate") [.ref l]) Q E s := by
  obtain ⟨⟨c, dct, dt, sl⟩, ho, e1, n, e2⟩ := hT
  dsimp only at e1 e2
  subst e1 e2
  refine callType_new F.called_enumerate (by decide) (F.typeCall_enumerate_1 _) (F.newCall_enumerate_1 _) (fun obj => F.args_object_init_2 obj _) F.entry_enumerate_new (enum_newT l items n dct sl) ⟨ho, ?_⟩
  have z1 : (s.heap.push { cls := .type "tuple_iterator", data := .fields #[.ref l, .int 0 0] }).objs.size = s.heap.objs.size + 1 := Heap.size_push ..
  show _ ∧ _
  rw [z1]
  have e0 := Heap.get?_push_size (s.heap.push { cls := .type "tuple_iterator", data := .fields #[.ref l, .int 0 0] }) (o := { cls := .type "enumerate", data := .fields #[.none, .bool false, .ref s.heap.objs.size, rawInt 0, .none, .none] }) rfl
  rw [z1] at e0
  exact ⟨⟨_, e0, rfl⟩, h _ e0 ⟨_, Heap.get?_push_of_some _ (Heap.get?_push_size _ rfl), rfl, rfl⟩ (by rw [Heap.size_push, z1]) fun b o x => Heap.get?_push_of_some _ (Heap.get?_push_of_some _ x)⟩
end
/-- the tuple at a, each item in a new pair -/
def IteT (K : PySem.W.Frag) (a : Addr) : It :=
  ⟨fun i H => ∃ (xs : List V) (x : V), SqT K H a xs ∧ xs[i]? = some x, fun i H v H' => ∃ t x, v = .ref t ∧ H t = none ∧ H' = upd H t (.tup [.int (i : Nat), x]) ∧ ∀ xs, SqT K H a xs → xs[i]? = some x, fun i H => ∃ xs : List V, SqT K H a xs ∧ xs.length ≤ i⟩
theorem turn_enumT {P : Program} {w : World} {K : PySem.W.Frag} {elts : List Expr} {kk : Nat} {tpos : Pos} (a e it : Addr) (hai : a ≠ it) (hea : e ≠ a) :
    Turn P w K (.Tuple elts kk tpos) (IteT K a) [e, it] e (fun i h => (∃ old, IsEnum h e it ((i : Nat) : Int) old) ∧ h.IsTupleIter it a i ∧ e ≠ it) where
  mem := by simp
  obj := fun i h st b hb => by
    obtain ⟨⟨old, h1⟩, ⟨o, h2, h3, h4⟩, _⟩ := st
    rcases (show b = e ∨ b = it by simpa using hb) with z | z
    · rw [z]; exact ⟨_, h1, fun v q => nomatch q⟩
    · rw [z]; exact ⟨o, h2, fun v q => by rw [h4] at q; cases q⟩
  keep := fun i h h' st k => by
    obtain ⟨⟨old, h1⟩, h2, h3⟩ := st
    exact ⟨⟨old, k e (by simp) _ h1⟩, h2.at fun o q => k it (by simp) o q, h3⟩
  item := by
    intro X hP hw hK hc i pins s σ H E I hf st hg
    subst hP hw hK
    obtain ⟨⟨old, h1⟩, h2, h3⟩ := st
    obtain ⟨xs, x, hq, hx⟩ := hg
    obtain ⟨its, rv, p, hz⟩ := I.tuple hq
    obtain ⟨u, hu, ru⟩ := rv.get hx
    have hil : i < its.toArray.size := by
      have := (List.getElem?_eq_some_iff.mp hu).1
      simpa using this
    have l1 : e < s.heap.objs.size := Heap.lt_size h1
    have l2 : it < s.heap.objs.size := by obtain ⟨_, q, _⟩ := h2; exact Heap.lt_size q
    refine wpAny_pyNext_enum_itemD (Draws.tuple (A := X.A.in1) (I.ok.hd hc) it a hai its.toArray) h1 ⟨h2, p⟩ hil h3 (by simp [h3, hea]) fun y h' tk hy ho hst hT hsz hk => ?_
    have ey : y = u := by
      have q : its[i]? = some y := by simpa using hy
      rw [hu] at q
      exact (Option.some.inj q).symm
    subst ey
    refine ⟨_, rfl, wpAny_letOwnedTupleGo_enum (s := { s with heap := h', toks := tk + 1 }) ho fun h'' he' sb => ?_⟩
    have hT2 : h''.get? s.heap.objs.size = some { cls := .type "tuple", data := .seq #[.int i tk, y] } := (sb.2 _ (Nat.ne_of_gt l1)).trans hT
    have new : ObjOk X.prog X.w (upd H s.heap.objs.size (.tup [.int (i : Nat), x])) h'' s.heap.objs.size (.tup [.int (i : Nat), x]) :=
      ⟨by show 2 ≤ sizeLine; decide, [.int i tk, y], .cons ⟨_, rfl⟩ (.cons ru .nil), ⟨_, hT2, rfl, _, rfl⟩⟩
    have I1 : Inv X pins σ (upd H s.heap.objs.size (.tup [.int (i : Nat), x])) { s with heap := h'', toks := tk + 1 } :=
      I.turnedNew (ch := [e, it]) (fun b ob hb q => (sb.2 b (fun z => hb (by simp [z]))).trans (hk b ob (fun z => hb (by simp [z])) (fun z => hb (by simp [z])) q)) hf (Nat.le_refl _) new
    refine ⟨.ref s.heap.objs.size, _, I1, rfl, ⟨_, x, rfl, I.hok.fresh (Nat.le_refl _), rfl, fun ys hy => by rw [I.tuple_inj hy hq]; exact hx⟩, ⟨⟨y, ?_⟩, hst.1.at fun o q => (sb.2 it (Ne.symm h3)).trans q, h3⟩, fun b hb => ?_⟩
    · have e1 : ((i + 1 : Nat) : Int) = (i : Int) + 1 := by omega
      rw [e1]; exact he'
    · have hb' : b < s.heap.objs.size := by
        rcases (show b = e ∨ b = it by simpa using hb) with z | z
        · rw [z]; exact l1
        · rw [z]; exact l2
      rw [upd_ne (Nat.ne_of_lt hb')]
      exact (hf b hb).1
  done := by
    intro X hP hw hK hc i pins s σ H E I hf st hg
    subst hP hw hK
    obtain ⟨⟨old, h1⟩, h2, h3⟩ := st
    obtain ⟨xs, hq, hx⟩ := hg
    obtain ⟨its, rv, p, hz⟩ := I.tuple hq
    obtain ⟨f0, f1, f2, f3, f4, f5⟩ := hf it (by simp)
    have hl := rv.length
    have hno : its.toArray[i]? = none := by simp; omega
    have D0 : Draws X.prog X.w X.A.in1 it [it, a] 0 (fun _ _ => False) (fun _ h => h.IsTupleIter it a i ∧ h.IsTuple a its.toArray) := {
      live := fun _ _ st => let ⟨o, ho, _⟩ := st.1; ⟨o, ho⟩
      frame := fun _ _ _ st hk => ⟨st.1.at fun o e => hk it (by simp) o e, st.2.at fun o e => hk a (by simp) o e⟩
      item := fun _ _ _ _ q => absurd q (Nat.not_lt_zero _)
      done := fun s Q E st hE => wpAny_nextOf_tuple_end (I.ok.hd hc) st.1 st.2 hno hE }
    refine wpAny_pyNext_enum_endD D0 h1 ⟨h2, p⟩ fun h' eb => ⟨rfl, I.turned (t' := s.toks) (fun b o hb q => eb b o hb q) f0 f1 f3 f4 f5⟩
  self := fun A i s Q E st h => let ⟨⟨_, h1⟩, _⟩ := st; wpAny_pyIter_enum h1 h
def iEnumT (K : PySem.W.Frag) (ta : TA) : TI := fun σ H R => ta σ H fun vs H1 => ∃ a xs, vs = [.ref a] ∧ SqT K H1 a xs ∧ R (IteT K a) H1
theorem pi_enumT {X : Cx} {e : Expr} {ta : TA} {p pos tpos : Pos} {elts : List Expr} {kk : Nat} (hg : Gl X "enumerate") (hm : X.mg "enumerate" = none) (ha : PA X [e] ta) (hs : starEach [e] X.env = [(false, eval e X.env)] := by rfl) :
    PI X (.Tuple elts kk tpos) (.Call (.Name "enumerate" p) [e] [] pos) (iEnumT X.K ta) := by
  refine ⟨fun pins s σ H R I h => ?_⟩
  refine Call_ (ld_blt I hg hm boot_enumerate (PyProof.Rows.callWith_type1 (thn (ha.run pos pins s σ H _ I h) fun us s1 ⟨vs, H1, I1, r1, q1⟩ => ?_) hs rfl))
  obtain ⟨a, xs, ex, hq, q⟩ := q1
  subst ex
  cases r1 with
  | cons r rr =>
    cases rr
    cases r
    obtain ⟨its, rv, p', hz⟩ := I1.tuple hq
    have la : a < s1.heap.objs.size := by obtain ⟨_, q, _⟩ := p'; exact Heap.lt_size q
    refine call_enumT p' fun h' he hit hsz hk => wpAny_pyIter_enum he ?_
    have I2 : Inv X pins σ H1 { s1 with heap := h' } := I1.kept (t' := s1.toks) hk
    refine ⟨s1.heap.objs.size + 1, [s1.heap.objs.size + 1, s1.heap.objs.size], _, _, H1, rfl, I2, turn_enumT a (s1.heap.objs.size + 1) s1.heap.objs.size (Nat.ne_of_lt la) (Nat.ne_of_gt (Nat.lt_succ_of_lt la)), ⟨⟨.none, he⟩, hit, Nat.succ_ne_self _⟩, fun b hb => ?_, q⟩
    have hle : s1.heap.objs.size ≤ b := by
      rcases (show b = s1.heap.objs.size + 1 ∨ b = s1.heap.objs.size by simpa using hb) with z | z
      · rw [z]; exact Nat.le_add_right _ _
      · rw [z]; exact Nat.le_refl _
    exact I1.fpOk hle (I1.hok.fresh hle)
end BR
namespace BR
open PySem PySem.Spec PyProof.Rows L2

section
variable {T : Tab} {k : Nat} {N : List Str} {X : Cx} {sc : Scope} {W : WS} {H0 : Hp}
/-! ### slices -/
def EoOk (X : Cx) (e : Option Expr) : TO := fun σ H Q => ∀ pins s, Inv X pins σ H s → wpAny (model X.prog X.w) X.A (evalPart e X.env) (fun u s' => ∃ o H', Inv X pins σ H' s' ∧ IsPart u o ∧ Q o H') X.xe s
theorem po_can {e : Option Expr} : PO X e (EoOk X e) := ⟨fun pins s σ H Q I h => h pins s I⟩
theorem po_ev {e : Option Expr} {t : TO} {σ : L2.St} {H : Hp} {Q : Option Int → Hp → Prop} (h : PO X e t) (q : t σ H Q) : EoOk X e σ H Q := fun pins s I => h.run pins s σ H Q I q
theorem evO_ok {ev : Expr → Env → R Vw} (h : ∀ e, SndE X W H0 (ev e) e) {Q : VK} {g : Option Int → R Vw} {Q1 : Option Int → Hp → Prop} (o : Option Expr) {ρ : Env} {σ : L2.St} {F : Addr → Prop} {H : Hp} (r : RepS X.K H0 F H σ ρ) (dm : Dom F H) (sm : Same H0 H)
    (p : Post X.K (fun c H => W c σ H) F H Q ((evO ev o ρ).bind g))
    (k : ∀ i F1 H1, Ext F H F1 H1 → Dom F1 H1 → RepS X.K H0 F1 H1 σ ρ → Same H0 H1 → Post X.K (fun c H => W c σ H) F1 H1 Q (g i) → Q1 i H1) : EoOk X o σ H Q1 := by
  cases o with
  | none => exact po_ev po_none (k none F H .refl dm r sm p)
  | some e =>
    have p : Post X.K (fun c H => W c σ H) F H Q ((ev e ρ).bind fun w => (match w.peek with | .int i => R.ok (some i) | _ => .stk).bind g) := by
      rw [← R.bind_assoc]
      exact p
    refine po_ev (po_some pe_can) ((h e).thn r dm sm p fun w v F1 H1 e1 x1 d1 r1 s1 v1 p1 => ?_)
    have vp := v1.p
    split at p1
    · rename_i i ei
      rw [ei] at vp
      cases vp
      exact ⟨i, rfl, k (some i) F1 H1 x1 d1 r1 s1 p1⟩
    · exact p1.elim
theorem snd_slice {ev : Expr → Env → R Vw} (h : ∀ e, SndE X W H0 (ev e) e) {a : Expr} {lo hi : Option Expr} {p2 pos : Pos} : SndE X W H0 (fun ρ => (ev a ρ).bind fun w => (evO ev lo ρ).bind fun l => (evO ev hi ρ).bind fun u => gSl w l u) (.Subscript a (.Slice lo hi none p2) pos) := by
  intro ρ σ F H Q r dm sm p
  refine pe_ev (pe_slice (sl_gSl (W := fun c H => W c σ H)) pe_can po_can po_can) ((h a).thn r dm sm p fun w v F1 H1 e1 x1 d1 r1 s1 v1 p1 => ?_)
  refine evO_ok h lo r1 d1 s1 p1 fun l F2 H2 x2 d2 r2 s2 p2 => ?_
  refine evO_ok h hi r2 d2 s2 p2 fun u F3 H3 x3 d3 r3 s3 p3 => ?_
  exact ⟨F3, w, d3, ⟨_, (v1.ext x2).ext x3⟩, p3⟩
/-! ### what is walked -/
def EiOk (X : Cx) (tg e : Expr) : TI := fun σ H R => ∀ pins s, Inv X pins σ H s → wpAny (model X.prog X.w) X.A (eval e X.env) (fun v s1 => wpAny (model X.prog X.w) X.A (pyIter v) (PIE X pins σ tg R) X.xe s1) X.xe s
theorem pi_can {tg e : Expr} : PI X tg e (EiOk X tg e) := ⟨fun pins s σ H R I h => h pins s I⟩
theorem pi_ev {tg e : Expr} {t : TI} {σ : L2.St} {H : Hp} {R : It → Hp → Prop} (h : PI X tg e t) (q : t σ H R) : EiOk X tg e σ H R := fun pins s I => h.run pins s σ H R I q
/-- later states in which the walked thing stands -/
def relI (kp : Bool) (F1 : Addr → Prop) (H1 : Hp) (F : Addr → Prop) (H : Hp) : Prop := match kp with
  | true => (∀ a, F1 a → F a) ∧ Kp F1 H1 H
  | false => Ext F1 H1 F H
theorem relI.kp {kp : Bool} {F1 F : Addr → Prop} {H1 H : Hp} (h : relI kp F1 H1 F H) : (∀ a, F1 a → F a) ∧ Kp F1 H1 H := by
  cases kp with
  | true => exact h
  | false => exact ⟨h.mono, .of h.same⟩
structure Wk (K : PySem.W.Frag) (rel : (Addr → Prop) → Hp → Prop) (J : It) (ds : List D) : Prop where
  go : ∀ i F H, rel F H → i < ds.length → J.go i H
  yld : ∀ i F H x H' d, rel F H → Dom F H → ds[i]? = some d → J.yld i H x H' → Ext F H F H' ∧ Rep K F H' x d
  stop : ∀ i F H, rel F H → ds.length ≤ i → J.stop i H
def PostI (K : PySem.W.Frag) (kp : Bool) (W : Str → Hp → Prop) (F : Addr → Prop) (H : Hp) (R1 : It → Hp → Prop) : R (List D) → Prop
  | .ok ds => ∀ J F' H', Ext F H F' H' → Dom F' H' → Wk K (relI kp F' H') J ds → R1 J H'
  | .exc c => ∀ F' H', Ext F H F' H' → Dom F' H' → W c H'
  | .stk => False
theorem PostI.ext {K : PySem.W.Frag} {kp : Bool} {W : Str → Hp → Prop} {F F' : Addr → Prop} {H H' : Hp} {R1 : It → Hp → Prop} {r : R (List D)} (p : PostI K kp W F H R1 r) (e : Ext F H F' H') : PostI K kp W F' H' R1 r := by
  cases r with
  | ok w => exact fun J F2 H2 e2 d2 h => p J F2 H2 (e.trans e2) d2 h
  | exc c => exact fun F2 H2 e2 d2 => p F2 H2 (e.trans e2) d2
  | stk => exact p
def SndI (X : Cx) (W : WS) (H0 : Hp) (kp : Bool) (tg : Expr) (f : Env → R (List D)) (e : Expr) : Prop :=
  ∀ ρ σ F H R1, RepS X.K H0 F H σ ρ → Dom F H → Same H0 H → PostI X.K kp (fun c H => W c σ H) F H R1 (f ρ) → EiOk X tg e σ H R1
theorem wk_list {K : PySem.W.Frag} {rel : (Addr → Prop) → Hp → Prop} {a : Addr} {xs : List V} {ds : List D} (h : ∀ F H, rel F H → SqL K H a xs ∧ RepL K F H xs ds) : Wk K rel (Itl K a) ds where
  go := fun i F H r hi => by
    obtain ⟨h1, h2⟩ := h F H r
    have hx : i < xs.length := by rw [h2.length]; exact hi
    exact ⟨xs, xs[i], h1, by simp [hx]⟩
  yld := fun i F H x H' d r dm hd y => by
    obtain ⟨h1, h2⟩ := h F H r
    obtain ⟨e, y⟩ := y
    subst e
    obtain ⟨v, e1, e2⟩ := h2.get hd
    have := y xs h1
    rw [e1] at this
    cases this
    exact ⟨.refl, e2⟩
  stop := fun i F H r hi => by
    obtain ⟨h1, h2⟩ := h F H r
    exact ⟨xs, h1, by rw [h2.length]; exact hi⟩
theorem wk_tup {K : PySem.W.Frag} {rel : (Addr → Prop) → Hp → Prop} {a : Addr} {xs : List V} {ds : List D} (h : ∀ F H, rel F H → SqT K H a xs ∧ RepL K F H xs ds) : Wk K rel (Itt K a) ds where
  go := fun i F H r hi => by
    obtain ⟨h1, h2⟩ := h F H r
    have hx : i < xs.length := by rw [h2.length]; exact hi
    exact ⟨xs, xs[i], h1, by simp [hx]⟩
  yld := fun i F H x H' d r dm hd y => by
    obtain ⟨h1, h2⟩ := h F H r
    obtain ⟨e, y⟩ := y
    subst e
    obtain ⟨v, e1, e2⟩ := h2.get hd
    have := y xs h1
    rw [e1] at this
    cases this
    exact ⟨.refl, e2⟩
  stop := fun i F H r hi => by
    obtain ⟨h1, h2⟩ := h F H r
    exact ⟨xs, h1, by rw [h2.length]; exact hi⟩
theorem SqT.kp {K : PySem.W.Frag} {F : Addr → Prop} {H H' : Hp} {a : Addr} {xs : List V} (h : SqT K H a xs) (s : Kp F H H') : SqT K H' a xs := by
  rcases h with (h | ⟨o, h⟩) | h
  · exact .inl (.inl (s.tup _ _ h))
  · exact .inl (.inr ⟨o, s.frz _ _ _ h⟩)
  · exact .inr h
theorem rgD_length (a b : Int) : (rgD a b).length = (b - a).toNat := by unfold rgD; rw [List.length_map, List.length_range]
theorem wk_range {K : PySem.W.Frag} {rel : (Addr → Prop) → Hp → Prop} (a b : Int) : Wk K rel (Itr a (b - a).toNat) (rgD a b) where
  go := fun i F H r hi => by rw [rgD_length] at hi; exact hi
  yld := fun i F H x H' d r dm hd y => by
    obtain ⟨e1, e2⟩ := y
    subst e1 e2
    unfold rgD at hd
    rw [List.getElem?_map] at hd
    obtain ⟨j, h1, h2⟩ := Option.map_eq_some_iff.mp hd
    have hj : j = i := by
      obtain ⟨h3, h4⟩ := List.getElem?_eq_some_iff.mp h1
      rw [List.getElem_range] at h4
      exact h4.symm
    subst h2 hj
    exact ⟨.refl, .int _⟩
  stop := fun i F H r hi => by rw [rgD_length] at hi; exact hi
theorem zipD_get {xs ys : List D} {i : Nat} {d : D} (h : (zipD xs ys)[i]? = some d) : ∃ x y, xs[i]? = some x ∧ ys[i]? = some y ∧ d = .tuple [x, y] := by
  unfold zipD at h
  rw [List.getElem?_map] at h
  obtain ⟨⟨x, y⟩, h1, h2⟩ := Option.map_eq_some_iff.mp h
  rw [List.getElem?_zip_eq_some] at h1
  exact ⟨x, y, h1.1, h1.2, h2.symm⟩
theorem wk_zipT {K : PySem.W.Frag} {rel : (Addr → Prop) → Hp → Prop} {a b : Addr} {xs ys : List V} {ds es : List D} (h : ∀ F H, rel F H → (SqT K H a xs ∧ RepL K F H xs ds) ∧ (SqT K H b ys ∧ RepL K F H ys es)) : Wk K rel (RZ.ItzT K a b) (zipD ds es) where
  go := fun i F H r hi => by
    obtain ⟨⟨h1, h2⟩, h3, h4⟩ := h F H r
    have hl : (zipD ds es).length = min ds.length es.length := by unfold zipD; rw [List.length_map, List.length_zip]
    rw [hl] at hi
    have hx : i < xs.length := by rw [h2.length]; omega
    have hy : i < ys.length := by rw [h4.length]; omega
    exact ⟨xs, ys, xs[i], ys[i], h1, h3, by simp [hx], by simp [hy]⟩
  yld := fun i F H x H' d r dm hd y => by
    obtain ⟨⟨h1, h2⟩, h3, h4⟩ := h F H r
    obtain ⟨t, u, v, e1, n, e2, y1, y2⟩ := y
    subst e1 e2
    obtain ⟨dx, dy, g1, g2, rfl⟩ := zipD_get hd
    obtain ⟨u', q1, r1⟩ := h2.get g1
    obtain ⟨v', q2, r2⟩ := h4.get g2
    have z1 := y1 xs h1
    have z2 := y2 ys h3
    rw [q1] at z1
    rw [q2] at z2
    cases z1; cases z2
    have e := Ext.upd (F := F) (o := .tup [u, v]) n
    exact ⟨e, .tup upd_same (.cons (r1.ext e) (.cons (r2.ext e) .nil))⟩
  stop := fun i F H r hi => by
    obtain ⟨⟨h1, h2⟩, h3, h4⟩ := h F H r
    have hl : (zipD ds es).length = min ds.length es.length := by unfold zipD; rw [List.length_map, List.length_zip]
    rw [hl] at hi
    refine ⟨xs, ys, h1, h3, ?_⟩
    rw [h2.length, h4.length]
    omega
theorem wk_zipL {K : PySem.W.Frag} {rel : (Addr → Prop) → Hp → Prop} {a b : Addr} {xs ys : List V} {ds es : List D} (h : ∀ F H, rel F H → (SqL K H a xs ∧ RepL K F H xs ds) ∧ (SqL K H b ys ∧ RepL K F H ys es)) : Wk K rel (Itz K a b) (zipD ds es) where
  go := fun i F H r hi => by
    obtain ⟨⟨h1, h2⟩, h3, h4⟩ := h F H r
    have hl : (zipD ds es).length = min ds.length es.length := by unfold zipD; rw [List.length_map, List.length_zip]
    rw [hl] at hi
    have hx : i < xs.length := by rw [h2.length]; omega
    have hy : i < ys.length := by rw [h4.length]; omega
    exact ⟨xs, ys, xs[i], ys[i], h1, h3, by simp [hx], by simp [hy]⟩
  yld := fun i F H x H' d r dm hd y => by
    obtain ⟨⟨h1, h2⟩, h3, h4⟩ := h F H r
    obtain ⟨t, u, v, e1, n, e2, y1, y2⟩ := y
    subst e1 e2
    obtain ⟨dx, dy, g1, g2, rfl⟩ := zipD_get hd
    obtain ⟨u', q1, r1⟩ := h2.get g1
    obtain ⟨v', q2, r2⟩ := h4.get g2
    have z1 := y1 xs h1
    have z2 := y2 ys h3
    rw [q1] at z1
    rw [q2] at z2
    cases z1; cases z2
    have e := Ext.upd (F := F) (o := .tup [u, v]) n
    exact ⟨e, .tup upd_same (.cons (r1.ext e) (.cons (r2.ext e) .nil))⟩
  stop := fun i F H r hi => by
    obtain ⟨⟨h1, h2⟩, h3, h4⟩ := h F H r
    have hl : (zipD ds es).length = min ds.length es.length := by unfold zipD; rw [List.length_map, List.length_zip]
    rw [hl] at hi
    refine ⟨xs, ys, h1, h3, ?_⟩
    rw [h2.length, h4.length]
    omega
theorem enumD_len (xs : List D) : (enumD xs).length = xs.length := by unfold enumD; rw [List.length_map, List.length_zipIdx]
theorem enumD_get {xs : List D} {i : Nat} {d : D} (h : (enumD xs)[i]? = some d) : ∃ x, xs[i]? = some x ∧ d = .tuple [.int (i : Nat), x] := by
  unfold enumD at h
  rw [List.getElem?_map] at h
  obtain ⟨⟨x, j⟩, h1, h2⟩ := Option.map_eq_some_iff.mp h
  rw [List.getElem?_zipIdx] at h1
  obtain ⟨y, h3, h4⟩ := Option.map_eq_some_iff.mp h1
  cases h4
  rw [Nat.zero_add] at h2
  exact ⟨x, h3, h2.symm⟩
theorem wk_enL {K : PySem.W.Frag} {rel : (Addr → Prop) → Hp → Prop} {a : Addr} {xs : List V} {ds : List D} (h : ∀ F H, rel F H → SqL K H a xs ∧ RepL K F H xs ds) : Wk K rel (Ite K a) (enumD ds) where
  go := fun i F H r hi => by
    obtain ⟨h1, h2⟩ := h F H r
    rw [enumD_len, ← h2.length] at hi
    exact ⟨xs, xs[i], h1, by simp [hi]⟩
  yld := fun i F H x H' d r dm hd y => by
    obtain ⟨h1, h2⟩ := h F H r
    obtain ⟨t, u, e1, n, e2, y1⟩ := y
    subst e1 e2
    obtain ⟨dx, g1, rfl⟩ := enumD_get hd
    obtain ⟨u', q1, r1⟩ := h2.get g1
    have z1 := y1 xs h1
    rw [q1] at z1
    cases z1
    have e := Ext.upd (F := F) (o := .tup [.int (i : Nat), u]) n
    exact ⟨e, .tup upd_same (.cons (.int _) (.cons (r1.ext e) .nil))⟩
  stop := fun i F H r hi => by
    obtain ⟨h1, h2⟩ := h F H r
    rw [enumD_len, ← h2.length] at hi
    exact ⟨xs, h1, hi⟩
theorem wk_enT {K : PySem.W.Frag} {rel : (Addr → Prop) → Hp → Prop} {a : Addr} {xs : List V} {ds : List D} (h : ∀ F H, rel F H → SqT K H a xs ∧ RepL K F H xs ds) : Wk K rel (IteT K a) (enumD ds) where
  go := fun i F H r hi => by
    obtain ⟨h1, h2⟩ := h F H r
    rw [enumD_len, ← h2.length] at hi
    exact ⟨xs, xs[i], h1, by simp [hi]⟩
  yld := fun i F H x H' d r dm hd y => by
    obtain ⟨h1, h2⟩ := h F H r
    obtain ⟨t, u, e1, n, e2, y1⟩ := y
    subst e1 e2
    obtain ⟨dx, g1, rfl⟩ := enumD_get hd
    obtain ⟨u', q1, r1⟩ := h2.get g1
    have z1 := y1 xs h1
    rw [q1] at z1
    cases z1
    have e := Ext.upd (F := F) (o := .tup [.int (i : Nat), u]) n
    exact ⟨e, .tup upd_same (.cons (.int _) (.cons (r1.ext e) .nil))⟩
  stop := fun i F H r hi => by
    obtain ⟨h1, h2⟩ := h F H r
    rw [enumD_len, ← h2.length] at hi
    exact ⟨xs, h1, hi⟩
theorem RepK.length {K : PySem.W.Frag} {F : Addr → Prop} {H : Hp} : ∀ {kvs : List (List Key × V)} {ds : List (D × D)}, RepK K F H kvs ds → kvs.length = ds.length
  | _, _, .nil => rfl
  | _, _, .cons _ r => by rw [List.length_cons, List.length_cons, r.length]
theorem RepK.key {K : PySem.W.Frag} {F : Addr → Prop} {H : Hp} : ∀ {kvs : List (List Key × V)} {ds : List (D × D)} {i : Nat} {d : D}, RepK K F H kvs ds → (ds.map (·.1))[i]? = some d → ∃ k v, kvs[i]? = some (toKey k, v) ∧ d = keyD k
  | _, _, _, _, .nil, e => by simp at e
  | _, _, 0, _, .cons (k := k) (v := v) h _, e => by simp at e; subst e; exact ⟨k, v, rfl, rfl⟩
  | _, _, i + 1, d, .cons _ r, e => by
    obtain ⟨k, v, h1, h2⟩ := RepK.key (i := i) (d := d) r (by simpa using e)
    exact ⟨k, v, by simpa using h1, h2⟩
/-- then an iterable -/
theorem SndE.thnI {f : Env → R Vw} {e : Expr} {kp : Bool} {g : Vw → R (List D)} {R1 : It → Hp → Prop} {Q1 : VK} {ρ : Env} {σ : L2.St} {F : Addr → Prop} {H : Hp} (h : SndE X W H0 f e) (r : RepS X.K H0 F H σ ρ) (dm : Dom F H) (sm : Same H0 H) (p : PostI X.K kp (fun c H => W c σ H) F H R1 ((f ρ).bind g))
    (k : ∀ w v F1 H1, f ρ = .ok w → Ext F H F1 H1 → Dom F1 H1 → RepS X.K H0 F1 H1 σ ρ → Same H0 H1 → VRep X.K F1 H H1 v w → PostI X.K kp (fun c H => W c σ H) F H R1 (g w) → Q1 v H1) : EvOk X e σ H Q1 := by
  refine h ρ σ F H Q1 r dm sm ?_
  cases q : f ρ with
  | ok w =>
    rw [q] at p
    exact fun v F1 H1 e1 d1 rv => k w v F1 H1 q e1 d1 (r.ext e1) (sm.trans e1.same) rv p
  | exc c => rw [q] at p; exact p
  | stk => rw [q] at p; exact p.elim
theorem relI.repL {K : PySem.W.Frag} {kp : Bool} {F1 F : Addr → Prop} {H1 H : Hp} {vs : List V} {ds : List D} (h : relI kp F1 H1 F H) (r : RepL K F1 H1 vs ds) : RepL K F H vs ds := r.mono h.kp.2 h.kp.1
/-- an expression that is walked -/
theorem sndI_val {f : Env → R Vw} {e tg : Expr} {kp : Bool} (h : SndE X W H0 f e) : SndI X W H0 kp tg (fun ρ => (f ρ).bind (itV kp)) e := by
  intro ρ σ F H R1 r dm sm p
  have p : PostI X.K kp (fun c H => W c σ H) F H R1 ((f ρ).bind (itV kp)) := p
  have lists : (∀ w, f ρ = .ok w → ∃ ds, itV kp w = .ok ds ∧ w.peek = .list ds ∧ ((w = .dt (.list ds)) ∨ w = .fl ds ∨ (kp = false ∧ w = .bl ds))) → EiOk X tg e σ H R1 := fun hw => by
    refine pi_ev (pi_list pe_can) (h.thnI r dm sm p fun w v F1 H1 e1 x1 d1 r1 s1 v1 p1 => ?_)
    obtain ⟨ds, e2, e3, e4⟩ := hw w e1
    rw [e2] at p1
    rcases e4 with rfl | rfl | ⟨rfl, rfl⟩
    · cases v1 with
      | lst hf rl =>
        refine ⟨_, rfl, ⟨_, hf.sq⟩, p1 _ F1 H1 x1 d1 (wk_list fun F2 H2 rel => ⟨(hf.mono rel.kp.2 rel.kp.1).sq, rel.repL rl⟩)⟩
    · obtain ⟨l, xs, rfl, hl, rl, n, nf⟩ := v1
      refine ⟨_, rfl, ⟨_, .inl (.inl hl)⟩, p1 _ (Fz F1 l) H1 (x1.fz n) (d1.fz (by rw [hl]; simp)) (wk_list fun F2 H2 rel => ⟨.inl (.inl (rel.kp.2.fz _ _ (.inr rfl) hl)), rel.repL (rl.mono Kp.refl fun _ q => .inl q)⟩)⟩
    · obtain ⟨l, xs, rfl, hl, rl⟩ := v1
      refine ⟨_, rfl, ⟨_, .inl (.inl hl)⟩, p1 _ F1 H1 x1 d1 (wk_list fun F2 H2 rel => ⟨.inl (.inl (Ext.same rel _ _ hl)), rl.ext rel⟩)⟩
  have tuples : (∀ w, f ρ = .ok w → ∃ ds, itV kp w = .ok ds ∧ w.peek = .tuple ds) → EiOk X tg e σ H R1 := fun hw => by
    refine pi_ev (pi_tup pe_can) (h.thnI r dm sm p fun w v F1 H1 e1 x1 d1 r1 s1 v1 p1 => ?_)
    obtain ⟨ds, e2, e3⟩ := hw w e1
    rw [e2] at p1
    have vp := v1.p
    rw [e3] at vp
    cases vp with
    | tup ht rl => exact ⟨_, rfl, ⟨_, ht⟩, p1 _ F1 H1 x1 d1 (wk_tup fun F2 H2 rel => ⟨SqT.kp ht rel.kp.2, rel.repL rl⟩)⟩
  have dicts : (∀ w, f ρ = .ok w → ∃ ds, itV kp w = .ok (ds.map (·.1)) ∧ w = .dt (.dict ds)) → EiOk X tg e σ H R1 := fun hw => by
    refine pi_ev (pi_keys pe_can) (h.thnI r dm sm p fun w v F1 H1 e1 x1 d1 r1 s1 v1 p1 => ?_)
    obtain ⟨ds, e2, rfl⟩ := hw w e1
    rw [e2] at p1
    cases v1 with
    | @dct a o kvs _ hd rk =>
      refine ⟨_, o, rfl, .inr ⟨kvs, hd, p1 _ F1 H1 x1 d1 ⟨fun i F2 H2 rel hi => ?_, fun i F2 H2 y H3 d rel d2 hd2 yy => ?_, fun i F2 H2 rel hi => ?_⟩⟩⟩
      · exact ⟨rel.kp.2.frz _ _ _ hd, by rw [rk.length]; rw [List.length_map] at hi; exact hi⟩
      · obtain ⟨e1, kk, v, q, g1, e2, g2⟩ := yy
        subst e1 e2
        obtain ⟨k', v', g3, e3⟩ := rk.key hd2
        rw [g1] at g3
        cases g3
        subst e3
        refine ⟨.refl, .tup g2 ?_⟩
        rw [toKey_kV]
        exact repL_ints k'
      · exact ⟨rel.kp.2.frz _ _ _ hd, by rw [rk.length]; rw [List.length_map] at hi; exact hi⟩
  cases q : f ρ with
  | exc c => exact lists fun w hw => by rw [q] at hw; cases hw
  | stk => rw [q] at p; exact p.elim
  | ok w =>
    rw [q] at p
    unfold itV at p
    have only : ∀ {P : Vw → Prop}, P w → ∀ w', f ρ = .ok w' → P w' := fun {P} h w' hw => by rw [q] at hw; cases hw; exact h
    cases w with
    | dt d =>
      cases d with
      | list xs => exact lists (only ⟨xs, rfl, rfl, .inl rfl⟩)
      | tuple xs => exact tuples (only ⟨xs, rfl, rfl⟩)
      | dict ds => exact dicts (only ⟨ds, rfl, rfl⟩)
      | _ => exact p.elim
    | kc d =>
      cases d with
      | tuple xs => exact tuples (only ⟨xs, rfl, rfl⟩)
      | _ => exact p.elim
    | fl xs => exact lists (only ⟨xs, rfl, rfl, .inr (.inl rfl)⟩)
    | bl xs =>
      cases kp with
      | true => exact p.elim
      | false => exact lists (only ⟨xs, rfl, rfl, .inr (.inr ⟨rfl, rfl⟩)⟩)
    | fd ks => exact p.elim
    | bd ks => exact p.elim
theorem int_of {K : PySem.W.Frag} {F : Addr → Prop} {H1 H : Hp} {v : V} {w : Vw} {i : Int} (h : VRep K F H1 H v w) (e : w.peek = .int i) : v = .int i := by
  have h := h.p
  rw [e] at h
  cases h
  rfl
theorem rgOk_of {i : Int} (h : rgOk i = true) : -(2 ^ 62) ≤ i ∧ i < 2 ^ 62 := by
  unfold rgOk at h
  have h1 : i.natAbs.log2 ≤ 28 := Nat.le_of_ble_eq_true h
  have h2 : i.natAbs < 2 ^ 29 := by
    by_cases z : i.natAbs = 0
    · rw [z]; exact Nat.two_pow_pos 29
    · exact (Nat.log2_lt z).mp (by omega)
  have e : (2 : Nat) ^ 29 = 536870912 := by decide
  omega
theorem postI_if {K : PySem.W.Frag} {kp : Bool} {W : Str → Hp → Prop} {F : Addr → Prop} {H : Hp} {R1 : It → Hp → Prop} {c : Prop} [Decidable c] {r : R (List D)} (p : PostI K kp W F H R1 (if c then r else .stk)) : c ∧ PostI K kp W F H R1 r := by
  by_cases h : c
  · rw [if_pos h] at p; exact ⟨h, p⟩
  · rw [if_neg h] at p; exact p.elim
theorem isBlt_of (x : XOk T k N X sc W) {n : Str} (h : isBlt T sc n = true) : Gl X n ∧ X.mg n = none ∧ (n == ("__debug__" : Str)) = false ∧ n ≠ "__name__" := by
  unfold isBlt at h
  rw [Bool.and_eq_true] at h
  obtain ⟨g1, g2, g3⟩ := isGlob_of h.1
  have h2 := h.2
  refine ⟨(show X.env.scope.names.lookup n = _ by rw [x.hsc]; exact g1), ?_, g2, g3⟩
  split at h2
  · rename_i e; exact x.tab _ _ e
  · cases h2
theorem itKind_rng {n : Str} (h : itKind T sc n = .rng) : isBlt T sc n = true ∧ n = "range" := by
  unfold itKind at h
  split at h
  · cases h
  · rename_i e
    split at h
    · rename_i e2; exact ⟨e, beq_iff_eq.mp e2⟩
    · split at h
      · cases h
      · split at h <;> cases h
theorem itKind_zp {n : Str} (h : itKind T sc n = .zp) : isBlt T sc n = true ∧ n = "zip" := by
  unfold itKind at h
  split at h
  · cases h
  · rename_i e
    split at h
    · cases h
    · split at h
      · rename_i e2; exact ⟨e, beq_iff_eq.mp e2⟩
      · split at h <;> cases h
theorem itKind_en {n : Str} (h : itKind T sc n = .en) : isBlt T sc n = true ∧ n = "enumerate" := by
  unfold itKind at h
  split at h
  · cases h
  · rename_i e
    split at h
    · cases h
    · split at h
      · cases h
      · split at h
        · rename_i e2; exact ⟨e, beq_iff_eq.mp e2⟩
        · cases h
theorem sndI_rng (x : XOk T k N X sc W) {ev : Expr → Env → R Vw} (h : ∀ e, SndE X W H0 (ev e) e) {kp : Bool} {tg : Expr} {pp pos : Pos} {args : List Expr} (hb : isBlt T sc "range" = true) : SndI X W H0 kp tg (evRng ev args) (.Call (.Name "range" pp) args [] pos) := by
  intro ρ σ F H R1 r dm sm p
  obtain ⟨gl, hm, _, _⟩ := isBlt_of x hb
  unfold evRng at p
  split at p
  · rename_i a
    split at p
    · exact p.elim
    · rename_i hs
      refine pi_ev (pi_range1 gl hm (pa_cons pe_can pa_nil (star_cons hs)) (star_cons hs)) ((h a).thnI r dm sm p fun w v F1 H1 e1 x1 d1 r1 s1 v1 p1 => ?_)
      split at p1
      · rename_i j ej
        obtain ⟨hj, p2⟩ := postI_if p1
        obtain ⟨b1, b2⟩ := rgOk_of hj
        rw [int_of v1 ej]
        refine ⟨j, rfl, b1, b2, ?_⟩
        have := p2 (Itr 0 j.toNat) F1 H1 x1 d1 (by have w := wk_range (K := X.K) (rel := relI kp F1 H1) 0 j; rw [Int.sub_zero] at w; exact w)
        exact this
      · exact p1.elim
  · rename_i a b
    split at p
    · rename_i hs hs2
      have p' : PostI X.K kp (fun c H => W c σ H) F H R1 ((ev a ρ).bind fun w => (ev b ρ).bind fun u => match w.peek, u.peek with
        | .int i, .int j => if rgOk i = true ∧ rgOk j = true then .ok (rgD i j) else .stk
        | _, _ => .stk) := p
      refine pi_ev (pi_range2 gl hm (pa_cons pe_can (pa_cons pe_can pa_nil (star_cons hs2)) (star_cons hs)) (by rw [star_cons hs, star_cons hs2]; rfl) (star_cons hs2)) ((h a).thnI r dm sm p' fun w v F1 H1 e1 x1 d1 r1 s1 v1 p1 => ?_)
      refine (h b).thnI r1 d1 s1 (p1.ext x1) fun u v2 F2 H2 e2 x2 d2 r2 s2 q2 p2 => ?_
      split at p2
      · rename_i i j ei ej
        obtain ⟨⟨hi, hj⟩, p3⟩ := postI_if p2
        obtain ⟨b1, b2⟩ := rgOk_of hi
        obtain ⟨b3, b4⟩ := rgOk_of hj
        rw [int_of v1 ei, int_of q2 ej]
        exact ⟨i, j, rfl, ⟨b1, b2, b3, b4⟩, p3 _ F2 H2 x2 d2 (wk_range i j)⟩
      · exact p2.elim
    · exact p.elim
  · exact p.elim
theorem tup_of {K : PySem.W.Frag} {F : Addr → Prop} {H : Hp} {v : V} {w : Vw} {ds : List D} (h : XR K F H v w) (e : w.peek = .tuple ds) : ∃ a xs, v = .ref a ∧ SqT K H a xs ∧ RepL K F H xs ds := by
  have h' := h.p
  rw [e] at h'
  cases h' with
  | tup ht r => exact ⟨_, _, rfl, ht, r⟩
theorem list_keep {K : PySem.W.Frag} {kp : Bool} {F1 : Addr → Prop} {H H1 : Hp} {w : Vw} {v : V} {ds : List D} (h : VRep K F1 H H1 v w) (e : sqV kp w = some (false, ds)) :
    ∃ a xs, v = .ref a ∧ SqL K H1 a xs ∧ ∀ F2 H2, relI kp (FzA F1 H H1) H1 F2 H2 → SqL K H2 a xs ∧ RepL K F2 H2 xs ds := by
  unfold sqV at e
  split at e
  · cases e
    cases h with
    | lst hf rl => exact ⟨_, _, rfl, hf.sq, fun F2 H2 rel => ⟨((hf.mono Kp.refl FzA.mono).mono rel.kp.2 rel.kp.1).sq, rel.repL (rl.mono Kp.refl FzA.mono)⟩⟩
  · cases e
  · cases e
  · cases e
    obtain ⟨l, xs, rfl, hl, rl, n, nf⟩ := h
    exact ⟨_, _, rfl, .inl (.inl hl), fun F2 H2 rel => ⟨.inl (.inl (rel.kp.2.fz _ _ (.inr ⟨n, by rw [hl]; simp⟩) hl)), rel.repL (rl.mono Kp.refl FzA.mono)⟩⟩
  · split at e
    · cases e
    · cases e
      obtain ⟨l, xs, rfl, hl, rl⟩ := h
      exact ⟨_, _, rfl, .inl (.inl hl), fun F2 H2 rel => ⟨.inl (.inl (Ext.same rel _ _ hl)), RepL.ext (rl.mono Kp.refl FzA.mono) rel⟩⟩
  · cases e
theorem tup_keep {K : PySem.W.Frag} {kp : Bool} {F1 : Addr → Prop} {H H1 : Hp} {w : Vw} {v : V} {ds : List D} (h : VRep K F1 H H1 v w) (e : w.peek = .tuple ds) :
    ∃ a xs, v = .ref a ∧ SqT K H1 a xs ∧ ∀ F2 H2, relI kp (FzA F1 H H1) H1 F2 H2 → SqT K H2 a xs ∧ RepL K F2 H2 xs ds := by
  obtain ⟨a, xs, e1, t, l⟩ := tup_of ⟨_, h⟩ e
  exact ⟨a, xs, e1, t, fun F2 H2 rel => ⟨SqT.kp t rel.kp.2, rel.repL (l.mono Kp.refl FzA.mono)⟩⟩
theorem sqV_tup {kp : Bool} {w : Vw} {ds : List D} (e : sqV kp w = some (true, ds)) : w.peek = .tuple ds := by
  unfold sqV at e
  split at e
  · cases e
  · cases e; rfl
  · cases e; rfl
  · cases e
  · split at e <;> cases e
  · cases e
theorem sndI_zip (x : XOk T k N X sc W) {ev : Expr → Env → R Vw} (h : ∀ e, SndE X W H0 (ev e) e) {kp : Bool} {tg : Expr} {pp pos : Pos} {args : List Expr} (hb : isBlt T sc "zip" = true) : SndI X W H0 kp tg (evZip kp ev tg args) (.Call (.Name "zip" pp) args [] pos) := by
  intro ρ σ F H R1 r dm sm p
  obtain ⟨gl, hm, _, _⟩ := isBlt_of x hb
  unfold evZip at p
  split at p
  · rename_i a b
    split at p
    · rename_i hs hs2
      refine pi_ev (RZ.pi_zipA gl hm (pa_cons pe_can (pa_cons pe_can pa_nil (star_cons hs2)) (star_cons hs)) (star_cons hs) (by rw [star_cons hs2]; rfl)) ((h a).thnI r dm sm p fun w v F1 H1 e1 x1 d1 r1 s1 v1 p1 => ?_)
      refine (h b).thnI r1 d1 s1 (p1.ext x1) fun u v2 F2 H2 e2 x2 d2 r2 s2 q2 _ => ?_
      have V1 : VRep X.K F2 H H2 v w := v1.ext x2
      have V2 : VRep X.K F2 H H2 v2 u := q2.back x1.same
      have p2 : PostI X.K kp (fun c H => W c σ H) F H R1 ((ev b ρ).bind fun u => zpE kp w u) := p1
      rw [e2] at p2
      have p2 : PostI X.K kp (fun c H => W c σ H) F H R1 (zpE kp w u) := p2
      have xx := FzA.ext (x1.trans x2)
      have dd := FzA.dom (H0 := H) d2
      unfold zpE at p2
      split at p2
      · rename_i i j ei ej
        obtain ⟨a1, xs, rfl, t1, k1⟩ := tup_keep (kp := kp) V1 ei
        obtain ⟨a2, ys, rfl, t2, k2⟩ := tup_keep (kp := kp) V2 ej
        exact ⟨a1, a2, xs, ys, rfl, .inr ⟨t1, t2, p2 _ _ H2 xx dd (wk_zipT fun F3 H3 rel => ⟨k1 F3 H3 rel, k2 F3 H3 rel⟩)⟩⟩
      · unfold zpL at p2
        split at p2
        · rename_i i j ei ej
          obtain ⟨a1, xs, rfl, t1, k1⟩ := list_keep V1 ei
          obtain ⟨a2, ys, rfl, t2, k2⟩ := list_keep V2 ej
          exact ⟨a1, a2, xs, ys, rfl, .inl ⟨t1, t2, p2 _ _ H2 xx dd (wk_zipL fun F3 H3 rel => ⟨k1 F3 H3 rel, k2 F3 H3 rel⟩)⟩⟩
        · exact p2.elim
    · exact p.elim
  · exact p.elim
theorem sndI_enum (x : XOk T k N X sc W) {ev : Expr → Env → R Vw} (h : ∀ e, SndE X W H0 (ev e) e) {kp : Bool} {tg : Expr} {pp pos : Pos} {args : List Expr} (hb : isBlt T sc "enumerate" = true) : SndI X W H0 kp tg (evEnum kp ev tg args) (.Call (.Name "enumerate" pp) args [] pos) := by
  intro ρ σ F H R1 r dm sm p
  obtain ⟨gl, hm, _, _⟩ := isBlt_of x hb
  unfold evEnum at p
  split at p
  · rename_i a
    split at p
    · rename_i ts k2 p3 hs
      have lists : (∀ w, ev a ρ = .ok w → ∃ ds, sqV kp w = some (false, ds)) → EiOk X (.Tuple ts k2 p3) (.Call (.Name "enumerate" pp) [a] [] pos) σ H R1 := fun hw => by
        refine pi_ev (pi_enum gl hm (pa_cons pe_can pa_nil (star_cons hs)) (star_cons hs)) ((h a).thnI r dm sm p fun w v F1 H1 e1 x1 d1 r1 s1 v1 p1 => ?_)
        obtain ⟨ds, ed⟩ := hw w e1
        unfold enV at p1
        rw [ed] at p1
        obtain ⟨a1, xs, rfl, t1, k1⟩ := list_keep v1 ed
        exact ⟨a1, xs, rfl, t1, p1 _ _ H1 (FzA.ext x1) (FzA.dom d1) (wk_enL fun F3 H3 rel => k1 F3 H3 rel)⟩
      have tuples : (∀ w, ev a ρ = .ok w → ∃ ds, sqV kp w = some (true, ds)) → EiOk X (.Tuple ts k2 p3) (.Call (.Name "enumerate" pp) [a] [] pos) σ H R1 := fun hw => by
        refine pi_ev (pi_enumT gl hm (pa_cons pe_can pa_nil (star_cons hs)) (star_cons hs)) ((h a).thnI r dm sm p fun w v F1 H1 e1 x1 d1 r1 s1 v1 p1 => ?_)
        obtain ⟨ds, ed⟩ := hw w e1
        unfold enV at p1
        rw [ed] at p1
        obtain ⟨a1, xs, rfl, t1, k1⟩ := tup_keep (kp := kp) v1 (sqV_tup ed)
        exact ⟨a1, xs, rfl, t1, p1 _ _ H1 (FzA.ext x1) (FzA.dom d1) (wk_enT fun F3 H3 rel => k1 F3 H3 rel)⟩
      cases q : ev a ρ with
      | exc c => exact lists fun w hw => by rw [q] at hw; cases hw
      | stk => rw [q] at p; exact p.elim
      | ok w =>
        have p' := p
        rw [q] at p'
        have p' : PostI X.K kp (fun c H => W c σ H) F H R1 (enV kp w) := p'
        unfold enV at p'
        split at p'
        · rename_i b ds ed
          cases b with
          | false => exact lists fun w' hw => by rw [q] at hw; cases hw; exact ⟨ds, ed⟩
          | true => exact tuples fun w' hw => by rw [q] at hw; cases hw; exact ⟨ds, ed⟩
        · exact p'.elim
    · exact p.elim
  · exact p.elim
theorem sndI_ok (x : XOk T k N X sc W) {ev : Expr → Env → R Vw} (h : ∀ e, SndE X W H0 (ev e) e) {kp : Bool} {tg : Expr} (e : Expr) : SndI X W H0 kp tg (evIt kp T sc ev tg e) e := by
  unfold evIt
  split
  · exact fun ρ σ F H R1 r dm sm p => p.elim
  · split
    · rename_i q
      obtain ⟨h1, h2⟩ := itKind_rng q
      subst h2
      exact sndI_rng x h h1
    · rename_i q
      obtain ⟨h1, h2⟩ := itKind_zp q
      subst h2
      exact sndI_zip x h h1
    · rename_i q
      obtain ⟨h1, h2⟩ := itKind_en q
      subst h2
      exact sndI_enum x h h1
    · exact sndI_val (h _)
  · exact sndI_val (h _)
end
end BR
namespace BR
open PySem PySem.Spec PyProof.Rows L2

/-! ### targets -/
def EgOk (X : Cx) (tg : Expr) : TG := fun v σ H Q => ∀ pins s u, Inv X pins σ H s → RelV v u → wpAny (model X.prog X.w) X.A (assign tg X.env u) (fun _ s' => ∃ σ' H', Inv X pins σ' H' s' ∧ Q σ' H') X.xe s
theorem pg_can {X : Cx} {tg : Expr} : PG X tg (EgOk X tg) := ⟨fun pins s σ H v u Q I r h => h pins s u I r⟩
theorem pg_ev {X : Cx} {tg : Expr} {t : TG} {v : V} {σ : L2.St} {H : Hp} {Q : L2.St → Hp → Prop} (h : PG X tg t) (q : t v σ H Q) : EgOk X tg v σ H Q := fun pins s u I r => h.run pins s σ H v u Q I r q
def EgsOk (X : Cx) (ts : List Expr) : TGs := fun vs σ H Q => ∀ pins s us, Inv X pins σ H s → Vals vs us → wpAny (model X.prog X.w) X.A (assignInOrder ((assignEach ts X.env).map (·.2)) us) (fun _ s' => ∃ σ' H', Inv X pins σ' H' s' ∧ Q σ' H') X.xe s
theorem pgs_can {X : Cx} {ts : List Expr} : PGs X ts (EgsOk X ts) := ⟨fun pins s σ H v u Q I r h => h pins s u I r⟩
theorem pgs_ev {X : Cx} {ts : List Expr} {t : TGs} {v : List V} {σ : L2.St} {H : Hp} {Q : L2.St → Hp → Prop} (h : PGs X ts t) (q : t v σ H Q) : EgsOk X ts v σ H Q := fun pins s u I r => h.run pins s σ H v u Q I r q
/-- where the names of sc0 may be stored -/
structure StOk (N : List Str) (X : Cx) (sc0 : Scope) : Prop where
  hN : X.N = N
  nd : X.N.Nodup
  loc : ∀ x, sc0.names.lookup x = some .local → Loc X.env.scope x ∧ (X.fn x = true ∨ X.env.scope.names.lookup x = some .local)
  cel : ∀ x, sc0.names.lookup x = some .cell → Loc X.env.scope x ∧ (X.fn x = true ∨ X.env.scope.names.lookup x = some .local)
/-- the targets' slots are among vs -/
def tgIn1 (N : List Str) (vs : List Nat) : Expr → Bool
  | .Name x _ => (match idx N x with | some i => vs.contains i | none => false)
  | _ => false
def tgIn (N : List Str) (vs : List Nat) : Expr → Bool
  | .Name x p => tgIn1 N vs (.Name x p)
  | .Tuple ts _ _ => ts.all (tgIn1 N vs)
  | _ => false
theorem tgOwn_in {N : List Str} {own : List (Str × Nat)} {tg : Expr} (h : tgOwn N own tg = true) : tgIn N (own.map (·.2)) tg = true := by
  unfold tgOwn at h
  split at h
  · exact h
  · unfold tgIn
    rw [List.all_eq_true] at h ⊢
    intro t ht
    have := h t ht
    unfold tgIn1
    exact this
  · cases h
theorem wipe_set {σ : L2.St} {i : Nat} {o : Option V} : ∀ {vs : List Nat}, i ∈ vs → L2.wipe (σ.set i o) vs = L2.wipe σ vs
  | [], h => nomatch h
  | v :: vs, h => by
    unfold L2.wipe
    by_cases e : v = i
    · subst e
      have : ∀ ws : List Nat, (L2.wipe (σ.set v o) ws).set v none = (L2.wipe σ ws).set v none := by
        intro ws
        induction ws with
        | nil => show (σ.set v o).set v none = σ.set v none; rw [List.set_set]
        | cons w ws ih =>
          unfold L2.wipe
          by_cases e2 : w = v
          · subst e2; rw [List.set_set, List.set_set, ih]
          · rw [List.set_comm _ _ e2, List.set_comm _ _ e2, ih]
      exact this vs
    · rw [wipe_set ((List.mem_cons.mp h).resolve_left (Ne.symm e))]
section
variable {N : List Str} {X : Cx} {sc0 : Scope} {H0 : Hp}
theorem asgN_ok (x : StOk N X sc0) {t : Expr} {w : Vw} {ρ ρ' : Env} (e : asgN N sc0 t w ρ = .ok ρ') : ∃ i s, slOf w = .ok s ∧ ρ' = ρ.set i s ∧ PG X t (gName i) ∧ ∀ vs, tgIn1 N vs t = true → i ∈ vs := by
  unfold asgN at e
  split at e
  · rename_i n p
    obtain ⟨s, e1, e⟩ := bind_ok e
    split at e
    · rename_i i h1 h2
      cases e
      refine ⟨i, s, e1, rfl, pg_name x.nd (by rw [x.hN]; exact idx_get h2) (x.loc n h1).1 (x.loc n h1).2, fun vs h => ?_⟩
      unfold tgIn1 at h
      dsimp only at h
      rw [h2] at h
      exact List.contains_iff_mem.mp h
    · rename_i i h1 h2
      cases e
      refine ⟨i, s, e1, rfl, pg_name x.nd (by rw [x.hN]; exact idx_get h2) (x.cel n h1).1 (x.cel n h1).2, fun vs h => ?_⟩
      unfold tgIn1 at h
      dsimp only at h
      rw [h2] at h
      exact List.contains_iff_mem.mp h
    · cases e
  · cases e
/-- names, from data -/
theorem asgNs_ok (x : StOk N X sc0) : ∀ {ts : List Expr} {ds : List D} {vs : List V} {ρ ρ' : Env} {σ : L2.St} {F : Addr → Prop} {H : Hp} {Q : L2.St → Hp → Prop}, asgNs N sc0 ts (ds.map .dt) ρ = .ok ρ' → RepS X.K H0 F H σ ρ → RepL X.K F H vs ds → Same H0 H →
    (∀ σ', RepS X.K H0 F H σ' ρ' → (∀ js, ts.all (tgIn1 N js) = true → L2.wipe σ' js = L2.wipe σ js) → Q σ' H) → EgsOk X ts vs σ H Q ∧ (assignEach ts X.env).length = ts.length ∧ ds.length = ts.length ∧ (assignEach ts X.env).findIdx? (·.1) = none
  | [], [], vs, ρ, ρ', σ, F, H, Q, e, r, rl, sm, k => by
    cases e
    cases rl
    exact ⟨pgs_ev pgs_nil ⟨rfl, k σ r fun _ _ => rfl⟩, rfl, rfl, rfl⟩
  | [], _ :: _, vs, ρ, ρ', σ, F, H, Q, e, r, rl, sm, k => by cases e
  | _ :: _, [], vs, ρ, ρ', σ, F, H, Q, e, r, rl, sm, k => by cases e
  | t :: ts, d :: ds, vs, ρ, ρ', σ, F, H, Q, e, r, rl, sm, k => by
    rw [List.map_cons] at e
    unfold asgNs at e
    obtain ⟨ρ1, e1, e2⟩ := bind_ok e
    obtain ⟨i, s, es, rfl, pg, ji⟩ := asgN_ok x e1
    have ht : ∃ n p, t = .Name n p := by
      unfold asgN at e1
      split at e1
      · exact ⟨_, _, rfl⟩
      · cases e1
    obtain ⟨n, p, rfl⟩ := ht
    cases rl with
    | @cons v vs' _ _ h1 h2 =>
      have r1 := RepS.put (i := i) (v := v) (w := .dt d) r r sm es h1
      have ih := fun Q k => asgNs_ok (Q := Q) x e2 r1 h2 sm k
      obtain ⟨_, l1, l2, l3⟩ := ih (fun _ _ => True) fun _ _ _ => trivial
      refine ⟨pgs_ev (pgs_cons pg pgs_can rfl) ⟨v, vs', rfl, (ih Q fun σ' r' hw => k σ' r' fun js hj => ?_).1⟩, ?_, ?_, ?_⟩
      · rw [List.all_cons, Bool.and_eq_true] at hj
        rw [hw js hj.2]
        exact wipe_set (ji js hj.1)
      · show (assignEach ts X.env).length + 1 = ts.length + 1
        rw [l1]
      · rw [List.length_cons, List.length_cons, l2]
      · show ((false, assign (.Name n p) X.env) :: assignEach ts X.env).findIdx? (·.1) = none
        rw [List.findIdx?_cons, l3]
        rfl
theorem asg_ok (x : StOk N X sc0) (hc : X.calm = true) {tg : Expr} {d : D} {ρ ρ' : Env} {v : V} {σ : L2.St} {F : Addr → Prop} {H : Hp} {Q : L2.St → Hp → Prop} (e : asg N sc0 tg (.dt d) ρ = .ok ρ') (r : RepS X.K H0 F H σ ρ) (rv : Rep X.K F H v d) (sm : Same H0 H)
    (k : ∀ σ', RepS X.K H0 F H σ' ρ' → (∀ js, tgIn N js tg = true → L2.wipe σ' js = L2.wipe σ js) → Q σ' H) : EgOk X tg v σ H Q := by
  unfold asg at e
  split at e
  · split at e
    · rename_i ts j p _ ds hw
      cases hw
      cases rv with
      | tup ht rl =>
        obtain ⟨h1, h2, h3, h4⟩ := asgNs_ok (Q := Q) x e r rl sm fun σ' r' hw => k σ' r' fun js hj => hw js hj
        exact pg_ev (pg_tup hc pgs_can rfl h4) ⟨_, _, rfl, .inl (.inl ht), by rw [h2, rl.length, h3], h1⟩
    · cases e
  · obtain ⟨i, s, es, rfl, pg, ji⟩ := asgN_ok x e
    exact pg_ev pg (k _ (RepS.put (i := i) (v := v) (w := .dt d) r r sm es rv) fun js hj => wipe_set (ji js hj))
  · cases e
/-- the same, for later heaps too -/
theorem asgNs_tr (x : StOk N X sc0) : ∀ {ts : List Expr} {ds : List D} {vs : List V} {ρ ρ' : Env} {σ : L2.St} {F : Addr → Prop} {H : Hp} {Q : L2.St → Hp → Prop}, asgNs N sc0 ts (ds.map .dt) ρ = .ok ρ' → RepL X.K F H vs ds →
    (∀ σ', (∀ F2 H2, RepS X.K H0 F2 H2 σ ρ → RepL X.K F2 H2 vs ds → Same H0 H2 → RepS X.K H0 F2 H2 σ' ρ') → (∀ js, ts.all (tgIn1 N js) = true → L2.wipe σ' js = L2.wipe σ js) → Q σ' H) → EgsOk X ts vs σ H Q ∧ (assignEach ts X.env).length = ts.length ∧ ds.length = ts.length ∧ (assignEach ts X.env).findIdx? (·.1) = none
  | [], [], vs, ρ, ρ', σ, F, H, Q, e, rl, k => by
    cases e
    cases rl
    exact ⟨pgs_ev pgs_nil ⟨rfl, k σ (fun _ _ r _ _ => r) fun _ _ => rfl⟩, rfl, rfl, rfl⟩
  | [], _ :: _, vs, ρ, ρ', σ, F, H, Q, e, rl, k => by cases e
  | _ :: _, [], vs, ρ, ρ', σ, F, H, Q, e, rl, k => by cases e
  | t :: ts, d :: ds, vs, ρ, ρ', σ, F, H, Q, e, rl, k => by
    rw [List.map_cons] at e
    unfold asgNs at e
    obtain ⟨ρ1, e1, e2⟩ := bind_ok e
    obtain ⟨i, s, es, rfl, pg, ji⟩ := asgN_ok x e1
    have ht : ∃ n p, t = .Name n p := by
      unfold asgN at e1
      split at e1
      · exact ⟨_, _, rfl⟩
      · cases e1
    obtain ⟨n, p, rfl⟩ := ht
    cases rl with
    | @cons v vs' _ _ h1 h2 =>
      have ih := fun Q k => asgNs_tr (Q := Q) (σ := σ.set i (some v)) x e2 h2 k
      obtain ⟨_, l1, l2, l3⟩ := ih (fun _ _ => True) fun _ _ _ => trivial
      refine ⟨pgs_ev (pgs_cons pg pgs_can rfl) ⟨v, vs', rfl, (ih Q fun σ' tr hw => k σ' (fun F2 H2 r2 rl2 sm2 => ?_) fun js hj => ?_).1⟩, ?_, ?_, ?_⟩
      · cases rl2 with
        | cons g1 g2 => exact tr F2 H2 (RepS.put (i := i) (v := v) (w := .dt d) r2 r2 sm2 es g1) g2 sm2
      · rw [List.all_cons, Bool.and_eq_true] at hj
        rw [hw js hj.2]
        exact wipe_set (ji js hj.1)
      · show (assignEach ts X.env).length + 1 = ts.length + 1
        rw [l1]
      · rw [List.length_cons, List.length_cons, l2]
      · show ((false, assign (.Name n p) X.env) :: assignEach ts X.env).findIdx? (·.1) = none
        rw [List.findIdx?_cons, l3]
        rfl
theorem asg_tr (x : StOk N X sc0) (hc : X.calm = true) {tg : Expr} {d : D} {ρ ρ' : Env} {v : V} {σ : L2.St} {F : Addr → Prop} {H : Hp} {Q : L2.St → Hp → Prop} (e : asg N sc0 tg (.dt d) ρ = .ok ρ') (rv : Rep X.K F H v d)
    (k : ∀ σ', (∀ F2 H2, (∀ a, F a → F2 a) → Kp F H H2 → RepS X.K H0 F2 H2 σ ρ → Same H0 H2 → RepS X.K H0 F2 H2 σ' ρ') → (∀ js, tgIn N js tg = true → L2.wipe σ' js = L2.wipe σ js) → Q σ' H) : EgOk X tg v σ H Q := by
  unfold asg at e
  split at e
  · split at e
    · rename_i ts j p _ ds hw
      cases hw
      cases rv with
      | tup ht rl =>
        obtain ⟨h1, h2, h3, h4⟩ := asgNs_tr (H0 := H0) (Q := Q) x e rl fun σ' tr hw => k σ' (fun F2 H2 m kp r2 sm2 => tr F2 H2 r2 (rl.mono kp m) sm2) fun js hj => hw js hj
        exact pg_ev (pg_tup hc pgs_can rfl h4) ⟨_, _, rfl, .inl (.inl ht), by rw [h2, rl.length, h3], h1⟩
    · cases e
  · obtain ⟨i, s, es, rfl, pg, ji⟩ := asgN_ok x e
    exact pg_ev pg (k _ (fun F2 H2 m kp r2 sm2 => RepS.put (i := i) (v := v) (w := .dt d) r2 r2 sm2 es (Rep.mono kp m rv)) fun js hj => wipe_set (ji js hj))
  · cases e
end

/-! ### comprehensions -/
section
variable {T : Tab} {k : Nat} {N : List Str} {X : Cx} {sc : Scope} {W : WS} {H0 : Hp}
/-- the block's context -/
abbrev blkX (X : Cx) (scope : Scope) (s : Shared) (H : Hp) (C : Addr) (cl : List (Str × Addr)) (fp : List Addr) : Cx := X.blk s H scope (compEnvC scope cl C X.env) fp
theorem XOk.blk (x : XOk T k N X sc W) (scope : Scope) (s : Shared) (H : Hp) (C : Addr) (cl : List (Str × Addr)) (fp : List Addr) : XOk T k N (blkX X scope s H C cl fp) (relS scope sc) (fun _ _ _ => False) where
  hN := x.hN
  nd := x.nd
  hsc := by
    show relS scope X.env.scope = relS scope sc
    rw [x.hsc]
  calm := x.calm
  room := x.room
  tab := x.tab
  takes := fun u s' h => by
    obtain ⟨_, _, _, _, _, _, _, _, _, _, _, _, _, _, _, _, z⟩ := h
    obtain ⟨_, _, _, _, _, z⟩ := z
    exact z
theorem XOk.blkSt (x : XOk T k N X sc W) (scope : Scope) (s : Shared) (H : Hp) (C : Addr) (cl : List (Str × Addr)) (fp : List Addr) : StOk N (blkX X scope s H C cl fp) scope where
  hN := x.hN
  nd := x.nd
  loc := fun n h => by
    have : (relS scope X.env.scope).names.lookup n = some .local := lookup_relS_keep (by decide) h
    exact ⟨.inl this, .inr this⟩
  cel := fun n h => by
    have : (relS scope X.env.scope).names.lookup n = some .cell := lookup_relS_keep (by decide) h
    exact ⟨.inr this, .inl (by show (scope.names.lookup n == some .cell) = true; rw [h]; rfl)⟩
theorem wB_ok {α : Type} {r : R α} {a : α} (h : wB r = .ok a) : r = .ok a := by
  cases r <;> cases h <;> rfl
theorem wB_noexc {α : Type} {r : R α} {c : Str} : wB r ≠ .exc c := by
  cases r <;> exact fun h => nomatch h
theorem lcL_noexc {f : D → R (Option D)} (h : ∀ x c, f x ≠ .exc c) : ∀ (xs : List D) (c : Str), lcL f xs ≠ .exc c
  | [], c, e => nomatch e
  | x :: xs, c, e => by
    unfold lcL at e
    cases q : f x with
    | exc c' => exact h x c' q
    | stk => rw [q] at e; cases e
    | ok o =>
      rw [q] at e
      cases q2 : lcL f xs with
      | exc c' => exact lcL_noexc h xs c' q2
      | stk => rw [q2] at e; cases e
      | ok ys => rw [q2] at e; cases e
theorem wipe_wipe {σ : L2.St} : ∀ {vs : List Nat}, L2.wipe (L2.wipe σ vs) vs = L2.wipe σ vs := by
  intro vs
  have gen : ∀ (ws us : List Nat), (∀ i ∈ us, i ∈ ws) → L2.wipe (L2.wipe σ us) ws = L2.wipe σ ws := by
    intro ws us
    induction us with
    | nil => intro _; rfl
    | cons u us ih =>
      intro h
      show L2.wipe ((L2.wipe σ us).set u none) ws = L2.wipe σ ws
      rw [wipe_set (h u List.mem_cons_self)]
      exact ih fun i hi => h i (List.mem_cons_of_mem _ hi)
  exact gen vs vs fun _ h => h
/-- the tests of a clause -/
theorem ifs_ok {et : Expr → Env → R Bool} (h : ∀ e, SndT X W H0 (et e) e) {ifs : List Expr} {ρ : Env} {b : Bool} (e : evIfs et ifs ρ = .ok b) : (ifs = [] ∧ b = true) ∨ ∃ c, ifs = [c] ∧ et c ρ = .ok b := by
  unfold evIfs at e
  split at e
  · cases e; exact .inl ⟨rfl, rfl⟩
  · exact .inr ⟨_, rfl, e⟩
  · cases e
theorem upd_kp {F : Addr → Prop} {H : Hp} {l : Addr} {xs ys : List V} (h : H l = some (.lst xs)) (nf : ¬ F l) : Kp F H (upd H l (.lst ys)) where
  fz := fun a o f e => by rw [upd_ne (fun z => nf (by rw [← z]; exact f))]; exact e
  tup := fun a o e => by rw [upd_ne (fun z => by rw [z, h] at e; cases e)]; exact e
  frz := fun a o u e => by rw [upd_ne (fun z => by rw [z, h] at e; cases e)]; exact e
def teB (X : Cx) (scope : Scope) (elt : Expr) : TE := fun σ H Q => ∀ s H' C cl fp, EvOk (blkX X scope s H' C cl fp) elt σ H Q
def tgB (X : Cx) (scope : Scope) (tg : Expr) : TG := fun v σ H Q => ∀ s H' C cl fp, EgOk (blkX X scope s H' C cl fp) tg v σ H Q
def ttB (X : Cx) (scope : Scope) : List Expr → TT
  | [] => tYes
  | [c] => fun σ H Q => ∀ s H' C cl fp, EtOk (blkX X scope s H' C cl fp) c σ H Q
  | _ :: _ :: _ => fun _ _ _ => False
theorem pts_B {scope : Scope} {s : Shared} {H' : Hp} {C : Addr} {cl : List (Str × Addr)} {fp : List Addr} : ∀ ifs : List Expr, PTs (blkX X scope s H' C cl fp) ifs (ttB X scope ifs)
  | [] => pts_nil
  | [c] => pts_one ⟨fun pins s2 σ H Q I h => h s H' C cl fp pins s2 I⟩
  | _ :: _ :: _ => ⟨fun pins s2 σ H Q I h => h.elim⟩
theorem lc_main (x : XOk T k N X sc W) {ev : Ev} (hi : ∀ e, SndE X W H0 (ev.e sc e) e)
    (hb : ∀ (scope : Scope) (s : Shared) (H : Hp) (C : Addr) (cl : List (Str × Addr)) (fp : List Addr) (e : Expr), SndE (blkX X scope s H C cl fp) (fun _ _ _ => False) H0 (ev.e (relS scope sc) e) e ∧ SndT (blkX X scope s H C cl fp) (fun _ _ _ => False) H0 (ev.t (relS scope sc) e) e)
    {elt : Expr} {gs : List Comprehension} {scope : Scope} {ρ : Env} {σ : L2.St} {F : Addr → Prop} {H : Hp} {Q : VK} (r : RepS X.K H0 F H σ ρ) (dm : Dom F H) (sm : Same H0 H)
    (p : Post X.K (fun c H => W c σ H) F H Q ((evLc T N sc ev elt gs scope ρ).bind fun ds => .ok (.fl ds))) :
    ∃ tg iter ifs own, gs = [⟨tg, iter, ifs, 0⟩] ∧ BlkOk N sc scope own ∧ (∀ v, foldedSetIterable iter X.env v = pure v) ∧ tLc (EiOk X tg iter) (tgB X scope tg) (ttB X scope ifs) (teB X scope elt) (own.map (·.2)) σ H Q := by
  unfold evLc at p
  split at p
  · rename_i tg iter ifs
    dsimp only at p
    generalize hown : ownOf N scope = own at p
    split at p
    · rename_i hc
      rw [Bool.and_eq_true] at hc
      have bok := blkOk_by hc.1
      have tin := tgOwn_in hc.2
      have hs : ∀ v, foldedSetIterable iter X.env v = pure v := by
        intro v
        have : ∀ e : Expr, (∀ a b c, e ≠ .Set a b c) → foldedSetIterable e X.env v = pure v := by
          intro e he
          cases e <;> first | rfl | exact absurd rfl (he _ _ _)
        refine this iter fun a b c e => ?_
        subst e
        unfold evIt at p
        exact p.elim
      rw [R.bind_assoc] at p
      refine ⟨tg, iter, ifs, own, rfl, bok, hs, ?_⟩
      refine sndI_ok x hi (kp := false) (tg := tg) iter ρ σ F H _ r dm sm ?_
      -- what comes behind the iterable
      cases qi : evIt false T sc (ev.e sc) tg iter ρ with
      | exc c => rw [qi] at p; exact p
      | stk => rw [qi] at p; exact p.elim
      | ok items =>
        rw [qi] at p
        intro J F1 H1 x1 d1 wk L nL
        have p : Post X.K (fun c H => W c σ H) F H Q (((lcL (lcTurn N scope (relS scope sc) ev tg elt ifs (wipeE ρ (own.map (·.2)))) items).bind fun ds => if ds.length ≤ 16777216 then .ok ds else .stk).bind fun ds => .ok (.fl ds)) := p
        generalize hf : lcTurn N scope (relS scope sc) ev tg elt ifs (wipeE ρ (own.map (·.2))) = f at p
        cases ql : lcL f items with
        | exc c => exact (lcL_noexc (fun y c => by rw [← hf]; exact wB_noexc) items c ql).elim
        | stk => rw [ql] at p; exact p.elim
        | ok out =>
          rw [ql] at p
          have p : Post X.K (fun c H => W c σ H) F H Q ((if out.length ≤ 16777216 then .ok out else .stk : R (List D)).bind fun ds => .ok (.fl ds)) := p
          by_cases hz : out.length ≤ 16777216
          · rw [if_pos hz] at p
            have p : Post X.K (fun c H => W c σ H) F H Q (.ok (.fl out)) := p
            have r1 : RepS X.K H0 F1 H1 (L2.wipe σ (own.map (·.2))) (wipeE ρ (own.map (·.2))) := (r.ext x1).wipe _
            have sm1 := sm.trans x1.same
            refine ⟨fun i m Hc => m = items.length - i ∧ i ≤ items.length ∧ ∃ Fc acc done rest, Ext F1 H1 Fc Hc ∧ Dom Fc Hc ∧ ¬ Fc L ∧ Hc L = some (.lst acc) ∧ RepL X.K Fc Hc acc done ∧ lcL f (items.drop i) = .ok rest ∧ out = done ++ rest,
              ⟨items.length, by simp, Nat.zero_le _, F1, [], [], out, Ext.upd nL, d1.same (same_upd nL), fun q => d1 L q nL, upd_same, .nil, by rw [List.drop_zero]; exact ql, rfl⟩, ?_⟩
            rintro i m Hc ⟨rfl, hi, Fc, acc, done, rest, xc, dc, nc, hL, rl, qr, ho⟩
            by_cases hlt : i < items.length
            · have hd : items.drop i = items[i] :: items.drop (i + 1) := List.drop_eq_getElem_cons hlt
              rw [hd] at qr
              unfold lcL at qr
              obtain ⟨o, qo, qr⟩ := bind_ok qr
              obtain ⟨ys, qy, qr⟩ := bind_ok qr
              -- the turn
              have qo' := qo
              rw [← hf] at qo'
              have qt := wB_ok qo'
              obtain ⟨ρ1, qa, qt⟩ := bind_ok qt
              obtain ⟨b, qb, qt⟩ := bind_ok qt
              refine .inr ⟨wk.go i Fc Hc xc hlt, fun H' => ∃ Fc acc done rest, Ext F1 H1 Fc H' ∧ Dom Fc H' ∧ ¬ Fc L ∧ H' L = some (.lst acc) ∧ RepL X.K Fc H' acc done ∧ lcL f (items.drop (i + 1)) = .ok rest ∧ out = done ++ rest,
                fun H' nx => ⟨items.length - (i + 1), by omega, rfl, hlt, nx⟩, fun v H' hy => ?_⟩
              obtain ⟨xy, ry⟩ := wk.yld i Fc Hc v H' items[i] xc dc (List.getElem?_eq_getElem hlt) hy
              have dy := dc.same xy.same
              have xcy := xc.trans xy
              have rr := r1.ext xcy
              have smy := sm1.trans xcy.same
              intro s0 H0' C cl fp
              refine asg_ok (x.blkSt scope s0 H0' C cl fp) x.calm qa rr ry smy fun σ2 r2 hw => ⟨by rw [hw _ tin, wipe_wipe], ?_⟩
              -- the tests
              have tests : ∀ (Qb : Bool → Hp → Prop), (∀ F3 H3, Ext Fc H' F3 H3 → Dom F3 H3 → Qb b H3) → ttB X scope ifs σ2 H' Qb := by
                intro Qb hq
                unfold evIfs at qb
                match ifs, qb with
                | [], qb =>
                  cases qb
                  exact hq Fc H' .refl dy
                | [c], qb =>
                  intro s1 H1' C1 cl1 fp1
                  refine (hb scope s1 H1' C1 cl1 fp1 c).2 ρ1 σ2 Fc H' Qb r2 dy smy ?_
                  have qb : ev.t (relS scope sc) c ρ1 = .ok b := qb
                  rw [qb]
                  exact fun F3 H3 e3 d3 => hq F3 H3 e3 d3
                | _ :: _ :: _, qb => cases qb
              refine tests _ fun F3 H3 x3 d3 => ?_
              have x13 := xcy.trans x3
              have hL3 : H3 L = some (.lst acc) := x3.same _ _ (xy.same _ _ hL)
              have nF3 : ¬ F3 L := fun q => by
                rcases x3.new L q with q | q
                · exact nc q
                · rw [xy.same _ _ hL] at q; cases q
              cases b with
              | false =>
                refine iteF ?_
                cases qt
                exact ⟨F3, acc, done, rest, x13, d3, nF3, hL3, (rl.ext xy).ext x3, by rw [qy]; exact qr, ho⟩
              | true =>
                refine iteT fun s1 H1' C1 cl1 fp1 => ?_
                obtain ⟨w, qe, qt⟩ := bind_ok qt
                obtain ⟨dd, qd, qt⟩ := bind_ok qt
                cases qt
                refine (hb scope s1 H1' C1 cl1 fp1 elt).1 ρ1 σ2 F3 H3 _ (r2.ext x3) d3 (smy.trans x3.same) ?_
                rw [qe]
                intro y F4 H4 x4 d4 ry4
                have rd := ry4.fz qd
                have hL4 : H4 L = some (.lst acc) := x4.same _ _ hL3
                have xA := FzA.ext x4
                have nA : ¬ FzA F4 H3 H4 L := fun q => by
                  rcases xA.new L q with q | q
                  · exact nF3 q
                  · rw [hL3] at q; cases q
                have qr' : dd :: ys = rest := by injection qr
                subst qr'
                have hlen : acc.length = done.length := rl.length
                refine ⟨acc, hL4, by rw [sizeLine_eq, hlen]; rw [ho, List.length_append, List.length_cons] at hz; omega, FzA F4 H3 H4, acc ++ [y], done ++ [dd], ys, ?_, ?_, nA, upd_same, ?_, qy, by rw [ho, List.append_assoc]; rfl⟩
                · have xx := x13.trans xA
                  refine ⟨fun bb o e => ?_, xx.mono, xx.new⟩
                  rw [upd_ne (ne_of_none e nL)]
                  exact xx.same _ _ e
                · intro a q
                  by_cases e : a = L
                  · subst e; rw [upd_same]; simp
                  · rw [upd_ne e]; exact FzA.dom d4 a q
                · have kp := upd_kp (ys := acc ++ [y]) hL4 nA
                  exact (((rl.ext xy).ext x3).ext xA |>.append (.cons rd .nil)).mono kp fun _ q => q
            · have e : i = items.length := by omega
              subst e
              rw [List.drop_length] at qr
              cases qr
              rw [List.append_nil] at ho
              subst ho
              refine .inl ⟨wk.stop _ Fc Hc xc (Nat.le_refl _), p _ Fc Hc (x1.trans xc) dc ⟨L, acc, rfl, hL, rl, x1.same.free nL, nc⟩⟩
          · rw [if_neg hz] at p; exact p.elim
    · exact p.elim
  · exact p.elim
theorem lc_rule (x : XOk T k N X sc W) {elt tg iter : Expr} {ifs : List Expr} {scope : Scope} {pos : Pos} {own : List (Str × Nat)} (bok : BlkOk N sc scope own) (hs : ∀ v, foldedSetIterable iter X.env v = pure v) :
    PE X (.ListComp elt [⟨tg, iter, ifs, 0⟩] scope pos) (tLc (EiOk X tg iter) (tgB X scope tg) (ttB X scope ifs) (teB X scope elt) (own.map (·.2))) :=
  pe_lc x.calm x.nd pi_can (by rw [x.hN, x.hsc]; exact bok) (fun s H' C cl fp => ⟨fun pins s2 σ H v u Q I r h => h s H' C cl fp pins s2 u I r⟩) (fun s H' C cl fp => pts_B ifs) (fun s H' C cl fp => ⟨fun pins s2 σ H Q I h => h s H' C cl fp pins s2 I⟩) hs
theorem snd_lc (x : XOk T k N X sc W) {ev : Ev} (hi : ∀ e, SndE X W H0 (ev.e sc e) e)
    (hb : ∀ (scope : Scope) (s : Shared) (H : Hp) (C : Addr) (cl : List (Str × Addr)) (fp : List Addr) (e : Expr), SndE (blkX X scope s H C cl fp) (fun _ _ _ => False) H0 (ev.e (relS scope sc) e) e ∧ SndT (blkX X scope s H C cl fp) (fun _ _ _ => False) H0 (ev.t (relS scope sc) e) e)
    {elt : Expr} {gs : List Comprehension} {scope : Scope} {pos : Pos} : SndE X W H0 (fun ρ => (evLc T N sc ev elt gs scope ρ).bind fun ds => .ok (.fl ds)) (.ListComp elt gs scope pos) := by
  intro ρ σ F H Q r dm sm p
  obtain ⟨tg, iter, ifs, own, rfl, bok, hs, q⟩ := lc_main x hi hb r dm sm p
  exact pe_ev (lc_rule x bok hs) q
end
end BR
namespace BR
open PySem PySem.Spec PyProof.Rows L2

section
variable {T : Tab} {k : Nat} {N : List Str} {X : Cx} {sc : Scope} {W : WS} {H0 : Hp}
theorem lcM_noexc {f : PyData → R (List PyData)} (h : ∀ x c, f x ≠ .exc c) : ∀ (xs : List PyData) (c : Str), lcM f xs ≠ .exc c
  | [], c, e => nomatch e
  | x :: xs, c, e => by
    unfold lcM at e
    cases q : f x with
    | exc c' => exact h x c' q
    | stk => rw [q] at e; cases e
    | ok o =>
      rw [q] at e
      cases q2 : lcM f xs with
      | exc c' => exact lcM_noexc h xs c' q2
      | stk => rw [q2] at e; cases e
      | ok ys => rw [q2] at e; cases e
theorem tgSlots_in {N : List Str} {own : List (Str × Nat)} {tg : Expr} (h : tgOwn N own tg = true) : tgIn N (tgSlots N tg) tg = true ∧ ∀ i ∈ tgSlots N tg, i ∈ own.map (·.2) := by
  unfold tgOwn at h
  split at h
  · rename_i x p
    unfold tgIn tgIn1 tgSlots
    dsimp only
    cases q : idx N x with
    | none => rw [q] at h; cases h
    | some i =>
      rw [q] at h
      refine ⟨by simp, fun j hj => ?_⟩
      have e : j = i := by simpa using hj
      subst e
      exact List.contains_iff_mem.mp h
  · rename_i ts j p
    rw [List.all_eq_true] at h
    unfold tgIn tgSlots
    dsimp only
    refine ⟨?_, fun i hi => ?_⟩
    · rw [List.all_eq_true]
      intro t ht
      have ht2 := h t ht
      unfold tgIn1
      split
      · rename_i x p2
        dsimp only at ht2
        cases q : idx N x with
        | none => rw [q] at ht2; cases ht2
        | some i => exact List.contains_iff_mem.mpr (List.mem_filterMap.mpr ⟨_, ht, q⟩)
      · rename_i hn
        split at ht2
        · exact absurd rfl (hn _ _)
        · cases ht2
    · obtain ⟨t, ht, e⟩ := List.mem_filterMap.mp hi
      have ht2 := h t ht
      split at e
      · dsimp only at ht2
        rw [e] at ht2
        exact List.contains_iff_mem.mp ht2
      · cases e
  · cases h
/-- later states in which all but the list L stands -/
structure ExL (L : Addr) (F : Addr → Prop) (H : Hp) (F' : Addr → Prop) (H' : Hp) : Prop where
  same : ∀ b o, b ≠ L → H b = some o → H' b = some o
  mono : ∀ a, F a → F' a
theorem ExL.kp {L : Addr} {F F' : Addr → Prop} {H H' : Hp} {acc : List V} (x : ExL L F H F' H') (hL : H L = some (.lst acc)) (nf : ¬ F L) : Kp F H H' where
  fz := fun a o f e => x.same a o (fun z => nf (z ▸ f)) e
  tup := fun a o e => x.same a _ (fun z => by rw [z, hL] at e; cases e) e
  frz := fun a o u e => x.same a _ (fun z => by rw [z, hL] at e; cases e) e
def tiB (X : Cx) (scope : Scope) (tg iter : Expr) : TI := fun σ H Q => ∀ s H' C cl fp, EiOk (blkX X scope s H' C cl fp) tg iter σ H Q
theorem noSet {e : Expr} {env : PySem.Env} {v : Value} (h : isSetE e = false) : foldedSetIterable e env v = pure v := by
  cases e <;> first | rfl | cases h
theorem lc2_main (x : XOk T k N X sc W) {ev : Ev} (hi : ∀ e, SndE X W H0 (ev.e sc e) e)
    (hb : ∀ (scope : Scope) (s : Shared) (H : Hp) (C : Addr) (cl : List (Str × Addr)) (fp : List Addr) (e : Expr), SndE (blkX X scope s H C cl fp) (fun _ _ _ => False) H0 (ev.e (relS scope sc) e) e ∧ SndT (blkX X scope s H C cl fp) (fun _ _ _ => False) H0 (ev.t (relS scope sc) e) e)
    {elt tg iter tg1 iter1 : Expr} {ifs ifs1 : List Expr} {scope : Scope} {ρ : Env} {σ : L2.St} {F : Addr → Prop} {H : Hp} {Q : VK} (r : RepS X.K H0 F H σ ρ) (dm : Dom F H) (sm : Same H0 H)
    (p : Post X.K (fun c H => W c σ H) F H Q ((evLc2 T N sc ev elt tg iter ifs tg1 iter1 ifs1 scope ρ).bind fun ds => .ok (.fl ds))) :
    BlkOk N sc scope (ownOf N scope) ∧ (∀ i ∈ tgSlots N tg1, i ∈ (ownOf N scope).map (·.2)) ∧ (∀ v, foldedSetIterable iter X.env v = pure v) ∧ (∀ env v, foldedSetIterable iter1 env v = pure v) ∧ tLc2 (EiOk X tg iter) (tgB X scope tg) (ttB X scope ifs) (tiB X scope tg1 iter1) (tgB X scope tg1) (ttB X scope ifs1) (teB X scope elt) ((ownOf N scope).map (·.2)) (tgSlots N tg1) σ H Q := by
  unfold evLc2 at p
  generalize hown : ownOf N scope = own at p
  split at p
  · rename_i hc
    simp only [Bool.and_eq_true, Bool.not_eq_true'] at hc
    have bok := blkOk_by hc.1.1.1.1
    have tin := tgOwn_in hc.1.1.1.2
    obtain ⟨tin1, sub1⟩ := tgSlots_in hc.1.1.2
    rw [R.bind_assoc] at p
    refine ⟨bok, sub1, fun v => noSet hc.1.2, fun env v => noSet hc.2, ?_⟩
    refine sndI_ok x hi (kp := false) (tg := tg) iter ρ σ F H _ r dm sm ?_
    cases qi : evIt false T sc (ev.e sc) tg iter ρ with
    | exc c => rw [qi] at p; exact p
    | stk => rw [qi] at p; exact p.elim
    | ok items =>
      rw [qi] at p
      intro J F1 H1 x1 d1 wk L nL
      have p : Post X.K (fun c H => W c σ H) F H Q (((lcM (lcTurn2 T N scope (relS scope sc) ev tg elt ifs tg1 iter1 ifs1 (wipeE ρ (own.map (·.2)))) items).bind fun ds => if ds.length ≤ 16777216 then .ok ds else .stk).bind fun ds => .ok (.fl ds)) := p
      generalize hf : lcTurn2 T N scope (relS scope sc) ev tg elt ifs tg1 iter1 ifs1 (wipeE ρ (own.map (·.2))) = f at p
      cases ql : lcM f items with
      | exc c => exact (lcM_noexc (fun y c => by rw [← hf]; exact wB_noexc) items c ql).elim
      | stk => rw [ql] at p; exact p.elim
      | ok out =>
        rw [ql] at p
        have p : Post X.K (fun c H => W c σ H) F H Q ((if out.length ≤ 16777216 then .ok out else .stk : R (List PyData)).bind fun ds => .ok (.fl ds)) := p
        by_cases hz : out.length ≤ 16777216
        · rw [if_pos hz] at p
          have p : Post X.K (fun c H => W c σ H) F H Q (.ok (.fl out)) := p
          have r1 : RepS X.K H0 F1 H1 (L2.wipe σ (own.map (·.2))) (wipeE ρ (own.map (·.2))) := (r.ext x1).wipe _
          have sm1 := sm.trans x1.same
          refine ⟨fun i m Hc => m = items.length - i ∧ i ≤ items.length ∧ ∃ Fc acc done rest, Ext F1 H1 Fc Hc ∧ Dom Fc Hc ∧ ¬ Fc L ∧ Hc L = some (.lst acc) ∧ RepL X.K Fc Hc acc done ∧ lcM f (items.drop i) = .ok rest ∧ out = done ++ rest,
            ⟨items.length, by simp, Nat.zero_le _, F1, [], [], out, Ext.upd nL, d1.same (same_upd nL), fun q => d1 L q nL, upd_same, .nil, by rw [List.drop_zero]; exact ql, rfl⟩, ?_⟩
          rintro i m Hc ⟨rfl, hi', Fc, acc, done, rest, xc, dc, nc, hL, rl, qr, ho⟩
          by_cases hlt : i < items.length
          · have hd : items.drop i = items[i] :: items.drop (i + 1) := List.drop_eq_getElem_cons hlt
            rw [hd] at qr
            unfold lcM at qr
            obtain ⟨a, qo, qr⟩ := bind_ok qr
            obtain ⟨b2, qy, qr⟩ := bind_ok qr
            have er : a ++ b2 = rest := by injection qr
            have qo' := qo
            rw [← hf] at qo'
            have qt := wB_ok qo'
            obtain ⟨ρ1, qa, qt⟩ := bind_ok qt
            obtain ⟨b, qb, qt⟩ := bind_ok qt
            refine .inr ⟨wk.go i Fc Hc xc hlt, fun H' => ∃ Fc acc done rest, Ext F1 H1 Fc H' ∧ Dom Fc H' ∧ ¬ Fc L ∧ H' L = some (.lst acc) ∧ RepL X.K Fc H' acc done ∧ lcM f (items.drop (i + 1)) = .ok rest ∧ out = done ++ rest,
              fun H' nx => ⟨items.length - (i + 1), by omega, rfl, hlt, nx⟩, fun v H' hy => ?_⟩
            obtain ⟨xy, ry⟩ := wk.yld i Fc Hc v H' items[i] xc dc (List.getElem?_eq_getElem hlt) hy
            have dy := dc.same xy.same
            have xcy := xc.trans xy
            have rr := r1.ext xcy
            have smy := sm1.trans xcy.same
            intro s0 H0' C cl fp
            refine asg_tr (H0 := H0) (x.blkSt scope s0 H0' C cl fp) x.calm qa ry fun σ2 tr hw => ⟨by rw [hw _ tin, wipe_wipe], ?_⟩
            have r2 := tr Fc H' (fun _ z => z) Kp.refl rr smy
            have tests : ∀ (ifs : List Expr) {σ2 : L2.St} {ρ1 : Env} {Fc : Addr → Prop} {H' : Hp} {b : Bool} (Qb : Bool → Hp → Prop), evIfs (ev.t (relS scope sc)) ifs ρ1 = .ok b → RepS X.K H0 Fc H' σ2 ρ1 → Dom Fc H' → Same H0 H' → (∀ F3 H3, Ext Fc H' F3 H3 → Dom F3 H3 → Qb b H3) → ttB X scope ifs σ2 H' Qb := by
              intro ifs σ2 ρ1 Fc H' b Qb qb r2 dy smy hq
              unfold evIfs at qb
              match ifs, qb with
              | [], qb =>
                cases qb
                exact hq Fc H' .refl dy
              | [c], qb =>
                intro s1 H1' C1 cl1 fp1
                refine (hb scope s1 H1' C1 cl1 fp1 c).2 ρ1 σ2 Fc H' Qb r2 dy smy ?_
                have qb : ev.t (relS scope sc) c ρ1 = .ok b := qb
                rw [qb]
                exact fun F3 H3 e3 d3 => hq F3 H3 e3 d3
              | _ :: _ :: _, qb => cases qb
            refine tests ifs _ qb r2 dy smy fun F3 H3 x3 d3 => ?_
            have x13 := xcy.trans x3
            have hL3 : H3 L = some (.lst acc) := x3.same _ _ (xy.same _ _ hL)
            have nF3 : ¬ F3 L := fun q => by
              rcases x3.new L q with q | q
              · exact nc q
              · rw [xy.same _ _ hL] at q; cases q
            cases b with
            | false =>
              refine iteF ?_
              cases qt
              rw [List.nil_append] at er
              exact ⟨F3, acc, done, rest, x13, d3, nF3, hL3, (rl.ext xy).ext x3, by rw [qy, er], ho⟩
            | true =>
              refine iteT fun s1 H1' C1 cl1 fp1 => ?_
              obtain ⟨items1, qi1, qt⟩ := bind_ok qt
              refine sndI_ok (x.blk scope s1 H1' C1 cl1 fp1) (fun e => (hb scope s1 H1' C1 cl1 fp1 e).1) (kp := true) (tg := tg1) iter1 ρ1 σ2 F3 H3 _ (r2.ext x3) d3 (smy.trans x3.same) ?_
              rw [qi1]
              intro J1 F4 H4 x4 d4 wk1
              generalize hg : lcTurn N scope (relS scope sc) ev tg1 elt ifs1 (wipeE ρ1 (tgSlots N tg1)) = g at qt
              have x14 := x13.trans x4
              have hL4 : H4 L = some (.lst acc) := x4.same _ _ hL3
              have nF4 : ¬ F4 L := fun q => by
                rcases x4.new L q with q | q
                · exact nF3 q
                · rw [hL3] at q; cases q
              have kp4 : Kp Fc H' H4 := (Kp.of x3.same).trans x3.mono (Kp.of x4.same)
              refine ⟨fun j m Hd => m = items1.length - j ∧ j ≤ items1.length ∧ ∃ Fd acc1 done1 rest1, ExL L F4 H4 Fd Hd ∧ Ext F1 H1 Fd Hd ∧ Dom Fd Hd ∧ ¬ Fd L ∧ Hd L = some (.lst acc1) ∧ RepL X.K Fd Hd acc1 (done ++ done1) ∧ lcL g (items1.drop j) = .ok rest1 ∧ a = done1 ++ rest1,
                ⟨items1.length, by simp, Nat.zero_le _, F4, acc, [], a, ⟨fun _ _ _ e => e, fun _ z => z⟩, x14, d4, nF4, hL4, by rw [List.append_nil]; exact ((rl.ext xy).ext x3).ext x4, by rw [List.drop_zero]; exact qt, rfl⟩, ?_⟩
              rintro j m Hd ⟨rfl, hj, Fd, acc1, done1, rest1, xl, xd, dd, nd, hLd, rd, qg, ha⟩
              have kpd := xl.kp hL4 nF4
              have md : ∀ z, Fc z → Fd z := fun z h => xl.mono z (x4.mono z (x3.mono z h))
              have kpc : Kp Fc H' Hd := kp4.trans (fun z h => x4.mono z (x3.mono z h)) kpd
              have rd2 := tr Fd Hd md kpc (r1.ext xd) (sm1.trans xd.same)
              by_cases hlj : j < items1.length
              · have hd1 : items1.drop j = items1[j] :: items1.drop (j + 1) := List.drop_eq_getElem_cons hlj
                rw [hd1] at qg
                unfold lcL at qg
                obtain ⟨o1, qo1, qg⟩ := bind_ok qg
                obtain ⟨ys1, qy1, qg⟩ := bind_ok qg
                have qo1' := qo1
                rw [← hg] at qo1'
                have qt1 := wB_ok qo1'
                obtain ⟨ρ2, qa1, qt1⟩ := bind_ok qt1
                obtain ⟨b1, qb1, qt1⟩ := bind_ok qt1
                refine .inr ⟨wk1.go j Fd Hd ⟨xl.mono, kpd⟩ hlj, fun Hn => ∃ Fd acc1 done1 rest1, ExL L F4 H4 Fd Hn ∧ Ext F1 H1 Fd Hn ∧ Dom Fd Hn ∧ ¬ Fd L ∧ Hn L = some (.lst acc1) ∧ RepL X.K Fd Hn acc1 (done ++ done1) ∧ lcL g (items1.drop (j + 1)) = .ok rest1 ∧ a = done1 ++ rest1,
                  fun Hn nx => ⟨items1.length - (j + 1), by omega, rfl, hlj, nx⟩, fun v1 H5 hy1 => ?_⟩
                obtain ⟨xz, rz⟩ := wk1.yld j Fd Hd v1 H5 items1[j] ⟨xl.mono, kpd⟩ dd (List.getElem?_eq_getElem hlj) hy1
                have dz := dd.same xz.same
                have smz := sm1.trans (xd.trans xz).same
                intro s5 H5' C5 cl5 fp5
                refine asg_ok (x.blkSt scope s5 H5' C5 cl5 fp5) x.calm qa1 ((rd2.ext xz).wipe _) rz smz fun σ3 r3 hw3 => ⟨by rw [hw3 _ tin1, wipe_wipe], ?_⟩
                refine tests ifs1 _ qb1 r3 dz smz fun F6 H6 x6 d6 => ?_
                have xz6 := xz.trans x6
                have hL6 : H6 L = some (.lst acc1) := xz6.same _ _ hLd
                have nF6 : ¬ F6 L := fun q => by
                  rcases xz6.new L q with q | q
                  · exact nd q
                  · rw [hLd] at q; cases q
                have xl6 : ExL L F4 H4 F6 H6 := ⟨fun z o ne e => xz6.same _ _ (xl.same z o ne e), fun z h => xz6.mono z (xl.mono z h)⟩
                cases b1 with
                | false =>
                  refine iteF ?_
                  cases qt1
                  exact ⟨F6, acc1, done1, rest1, xl6, xd.trans xz6, d6, nF6, hL6, rd.ext xz6, by rw [qy1]; exact qg, ha⟩
                | true =>
                  refine iteT fun s7 H7' C7 cl7 fp7 => ?_
                  obtain ⟨w, qe, qt1⟩ := bind_ok qt1
                  obtain ⟨d2, qd, qt1⟩ := bind_ok qt1
                  cases qt1
                  refine (hb scope s7 H7' C7 cl7 fp7 elt).1 ρ2 σ3 F6 H6 _ (r3.ext x6) d6 (smz.trans x6.same) ?_
                  rw [qe]
                  intro y F8 H8 x8 d8 ry8
                  have rd8 := ry8.fz qd
                  have hL8 : H8 L = some (.lst acc1) := x8.same _ _ hL6
                  have xA := FzA.ext x8
                  have nA : ¬ FzA F8 H6 H8 L := fun q => by
                    rcases xA.new L q with q | q
                    · exact nF6 q
                    · rw [hL6] at q; cases q
                  have qr' : d2 :: ys1 = rest1 := by injection qg
                  subst qr'
                  have hlen : acc1.length = (done ++ done1).length := rd.length
                  have kpu := upd_kp (ys := acc1 ++ [y]) hL8 nA
                  refine ⟨acc1, hL8, ?_, FzA F8 H6 H8, acc1 ++ [y], done1 ++ [d2], ys1, ?_, ?_, ?_, nA, upd_same, ?_, qy1, by rw [ha, List.append_assoc]; rfl⟩
                  · rw [sizeLine_eq, hlen]
                    rw [ho, ← er, ha] at hz
                    simp only [List.length_append, List.length_cons] at hz ⊢
                    omega
                  · exact ⟨fun z o ne e => by rw [upd_ne ne]; exact x8.same _ _ (xl6.same z o ne e), fun z h => xA.mono z (xl6.mono z h)⟩
                  · have xx := (xd.trans xz6).trans xA
                    refine ⟨fun bb o e => ?_, xx.mono, xx.new⟩
                    rw [upd_ne (ne_of_none e nL)]
                    exact xx.same _ _ e
                  · intro z q
                    by_cases e : z = L
                    · subst e; rw [upd_same]; simp
                    · rw [upd_ne e]; exact FzA.dom d8 z q
                  · rw [← List.append_assoc]
                    exact (((rd.ext xz6).ext xA).append (.cons rd8 .nil)).mono kpu fun _ q => q
              · have e : j = items1.length := by omega
                subst e
                rw [List.drop_length] at qg
                cases qg
                rw [List.append_nil] at ha
                subst ha
                exact .inl ⟨wk1.stop _ Fd Hd ⟨xl.mono, kpd⟩ (Nat.le_refl _), Fd, acc1, done ++ a, b2, xd, dd, nd, hLd, rd, qy, by rw [ho, ← er, List.append_assoc]⟩
          · have e : i = items.length := by omega
            subst e
            rw [List.drop_length] at qr
            cases qr
            rw [List.append_nil] at ho
            subst ho
            exact .inl ⟨wk.stop _ Fc Hc xc (Nat.le_refl _), p _ Fc Hc (x1.trans xc) dc ⟨L, acc, rfl, hL, rl, x1.same.free nL, nc⟩⟩
        · rw [if_neg hz] at p; exact p.elim
  · exact p.elim
theorem lc2_rule (x : XOk T k N X sc W) {elt tg iter tg1 iter1 : Expr} {ifs ifs1 : List Expr} {scope : Scope} {pos : Pos} {own : List (Str × Nat)} {vs1 : List Nat} (bok : BlkOk N sc scope own) (hv : ∀ i ∈ vs1, i ∈ own.map (·.2)) (hs : ∀ v, foldedSetIterable iter X.env v = pure v) (hs1 : ∀ env v, foldedSetIterable iter1 env v = pure v) :
    PE X (.ListComp elt [⟨tg, iter, ifs, 0⟩, ⟨tg1, iter1, ifs1, 0⟩] scope pos) (tLc2 (EiOk X tg iter) (tgB X scope tg) (ttB X scope ifs) (tiB X scope tg1 iter1) (tgB X scope tg1) (ttB X scope ifs1) (teB X scope elt) (own.map (·.2)) vs1) :=
  pe_lc2 x.calm x.nd pi_can (by rw [x.hN, x.hsc]; exact bok) hv (fun s H' C cl fp => ⟨fun pins s2 σ H v u Q I r h => h s H' C cl fp pins s2 u I r⟩) (fun s H' C cl fp => pts_B ifs) (fun s H' C cl fp => ⟨fun pins s2 σ H Q I h => h s H' C cl fp pins s2 I⟩) (fun s H' C cl fp => ⟨fun pins s2 σ H v u Q I r h => h s H' C cl fp pins s2 u I r⟩) (fun s H' C cl fp => pts_B ifs1) (fun s H' C cl fp => ⟨fun pins s2 σ H Q I h => h s H' C cl fp pins s2 I⟩) hs hs1
theorem snd_lc2 (x : XOk T k N X sc W) {ev : Ev} (hi : ∀ e, SndE X W H0 (ev.e sc e) e)
    (hb : ∀ (scope : Scope) (s : Shared) (H : Hp) (C : Addr) (cl : List (Str × Addr)) (fp : List Addr) (e : Expr), SndE (blkX X scope s H C cl fp) (fun _ _ _ => False) H0 (ev.e (relS scope sc) e) e ∧ SndT (blkX X scope s H C cl fp) (fun _ _ _ => False) H0 (ev.t (relS scope sc) e) e)
    {elt tg iter tg1 iter1 : Expr} {ifs ifs1 : List Expr} {scope : Scope} {pos : Pos} : SndE X W H0 (fun ρ => (evLc2 T N sc ev elt tg iter ifs tg1 iter1 ifs1 scope ρ).bind fun ds => .ok (.fl ds)) (.ListComp elt [⟨tg, iter, ifs, 0⟩, ⟨tg1, iter1, ifs1, 0⟩] scope pos) := by
  intro ρ σ F H Q r dm sm p
  obtain ⟨bok, hv, hs, hs1, q⟩ := lc2_main x hi hb r dm sm p
  exact pe_ev (lc2_rule x bok hv hs hs1) q
theorem snd_lcs (x : XOk T k N X sc W) {ev : Ev} (hi : ∀ e, SndE X W H0 (ev.e sc e) e)
    (hb : ∀ (scope : Scope) (s : Shared) (H : Hp) (C : Addr) (cl : List (Str × Addr)) (fp : List Addr) (e : Expr), SndE (blkX X scope s H C cl fp) (fun _ _ _ => False) H0 (ev.e (relS scope sc) e) e ∧ SndT (blkX X scope s H C cl fp) (fun _ _ _ => False) H0 (ev.t (relS scope sc) e) e)
    {elt : Expr} {gs : List Comprehension} {scope : Scope} {pos : Pos} : SndE X W H0 (fun ρ => (evLcs T N sc ev elt gs scope ρ).bind fun ds => .ok (.fl ds)) (.ListComp elt gs scope pos) := by
  unfold evLcs
  split
  · exact snd_lc2 x hi hb
  · exact snd_lc x hi hb
end
end BR
namespace BR
open PySem PySem.Spec PyProof.Rows L2
/-! ### one of some functions, called; the place of an item -/
section
variable {T : Tab} {k : Nat} {N : List Str} {X : Cx} {sc : Scope} {W : WS} {H0 : Hp}
/-- a def at a keeps g -/
structure FnAt (k : Nat) (P : Program) (w : World) (K : PySem.W.Frag) (mg : Str → Option Value) (base : Heap) (a : Addr) (p : GF) : Prop where
  ok : ∃ fd, PySem.W.keepIn K (.ref a) = true ∧ Binds K fd p.1 [] ∧ FnOk P w K mg base (L2.CX P w) k a fd p.1 (spOf K mg p.1.length p.2)
theorem fnOf_ok (x : XOk T k N X sc W) {e : Expr} {p : GF} (h : fnOf T sc e = some p) : ∃ a, isStar e = false ∧ FnAt k X.prog X.w X.K X.mg X.base a p ∧ PE X e (tC (.ref a)) := by
  unfold fnOf at h
  split at h
  · rename_i n pos
    split at h
    · rename_i ps g hg hl
      cases h
      obtain ⟨a, fd, hm, hk, hb, hf⟩ := (x.tab n _ hl).ok
      obtain ⟨g1, g2, g3⟩ := isGlob_of hg
      have gl : Gl X n := (show X.env.scope.names.lookup n = _ by rw [x.hsc]; exact g1)
      exact ⟨a, rfl, ⟨fd, hk, hb, hf⟩, pe_glob gl hm rfl g2⟩
    · cases h
  · cases h
theorem fnsOf_ok (x : XOk T k N X sc W) : ∀ {fs : List Expr} {fl : List GF}, fnsOf T sc fs = some fl → ∃ as : List Addr, as.length = fl.length ∧ (∀ (i : Nat) (p : GF), fl[i]? = some p → ∃ a, as[i]? = some a ∧ FnAt k X.prog X.w X.K X.mg X.base a p) ∧
    ∀ (σ : L2.St) (H : Hp) (Q : List V → Hp → Prop), Q (as.map V.ref) H → EaOk X fs σ H Q
  | [], fl, h => by
    cases h
    exact ⟨[], rfl, fun i p h => by simp at h, fun σ H Q q => pa_ev pa_nil q⟩
  | e :: es, fl, h => by
    unfold fnsOf at h
    split at h
    · rename_i p ps h1 h2
      cases h
      obtain ⟨a, hs, fa, pe⟩ := fnOf_ok x h1
      obtain ⟨as, hl, hf, hp⟩ := fnsOf_ok x h2
      refine ⟨a :: as, by rw [List.length_cons, List.length_cons, hl], fun i q hi => ?_, fun σ H Q q => pa_ev (pa_cons pe pa_can (star_cons hs)) (hp σ H _ q)⟩
      cases i with
      | zero => simp at hi; subst hi; exact ⟨a, rfl, fa⟩
      | succ i => exact hf i q (by simpa using hi)
    · cases h
theorem fnsOf_len : ∀ {fs : List Expr} {fl : List GF}, fnsOf T sc fs = some fl → fl.length = fs.length
  | [], _, h => by cases h; rfl
  | e :: es, _, h => by
    unfold fnsOf at h
    split at h
    · rename_i h2
      cases h
      rw [List.length_cons, List.length_cons, fnsOf_len h2]
    · cases h
theorem pkF_bind {K : PySem.W.Frag} {W : Str → Hp → Prop} {F : Addr → Prop} {H : Hp} {Q : VK} {fl : List GF} {w : Vw} {g : GF → R Vw} (p : Post K W F H Q ((pkF fl w).bind g)) : ∃ j q, w.peek = .int j ∧ atI fl j = some q ∧ Post K W F H Q (g q) := by
  unfold pkF at p
  split at p
  · rename_i j e
    split at p
    · rename_i q e2
      exact ⟨j, q, e, e2, p⟩
    · exact p.elim
  · exact p.elim
theorem snd_pick (x : XOk T k N X sc W) {ev : Expr → Env → R Vw} (h : ∀ e, SndE X W H0 (ev e) e) {fs : List Expr} {ix : Expr} {args : List Expr} {lp sp pos : Pos} : SndE X W H0 (gPick T sc ev fs ix args) (.Call (.Subscript (.List fs lp) ix sp) args [] pos) := by
  intro ρ σ F H Q r dm sm p
  unfold gPick at p
  split at p
  · rename_i fl a rest hfl hsl
    obtain ⟨as, hlen, hfn, hpa⟩ := fnsOf_ok x hfl
    have hx : PassesAt (L2.CX X.prog X.w) X σ (WE (fun cls d σ H => ∃ c C, X.mg c = some (.ref C) ∧ cls = .ref C ∧ d = none ∧ W c σ H) σ) := passAt x.takes σ
    have ex : ∀ c H, W c σ H → EX X.mg (WE (fun cls d σ H => ∃ c C, X.mg c = some (.ref C) ∧ cls = .ref C ∧ d = none ∧ W c σ H) σ) c H := fun c H hw C hC => ⟨c, C, hC, rfl, rfl, hw⟩
    intro pins s I
    rw [Bool.or_eq_false_iff, Bool.or_eq_false_iff, Bool.not_eq_false'] at hsl
    obtain ⟨hsl, hst, hle⟩ := hsl
    have hle : fs.length ≤ 1000 := Nat.le_of_ble_eq_true hle
    have hns : isStar a = false ∧ ∀ e' ∈ rest, isStar e' = false := by
      rw [List.any_eq_false] at hst
      exact ⟨by simpa using hst a List.mem_cons_self, fun e' he => by simpa using hst e' (List.mem_cons_of_mem _ he)⟩
    refine Call_ (thn ((pe_ix (pos := sp) ix_list (pe_lst (pos := lp) (pa_can (es := fs))) (pe_can (e := ix)) (plainIx_of hsl)).run pins s σ H (fun y H1 => ∃ f p, y = V.ref f ∧ FnAt k X.prog X.w X.K X.mg X.base f p ∧ EaOk X (a :: rest) σ H1 (fun vs H2 => spOf X.K X.mg p.1.length p.2 vs H2 Q (WE (fun cls d σ H => ∃ c C, X.mg c = some (.ref C) ∧ cls = .ref C ∧ d = none ∧ W c σ H) σ))) I ?_) fun u s1 ⟨y, H1, I1, ry, f, p, ey, fa, q⟩ => ?_) rfl
    · refine hpa σ H _ ⟨?_, fun l hl => ?_⟩
      · rw [sizeLine_eq, List.length_map, hlen, fnsOf_len hfl]
        exact Nat.le_trans hle (by decide)
      · have xl := Ext.upd (F := F) (o := .lst (as.map V.ref)) hl
        refine h ix |>.thn (r.ext xl) (dm.same xl.same) (sm.trans xl.same) (p.ext xl) fun w v F1 H1 e1 x1 d1 r1 s1 v1 p1 => ?_
        obtain ⟨j, q, ej, eq, p2⟩ := pkF_bind p1
        have vj := int_of v1 ej
        subst vj
        obtain ⟨f, ef, fa⟩ : ∃ f, atI as j = some f ∧ FnAt k X.prog X.w X.K X.mg X.base f q := by
          unfold atI at eq ⊢
          rw [hlen]
          cases qj : ixN fl.length j with
          | none => rw [qj] at eq; cases eq
          | some i =>
            rw [qj] at eq
            obtain ⟨a', h1, h2⟩ := hfn i q eq
            exact ⟨a', h1, h2⟩
        refine ⟨l, as.map V.ref, j, .ref f, rfl, rfl, .inl (.inl (x1.same _ _ upd_same)), ?_, f, q, rfl, fa, ?_⟩
        · unfold atI at ef ⊢
          rw [List.length_map]
          cases qj : ixN as.length j with
          | none => rw [qj] at ef; cases ef
          | some i =>
            rw [qj] at ef
            show (as.map V.ref)[i]? = _
            rw [List.getElem?_map]
            have ef' : as[i]? = some f := ef
            rw [ef']
            rfl
        · refine evL_ok h (a :: rest) .refl r1 d1 s1 p2 fun ws vs F2 H2 e2 x2 _ d2 r2 s2 v2 p3 => ?_
          obtain ⟨ds, e3, p4⟩ := toDs_bind p3
          unfold apF at p4
          obtain ⟨hz, p5⟩ := post_if p4
          have rl := v2.fz e3
          exact ⟨FzA F2 H1 H2, ds, hz, FzA.dom d2, rl, (p5.ext (FzA.ext x2)).imp ex⟩
    · subst ey
      cases ry
      obtain ⟨fd, hk, hb, hf⟩ := fa.ok
      refine PySem.W.callWith_K (h₀ := X.base) I1.ok.mod.kin hk (thn (q pos pins s1 I1) fun us s2 ⟨vs, H2, I2, r2, q2⟩ => ⟨I2.kIn, ?_⟩) (star_cons hns.1) (back_plain hns.2)
      exact run_fnS hf x.room hb hx I2 r2 q2
  · exact p.elim
/-! ### xs.index(x) -/
theorem lays_iff : ∀ xs : List PyData, PyData.canLayAll0 xs = xs.all PyData.canLay0
  | [] => by simp [PyData.canLayAll0]
  | x :: xs => by rw [PyData.canLayAll0, lays_iff xs, List.all_cons]
theorem fin_lay : ∀ (n : Nat) (d : PyData), finS n d = true → PyData.canLay0 d = true
  | _, .none, _ => by simp [PyData.canLay0]
  | _, .bool _, _ => by simp [PyData.canLay0]
  | _, .int _, _ => by simp [PyData.canLay0]
  | _, .str _, h => by unfold finS at h; cases h
  | n + 1, .list xs, h => by
    rw [PyData.canLay0, lays_iff, List.all_eq_true]
    exact fun x hx => fin_lay n x (List.all_eq_true.mp h x hx)
  | n + 1, .tuple xs, h => by
    rw [PyData.canLay0, lays_iff, List.all_eq_true]
    exact fun x hx => fin_lay n x (List.all_eq_true.mp h x hx)
  | 0, .list xs, h => by cases h
  | 0, .tuple xs, h => by cases h
  | 0, .dict xs, h => by cases h
  | n + 1, .dict xs, h => by cases h
theorem finS_fin : ∀ (n : Nat) (d : PyData), finS n d = true → fin n d = true
  | _, .none, _ => by simp [fin]
  | _, .bool _, _ => by simp [fin]
  | _, .int _, _ => by simp [fin]
  | _, .str _, h => by unfold finS at h; cases h
  | n + 1, .list xs, h => by
    show xs.all (fin n) = true
    rw [List.all_eq_true]
    exact fun x hx => finS_fin n x (List.all_eq_true.mp h x hx)
  | n + 1, .tuple xs, h => by
    show xs.all (fin n) = true
    rw [List.all_eq_true]
    exact fun x hx => finS_fin n x (List.all_eq_true.mp h x hx)
  | 0, .list xs, h => by cases h
  | 0, .tuple xs, h => by cases h
  | 0, .dict xs, h => by cases h
  | n + 1, .dict xs, h => by cases h
theorem finS_shaped {n : Nat} {d : PyData} (h : finS n d = true) (hn : n ≤ 64) : SeqAt.shaped d = true := by
  unfold SeqAt.shaped
  rw [fin_lay n d h, Bool.true_and, decide_eq_true_eq]
  exact Nat.le_trans (fin_depth n d (finS_fin n d h)) hn
theorem base_of {o : Expr} {m : Str} {env : PySem.Env} {w : Sem Value} (h : isBase o = true) : attributeBase o m env w = w := by
  unfold isBase at h
  split at h
  · cases h
  · rename_i hn
    unfold attributeBase
    split
    · exact absurd rfl (hn _ _ _)
    · rfl
theorem idx_rd {F2 : Addr → Prop} {H2 : Hp} {Q : VK} {W : Str → Hp → Prop} {l : Addr} {ys : List V} {xs : List PyData} {v2 : V} {u : Vw} (d2 : Dom F2 H2) (hq : SqL X.K H2 l ys) (rl : RepL X.K F2 H2 ys xs) (v2' : PRep X.K F2 H2 v2 u.peek)
    (p2 : Post X.K W F2 H2 Q (gIdx xs u)) : rIndexD X.K (.ref l) [v2] H2 Q := by
  unfold gIdx at p2
  obtain ⟨⟨f1, f2⟩, p3⟩ := post_if p2
  split at p3
  · rename_i j ej
    obtain ⟨hj, hz, hno⟩ := List.findIdx?_eq_some_iff_getElem.mp ej
    have f3 : finS 10 (.list xs) = true := f2
    refine ⟨l, v2, u.peek, xs, j, xs[j], rfl, rfl, .lst hq (rl.dp (all_plain ?_)), v2'.dp (fin_plain _ _ (finS_fin _ _ f1)), finS_shaped f3 (by decide), finS_shaped f1 (by decide), List.getElem?_eq_getElem hj, hz, fun m z' hm hz' => ?_, p3.dat d2 (.int _)⟩
    · rw [List.all_eq_true] at f2 ⊢
      exact fun x hx => finS_fin 9 x (f2 x hx)
    · have := hno m hm
      rw [List.getElem?_eq_getElem (Nat.lt_trans hm hj)] at hz'
      cases hz'
      simpa using this
  · exact p3.elim
theorem snd_idx (hu : X.A.units + 65 < cLine) {f g : Env → R Vw} {o a : Expr} {ap cp : Pos} (ho : SndE X W H0 f o) (ha : SndE X W H0 g a) (hb : isBase o = true) (hl : (ap.endLine == cp.line) = true) (hs : isStar a = false) :
    SndE X W H0 (fun ρ => (f ρ).bind fun w => (lsW w).bind fun xs => (g ρ).bind fun u => gIdx xs u) (.Call (.Attribute o "index" ap) [a] [] cp) := by
  intro ρ σ F H Q r dm sm p
  refine pe_ev (pe_bm PySem.F.plainAttrs_list PySem.F.slot_list_index PySem.F.type_list_index (mt_indexD hu) pe_can (pa_cons pe_can pa_nil (star_cons hs)) (base_of hb) (by rw [star_cons hs]; rfl) hl (star_cons hs) rfl) ?_
  refine ho.thn r dm sm p fun w v F1 H1 e1 x1 d1 r1 s1 v1 p1 => ?_
  unfold lsW at p1
  split at p1
  · rename_i xs ex
    have vp := v1.p
    rw [ex] at vp
    have p1 : Post X.K (fun c H => W c σ H) F1 H1 Q ((g ρ).bind fun u => gIdx xs u) := p1
    cases vp with
    | @lst l ys _ hq rl =>
      refine ⟨.inl ⟨rfl, ys, hq⟩, ha.thn r1 d1 s1 p1 fun u v2 F2 H2 e2 x2 d2 r2 s2 v2' p2 => ?_⟩
      exact idx_rd d2 (x2.same.seq hq) (rl.ext x2) v2'.p p2
  · exact p1.elim
end
end BR
namespace BR
open PySem PySem.Spec PyProof.Rows L2
/-- the heap is written at an object that is younger than the entry -/
theorem ext_wr {F0 F : Addr → Prop} {H0 H : Hp} (x : Ext F0 H0 F H) {l : Addr} {o : HO} (n : H0 l = none) : Ext F0 H0 F (upd H l o) :=
  ⟨fun b q e => by rw [upd_ne (ne_of_none e n)]; exact x.same b q e, x.mono, x.new⟩
theorem dom_wr {F : Addr → Prop} {H : Hp} (d : Dom F H) {l : Addr} {o : HO} : Dom F (upd H l o) := fun a f e => by
  by_cases z : a = l
  · subst z; rw [upd_same] at e; cases e
  · rw [upd_ne z] at e; exact d a f e

/-! ### more rules -/
section
variable {X : Cx}
/-- {k: v}, k a tuple -/
def tDispT (tk tv : TE) : TE := fun σ H Q => ∀ p, H p = none → tk σ (upd H p (.dT [])) fun x0 H1 => tv σ H1 fun y0 H2 => ∃ x y b ks, [(x0, y0)] = [(x, y)] ∧ x = .ref b ∧ H2 b = some (.tup (ks.map kV)) ∧ H2 p = some (.dT []) ∧ Q (.ref p) (upd H2 p (.dT [(ks, y)]))
theorem pe_dispT {k v : Expr} {tk tv : TE} {pos : Pos} (hu : X.A.units + 1 < cLine) (hk : PE X k tk) (hv : PE X v tv) : PE X (.Dict [some k] [v] pos) (tDispT tk tv) := by
  refine ⟨fun pins s σ H Q I q => ?_⟩
  have hn := I.hok.fresh (Nat.le_refl s.heap.objs.size)
  have I1 := I.laid (a := s.heap.objs.size) (o := .dT []) (h' := s.heap.push { cls := .type "dict", data := .dict #[] }) (t' := s.toks) (fun _ _ q => Heap.get?_push_of_some _ q) (Nat.le_refl _) (dt_empty s.heap I.big)
  have shape : (evalEachOpt [some k] X.env).zip ((evalEach [v] X.env).map fun v => do let x ← v; standAt pos; pure x) = (pairTrees [some k] [v] X.env pos).map fun p => (some p.1, p.2) := rfl
  have h15 : (pairTrees [some k] [v] X.env pos).length ≤ 15 := show 1 ≤ 15 by decide
  rw [arm_eval_Dict, shape, dictDisplay_pairs _ (fun z => by cases z) (Nat.lt_of_le_of_lt h15 (by decide))]
  refine wpAny_bind (wpAny_standAt (wpAny_bind (wpAny_subDictH (knd := tupleKind (mixKind X.prog X.w)) (show X.A.units < cLine by omega) h15 ?_)))
  have run := (pps_cons (pos := pos) hk hv pps_nil).run pins _ σ _ (fun ps H2 => ∃ x y b ks, ps = [(x, y)] ∧ x = .ref b ∧ H2 b = some (.tup (ks.map kV)) ∧ H2 s.heap.objs.size = some (.dT []) ∧ Q (.ref s.heap.objs.size) (upd H2 s.heap.objs.size (.dT [(ks, y)]))) I1 ?_
  · refine thn run fun vs s2 ⟨ps, H2, I2, rel, x, y, b, ks, eps, ex, hb, hp, hq⟩ => ?_
    subst eps ex
    cases rel with
    | @cons _ q _ _ hxy rest =>
      cases rest
      obtain ⟨u, u2⟩ := q
      obtain ⟨rx, ry⟩ := hxy
      obtain rfl : u = Value.ref b := rx
      obtain ⟨z, hd, xs, rel, dd⟩ := dt_of I2.hok hp
      cases rel
      refine ⟨[(ks, b, u2)], ⟨rfl, rfl, key_of I2.hok hb, trivial⟩, dd, fun h' tk dz hs => wpAny_pure ⟨.ref s.heap.objs.size, _, ?_, rfl, hq⟩⟩
      obtain ⟨o, es, ep, ho, h2, h3, h4, h6, h5⟩ := dz
      have key : KT (upd H2 s.heap.objs.size (.dT [(ks, y)])) [(ks, y)] [(ks, b, u2)] := .cons ⟨rfl, by
        rw [upd_ne (ne_of hb hp (fun z => nomatch z))]
        exact hb, ry⟩ .nil
      exact d_write I2 (by rw [hp]; exact True.intro) hs ⟨_, ho⟩ ⟨show 1 ≤ sizeLine by rw [sizeLine_eq]; decide, hd, _, key, o, es, ep, ho, h2, h3, h4, h5⟩
  · exact q _ hn
end
section
variable {X : Cx} {W : WS} {H0 : Hp}
theorem toD_bindE {K : PySem.W.Frag} {W : Str → Hp → Prop} {F : Addr → Prop} {H : Hp} {Q : VK} {w : Vw} {g : PyData → R Vw} (p : Post K W F H Q (w.toD.bind g)) : ∃ d, w.toD = .ok d ∧ Post K W F H Q (g d) := by
  cases q : w.toD with
  | ok d => rw [q] at p; exact ⟨d, rfl, p⟩
  | exc c => cases w <;> cases q
  | stk => rw [q] at p; exact p.elim
theorem snd_disp {f g : Env → R Vw} {k v : Expr} {pos : Pos} (hu : X.A.units + 1 < cLine) (hk : SndE X W H0 f k) (hv : SndE X W H0 g v) :
    SndE X W H0 (fun ρ => (f ρ).bind fun w => (g ρ).bind fun u => gDisp w u) (.Dict [some k] [v] pos) := by
  intro ρ σ F H Q r dm sm p
  have hp := p
  dsimp only at hp
  refine pe_ev (pe_dispT hu pe_can pe_can) fun a ha => ?_
  have xa := Ext.upd (F := F) (o := .dT []) ha
  refine hk.thn (r.ext xa) (dm.same xa.same) (sm.trans xa.same) (p.ext xa) fun w x F1 H1 e1 x1 d1 r1 s1 v1 p1 => ?_
  refine hv.thn r1 d1 s1 p1 fun u y F2 H2 e2 x2 d2 r2 s2 v2 p2 => ?_
  unfold gDisp at p2
  split at p2
  · rename_i xs
    split at p2
    · rename_i ks eks
      obtain ⟨d, ed, p3⟩ := toD_bindE p2
      have v1' := v1.ext x2
      cases v1' with
      | @tup b vs _ hb rl =>
      rw [intsOf_some eks] at rl
      have q1 := rl.ints
      subst q1
      have hp2 : H2 a = some (.dT []) := x2.same _ _ (x1.same _ _ upd_same)
      refine ⟨.ref b, y, b, toKey ks, rfl, rfl, by rw [toKey_kV]; exact hb, hp2, ?_⟩
      rw [e1, e2] at hp
      unfold gDisp at hp
      simp only [R.bind, eks, ed] at hp
      have xA := FzA.ext x2
      have rd := v2.fz ed
      have x02 : Ext F H F2 H2 := ⟨xa.same.trans (x1.same.trans x2.same), fun b f => x2.mono b (x1.mono b f), fun b f => (x2.new b f).elim (fun q => (x1.new b q).elim .inl fun z => .inr (same_upd ha |>.free z)) fun z => .inr (xa.same.free (x1.same.free z))⟩
      have nA : ¬ FzA F2 H1 H2 a := fun q => q.elim (fun q => (x2.new a q).elim (fun q => (x1.new a q).elim (fun q => dm a q ha) fun z => by rw [upd_same] at z; cases z) fun z => by rw [x1.same _ _ upd_same] at z; cases z) fun q => by
        have := x1.same _ _ (upd_same : upd H a (.dT []) a = _)
        rw [q.1] at this
        cases this
      have xF : Ext F H (FzA F2 H1 H2) H2 := ⟨x02.same, fun b f => .inl (x02.mono b f), fun b f => f.elim (x02.new b) fun z => .inr (xa.same.free (x1.same.free z.1))⟩
      have kp : Kp (FzA F2 H1 H2) H2 (upd H2 a (.dT [(toKey ks, y)])) := {
        fz := fun b q f e => by rw [upd_ne (fun z => nA (by rw [← z]; exact f))]; exact e
        tup := fun b q e => by rw [upd_ne (fun z => by rw [z, hp2] at e; cases e)]; exact e
        frz := fun b q u' e => by rw [upd_ne (fun z => by rw [z, hp2] at e; cases e)]; exact e }
      exact hp _ _ _ (ext_wr xF ha) (dom_wr (FzA.dom d2)) ⟨a, _, rfl, upd_same, .cons (rd.mono kp fun _ z => z) .nil, ha, nA⟩
    · exact p2.elim
  · exact p2.elim
theorem dctV_bind {K : PySem.W.Frag} {W : Str → Hp → Prop} {F : Addr → Prop} {H : Hp} {Q : VK} {w : Vw} {g : List (D × D) → R Vw} (p : Post K W F H Q ((dctV w).bind g)) : ∃ ds, w.peek = .dict ds ∧ Post K W F H Q (g ds) := by
  unfold dctV at p
  split at p
  · rename_i ds e
    exact ⟨ds, e, p⟩
  · exact p.elim
theorem snd_get (hu : X.A.units + 1 < cLine) {f g h : Env → R Vw} {o k e : Expr} {apos cpos : Pos} (m : M2 X o "get" apos k e cpos) (ho : SndE X W H0 f o) (hk : SndE X W H0 g k) (he : SndE X W H0 h e) :
    SndE X W H0 (fun ρ => (f ρ).bind fun w => (dctV w).bind fun ds => (g ρ).bind fun u => (h ρ).bind fun z => gGet ds u z) (.Call (.Attribute o "get" apos) [k, e] [] cpos) := by
  intro ρ σ F H Q r dm sm p
  refine pe_ev (pe_dget2 hu pe_can pe_can pe_can m) ?_
  refine ho.thn r dm sm p fun w v F1 H1 e1 x1 d1 r1 s1 v1 p1 => ?_
  obtain ⟨ds, ed, p1⟩ := dctV_bind p1
  have vp := v1.p
  rw [ed] at vp
  cases vp with
  | @dct a kvs _ hd rk =>
    refine ⟨a, rfl, .inr ⟨kvs, hd⟩, ?_⟩
    refine hk.thn r1 d1 s1 p1 fun u y F2 H2 e2 x2 d2 r2 s2 v2 p2 => ?_
    refine he.thn r2 d2 s2 p2 fun o z F3 H3 e3 x3 d3 r3 s3 v3 p3 => ?_
    unfold gGet at p3
    split at p3
    · split at p3
      · rename_i k0 ek
        have v2' := v2.ext x3
        cases v2' with
        | @tup b vs _ hb rl =>
        rw [intsOf_some ek] at rl
        have q1 := rl.ints
        subst q1
        have x13 := x2.trans x3
        have hd3 : Rd H3 a (.dT kvs) := hd.elim (fun q => .inl (x13.same _ _ q)) fun ⟨o, q⟩ => .inr ⟨o, x13.same _ _ q⟩
        have hv := (rk.ext x13).val k0
        refine ⟨valV kvs (toKey k0), .inr ⟨kvs, toKey k0, b, hd3, rfl, by rw [toKey_kV]; exact hb, rfl⟩, ?_⟩
        split at hv
        · rename_i d0 ed0
          rw [ed0] at p3
          obtain ⟨v0, e0, r0⟩ := hv
          rw [e0]
          exact p3.dat d3 r0
        · rename_i ed0
          rw [ed0] at p3
          rw [hv]
          dsimp only at p3
          split at p3
          · exact p3.dat d3 v3
          · exact p3.elim
      · exact p3.elim
    · exact p3.elim
theorem m2_of {o a b : Expr} {m : Str} {ap cp : Pos} (h : isBase o = true) (hl : (ap.endLine == cp.line) = true) (ha : isStar a = false) (hb : isStar b = false) : M2 X o m ap a b cp where
  base := base_of h
  few := by rw [star_cons ha, star_cons hb]; rfl
  line := hl
  trees := by rw [star_cons ha, star_cons hb]; rfl
end
section
variable {T : Tab} {k : Nat} {N : List Str} {X : Cx} {sc : Scope} {W : WS} {H0 : Hp}
theorem stepX_ok {ev : Ev} (x : XOk T k N X sc W) (he : ∀ e, SndE X W H0 (ev.e sc e) e) (e : Expr) : SndE X W H0 (stepX T N ev sc e) e := by
  have stk : ∀ {f : Env → R Vw} {e : Expr}, (∀ ρ, f ρ = .stk) → SndE X W H0 f e := fun h ρ σ F H Q r dm sm p => by rw [h] at p; exact p.elim
  unfold stepX
  split
  · exact snd_disp x.hu1 (he _) (he _)
  · split
    · rename_i hl hb
      unfold gMeth
      split
      · split
        · rename_i hm h1 h2
          cases beq_iff_eq.mp hm
          exact snd_get x.hu1 (m2_of hb hl h1 h2) (he _) (he _) (he _)
        · exact stk fun _ => rfl
      · split
        · rename_i hm h1
          cases beq_iff_eq.mp hm
          exact snd_idx x.hu65 (he _) (he _) hb hl h1
        · exact stk fun _ => rfl
      · exact stk fun _ => rfl
    · exact stk fun _ => rfl
  · exact snd_pick x he
  · exact stk fun _ => rfl
end
end BR
namespace BR
open PySem PySem.Spec PyProof.Rows L2

def SndEv (T : Tab) (k : Nat) (N : List Str) (ev : Ev) : Prop :=
  ∀ (X : Cx) (sc : Scope) (W : WS) (H0 : Hp), XOk T k N X sc W → ∀ e, SndE X W H0 (ev.e sc e) e ∧ SndT X W H0 (ev.t sc e) e
section
variable {T : Tab} {k : Nat} {N : List Str} {X : Cx} {sc : Scope} {W : WS} {H0 : Hp}
theorem sndE_stk {f : Env → R Vw} {e : Expr} (h : ∀ ρ, f ρ = .stk) : SndE X W H0 f e := fun ρ σ F H Q r dm sm p => by rw [h] at p; exact p.elim
theorem sndT_stk {f : Env → R Bool} {e : Expr} (h : ∀ ρ, f ρ = .stk) : SndT X W H0 f e := fun ρ σ F H Q r dm sm p => by rw [h] at p; exact p.elim
theorem stepE_ok {ev : Ev} (hv : SndEv T k N ev) (x : XOk T k N X sc W) (e : Expr) : SndE X W H0 (stepE T N ev sc e) e := by
  have he : ∀ e, SndE X W H0 (ev.e sc e) e := fun e => (hv X sc W H0 x e).1
  have ht : ∀ e, SndT X W H0 (ev.t sc e) e := fun e => (hv X sc W H0 x e).2
  unfold stepE
  split
  · exact snd_const
  · exact snd_name x
  · exact snd_bin (he _) (he _)
  · rename_i op a pos
    cases op with
    | Not => exact snd_not (he _)
    | USub => exact snd_usub (he _)
    | _ => exact sndE_stk fun _ => rfl
  · exact snd_bo he _
  · exact snd_if (ht _) (he _) (he _)
  · exact snd_tuple he
  · exact snd_list he
  · exact snd_dict0
  · split
    · exact sndE_stk fun _ => rfl
    · rename_i hm
      exact snd_cmp x (he _) (he _) hm
  · split
    · exact sndE_stk fun _ => rfl
    · rename_i hm
      exact snd_chain x (he _) (he _) (he _) hm
  · exact snd_callN x he _
  · split
    · exact snd_slice he
    · exact snd_rev (he _)
    · split
      · exact sndE_stk fun _ => rfl
      · rename_i hs
        exact snd_ix x (he _) (he _) hs
  · exact snd_lcs x he fun scope s H C cl fp e => hv _ _ _ _ (x.blk scope s H C cl fp) e
  · exact stepX_ok x he _
/-! ### tests -/
theorem tru_of {K : PySem.W.Frag} {F : Addr → Prop} {H : Hp} {v : V} {d : D} {b : Bool} (h : PRep K F H v d) (e : gTru d = .ok b) : TruV K v H b := by
  cases h with
  | non => cases e; rfl
  | bl c => cases e; rfl
  | int i => cases e; rfl
  | str s => cases e
  | lst h r =>
    cases e
    refine .inl ⟨_, h, ?_⟩
    cases r <;> rfl
  | tup h r =>
    cases e
    refine .inr (.inl ⟨_, h, ?_⟩)
    cases r <;> rfl
  | dct h r => cases e
theorem gTru_bind {W : Str → Hp → Prop} {F : Addr → Prop} {H : Hp} {Q : Bool → Hp → Prop} {d : D} (p : PostT W F H Q (gTru d)) : ∃ b, gTru d = .ok b ∧ PostT W F H Q (.ok b) := by
  cases q : gTru d with
  | ok b => rw [q] at p; exact ⟨b, rfl, p⟩
  | exc c => cases d <;> cases q
  | stk => rw [q] at p; exact p.elim
theorem snd_tru {f : Env → R Vw} {e : Expr} (h : SndE X W H0 f e) (hp : ∀ whole, isTrue e X.env whole = (do let v ← whole; standAt e.pos; holding [v] (truthy v))) : SndT X W H0 (fun ρ => (f ρ).bind fun w => gTru w.peek) e := by
  intro ρ σ F H Q r dm sm p
  refine pt_ev (pt_truth pe_can hp) (h.thnT r dm sm p fun w v F1 H1 e1 x1 d1 r1 s1 v1 p1 => ?_)
  obtain ⟨b, eb, p2⟩ := gTru_bind p1
  exact ⟨b, tru_of v1.p eb, p2 F1 H1 .refl d1⟩
theorem snd_cmpT (x : XOk T k N X sc W) {ev : Ev} (hv : SndEv T k N ev) {a b : Expr} {op : CmpOp} {pos : Pos} : SndT X W H0 (fun ρ => (stepE T N ev sc (.Compare a [op] [b] pos) ρ).bind fun w => isB w.peek) (.Compare a [op] [b] pos) := by
  have he : ∀ e, SndE X W H0 (ev.e sc e) e := fun e => (hv X sc W H0 x e).1
  intro ρ σ F H Q r dm sm p
  unfold stepE at p
  dsimp only at p
  split at p
  · exact p.elim
  · rename_i hm
    rw [R.bind_assoc] at p
    refine pt_ev (pt_cmpR (op_gCmp (W := fun c H => W c σ H) x.hu op) pe_can pe_can hm) ((he a).thnT r dm sm p fun w v F1 H1 e1 x1 d1 r1 s1 v1 p1 => ?_)
    rw [R.bind_assoc] at p1
    refine (he b).thnT r1 d1 s1 p1 fun u v2 F2 H2 e2 x2 d2 r2 s2 q2 p2 => ?_
    refine ⟨F2, w, u, d2, ⟨_, v1.ext x2⟩, ⟨_, q2⟩, ?_⟩
    cases qz : gCmp op w u with
    | stk => rw [qz] at p2; exact p2.elim
    | exc c => rw [qz] at p2; exact p2
    | ok z =>
      rw [qz] at p2
      intro vz F3 H3 x3 d3 rz
      obtain ⟨bz, eb, p3⟩ := isB_bindT (PostT.ext (r := isB z.peek) p2 x3)
      exact ⟨bz, bool_of rz eb, p3 F3 H3 .refl d3⟩
theorem snd_chainT (x : XOk T k N X sc W) {ev : Ev} (hv : SndEv T k N ev) {a b c : Expr} {op op' : CmpOp} {pos : Pos} : SndT X W H0 (fun ρ => (stepE T N ev sc (.Compare a [op, op'] [b, c] pos) ρ).bind fun w => isB w.peek) (.Compare a [op, op'] [b, c] pos) := by
  have he : ∀ e, SndE X W H0 (ev.e sc e) e := fun e => (hv X sc W H0 x e).1
  intro ρ σ F H Q r dm sm p
  unfold stepE at p
  dsimp only at p
  split at p
  · exact p.elim
  · rename_i hm
    rw [R.bind_assoc] at p
    refine pt_ev (pt_chain (op_gCmp (W := fun c H => W c σ H) x.hu op) (op_gCmp (W := fun c H => W c σ H) x.hu op') pe_can pe_can pe_can hm) ((he a).thnT r dm sm p fun w v F1 H1 e1 x1 d1 r1 s1 v1 p1 => ?_)
    rw [R.bind_assoc] at p1
    refine (he b).thnT r1 d1 s1 p1 fun u v2 F2 H2 e2 x2 d2 r2 s2 q2 p2 => ?_
    refine ⟨F2, w, u, d2, ⟨_, v1.ext x2⟩, ⟨_, q2⟩, ?_⟩
    rw [R.bind_assoc] at p2
    cases qz : gCmp op w u with
    | stk => rw [qz] at p2; exact p2.elim
    | exc c => rw [qz] at p2; exact p2
    | ok z =>
      rw [qz] at p2
      intro vz F3 H3 x3 d3 rz
      have p3 : PostT (fun c H => W c σ H) F3 H3 Q (((isB z.peek).bind fun k => match k with
        | true => (ev.e sc c ρ).bind fun v => gCmp op' u v
        | false => .ok (.dt (.bool false))).bind fun w => isB w.peek) := PostT.ext (r := ((isB z.peek).bind fun k => match k with
        | true => (ev.e sc c ρ).bind fun v => gCmp op' u v
        | false => .ok (.dt (.bool false))).bind fun w => isB w.peek) p2 x3
      cases qb : isB z.peek with
      | stk => rw [qb] at p3; exact p3.elim
      | exc cc => rw [qb] at p3; revert qb; cases z.peek <;> intro qb <;> cases qb
      | ok bz =>
        rw [qb] at p3
        refine ⟨bz, bool_of rz qb, ?_⟩
        cases bz with
        | true =>
          have p3 : PostT (fun c H => W c σ H) F3 H3 Q (((ev.e sc c ρ).bind fun v => gCmp op' u v).bind fun w => isB w.peek) := p3
          rw [R.bind_assoc] at p3
          refine iteT ((he c).thnT (r2.ext x3) d3 (s2.trans x3.same) p3 fun y vy F4 H4 e4 x4 d4 r4 s4 q4 p4 => ?_)
          refine ⟨F4, u, y, d4, ⟨_, (q2.ext x3).ext x4⟩, ⟨_, q4⟩, ?_⟩
          cases qy : gCmp op' u y with
          | stk => rw [qy] at p4; exact p4.elim
          | exc cc => rw [qy] at p4; exact p4
          | ok z2 =>
            rw [qy] at p4
            intro vz2 F5 H5 x5 d5 rz2
            obtain ⟨b2, eb2, p5⟩ := isB_bindT (PostT.ext (r := isB z2.peek) p4 x5)
            exact ⟨b2, bool_of rz2 eb2, p5 F5 H5 .refl d5⟩
        | false => exact iteF ⟨false, rfl, p3 F3 H3 .refl d3⟩
theorem stepT_ok {ev : Ev} (hv : SndEv T k N ev) (x : XOk T k N X sc W) (e : Expr) : SndT X W H0 (stepT T N ev sc e) e := by
  have he : ∀ e, SndE X W H0 (ev.e sc e) e := fun e => (hv X sc W H0 x e).1
  have ht : ∀ e, SndT X W H0 (ev.t sc e) e := fun e => (hv X sc W H0 x e).2
  unfold stepT
  split
  · rename_i a pos
    intro ρ σ F H Q r dm sm p
    exact pt_ev (pt_not pt_can) ((ht a).thnT r dm sm p fun b F1 H1 e1 x1 d1 r1 s1 p1 => p1 F1 H1 .refl d1)
  · rename_i op xs pos
    exact fun ρ σ F H Q r dm sm p pins s I => snd_ts ht xs ρ σ F H Q r dm sm p _ pins s I
  · exact snd_cmpT x hv
  · exact snd_chainT x hv
  · exact snd_tru (he _) fun _ => rfl
  · exact snd_tru (he _) fun _ => rfl
  · exact snd_tru (he _) fun _ => rfl
  · exact sndT_stk fun _ => rfl
/-! ### the evaluator of expressions, by fuel -/
end
def ev0 : Ev := ⟨fun _ _ _ => .stk, fun _ _ _ => .stk, fun _ _ _ => .stk⟩
end BR
namespace BR
open PySem PySem.Spec PyProof.Rows L2

/-! ### what is wanted of a statement -/
def PostS (K : PySem.W.Frag) (W : WS) (F0 : Addr → Prop) (H0 : Hp) (F : Addr → Prop) (H : Hp) (D : Ends) : R Fl → Prop
  | .ok (.nx ρ) => ∀ σ' F' H', (∀ a, F a → F' a) → Kp F H H' → Ext F0 H0 F' H' → Dom F' H' → RepS K H0 F' H' σ' ρ → D.nx σ' H'
  | .ok (.rt w) => ∀ v F' H', Ext F0 H0 F' H' → Dom F' H' → VRep K F' H0 H' v w → D.rt v H'
  | .exc c => ∀ σ' F' H', Ext F0 H0 F' H' → Dom F' H' → W c σ' H'
  | .stk => False
section
variable {K : PySem.W.Frag} {W : WS} {F0 F F' : Addr → Prop} {H0 H H' : Hp} {D : Ends}
theorem PostS.kp {r : R Fl} (p : PostS K W F0 H0 F H D r) (m : ∀ a, F a → F' a) (kp : Kp F H H') : PostS K W F0 H0 F' H' D r := by
  cases r with
  | ok z =>
    cases z with
    | nx ρ => exact fun σ2 F2 H2 m2 k2 => p σ2 F2 H2 (fun a h => m2 a (m a h)) (kp.trans m k2)
    | rt w => exact p
  | exc c => exact p
  | stk => exact p
theorem PostS.ext {r : R Fl} (p : PostS K W F0 H0 F H D r) (e : Ext F H F' H') : PostS K W F0 H0 F' H' D r := p.kp e.mono (.of e.same)
theorem postS_if {c : Prop} [Decidable c] {r : R Fl} (p : PostS K W F0 H0 F H D (if c then r else .stk)) : c ∧ PostS K W F0 H0 F H D r := by
  by_cases h : c
  · rw [if_pos h] at p; exact ⟨h, p⟩
  · rw [if_neg h] at p; exact p.elim
/-- going on -/
theorem PostS.bind {r : R Fl} {g : Env → R Fl} (p : PostS K W F0 H0 F H D (r.bind fun z => match z with | .nx ρ => g ρ | .rt w => .ok (.rt w))) {D' : Ends} (hr : D'.rt = D.rt)
    (k : ∀ ρ, r = .ok (.nx ρ) → ∀ σ' F' H', (∀ a, F a → F' a) → Kp F H H' → Ext F0 H0 F' H' → Dom F' H' → RepS K H0 F' H' σ' ρ → PostS K W F0 H0 F' H' D (g ρ) → D'.nx σ' H') : PostS K W F0 H0 F H D' r := by
  cases r with
  | ok z =>
    cases z with
    | nx ρ => exact fun σ' F' H' m kp e d r => k ρ rfl σ' F' H' m kp e d r (PostS.kp (r := g ρ) p m kp)
    | rt w =>
      intro v F' H' e d r
      rw [hr]
      exact p v F' H' e d r
  | exc c => exact p
  | stk => exact p
end
/-- what a statement's evaluator's function is for -/
def SndS (X : Cx) (W : WS) (F0 : Addr → Prop) (H0 : Hp) (f : Env → R Fl) (st : Stmt) : Prop :=
  ∀ ρ σ F H D, RepS X.K H0 F H σ ρ → Dom F H → Ext F0 H0 F H → PostS X.K W F0 H0 F H D (f ρ) → EsOk X st D σ H
def SndSS (X : Cx) (W : WS) (F0 : Addr → Prop) (H0 : Hp) (f : Env → R Fl) (st : List Stmt) : Prop :=
  ∀ ρ σ F H D, RepS X.K H0 F H σ ρ → Dom F H → Ext F0 H0 F H → PostS X.K W F0 H0 F H D (f ρ) → EssOk X st D σ H
structure SOk (T : Tab) (k : Nat) (N : List Str) (X : Cx) (sc : Scope) (W : WS) : Prop where
  x : XOk T k N X sc W
  st : StOk N X sc
  fn : sc.kind = .function
  fr : X.stack = X.env :: X.outer ∧ X.env.frame = some X.env.locals
  hp : PassesOwn (model X.prog X.w) X.A X.env X.xe
section
variable {X : Cx} {W : WS} {F0 : Addr → Prop} {H0 : Hp} {ρ : Env} {σ : L2.St} {F : Addr → Prop} {H : Hp} {D : Ends}
theorem SndE.thnS {f : Env → R Vw} {e : Expr} {g : Vw → R Fl} {Q1 : VK} (h : SndE X W H0 f e) (r : RepS X.K H0 F H σ ρ) (dm : Dom F H) (x : Ext F0 H0 F H) (p : PostS X.K W F0 H0 F H D ((f ρ).bind g))
    (k : ∀ w v F1 H1, f ρ = .ok w → Ext F H F1 H1 → Dom F1 H1 → RepS X.K H0 F1 H1 σ ρ → Ext F0 H0 F1 H1 → VRep X.K F1 H H1 v w → PostS X.K W F0 H0 F1 H1 D (g w) → Q1 v H1) : EvOk X e σ H Q1 := by
  refine h ρ σ F H Q1 r dm x.same ?_
  cases q : f ρ with
  | ok w =>
    rw [q] at p
    exact fun v F1 H1 e1 d1 rv => k w v F1 H1 q e1 d1 (r.ext e1) (x.trans e1) rv (PostS.ext (r := g w) p e1)
  | exc c => rw [q] at p; exact fun F' H' e d => p σ F' H' (x.trans e) d
  | stk => rw [q] at p; exact p.elim
theorem SndT.thnS {f : Env → R Bool} {e : Expr} {g : Bool → R Fl} {Q1 : Bool → Hp → Prop} (h : SndT X W H0 f e) (r : RepS X.K H0 F H σ ρ) (dm : Dom F H) (x : Ext F0 H0 F H) (p : PostS X.K W F0 H0 F H D ((f ρ).bind g))
    (k : ∀ b F1 H1, f ρ = .ok b → Ext F H F1 H1 → Dom F1 H1 → RepS X.K H0 F1 H1 σ ρ → Ext F0 H0 F1 H1 → PostS X.K W F0 H0 F1 H1 D (g b) → Q1 b H1) : EtOk X e σ H Q1 := by
  refine h ρ σ F H Q1 r dm x.same ?_
  cases q : f ρ with
  | ok w =>
    rw [q] at p
    exact fun F1 H1 e1 d1 => k w F1 H1 q e1 d1 (r.ext e1) (x.trans e1) (PostS.ext (r := g w) p e1)
  | exc c => rw [q] at p; exact fun F' H' e d => p σ F' H' (x.trans e) d
  | stk => rw [q] at p; exact p.elim
theorem SndI.thnS {f : Env → R (List PyData)} {tg e : Expr} {kp : Bool} {g : List PyData → R Fl} {R1 : It → Hp → Prop} (h : SndI X W H0 kp tg f e) (r : RepS X.K H0 F H σ ρ) (dm : Dom F H) (x : Ext F0 H0 F H) (p : PostS X.K W F0 H0 F H D ((f ρ).bind g))
    (k : ∀ ds J F1 H1, f ρ = .ok ds → Ext F H F1 H1 → Dom F1 H1 → RepS X.K H0 F1 H1 σ ρ → Ext F0 H0 F1 H1 → Wk X.K (relI kp F1 H1) J ds → PostS X.K W F0 H0 F1 H1 D (g ds) → R1 J H1) : EiOk X tg e σ H R1 := by
  refine h ρ σ F H R1 r dm x.same ?_
  cases q : f ρ with
  | ok w =>
    rw [q] at p
    exact fun J F1 H1 e1 d1 wk => k w J F1 H1 q e1 d1 (r.ext e1) (x.trans e1) wk (PostS.ext (r := g w) p e1)
  | exc c => rw [q] at p; exact fun F' H' e d => p σ F' H' (x.trans e) d
  | stk => rw [q] at p; exact p.elim
theorem bindS_ok {α : Type} {K : PySem.W.Frag} {r : R α} {g : α → R Fl} (p : PostS K W F0 H0 F H D (r.bind g)) (nx : ∀ c, r ≠ .exc c) : ∃ a, r = .ok a ∧ PostS K W F0 H0 F H D (g a) := by
  cases r with
  | ok a => exact ⟨a, rfl, p⟩
  | exc c => exact absurd rfl (nx c)
  | stk => exact p.elim
end

/-! ### slots are changed -/
section
variable {K : PySem.W.Frag} {F F' : Addr → Prop} {H0 H H' : Hp} {σ : L2.St} {ρ : Env}
theorem RepS.emR (r : RepS K H0 F H σ ρ) (j : Nat) : RepS K H0 F H σ (ρ.set j .em) := by
  have get : ∀ (i : Nat) (s : Sl), (ρ.set j .em)[i]? = some s → s = .em ∨ ρ[i]? = some s := fun i s h => by
    by_cases e : j = i
    · subst e
      by_cases hl : j < ρ.length
      · rw [List.getElem?_set_self hl] at h; cases h; exact .inl rfl
      · rw [List.getElem?_eq_none (by rw [List.length_set]; omega)] at h; cases h
    · rw [List.getElem?_set_ne e] at h
      exact .inr h
  refine ⟨by rw [List.length_set]; exact r.len, fun i s h => (get i s h).elim .inl (r.get i s), fun a b s t l h1 h2 o1 o2 e1 e2 => ?_⟩
  rcases get a s h1 with q | q
  · subst q; cases o1
  · rcases get b t h2 with q2 | q2
    · subst q2; cases o2
    · exact r.inj a b s t l q q2 o1 o2 e1 e2
theorem SRep.move {v : V} {s : Sl} (h : SRep K F H0 H v s) (m : ∀ a, F a → F' a) (kp : Kp F H H') (ow : s.own = true → ∀ l, v = .ref l → H' l = H l ∧ ¬ F' l) : SRep K F' H0 H' v s := by
  cases s with
  | em => trivial
  | dd d => exact Rep.mono kp m h
  | ol ds =>
    obtain ⟨l, xs, rfl, h, r, n, f⟩ := h
    obtain ⟨e, nf⟩ := ow rfl l rfl
    exact ⟨l, xs, rfl, by rw [e]; exact h, r.mono kp m, n, nf⟩
  | od ks =>
    obtain ⟨l, xs, rfl, h, r, n, f⟩ := h
    obtain ⟨e, nf⟩ := ow rfl l rfl
    exact ⟨l, xs, rfl, by rw [e]; exact h, r.mono kp m, n, nf⟩
theorem RepS.move (r : RepS K H0 F H σ ρ) (m : ∀ a, F a → F' a) (kp : Kp F H H') (ow : ∀ (i : Nat) (s : Sl) (l : Addr), ρ[i]? = some s → s.own = true → σ[i]? = some (some (.ref l)) → H' l = H l ∧ ¬ F' l) : RepS K H0 F' H' σ ρ :=
  ⟨r.len, fun i s h => (r.get i s h).imp id fun ⟨v, h1, h2⟩ => ⟨v, h1, h2.move m kp fun o l e => ow i s l h o (by rw [h1, e])⟩, r.inj⟩
theorem RepS.setS {i : Nat} {v : V} {s : Sl} (r : RepS K H0 F H σ (ρ.set i .em)) (hv : σ[i]? = some (some v)) (hs : SRep K F H0 H v s) (nq : s.own = true → ∀ (j : Nat) (t : Sl) (l : Addr), j ≠ i → ρ[j]? = some t → t.own = true → σ[j]? = some (some (.ref l)) → v ≠ .ref l) : RepS K H0 F H σ (ρ.set i s) := by
  have len := r.len
  rw [List.length_set] at len
  have hl : i < ρ.length := by
    rw [len]
    rcases Nat.lt_or_ge i σ.length with q | q
    · exact q
    · rw [List.getElem?_eq_none q] at hv; cases hv
  refine ⟨by rw [List.length_set]; exact len, fun j t h => ?_, fun a b t u l h1 h2 o1 o2 e1 e2 => ?_⟩
  · by_cases e : i = j
    · subst e
      rw [List.getElem?_set_self hl] at h; cases h
      exact .inr ⟨v, hv, hs⟩
    · refine r.get j t ?_
      rw [List.getElem?_set_ne e] at h ⊢
      exact h
  · by_cases ha : i = a
    · by_cases hb : i = b
      · rw [← ha, ← hb]
      · subst ha
        rw [List.getElem?_set_self hl] at h1; cases h1
        rw [List.getElem?_set_ne hb] at h2
        rw [hv] at e1
        exact absurd (Option.some.inj (Option.some.inj e1)) (nq o1 b u l (Ne.symm hb) h2 o2 e2)
    · by_cases hb : i = b
      · subst hb
        rw [List.getElem?_set_self hl] at h2; cases h2
        rw [List.getElem?_set_ne ha] at h1
        rw [hv] at e2
        exact absurd (Option.some.inj (Option.some.inj e2)) (nq o2 a t l (Ne.symm ha) h1 o1 e1)
      · refine r.inj a b t u l ?_ ?_ o1 o2 e1 e2
        · rw [List.getElem?_set_ne ha] at h1 ⊢; exact h1
        · rw [List.getElem?_set_ne hb] at h2 ⊢; exact h2
/-- the other own slots stand elsewhere -/
theorem RepS.apart (r : RepS K H0 F H σ ρ) {i : Nat} {s : Sl} {l : Addr} (h : ρ[i]? = some s) (o : s.own = true) (e : σ[i]? = some (some (.ref l))) {j : Nat} {t : Sl} {m : Addr} (hj : (ρ.set i .em)[j]? = some t) (oj : t.own = true) (ej : σ[j]? = some (some (.ref m))) : m ≠ l ∧ ∃ o, H m = some o ∧ ¬ F m := by
  have ne : i ≠ j := fun z => by
    subst z
    have hl : i < ρ.length := by
      rcases Nat.lt_or_ge i ρ.length with q | q
      · exact q
      · rw [List.getElem?_eq_none q] at h; cases h
    rw [List.getElem?_set_self hl] at hj; cases hj; cases oj
  rw [List.getElem?_set_ne ne] at hj
  refine ⟨fun z => ne (r.inj i j s t l h hj o oj e (by rw [ej, z])), ?_⟩
  rcases r.get j t hj with q | ⟨v, h1, h2⟩
  · subst q; cases oj
  · rw [ej] at h1; cases h1
    cases t with
    | ol ds => obtain ⟨l', xs, z, z2, _, _, z3⟩ := h2; cases z; exact ⟨_, z2, z3⟩
    | od ds => obtain ⟨l', xs, z, z2, _, _, z3⟩ := h2; cases z; exact ⟨_, z2, z3⟩
    | _ => cases oj
theorem RepS.ol (r : RepS K H0 F H σ ρ) {i : Nat} {ds : List PyData} (h : ρ[i]? = some (.ol ds)) : ∃ l xs, σ[i]? = some (some (.ref l)) ∧ H l = some (.lst xs) ∧ RepL K F H xs ds ∧ H0 l = none ∧ ¬ F l := by
  rcases r.get i _ h with q | ⟨v, h1, l, xs, rfl, h2, h3, h4, h5⟩
  · cases q
  · exact ⟨l, xs, h1, h2, h3, h4, h5⟩
theorem RepS.od (r : RepS K H0 F H σ ρ) {i : Nat} {ds : KD} (h : ρ[i]? = some (.od ds)) : ∃ l xs, σ[i]? = some (some (.ref l)) ∧ H l = some (.dT xs) ∧ RepK K F H xs (ds.map fun p => (keyD p.1, p.2)) ∧ H0 l = none ∧ ¬ F l := by
  rcases r.get i _ h with q | ⟨v, h1, l, xs, rfl, h2, h3, h4, h5⟩
  · cases q
  · exact ⟨l, xs, h1, h2, h3, h4, h5⟩
/-- an own slot's list is written; the new items are known behind -/
theorem RepS.wr (r : RepS K H0 F H σ ρ) {i : Nat} {s s' : Sl} {l : Addr} {o : HO} (h : ρ[i]? = some s) (ow : s.own = true) (e : σ[i]? = some (some (.ref l))) (hH : ∃ u, H l = some u ∧ (∀ xs, u ≠ .tup xs) ∧ ∀ a b, u ≠ .frz a b) (nf : ¬ F l)
    (ns : ∀ kp : Kp F H (upd H l o), SRep K F H0 (upd H l o) (.ref l) s') : RepS K H0 F (upd H l o) σ (ρ.set i s') ∧ Kp F H (upd H l o) := by
  obtain ⟨u, hu, u1, u2⟩ := hH
  have kp : Kp F H (upd H l o) := {
    fz := fun a q f e => by rw [upd_ne (fun z => nf (by rw [← z]; exact f))]; exact e
    tup := fun a q e => by rw [upd_ne (fun z => by rw [z, hu] at e; exact u1 _ (Option.some.inj e))]; exact e
    frz := fun a q u' e => by rw [upd_ne (fun z => by rw [z, hu] at e; exact u2 _ _ (Option.some.inj e))]; exact e }
  refine ⟨RepS.setS ((r.emR i).move (fun _ x => x) kp fun j t m hj oj ej => ?_) e (ns kp) fun o' j t m ne hj oj ej z => ?_, kp⟩
  · obtain ⟨ne, _, _, nF⟩ := r.apart h ow e hj oj ej
    exact ⟨upd_ne ne, nF⟩
  · cases z
    exact ne (r.inj i j s t l h hj ow oj e ej).symm
/-- an own slot's list is frozen -/
theorem RepS.frz (r : RepS K H0 F H σ ρ) {i : Nat} {ds : List PyData} {l : Addr} {xs : List V} (h : ρ[i]? = some (.ol ds)) (e : σ[i]? = some (some (.ref l))) (hH : H l = some (.lst xs)) (rl : RepL K F H xs ds) : RepS K H0 (Fz F l) H σ (ρ.set i (.dd (.list ds))) := by
  have m : ∀ a, F a → Fz F l a := fun _ x => .inl x
  refine RepS.setS ((r.emR i).move m Kp.refl fun j t m hj oj ej => ?_) e ?_ fun o' => nomatch o'
  · obtain ⟨ne, _, _, nF⟩ := r.apart h rfl e hj oj ej
    exact ⟨rfl, fun q => q.elim nF ne⟩
  · exact Rep.lst (.inl ⟨.inr rfl, hH⟩) (rl.mono Kp.refl m)
/-- an own slot's dict is frozen -/
theorem RepS.frzD (r : RepS K H0 F H σ ρ) {i : Nat} {ks : KD} {l : Addr} {xs : List (List Key × V)} {ob : Obj} (h : ρ[i]? = some (.od ks)) (e : σ[i]? = some (some (.ref l))) (hH : H l = some (.dT xs)) (nf : ¬ F l) (rl : RepK K F H xs (ks.map fun p => (keyD p.1, p.2))) :
    RepS K H0 F (upd H l (.frz ob (.dT xs))) σ (ρ.set i (.dd (dicD ks))) ∧ Kp F H (upd H l (.frz ob (.dT xs))) :=
  r.wr h rfl e ⟨_, hH, (fun _ z => nomatch z), fun _ _ z => nomatch z⟩ nf fun kp => Rep.dct upd_same (rl.mono kp fun _ x => x)
end
/-! ### freezing -/
def frzS : Sl → Sl
  | .ol ds => .dd (.list ds)
  | .od ks => .dd (dicD ks)
  | .dd d => .dd d
  | .em => .em
def frz1 (N : List Str) (x : Str) (ρ : Env) : Env := match idx N x with
  | some i => (match ρ[i]? with
    | some s => ρ.set i (frzS s)
    | none => ρ)
  | none => ρ
def frzE (N : List Str) : List Str → Env → Env
  | [], ρ => ρ
  | x :: xs, ρ => frzE N xs (frz1 N x ρ)
section
variable {X : Cx} {W : WS} {F0 : Addr → Prop} {H0 : Hp} {D : Ends} {st : Stmt}
theorem frz1_ok {N : List Str} {x : Str} {ρ : Env} {σ : L2.St} {F : Addr → Prop} {H : Hp} (r : RepS X.K H0 F H σ ρ) (dm : Dom F H) (e : Ext F0 H0 F H)
    (k : ∀ F' H', (∀ a, F a → F' a) → Kp F H H' → RepS X.K H0 F' H' σ (frz1 N x ρ) → Dom F' H' → Ext F0 H0 F' H' → EsOk X st D σ H') : EsOk X st D σ H := by
  have triv : frz1 N x ρ = ρ → EsOk X st D σ H := fun q => k F H (fun _ h => h) Kp.refl (by rw [q]; exact r) dm e
  unfold frz1 at k triv
  split at k
  · rename_i i hi
    split at k
    · rename_i s hs
      have same : ρ.set i s = ρ := by
        obtain ⟨hl, he⟩ := List.getElem?_eq_some_iff.mp hs
        rw [← he, List.set_getElem_self]
      cases s with
      | em => rw [hi] at triv; dsimp only at triv; rw [hs] at triv; exact triv same
      | dd d => rw [hi] at triv; dsimp only at triv; rw [hs] at triv; exact triv same
      | ol ds =>
        obtain ⟨l, xs, h1, h2, h3, h4, h5⟩ := r.ol hs
        exact k (Fz F l) H (fun _ h => .inl h) Kp.refl (r.frz hs h1 h2 h3) (dm.fz (by rw [h2]; simp)) (e.fz h4)
      | od ks =>
        obtain ⟨l, xs, h1, h2, h3, h4, h5⟩ := r.od hs
        intro pins s I
        obtain ⟨od, I1⟩ := I.lock h2 (show Mut (some (.dT xs)) from trivial)
        obtain ⟨q1, q2⟩ := r.frzD (ob := od) hs h1 h2 h5 h3
        exact k F _ (fun _ h => h) q2 q1 (dom_wr dm) (ext_wr e h4) pins s I1
    · exact k F H (fun _ h => h) Kp.refl r dm e
  · exact k F H (fun _ h => h) Kp.refl r dm e
theorem frzE_ok {N : List Str} : ∀ {xs : List Str} {ρ : Env} {σ : L2.St} {F : Addr → Prop} {H : Hp}, RepS X.K H0 F H σ ρ → Dom F H → Ext F0 H0 F H →
    (∀ F' H', (∀ a, F a → F' a) → Kp F H H' → RepS X.K H0 F' H' σ (frzE N xs ρ) → Dom F' H' → Ext F0 H0 F' H' → EsOk X st D σ H') → EsOk X st D σ H
  | [], ρ, σ, F, H, r, dm, e, k => k F H (fun _ h => h) Kp.refl r dm e
  | x :: xs, ρ, σ, F, H, r, dm, e, k => frz1_ok r dm e fun F1 H1 m1 k1 r1 d1 e1 => frzE_ok r1 d1 e1 fun F2 H2 m2 k2 r2 d2 e2 => k F2 H2 (fun a h => m2 a (m1 a h)) (k1.trans m1 k2) r2 d2 e2
theorem snd_frz {N : List Str} {xs : List Str} {f : Env → R Fl} (h : SndS X W F0 H0 f st) : SndS X W F0 H0 (fun ρ => f (frzE N xs ρ)) st := fun ρ σ F H D r dm e p =>
  frzE_ok r dm e fun F' H' m k r' d' e' => h _ σ F' H' D r' d' e' (p.kp m k)
end
end BR
namespace BR
open PySem PySem.Spec PyProof.Rows L2

/-! ### the evaluator of statements -/
def isComp : Expr → Bool
  | .ListComp _ _ _ _ => true
  | .SetComp _ _ _ _ => true
  | .DictComp _ _ _ _ _ => true
  | _ => false
def badName (x : Str) : Bool := (x == ("__debug__" : Str)) || (x == ("__classdict__" : Str))
def isLoc (sc : Scope) (x : Str) : Bool := match sc.names.lookup x with
  | some .local => true
  | some .cell => true
  | _ => false
/-- the own slot of a name -/
def ownAt (N : List Str) (sc : Scope) (x : Str) (ρ : Env) : Option (Nat × Sl) := match isLoc sc x, badName x with
  | true, false => (match idx N x with
    | some i => (match ρ[i]? with
      | some (.ol ds) => some (i, .ol ds)
      | some (.od ks) => some (i, .od ks)
      | _ => none)
    | none => none)
  | _, _ => none
def retV : Vw → R Fl
  | .dt d => .ok (.rt (.dt d))
  | .fl ds => .ok (.rt (.fl ds))
  | .fd ks => .ok (.rt (.fd ks))
  | _ => .stk
def nxR (r : R Env) : R Fl := r.bind fun ρ => .ok (.nx ρ)
def apE (ds : List D) (i : Nat) (ρ : Env) (d : D) : R Fl := if ds.length < 16777216 then .ok (.nx (ρ.set i (.ol (ds ++ [d])))) else .stk
def exE (ds : List D) (i : Nat) (ρ : Env) : Vw → R Fl
  | .fl es => if ds.length + es.length ≤ 16777216 then .ok (.nx (ρ.set i (.ol (ds ++ es)))) else .stk
  | .bl es => if ds.length + es.length ≤ 16777216 then .ok (.nx (ρ.set i (.ol (ds ++ es)))) else .stk
  | _ => .stk
def isLocal (sc : Scope) (x : Str) : Bool := match sc.names.lookup x with
  | some .local => true
  | _ => false
def sw2 (sc : Scope) (x : Str) (px : Pos) (y : Str) (py : Pos) (a b : Expr) : Bool :=
  isLocal sc x && isLocal sc y && (py.line == px.line) && !(x == y) && !isStar a && !isStar b && !(foldedForSure 8 a && foldedForSure 8 b) && !(constantsAlone 8 a && constantsAlone 8 b)
def sw3 (sc : Scope) (x : Str) (px : Pos) (y : Str) (py : Pos) (z : Str) (pz : Pos) (a b c : Expr) : Bool :=
  isLocal sc x && isLocal sc y && isLocal sc z && (py.line == px.line) && (pz.line == px.line) && !(x == y) && !(x == z) && !(y == z) && !isStar a && !isStar b && !isStar c &&
    !(foldedForSure 8 a && foldedForSure 8 b && foldedForSure 8 c) && !(constantsAlone 8 a && constantsAlone 8 b && constantsAlone 8 c)
/-- no swap: a name is a cell -/
def ns2 (sc : Scope) (x y : Str) (a b : Expr) : Bool := isLoc sc x && isLoc sc y && (!(isLocal sc x && isLocal sc y) || (foldedForSure 8 a && foldedForSure 8 b)) && !(x == y) && !isStar a && !isStar b
def ns3 (sc : Scope) (x y z : Str) (a b c : Expr) : Bool := isLoc sc x && isLoc sc y && isLoc sc z && (!(isLocal sc x && isLocal sc y && isLocal sc z) || (foldedForSure 8 a && foldedForSure 8 b && foldedForSure 8 c)) && !(x == y) && !(x == z) && !(y == z) && !isStar a && !isStar b && !isStar c
def ns4 (sc : Scope) (x y z u : Str) (a b c d : Expr) : Bool := isLoc sc x && isLoc sc y && isLoc sc z && isLoc sc u && !isStar a && !isStar b && !isStar c && !isStar d
def evPar4 (N : List Str) (sc : Scope) (ev : Expr → Env → R Vw) (x y z u : Str) (a b c d : Expr) (ρ : Env) : R Fl := match ns4 sc x y z u a b c d, idx N x, idx N y, idx N z, idx N u with
  | true, some i, some j, some l, some m => (ev a ρ).bind fun w1 => (ev b ρ).bind fun w2 => (ev c ρ).bind fun w3 => (ev d ρ).bind fun w4 =>
    (slOf w1).bind fun s1 => (slOf w2).bind fun s2 => (slOf w3).bind fun s3 => (slOf w4).bind fun s4 => .ok (.nx ((((ρ.set i s1).set j s2).set l s3).set m s4))
  | _, _, _, _, _ => .stk
def evPar (N : List Str) (sc : Scope) (ev : Expr → Env → R Vw) (ts vs : List Expr) (ρ : Env) : R Fl := match ts, vs with
  | [.Name x px, .Name y py], [a, b] => (match sw2 sc x px y py a b || ns2 sc x y a b, idx N x, idx N y with
    | true, some i, some j => (ev a ρ).bind fun w => (ev b ρ).bind fun u => (slOf w).bind fun s => (slOf u).bind fun t => .ok (.nx ((ρ.set i s).set j t))
    | _, _, _ => .stk)
  | [.Name x px, .Name y py, .Name z pz], [a, b, c] => (match sw3 sc x px y py z pz a b c || ns3 sc x y z a b c, idx N x, idx N y, idx N z with
    | true, some i, some j, some l => (ev a ρ).bind fun w => (ev b ρ).bind fun u => (ev c ρ).bind fun o => (slOf w).bind fun s => (slOf u).bind fun t => (slOf o).bind fun q => .ok (.nx (((ρ.set i s).set j t).set l q))
    | _, _, _, _ => .stk)
  | [.Name x _, .Name y _, .Name z _, .Name u _], [a, b, c, d] => evPar4 N sc ev x y z u a b c d ρ
  | _, _ => .stk
def asgD (N : List Str) (sc : Scope) (tg : Expr) (ρ : Env) : Vw → R Fl
  | .dt d => nxR (asg N sc tg (.dt d) ρ)
  | _ => .stk
theorem wFuel_ex : ∃ n : Nat, n = 100000 := ⟨_, rfl⟩
noncomputable def wFuel : Nat := Classical.choose wFuel_ex
theorem wFuel_eq : wFuel = 100000 := Classical.choose_spec wFuel_ex
/-! stores into an own dict or list -/
def kput (ks : KD) (k : List Int) (d : PyData) : KD := if ks.any (fun p => decide (p.1 = k)) = true then ks.map fun p => if p.1 = k then (p.1, d) else p else ks ++ [(k, d)]
def dpE (ks : KD) (i : Nat) (ρ : Env) (d : PyData) (u : Vw) : R Fl := match u with
  | .dt (.tuple xs) => match intsOf xs with
    | some k => if ks.length < 16777216 then .ok (.nx (ρ.set i (.od (kput ks k d)))) else .stk
    | none => .stk
  | _ => .stk
def lpE (ds : List PyData) (i : Nat) (ρ : Env) (d : PyData) (u : Vw) : R Fl := match u.peek with
  | .int j => match ixN ds.length j with
    | some n => .ok (.nx (ρ.set i (.ol (ds.set n d))))
    | none => .stk
  | _ => .stk
/-! ### try .. except: what the suite gives, for an exception of the class c held by n -/
def hIs (T : Tab) (c y : Str) : R Vw := match T.lookup c with
  | some (.cls rel) => (match rel.lookup y with
    | some b => .ok (.dt (.bool b))
    | none => .stk)
  | _ => .stk
def hStep (T : Tab) (N : List Str) (sc : Scope) (n c : Str) (h : Expr → Env → R Vw) (e : Expr) (ρ : Env) : R Vw := match e with
    | .Constant k _ _ => gConst k
    | .Name x _ => evName T N sc x ρ
    | .BinOp a .Add b _ => (h a ρ).bind fun w => (h b ρ).bind fun u => gBin .Add w u
    | .List es _ => (evL (h) es ρ).bind fun ws => (toDs ws).bind fun ds => if ds.length ≤ 1000 then .ok (.fl ds) else .stk
    | .Tuple es _ _ => (evL (h) es ρ).bind fun ws => (toDs ws).bind fun ds => if ds.length ≤ 1000 then .ok (.dt (.tuple ds)) else .stk
    | .IfExp (.Call f as ks p) a b _ => (h (.Call f as ks p) ρ).bind fun w => (gTru w.peek).bind fun z => match z with
      | true => h a ρ
      | false => h b ρ
    | .Call (.Name f _) [.Name v _, .Name y _] [] _ => (match isBlt T sc f, f == ("isinstance" : Str), v == n, isGlob sc y with
      | true, true, true, true => hIs T c y
      | _, _, _, _ => .stk)
    | .Call (.Attribute o m' ap) [a] [] cp => (match (ap.endLine == cp.line), isBase o, m' == ("index" : Str), isStar a with
      | true, true, true, false => (h o ρ).bind fun w => (lsW w).bind fun xs => (h a ρ).bind fun u => gIdx xs u
      | _, _, _, _ => .stk)
    | _ => .stk
def hE (T : Tab) (N : List Str) (sc : Scope) (n c : Str) : Nat → Expr → Env → R Vw
  | 0 => fun _ _ => .stk
  | m + 1 => hStep T N sc n c (hE T N sc n c m)
/-- the suite ends by a return; i: the slot of n -/
def hSS (T : Tab) (N : List Str) (sc : Scope) (n c : Str) (i : Nat) : List Stmt → Env → R Fl
  | [.Return (some e) _], ρ => (wB (hE T N sc n c 8 e ρ)).bind retV
  | .Assign [.Name x _] e _ :: r, ρ => (match isLocal sc x, idx N x, isComp e with
    | true, some j, false => (match j == i with
      | true => .stk
      | false => (wB (hE T N sc n c 8 e ρ)).bind fun w => (slOf w).bind fun s => hSS T N sc n c i r (ρ.set j s))
    | _, _, _ => .stk)
  | _, _ => .stk
def emE (ρ : Env) : Env := ρ.map fun _ => Sl.em
/-- behind a try's body; l: the slots' number -/
def tryR (l : Nat) (r em : R Fl) (hd : Str → R Fl) : R Fl := match r with
  | .ok (.nx ρ) => match Nat.beq ρ.length l with
    | true => em
    | false => .stk
  | .ok (.rt w) => .ok (.rt w)
  | .exc c => match c == ("isinstance" : Str) with
    | true => em
    | false => hd c
  | .stk => .stk
/-- the clause: x the class, n the name in slot i -/
def hdR (T : Tab) (N : List Str) (sc : Scope) (x n : Str) (i : Nat) (suite : List Stmt) (ρ : Env) (c : Str) : R Fl := match T.lookup c with
  | some (.cls rel) => (match rel.lookup x with
    | some true => hSS T N sc n c i suite ρ
    | _ => .stk)
  | _ => .stk
def tryOk (T : Tab) (sc : Scope) (x n : Str) (suite : List Stmt) : Bool := isBlt T sc "isinstance" && (isLocal sc n && (isGlob sc x && (!suite.isEmpty && (!badName n && (match T.lookup x with
  | some (.cls _) => true
  | _ => false)))))
/-- further statements -/
def stepXS (T : Tab) (N : List Str) (ev : Ev) (sc : Scope) (st : Stmt) (ρ : Env) : R Fl := match st with
  | .Assign [.Subscript (.Name x _) kx _] e _ => (match ownAt N sc x ρ, isSlice kx with
    | some (i, .od ks), _ => (ev.e sc e ρ).bind fun w => w.toD.bind fun d => (ev.e sc kx ρ).bind fun u => dpE ks i ρ d u
    | some (i, .ol ds), false => (ev.e sc e ρ).bind fun w => w.toD.bind fun d => (ev.e sc kx ρ).bind fun u => lpE ds i ρ d u
    | _, _ => .stk)
  | .Try body [.ExceptHandler (some (.Name x _)) (some n) suite _] [] [] _ => (match tryOk T sc x n suite, idx N n with
    | true, some i => tryR ρ.length (ev.ss sc body ρ) (.ok (.nx (emE ρ))) (hdR T N sc x n i suite (emE ρ))
    | _, _ => .stk)
  | _ => .stk
noncomputable def stepS (T : Tab) (N : List Str) (ev : Ev) (sc : Scope) (st : Stmt) (ρ : Env) : R Fl := match st with
  | .Pass _ => .ok (.nx ρ)
  | .Return none _ => .ok (.rt (.dt .none))
  | .Return (some e) _ => (match e with
    | .Name x p => (match ownAt N sc x ρ with
      | some (_, .ol ds) => .ok (.rt (.fl ds))
      | some (_, .od ks) => .ok (.rt (.fd ks))
      | _ => (ev.e sc (.Name x p) ρ).bind retV)
    | _ => (ev.e sc e ρ).bind retV)
  | .Expr e _ => (match e with
    | .Call (.Attribute (.Name x _) m ap) [a] [] cp => (match (ap.endLine == cp.line), isStar a, ownAt N sc x ρ with
      | true, false, some (i, .ol ds) => (match m == ("append" : Str), m == ("extend" : Str) with
        | true, _ => (ev.e sc a ρ).bind fun w => w.toD.bind fun d => apE ds i ρ d
        | false, true => (ev.e sc a ρ).bind fun w => exE ds i ρ w
        | _, _ => .stk)
      | _, _, _ => .stk)
    | _ => (match isComp e with
      | true => .stk
      | false => (ev.e sc e ρ).bind fun _ => .ok (.nx ρ)))
  | .Assign [.Name x p] e _ => (match e with
    | .ListComp elt gs scope _ => (evLcs T N sc ev elt gs scope ρ).bind fun ds => nxR (asgN N sc (.Name x p) (.fl ds) ρ)
    | _ => (match isComp e with
      | true => .stk
      | false => (ev.e sc e ρ).bind fun w => nxR (asgN N sc (.Name x p) w ρ)))
  | .Assign [.Tuple ts kt pt] e _ => (match e with
    | .Tuple vs _ _ => evPar N sc (ev.e sc) ts vs ρ
    | _ => (match isComp e with
      | true => .stk
      | false => (ev.e sc e ρ).bind (asgD N sc (.Tuple ts kt pt) ρ)))
  | .If c a b _ => (ev.t sc c ρ).bind fun z => match z with
    | true => ev.ss sc a ρ
    | false => ev.ss sc b ρ
  | .For tg iter body [] _ => (evIt true T sc (ev.e sc) tg iter ρ).bind fun items => forL (fun x ρ => (asg N sc tg (.dt x) ρ).bind fun ρ1 => ev.ss sc body ρ1) items ρ
  | .While c body [] _ => whileF (ev.t sc c) (ev.ss sc body) wFuel ρ
  | .Raise (some (.Call (.Name x _) [.Constant (.str _) _ _] [] _)) none _ => (match isGlob sc x, T.lookup x with
    | true, some (.cls _) => .exc x
    | _, _ => .stk)
  | st => stepXS T N ev sc st ρ
def stLine : Stmt → Nat
  | .Return _ p => p.line
  | .Expr _ p => p.line
  | .Assign _ _ p => p.line
  | .If _ _ _ p => p.line
  | .For _ _ _ _ p => p.line
  | .While _ _ _ p => p.line
  | _ => 0
abbrev FzT := List (Nat × List Str)
def fzAt (fz : FzT) (st : Stmt) : List Str := match fz.lookup (stLine st) with
  | some xs => xs
  | none => []
noncomputable def stepSS (T : Tab) (fz : FzT) (N : List Str) (ev : Ev) (sc : Scope) : List Stmt → Env → R Fl
  | [], ρ => .ok (.nx ρ)
  | st :: rest, ρ => (stepS T N ev sc st (frzE N (fzAt fz st) ρ)).bind fun z => match z with
    | .nx ρ' => stepSS T fz N ev sc rest ρ'
    | .rt w => .ok (.rt w)
noncomputable def evN (T : Tab) (fz : FzT) (N : List Str) : Nat → Ev
  | 0 => ev0
  | n + 1 => ⟨stepE T N (evN T fz N n), stepT T N (evN T fz N n), stepSS T fz N (evN T fz N n)⟩

/-! ### soundness -/
theorem asgN_noexc {N : List Str} {sc : Scope} {t : Expr} {w : Vw} {ρ : Env} {c : Str} : asgN N sc t w ρ ≠ .exc c := by
  intro h
  unfold asgN at h
  split at h
  · cases w <;> (simp only [slOf, R.bind] at h; try (split at h <;> cases h)) <;> cases h
  · cases h
theorem asgNs_noexc {N : List Str} {sc : Scope} {c : Str} : ∀ {ts : List Expr} {ws : List Vw} {ρ : Env}, asgNs N sc ts ws ρ ≠ .exc c
  | [], [], ρ, h => nomatch h
  | [], _ :: _, ρ, h => nomatch h
  | _ :: _, [], ρ, h => nomatch h
  | t :: ts, w :: ws, ρ, h => by
    unfold asgNs at h
    cases q : asgN N sc t w ρ with
    | ok a => rw [q] at h; exact asgNs_noexc (ts := ts) (ws := ws) (ρ := a) h
    | exc c' => exact asgN_noexc q
    | stk => rw [q] at h; cases h
theorem asg_noexc {N : List Str} {sc : Scope} {t : Expr} {w : Vw} {ρ : Env} {c : Str} : asg N sc t w ρ ≠ .exc c := by
  intro h
  unfold asg at h
  split at h
  · split at h
    · exact asgNs_noexc h
    · cases h
  · exact asgN_noexc h
  · cases h
theorem nxR_bind {K : PySem.W.Frag} {W : WS} {F0 F : Addr → Prop} {H0 H : Hp} {D : Ends} {r : R Env} (p : PostS K W F0 H0 F H D (nxR r)) (nx : ∀ c, r ≠ .exc c) : ∃ ρ, r = .ok ρ ∧ PostS K W F0 H0 F H D (.ok (.nx ρ)) := bindS_ok p nx
section
variable {T : Tab} {k : Nat} {N : List Str} {X : Cx} {sc : Scope} {W : WS} {F0 : Addr → Prop} {H0 : Hp}
theorem isLoc_of {x : Str} (h : isLoc sc x = true) : sc.names.lookup x = some .local ∨ sc.names.lookup x = some .cell := by
  unfold isLoc at h
  split at h
  · rename_i e; exact .inl e
  · rename_i e; exact .inr e
  · cases h
theorem isLocal_of {x : Str} (h : isLocal sc x = true) : sc.names.lookup x = some .local := by
  unfold isLocal at h
  split at h
  · rename_i e; exact e
  · cases h
theorem ownAt_ok (x : SOk T k N X sc W) {n : Str} {ρ : Env} {i : Nat} {s : Sl} (h : ownAt N sc n ρ = some (i, s)) : ρ[i]? = some s ∧ s.own = true ∧ ∀ pos, PE X (.Name n pos) (tVar i) := by
  unfold ownAt at h
  split at h
  · rename_i hl hb
    split at h
    · rename_i j hj
      unfold badName at hb
      rw [Bool.or_eq_false_iff] at hb
      have pe : ∀ pos, PE X (.Name n pos) (tVar j) := fun pos => pe_var (i := j) (by rw [x.x.hN]; exact idx_get hj) (by
        rcases isLoc_of hl with q | q
        · exact .inl (by rw [x.x.hsc]; exact q)
        · exact .inr (.inl (by rw [x.x.hsc]; exact q))) hb.1 hb.2
      split at h
      · rename_i e
        cases h
        exact ⟨e, rfl, pe⟩
      · rename_i e
        cases h
        exact ⟨e, rfl, pe⟩
      · cases h
    · cases h
  · cases h
theorem sndS_stk {f : Env → R Fl} {st : Stmt} (h : ∀ ρ, f ρ = .stk) : SndS X W F0 H0 f st := fun ρ σ F H D r dm e p => by rw [h] at p; exact p.elim
theorem snd_pass {pos : Pos} : SndS X W F0 H0 (fun ρ => .ok (.nx ρ)) (.Pass pos) := fun ρ σ F H D r dm e p =>
  ps_ev ps_pass (p σ F H (fun _ h => h) Kp.refl e dm r : D.nx σ H)
theorem snd_retN {pos : Pos} : SndS X W F0 H0 (fun ρ => .ok (.rt (.dt .none))) (.Return none pos) := fun ρ σ F H D r dm e p =>
  ps_ev ps_retN (p .non F H e dm (Rep.non) : D.rt .non H)
theorem snd_ret {f : Env → R Vw} {e : Expr} {pos : Pos} (h : SndE X W H0 f e) : SndS X W F0 H0 (fun ρ => (f ρ).bind retV) (.Return (some e) pos) := by
  intro ρ σ F H D r dm x p
  refine ps_ev (ps_ret pe_can) (h.thnS r dm x p fun w v F1 H1 e1 x1 d1 r1 y1 v1 p1 => ?_)
  have vb := v1.back x.same
  cases w <;> first
    | exact p1 v F1 H1 y1 d1 vb
    | exact p1.elim
theorem snd_retO (x : SOk T k N X sc W) {n : Str} {p pos : Pos} {f : Env → R Fl} (h : SndS X W F0 H0 f (.Return (some (.Name n p)) pos)) : SndS X W F0 H0 (fun ρ => match ownAt N sc n ρ with
      | some (_, .ol ds) => .ok (.rt (.fl ds))
      | some (_, .od ks) => .ok (.rt (.fd ks))
      | _ => f ρ) (.Return (some (.Name n p)) pos) := by
  intro ρ σ F H D r dm e p
  dsimp only at p
  split at p
  · rename_i i ds hi
    obtain ⟨h1, _, pe⟩ := ownAt_ok x hi
    obtain ⟨l, xs, g1, g2, g3, g4, g5⟩ := r.ol h1
    exact ps_ev (ps_ret (pe _)) ⟨_, g1, p _ F H e dm ⟨l, xs, rfl, g2, g3, g4, g5⟩⟩
  · rename_i i ds hi
    obtain ⟨h1, _, pe⟩ := ownAt_ok x hi
    obtain ⟨l, xs, g1, g2, g3, g4, g5⟩ := r.od h1
    exact ps_ev (ps_ret (pe _)) ⟨_, g1, p _ F H e dm ⟨l, xs, rfl, g2, g3, g4, g5⟩⟩
  · exact h ρ σ F H D r dm e p
theorem snd_expr {f : Env → R Vw} {e : Expr} {pos : Pos} (h : SndE X W H0 f e) (hc : isComp e = false) : SndS X W F0 H0 (fun ρ => (f ρ).bind fun _ => .ok (.nx ρ)) (.Expr e pos) := by
  intro ρ σ F H D r dm x p
  refine ps_ev (ps_expr pe_can (by cases e <;> first | rfl | cases hc)) (h.thnS r dm x p fun w v F1 H1 e1 x1 d1 r1 y1 v1 p1 => ?_)
  exact p1 σ F1 H1 (fun _ h => h) Kp.refl y1 d1 r1
/-! methods of an own list -/
theorem toD_bindS {K : PySem.W.Frag} {F : Addr → Prop} {H : Hp} {D : Ends} {w : Vw} {g : PyData → R Fl} (p : PostS K W F0 H0 F H D (w.toD.bind g)) : ∃ d, w.toD = .ok d ∧ PostS K W F0 H0 F H D (g d) :=
  bindS_ok p fun c h => by cases w <;> cases h
theorem snd_append (x : SOk T k N X sc W) {ev : Expr → Env → R Vw} (h : ∀ e, SndE X W H0 (ev e) e) {n : Str} {a : Expr} {i : Nat} {ds : List PyData} {p1 ap cp pos : Pos} {ρ : Env} {σ : L2.St} {F : Addr → Prop} {H : Hp} {D : Ends}
    (hl : (ap.endLine == cp.line) = true) (hs : isStar a = false) (ho : ownAt N sc n ρ = some (i, .ol ds)) (r : RepS X.K H0 F H σ ρ) (dm : Dom F H) (e : Ext F0 H0 F H)
    (p : PostS X.K W F0 H0 F H D ((ev a ρ).bind fun w => w.toD.bind fun d => apE ds i ρ d)) : EsOk X (.Expr (.Call (.Attribute (.Name n p1) "append" ap) [a] [] cp) pos) D σ H := by
  obtain ⟨h1, _, pe⟩ := ownAt_ok x ho
  obtain ⟨l, xs, g1, g2, g3, g4, g5⟩ := r.ol h1
  refine ps_ev (ps_expr (pe_bm PySem.F.plainAttrs_list PySem.F.slot_list_append PySem.F.type_list_append mt_append (pe p1) (pa_cons pe_can pa_nil (star_cons hs)) rfl (by rw [star_cons hs]; rfl) hl (star_cons hs) rfl)) ?_
  refine ⟨.ref l, g1, .inl ⟨rfl, xs, .inl (.inl g2)⟩, ?_⟩
  refine (h a).thnS r dm e p fun w v F1 H1 e1 x1 d1 r1 y1 v1 q1 => ?_
  obtain ⟨d, e2, q2⟩ := toD_bindS q1
  obtain ⟨hz, q3⟩ := postS_if q2
  have xA := FzA.ext x1
  have rd := v1.fz e2
  have g2' := x1.same _ _ g2
  have rA := r.ext xA
  have nF : ¬ FzA F1 H H1 l := fun q => (xA.new l q).elim g5 fun z => by rw [g2] at z; cases z
  have g3' := g3.ext xA
  refine ⟨l, xs, v, rfl, rfl, g2', by rw [sizeLine_eq, g3.length]; exact hz, ?_⟩
  obtain ⟨w1, w2⟩ := rA.wr (s' := .ol (ds ++ [d])) (o := .lst (xs ++ [v])) h1 rfl g1 ⟨_, g2', (fun _ z => nomatch z), fun _ _ z => nomatch z⟩ nF fun kp =>
    ⟨l, _, rfl, upd_same, (g3'.append (.cons rd .nil)).mono kp fun _ x => x, g4, nF⟩
  exact q3 σ _ _ (fun a f => .inl f) ((Kp.refl).trans (F' := FzA F1 H H1) (fun a f => .inl f) w2) (ext_wr (e.trans xA) g4) (dom_wr (FzA.dom d1)) w1
theorem snd_extend (x : SOk T k N X sc W) {ev : Expr → Env → R Vw} (h : ∀ e, SndE X W H0 (ev e) e) {n : Str} {a : Expr} {i : Nat} {ds : List PyData} {p1 ap cp pos : Pos} {ρ : Env} {σ : L2.St} {F : Addr → Prop} {H : Hp} {D : Ends}
    (hl : (ap.endLine == cp.line) = true) (hs : isStar a = false) (ho : ownAt N sc n ρ = some (i, .ol ds)) (r : RepS X.K H0 F H σ ρ) (dm : Dom F H) (e : Ext F0 H0 F H)
    (p : PostS X.K W F0 H0 F H D ((ev a ρ).bind fun w => exE ds i ρ w)) : EsOk X (.Expr (.Call (.Attribute (.Name n p1) "extend" ap) [a] [] cp) pos) D σ H := by
  obtain ⟨h1, _, pe⟩ := ownAt_ok x ho
  obtain ⟨l, xs, g1, g2, g3, g4, g5⟩ := r.ol h1
  refine ps_ev (ps_expr (pe_bm PySem.F.plainAttrs_list PySem.F.slot_list_extend PySem.F.type_list_extend mt_extend (pe p1) (pa_cons pe_can pa_nil (star_cons hs)) rfl (by rw [star_cons hs]; rfl) hl (star_cons hs) rfl)) ?_
  refine ⟨.ref l, g1, .inl ⟨rfl, xs, .inl (.inl g2)⟩, ?_⟩
  refine (h a).thnS r dm e p fun w v F1 H1 e1 x1 d1 r1 y1 v1 q1 => ?_
  have key : ∀ es m ys, v = .ref m → H1 m = some (.lst ys) → RepL X.K F1 H1 ys es → PostS X.K W F0 H0 F1 H1 D (if ds.length + es.length ≤ 16777216 then .ok (.nx (ρ.set i (.ol (ds ++ es)))) else .stk) → rExtend (.ref l) [v] H1 (fun _ H1 => D.nx σ H1) := by
    intro es m ys ev hm rl q2
    obtain ⟨hz, q3⟩ := postS_if q2
    have g2' := x1.same _ _ g2
    have nF : ¬ F1 l := fun q => (x1.new l q).elim g5 fun z => by rw [g2] at z; cases z
    refine ⟨l, m, xs, ys, rfl, by rw [ev], g2', hm, by rw [sizeLine_eq, g3.length, rl.length]; exact hz, ?_⟩
    obtain ⟨w1, w2⟩ := r1.wr (s' := .ol (ds ++ es)) (o := .lst (xs ++ ys)) h1 rfl g1 ⟨_, g2', (fun _ z => nomatch z), fun _ _ z => nomatch z⟩ nF fun kp =>
      ⟨l, _, rfl, upd_same, ((g3.ext x1).append rl).mono kp fun _ x => x, g4, nF⟩
    exact q3 σ _ _ (fun a f => f) w2 (ext_wr y1 g4) (dom_wr d1) w1
  cases w with
  | fl es => obtain ⟨m, ys, z1, z2, z3, _⟩ := v1; exact key es m ys z1 z2 z3 q1
  | bl es => obtain ⟨m, ys, z1, z2, z3⟩ := v1; exact key es m ys z1 z2 z3 q1
  | _ => exact q1.elim
/-! assignments -/
theorem asgN_s (x : SOk T k N X sc W) {n : Str} {p : Pos} {w : Vw} {ρ ρ' : Env} (e : asgN N sc (.Name n p) w ρ = .ok ρ') : ∃ i s, slOf w = .ok s ∧ ρ' = ρ.set i s ∧ X.N[i]? = some n ∧ Loc X.env.scope n ∧ (X.fn n = true ∨ X.env.scope.names.lookup n = some .local) := by
  unfold asgN at e
  obtain ⟨s, e1, e⟩ := bind_ok e
  split at e
  · rename_i i h1 h2
    cases e
    exact ⟨i, s, e1, rfl, by rw [x.x.hN]; exact idx_get h2, (x.st.loc n h1).1, (x.st.loc n h1).2⟩
  · rename_i i h1 h2
    cases e
    exact ⟨i, s, e1, rfl, by rw [x.x.hN]; exact idx_get h2, (x.st.cel n h1).1, (x.st.cel n h1).2⟩
  · cases e
theorem snd_set (x : SOk T k N X sc W) {f : Env → R Vw} {e : Expr} (h : SndE X W H0 f e) (hc : isComp e = false) {n : Str} {p pos : Pos} : SndS X W F0 H0 (fun ρ => (f ρ).bind fun w => nxR (asgN N sc (.Name n p) w ρ)) (.Assign [.Name n p] e pos) := by
  intro ρ σ F H D r dm y p
  dsimp only at p
  cases q : f ρ with
  | stk => rw [q] at p; exact p.elim
  | exc c =>
    rw [q] at p
    -- any slot's name
    refine fun pins s I => wpAny_Assign_Name (thn (h ρ σ F H (fun _ _ => False) r dm y.same (by rw [q]; exact fun F' H' e' d' => p σ F' H' (y.trans e') d') pins s I) fun v s1 ⟨_, _, _, _, z⟩ => z.elim) (by cases e <;> first | rfl | cases hc)
  | ok w0 =>
    have p2 := p
    rw [q] at p2
    obtain ⟨ρ1, ea, _⟩ := nxR_bind p2 fun c => asgN_noexc
    obtain ⟨i, s, es, _, hi, hx, hf⟩ := asgN_s x ea
    refine ps_ev (ps_set x.x.nd hi hx pe_can (by cases e <;> first | rfl | cases hc) hf) (h.thnS r dm y p fun w v F1 H1 e1 x1 d1 r1 y1 v1 p1 => ?_)
    rw [q] at e1
    cases e1
    obtain ⟨ρ2, ea2, p3⟩ := nxR_bind p1 fun c => asgN_noexc
    rw [ea] at ea2
    cases ea2
    obtain ⟨i', s', es', eq', hi', _⟩ := asgN_s x ea
    subst eq'
    have ii : i = i' := nodup_ix x.x.nd hi hi'
    subst ii
    exact p3 _ F1 H1 (fun _ z => z) Kp.refl y1 d1 (RepS.put r1 r y.same es' v1)
theorem swap_lc (hk : X.env.scope.kind = .function) {elt : Expr} {gs : List Comprehension} {scope : Scope} {lp py : Pos} {n : Str} {l : Nat} : ∃ b, swapsWith (.ListComp elt gs scope lp) (some (.Name n py)) l X.env = pure b ∧ (b = true → X.env.scope.names.lookup n = some .local) := by
  have hb : X.env.blockKind = .function := by unfold Env.blockKind; rw [hk]; rfl
  refine ⟨_, rfl, fun h => ?_⟩
  simp only [Bool.and_eq_true, beq_iff_eq] at h
  exact h.1.1.2
theorem snd_setLc (x : SOk T k N X sc W) {ev : Ev} (hv : SndEv T k N ev) {elt : Expr} {gs : List Comprehension} {scope : Scope} {lp p pos : Pos} {n : Str} :
    SndS X W F0 H0 (fun ρ => (evLc T N sc ev elt gs scope ρ).bind fun ds => nxR (asgN N sc (.Name n p) (.fl ds) ρ)) (.Assign [.Name n p] (.ListComp elt gs scope lp) pos) := by
  intro ρ σ F H D r dm y p'
  dsimp only at p'
  have hi : ∀ e, SndE X W H0 (ev.e sc e) e := fun e => (hv X sc W H0 x.x e).1
  have hb := fun (scope : Scope) (s : Shared) (H : Hp) (C : Addr) (cl : List (Str × Addr)) (fp : List Addr) (e : Expr) => hv _ _ (fun _ _ _ => False) H0 (x.x.blk scope s H C cl fp) e
  cases q : evLc T N sc ev elt gs scope ρ with
  | stk => rw [q] at p'; exact p'.elim
  | exc c =>
    rw [q] at p'
    obtain ⟨b, hsw, hbl⟩ := swap_lc (X := X) (elt := elt) (gs := gs) (scope := scope) (lp := lp) (py := p) (n := n) (l := pos.line) (by rw [x.x.hsc]; exact x.fn)
    obtain ⟨tg, iter, ifs, own, rfl, bok, hs, g⟩ := lc_main x.x hi hb (W := W) (Q := fun _ _ => False) r dm y.same (by rw [q]; exact fun F' H' e' d' => p' σ F' H' (y.trans e') d')
    cases b with
    | false => exact fun pins s I => wpAny_Assign_Name (thn (pe_ev (lc_rule x.x bok hs) g pins s I) fun v s1 ⟨_, _, _, _, z⟩ => z.elim) hsw
    | true =>
      refine fun pins s I => ?_
      have hyl := hbl rfl
      rw [exec_Assign_Name_used _ _ _ _ hsw]
      refine wpAny_bind (wpAny_standAt (wpAny_bind ?_))
      show wpAny _ X.A (do let _ ← comprehension (.ListComp elt [⟨tg, iter, ifs, 0⟩] scope lp) scope X.env (firstIterPos [⟨tg, iter, ifs, 0⟩] lp) (newList []) false (eval iter X.env) (some (assign (.Name n p) X.env))) _ _ s
      refine wpAny_bind (thn (lc_core (Qf := fun _ s' => False) x.x.calm x.x.nd I pi_can (by rw [x.x.hN, x.x.hsc]; exact bok) (fun s H' C cl fp => ⟨fun pins s2 σ H v u Q I r h => h s H' C cl fp pins s2 u I r⟩) (fun s H' C cl fp => pts_B ifs) (fun s H' C cl fp => ⟨fun pins s2 σ H Q I h => h s H' C cl fp pins s2 I⟩) hs g fun L C s' m H' I' q hn f => q.elim) fun _ s' hq => hq.elim)
  | ok ds =>
    have p2 := p'
    rw [q] at p2
    obtain ⟨ρ1, ea, p3⟩ := nxR_bind p2 fun c => asgN_noexc
    obtain ⟨i, s, es, eq', hi', hx, hf⟩ := asgN_s x ea
    subst eq'
    obtain ⟨b, hsw, hbl⟩ := swap_lc (X := X) (elt := elt) (gs := gs) (scope := scope) (lp := lp) (py := p) (n := n) (l := pos.line) (by rw [x.x.hsc]; exact x.fn)
    obtain ⟨tg, iter, ifs, own, rfl, bok, hs, g⟩ := lc_main x.x hi hb (W := W) (Q := fun v H1 => gName i v σ H1 D.nx) r dm y.same (by
      rw [q]
      intro v F1 H1 e1 d1 v1
      exact PostS.ext p3 e1 _ F1 H1 (fun _ z => z) Kp.refl (y.trans e1) d1 (RepS.put (r.ext e1) r y.same es v1))
    cases b with
    | false => exact ps_ev (ps_set x.x.nd hi' hx (lc_rule x.x bok hs) hsw hf) g
    | true =>
      exact ps_ev (ps_setLc x.x.calm x.x.nd hi' (hbl rfl) hsw pi_can (by rw [x.x.hN, x.x.hsc]; exact bok) (fun s H' C cl fp => ⟨fun pins s2 σ H v u Q I r h => h s H' C cl fp pins s2 u I r⟩) (fun s H' C cl fp => pts_B ifs) (fun s H' C cl fp => ⟨fun pins s2 σ H Q I h => h s H' C cl fp pins s2 I⟩) hs) g
theorem snd_setLc2 (x : SOk T k N X sc W) {ev : Ev} (hv : SndEv T k N ev) {elt tg iter tg1 iter1 : Expr} {ifs ifs1 : List Expr} {scope : Scope} {lp p pos : Pos} {n : Str} :
    SndS X W F0 H0 (fun ρ => (evLc2 T N sc ev elt tg iter ifs tg1 iter1 ifs1 scope ρ).bind fun ds => nxR (asgN N sc (.Name n p) (.fl ds) ρ)) (.Assign [.Name n p] (.ListComp elt [⟨tg, iter, ifs, 0⟩, ⟨tg1, iter1, ifs1, 0⟩] scope lp) pos) := by
  intro ρ σ F H D r dm y p'
  dsimp only at p'
  have hi : ∀ e, SndE X W H0 (ev.e sc e) e := fun e => (hv X sc W H0 x.x e).1
  have hb := fun (scope : Scope) (s : Shared) (H : Hp) (C : Addr) (cl : List (Str × Addr)) (fp : List Addr) (e : Expr) => hv _ _ (fun _ _ _ => False) H0 (x.x.blk scope s H C cl fp) e
  cases q : evLc2 T N sc ev elt tg iter ifs tg1 iter1 ifs1 scope ρ with
  | stk => rw [q] at p'; exact p'.elim
  | exc c =>
    rw [q] at p'
    obtain ⟨b, hsw, hbl⟩ := swap_lc (X := X) (elt := elt) (gs := [⟨tg, iter, ifs, 0⟩, ⟨tg1, iter1, ifs1, 0⟩]) (scope := scope) (lp := lp) (py := p) (n := n) (l := pos.line) (by rw [x.x.hsc]; exact x.fn)
    obtain ⟨bok, hv1, hs, hs1, g⟩ := lc2_main x.x hi hb (W := W) (Q := fun _ _ => False) r dm y.same (by rw [q]; exact fun F' H' e' d' => p' σ F' H' (y.trans e') d')
    cases b with
    | false => exact fun pins s I => wpAny_Assign_Name (thn (pe_ev (lc2_rule x.x bok hv1 hs hs1) g pins s I) fun v s1 ⟨_, _, _, _, z⟩ => z.elim) hsw
    | true =>
      refine fun pins s I => ?_
      rw [exec_Assign_Name_used _ _ _ _ hsw]
      refine wpAny_bind (wpAny_standAt (wpAny_bind ?_))
      show wpAny _ X.A (do let _ ← comprehension (.ListComp elt [⟨tg, iter, ifs, 0⟩, ⟨tg1, iter1, ifs1, 0⟩] scope lp) scope X.env (firstIterPos [⟨tg, iter, ifs, 0⟩, ⟨tg1, iter1, ifs1, 0⟩] lp) (newList []) false (eval iter X.env) (some (assign (.Name n p) X.env))) _ _ s
      refine wpAny_bind (thn (lc2_core (Qf := fun _ s' => False) x.x.calm x.x.nd I pi_can (by rw [x.x.hN, x.x.hsc]; exact bok) hv1 (fun s H' C cl fp => ⟨fun pins s2 σ H v u Q I r h => h s H' C cl fp pins s2 u I r⟩) (fun s H' C cl fp => pts_B ifs) (fun s H' C cl fp => ⟨fun pins s2 σ H Q I h => h s H' C cl fp pins s2 I⟩) hs
        (fun s H' C cl fp => ⟨fun pins s2 σ H Q I h => h s H' C cl fp pins s2 I⟩) (fun s H' C cl fp => ⟨fun pins s2 σ H v u Q I r h => h s H' C cl fp pins s2 u I r⟩) (fun s H' C cl fp => pts_B ifs1) hs1 g fun L C s' m H' I' q hn f => q.elim) fun _ s' hq => hq.elim)
  | ok ds =>
    have p2 := p'
    rw [q] at p2
    obtain ⟨ρ1, ea, p3⟩ := nxR_bind p2 fun c => asgN_noexc
    obtain ⟨i, s, es, eq', hi', hx, hf⟩ := asgN_s x ea
    subst eq'
    obtain ⟨b, hsw, hbl⟩ := swap_lc (X := X) (elt := elt) (gs := [⟨tg, iter, ifs, 0⟩, ⟨tg1, iter1, ifs1, 0⟩]) (scope := scope) (lp := lp) (py := p) (n := n) (l := pos.line) (by rw [x.x.hsc]; exact x.fn)
    obtain ⟨bok, hv1, hs, hs1, g⟩ := lc2_main x.x hi hb (W := W) (Q := fun v H1 => gName i v σ H1 D.nx) r dm y.same (by
      rw [q]
      intro v F1 H1 e1 d1 v1
      exact PostS.ext p3 e1 _ F1 H1 (fun _ z => z) Kp.refl (y.trans e1) d1 (RepS.put (r.ext e1) r y.same es v1))
    cases b with
    | false => exact ps_ev (ps_set x.x.nd hi' hx (lc2_rule x.x bok hv1 hs hs1) hsw hf) g
    | true =>
      exact ps_ev (ps_setLc2 x.x.calm x.x.nd hi' (hbl rfl) hsw pi_can (by rw [x.x.hN, x.x.hsc]; exact bok) hv1 (fun s H' C cl fp => ⟨fun pins s2 σ H v u Q I r h => h s H' C cl fp pins s2 u I r⟩) (fun s H' C cl fp => pts_B ifs) (fun s H' C cl fp => ⟨fun pins s2 σ H Q I h => h s H' C cl fp pins s2 I⟩) (fun s H' C cl fp => ⟨fun pins s2 σ H v u Q I r h => h s H' C cl fp pins s2 u I r⟩) (fun s H' C cl fp => pts_B ifs1) (fun s H' C cl fp => ⟨fun pins s2 σ H Q I h => h s H' C cl fp pins s2 I⟩) hs hs1) g
theorem snd_setLcs (x : SOk T k N X sc W) {ev : Ev} (hv : SndEv T k N ev) {elt : Expr} {gs : List Comprehension} {scope : Scope} {lp p pos : Pos} {n : Str} :
    SndS X W F0 H0 (fun ρ => (evLcs T N sc ev elt gs scope ρ).bind fun ds => nxR (asgN N sc (.Name n p) (.fl ds) ρ)) (.Assign [.Name n p] (.ListComp elt gs scope lp) pos) := by
  unfold evLcs
  split
  · exact snd_setLc2 x hv
  · exact snd_setLc x hv
end
end BR
namespace BR
open PySem PySem.Spec PyProof.Rows L2

section
variable {T : Tab} {k : Nat} {N : List Str} {X : Cx} {sc : Scope} {W : WS} {F0 : Addr → Prop} {H0 : Hp}
theorem kindLocal (x : SOk T k N X sc W) {n : Str} (h : isLocal sc n = true) : X.env.scope.names.lookup n = some .local := by
  rw [x.x.hsc]; exact isLocal_of h
theorem swappedStores2 (x : SOk T k N X sc W) {n m : Str} {pn pm pt pt2 : Pos} {a b : Expr} {kt k2 : Nat} (h : sw2 sc n pn m pm a b = true) :
    swappedStores [.Tuple [.Name n pn, .Name m pm] kt pt] (.Tuple [a, b] k2 pt2) X.env = pure (some [n, m]) := by
  unfold sw2 at h
  simp only [Bool.and_eq_true, Bool.not_eq_true'] at h
  obtain ⟨⟨⟨⟨⟨⟨⟨h1, h2⟩, h3⟩, h4⟩, h5⟩, h6⟩, h7⟩, h8⟩ := h
  have k1 : X.env.kindOf n = some .local := kindLocal x h1
  have k2 : X.env.kindOf m = some .local := kindLocal x h2
  have hb : X.env.blockKind = .function := by unfold Env.blockKind; rw [x.x.hsc, x.fn]; rfl
  have l3 : (pm.line == pn.line) = true := h3
  have l4 : (m == n) = false := by
    rw [beq_eq_false_iff_ne] at h4 ⊢
    exact fun e => h4 e.symm
  have ed : ([n, m] : List Str).eraseDups.length = 2 := by
    have : (m == n) = false := l4
    simp [List.eraseDups_cons, List.filter_cons, this]
  unfold swappedStores
  simp only [hb, List.any_cons, List.any_nil, List.filterMap_cons, List.filterMap_nil, k1, k2, List.length_cons, List.length_nil, List.head?_cons, Option.map_some, Option.getD_some, l3, List.all_cons, List.all_nil, Bool.and_true, h7, h8, Expr.pos, beq_self_eq_true, if_true]
  rw [if_neg (by decide), if_neg (by
    simp only [Bool.or_eq_true]
    rintro (hh | hh | hh)
    · cases a <;> first | (cases h5; done) | (cases hh; done)
    · cases b <;> first | (cases h6; done) | (cases hh; done)
    · cases hh)]
  show (if (2 != 2 || List.length (List.eraseDups [n, m]) != 2) = true then _ else _) = _
  rw [ed]
  rfl
theorem swappedStores3 (x : SOk T k N X sc W) {n m o : Str} {pn pm po pt pt2 : Pos} {a b c : Expr} {kt k2 : Nat} (h : sw3 sc n pn m pm o po a b c = true) :
    swappedStores [.Tuple [.Name n pn, .Name m pm, .Name o po] kt pt] (.Tuple [a, b, c] k2 pt2) X.env = pure (some [n, m, o]) := by
  unfold sw3 at h
  simp only [Bool.and_eq_true, Bool.not_eq_true'] at h
  obtain ⟨⟨⟨⟨⟨⟨⟨⟨⟨⟨⟨⟨h1, h2⟩, h2'⟩, h3⟩, h3'⟩, h4⟩, h4'⟩, h4''⟩, h5⟩, h6⟩, h6'⟩, h7⟩, h8⟩ := h
  have k1 : X.env.kindOf n = some .local := kindLocal x h1
  have k2 : X.env.kindOf m = some .local := kindLocal x h2
  have k3 : X.env.kindOf o = some .local := kindLocal x h2'
  have hb : X.env.blockKind = .function := by unfold Env.blockKind; rw [x.x.hsc, x.fn]; rfl
  have l3 : (pm.line == pn.line) = true := h3
  have l3' : (po.line == pn.line) = true := h3'
  have sy : ∀ {a b : Str}, (a == b) = false → (b == a) = false := fun h => by
    rw [beq_eq_false_iff_ne] at h ⊢
    exact fun e => h e.symm
  have l4 := sy h4
  have l4' := sy h4'
  have l4'' := sy h4''
  have ed : ([n, m, o] : List Str).eraseDups.length = 3 := by
    simp [List.eraseDups_cons, List.filter_cons, l4, l4', l4'']
  have h7' : (foldedForSure 8 a && (foldedForSure 8 b && foldedForSure 8 c)) = false := by rw [← Bool.and_assoc]; exact h7
  have h8' : (constantsAlone 8 a && (constantsAlone 8 b && constantsAlone 8 c)) = false := by rw [← Bool.and_assoc]; exact h8
  unfold swappedStores
  simp only [hb, List.any_cons, List.any_nil, List.filterMap_cons, List.filterMap_nil, k1, k2, k3, List.length_cons, List.length_nil, List.head?_cons, Option.map_some, Option.getD_some, l3, l3', List.all_cons, List.all_nil, Bool.and_true, h7', h8', Expr.pos, beq_self_eq_true, if_true]
  rw [if_neg (by decide), if_neg (by
    simp only [Bool.or_eq_true]
    rintro (hh | hh | hh | hh)
    · cases a <;> first | (cases h5; done) | (cases hh; done)
    · cases b <;> first | (cases h6; done) | (cases hh; done)
    · cases c <;> first | (cases h6'; done) | (cases hh; done)
    · cases hh)]
  show (if (3 != 3 || List.length (List.eraseDups [n, m, o]) != 3) = true then _ else _) = _
  rw [ed]
  rfl
theorem slOf_bindS {K : PySem.W.Frag} {F : Addr → Prop} {H : Hp} {D : Ends} {w : Vw} {g : Sl → R Fl} (p : PostS K W F0 H0 F H D ((slOf w).bind g)) : ∃ d, slOf w = .ok d ∧ PostS K W F0 H0 F H D (g d) :=
  bindS_ok p fun c h => by cases w <;> cases h
theorem idx_ne {n m : Str} {i j : Nat} (h : (n == m) = false) (hi : idx N n = some i) (hj : idx N m = some j) : i ≠ j := fun e => by
  subst e
  have h1 := idx_get hi
  have h2 := idx_get hj
  rw [h1] at h2
  cases h2
  rw [beq_self_eq_true] at h
  cases h
theorem pg_loc (x : SOk T k N X sc W) {n : Str} {i : Nat} {pos : Pos} (hi : idx N n = some i) (h : isLoc sc n = true) : PG X (.Name n pos) (gName i) := by
  have hN : X.N[i]? = some n := by rw [x.x.hN]; exact idx_get hi
  rcases isLoc_of h with q | q
  · exact pg_name x.x.nd hN (x.st.loc n q).1 (x.st.loc n q).2
  · exact pg_name x.x.nd hN (x.st.cel n q).1 (x.st.cel n q).2
theorem notLocal (x : SOk T k N X sc W) {n : Str} (h : isLocal sc n = false) : (X.env.kindOf n == some .local) = false := by
  have e : X.env.kindOf n = sc.names.lookup n := by show X.env.scope.names.lookup n = _; rw [x.x.hsc]
  rw [e]
  unfold isLocal at h
  split at h
  · cases h
  · rename_i hn
    rw [beq_eq_false_iff_ne]
    exact fun z => hn z
theorem swNo2 (x : SOk T k N X sc W) {n m : Str} {pn pm pt pt2 : Pos} {a b : Expr} {kt k2 : Nat} (h : (isLocal sc n && isLocal sc m) = false) :
    swappedStores [.Tuple [.Name n pn, .Name m pm] kt pt] (.Tuple [a, b] k2 pt2) X.env = pure none := by
  have hb : X.env.blockKind = .function := by unfold Env.blockKind; rw [x.x.hsc, x.fn]; rfl
  have ends : (X.env.kindOf n == some .local) = false ∨ (X.env.kindOf m == some .local) = false := by
    cases q1 : isLocal sc n with
    | false => exact .inl (notLocal x q1)
    | true =>
      rw [q1, Bool.true_and] at h
      exact .inr (notLocal x h)
  unfold swappedStores
  simp only [hb, List.filterMap_cons, List.filterMap_nil, List.length_cons, List.length_nil, List.head?_cons, Option.map_some, Option.getD_some]
  rw [if_neg (by decide)]
  split
  · rfl
  · rcases ends with k | k
    · simp only [k, Bool.false_and, Bool.false_eq_true, if_false]
      by_cases z1 : (X.env.kindOf m == some .local && pm.line == (Expr.Name n pn).pos.line) = true
      · simp only [z1, if_true]; rfl
      · simp only [z1, Bool.false_eq_true, if_false]; rfl
    · simp only [k, Bool.false_and, Bool.false_eq_true, if_false]
      by_cases z1 : (X.env.kindOf n == some .local && pn.line == (Expr.Name n pn).pos.line) = true
      · simp only [z1, if_true]; rfl
      · simp only [z1, Bool.false_eq_true, if_false]; rfl
theorem swNo3 (x : SOk T k N X sc W) {n m o : Str} {pn pm po pt pt2 : Pos} {a b c : Expr} {kt k2 : Nat} (h : (isLocal sc n && isLocal sc m && isLocal sc o) = false) :
    swappedStores [.Tuple [.Name n pn, .Name m pm, .Name o po] kt pt] (.Tuple [a, b, c] k2 pt2) X.env = pure none := by
  have hb : X.env.blockKind = .function := by unfold Env.blockKind; rw [x.x.hsc, x.fn]; rfl
  have ends : (X.env.kindOf n == some .local) = false ∨ (X.env.kindOf m == some .local) = false ∨ (X.env.kindOf o == some .local) = false := by
    cases q1 : isLocal sc n with
    | false => exact .inl (notLocal x q1)
    | true =>
      cases q2 : isLocal sc m with
      | false => exact .inr (.inl (notLocal x q2))
      | true =>
        rw [q1, q2, Bool.true_and, Bool.true_and] at h
        exact .inr (.inr (notLocal x h))
  unfold swappedStores
  simp only [hb, List.filterMap_cons, List.filterMap_nil, List.length_cons, List.length_nil, List.head?_cons, Option.map_some, Option.getD_some]
  rw [if_neg (by decide)]
  split
  · rfl
  · rcases ends with k | k | k
    · simp only [k, Bool.false_and, Bool.false_eq_true, if_false]
      by_cases z1 : (X.env.kindOf m == some .local && pm.line == (Expr.Name n pn).pos.line) = true <;> by_cases z2 : (X.env.kindOf o == some .local && po.line == (Expr.Name n pn).pos.line) = true <;> (simp only [z1, z2, if_true, Bool.false_eq_true, if_false]; rfl)
    · simp only [k, Bool.false_and, Bool.false_eq_true, if_false]
      by_cases z1 : (X.env.kindOf n == some .local && pn.line == (Expr.Name n pn).pos.line) = true <;> by_cases z2 : (X.env.kindOf o == some .local && po.line == (Expr.Name n pn).pos.line) = true <;> (simp only [z1, z2, if_true, Bool.false_eq_true, if_false]; rfl)
    · simp only [k, Bool.false_and, Bool.false_eq_true, if_false]
      by_cases z1 : (X.env.kindOf n == some .local && pn.line == (Expr.Name n pn).pos.line) = true <;> by_cases z2 : (X.env.kindOf m == some .local && pm.line == (Expr.Name n pn).pos.line) = true <;> (simp only [z1, z2, if_true, Bool.false_eq_true, if_false]; rfl)
theorem swFold2 (x : SOk T k N X sc W) {n m : Str} {pn pm pt pt2 : Pos} {a b : Expr} {kt k2 : Nat} (h : (foldedForSure 8 a && foldedForSure 8 b) = true) :
    swappedStores [.Tuple [.Name n pn, .Name m pm] kt pt] (.Tuple [a, b] k2 pt2) X.env = pure none := by
  cases q : (isLocal sc n && isLocal sc m) with
  | false => exact swNo2 x q
  | true =>
    rw [Bool.and_eq_true] at q
    have k1 : X.env.kindOf n = some .local := kindLocal x q.1
    have k2 : X.env.kindOf m = some .local := kindLocal x q.2
    have hb : X.env.blockKind = .function := by unfold Env.blockKind; rw [x.x.hsc, x.fn]; rfl
    unfold swappedStores
    simp only [hb, List.filterMap_cons, List.filterMap_nil, k1, k2, List.length_cons, List.length_nil, List.head?_cons, Option.map_some, Option.getD_some, List.all_cons, List.all_nil, Bool.and_true, h, if_true]
    repeat' split
    all_goals rfl
theorem swFold3 (x : SOk T k N X sc W) {n m o : Str} {pn pm po pt pt2 : Pos} {a b c : Expr} {kt k2 : Nat} (h : (foldedForSure 8 a && foldedForSure 8 b && foldedForSure 8 c) = true) :
    swappedStores [.Tuple [.Name n pn, .Name m pm, .Name o po] kt pt] (.Tuple [a, b, c] k2 pt2) X.env = pure none := by
  cases q : (isLocal sc n && isLocal sc m && isLocal sc o) with
  | false => exact swNo3 x q
  | true =>
    rw [Bool.and_eq_true, Bool.and_eq_true] at q
    have k1 : X.env.kindOf n = some .local := kindLocal x q.1.1
    have k2 : X.env.kindOf m = some .local := kindLocal x q.1.2
    have k3 : X.env.kindOf o = some .local := kindLocal x q.2
    have hb : X.env.blockKind = .function := by unfold Env.blockKind; rw [x.x.hsc, x.fn]; rfl
    rw [Bool.and_assoc] at h
    unfold swappedStores
    simp only [hb, List.filterMap_cons, List.filterMap_nil, k1, k2, k3, List.length_cons, List.length_nil, List.head?_cons, Option.map_some, Option.getD_some, List.all_cons, List.all_nil, Bool.and_true, h, if_true]
    repeat' split
    all_goals rfl
theorem swN2 (x : SOk T k N X sc W) {n m : Str} {pn pm pt pt2 : Pos} {a b : Expr} {kt k2 : Nat} (h : (!(isLocal sc n && isLocal sc m) || (foldedForSure 8 a && foldedForSure 8 b)) = true) :
    swappedStores [.Tuple [.Name n pn, .Name m pm] kt pt] (.Tuple [a, b] k2 pt2) X.env = pure none := by
  rcases Bool.or_eq_true_iff.mp h with q | q
  · exact swNo2 x (by rw [Bool.not_eq_true'] at q; exact q)
  · exact swFold2 x q
theorem swN3 (x : SOk T k N X sc W) {n m o : Str} {pn pm po pt pt2 : Pos} {a b c : Expr} {kt k2 : Nat} (h : (!(isLocal sc n && isLocal sc m && isLocal sc o) || (foldedForSure 8 a && foldedForSure 8 b && foldedForSure 8 c)) = true) :
    swappedStores [.Tuple [.Name n pn, .Name m pm, .Name o po] kt pt] (.Tuple [a, b, c] k2 pt2) X.env = pure none := by
  rcases Bool.or_eq_true_iff.mp h with q | q
  · exact swNo3 x (by rw [Bool.not_eq_true'] at q; exact q)
  · exact swFold3 x q
theorem snd_par4 (x : SOk T k N X sc W) {ev : Expr → Env → R Vw} (h : ∀ e, SndE X W H0 (ev e) e) {n m o q : Str} {pn pm po pq pt pt2 pos : Pos} {a b c d : Expr} {kt k2 : Nat} :
    SndS X W F0 H0 (evPar4 N sc ev n m o q a b c d) (.Assign [.Tuple [.Name n pn, .Name m pm, .Name o po, .Name q pq] kt pt] (.Tuple [a, b, c, d] k2 pt2) pos) := by
  intro ρ σ F H D r dm e p
  unfold evPar4 at p
  split at p
  · rename_i i j l u hns hi hj hl hu
    unfold ns4 at hns
    simp only [Bool.and_eq_true, Bool.not_eq_true'] at hns
    obtain ⟨⟨⟨⟨⟨⟨⟨h1, h2⟩, h3⟩, h4⟩, h5⟩, h6⟩, h7⟩, h8⟩ := hns
    refine ps_ev (ps_asg (pe_tup (pa_cons pe_can (pa_cons pe_can (pa_cons pe_can (pa_cons pe_can pa_nil (star_cons h8)) (star_cons h7)) (star_cons h6)) (star_cons h5)))
      (pg_tup x.x.calm (pgs_cons (pg_loc x hi h1) (pgs_cons (pg_loc x hj h2) (pgs_cons (pg_loc x hl h3) (pgs_cons (pg_loc x hu h4) pgs_nil rfl) rfl) rfl) rfl)) rfl rfl) ?_
    refine (h a).thnS r dm e p fun w1 v1 F1 H1 e1 x1 d1 r1 y1 t1 p1 => ?_
    refine (h b).thnS r1 d1 y1 p1 fun w2 v2 F2 H2 e2 x2 d2 r2 y2 t2 p2 => ?_
    refine (h c).thnS r2 d2 y2 p2 fun w3 v3 F3 H3 e3 x3 d3 r3 y3 t3 p3 => ?_
    refine (h d).thnS r3 d3 y3 p3 fun w4 v4 F4 H4 e4 x4 d4 r4 y4 t4 p4 => ?_
    obtain ⟨s1, es1, q1⟩ := slOf_bindS p4
    obtain ⟨s2, es2, q2⟩ := slOf_bindS q1
    obtain ⟨s3, es3, q3⟩ := slOf_bindS q2
    obtain ⟨s4, es4, q4⟩ := slOf_bindS q3
    have rA := RepS.put (i := i) r1 r e.same es1 t1
    have rB := RepS.put (i := j) (rA.ext x2) rA y1.same es2 t2
    have rC := RepS.put (i := l) (rB.ext x3) rB y2.same es3 t3
    have rD := RepS.put (i := u) (rC.ext x4) rC y3.same es4 t4
    refine ⟨by rw [sizeLine_eq]; exact (by decide : 4 ≤ 16777216), fun l n => ⟨l, [v1, v2, v3, v4], rfl, .inl (.inl upd_same), rfl, v1, [v2, v3, v4], rfl, v2, [v3, v4], rfl, v3, [v4], rfl, v4, [], rfl, rfl, ?_⟩⟩
    have xl := Ext.upd (F := F4) (o := .tup [v1, v2, v3, v4]) n
    exact q4 _ F4 _ (fun _ h => h) (Kp.of xl.same) (y4.trans xl) (d4.same xl.same) (rD.ext xl)
  · exact p.elim
theorem snd_par (x : SOk T k N X sc W) {ev : Expr → Env → R Vw} (h : ∀ e, SndE X W H0 (ev e) e) {ts vs : List Expr} {kt k2 : Nat} {pt pt2 pos : Pos} : SndS X W F0 H0 (evPar N sc ev ts vs) (.Assign [.Tuple ts kt pt] (.Tuple vs k2 pt2) pos) := by
  intro ρ σ F H D r dm e p
  unfold evPar at p
  split at p
  · rename_i n pn m pm a b
    split at p
    · rename_i i j hsw' hi hj
      rcases Bool.or_eq_true_iff.mp hsw' with hsw | hns
      · have q := hsw
        unfold sw2 at q
        simp only [Bool.and_eq_true, Bool.not_eq_true'] at q
        obtain ⟨⟨⟨⟨⟨⟨⟨h1, h2⟩, h3⟩, h4⟩, h5⟩, h6⟩, h7⟩, h8⟩ := q
        refine ps_ev (ps_par (i := i) (j := j) x.x.calm x.x.nd (by rw [x.x.hN]; exact idx_get hi) (by rw [x.x.hN]; exact idx_get hj) (idx_ne h4 hi hj) (kindLocal x h1) (kindLocal x h2) (pa_cons pe_can (pa_cons pe_can pa_nil (star_cons h6)) (star_cons h5)) (swappedStores2 x hsw)) ?_
        refine (h a).thnS r dm e p fun w v F1 H1 e1 x1 d1 r1 y1 v1 p1 => ?_
        refine (h b).thnS r1 d1 y1 p1 fun u v' F2 H2 e2 x2 d2 r2 y2 v2 p2 => ?_
        obtain ⟨s, es, p3⟩ := slOf_bindS p2
        obtain ⟨t, et, p4⟩ := slOf_bindS p3
        have rA := RepS.put (i := i) r1 r e.same es v1
        have rB := RepS.put (i := j) (rA.ext x2) rA y1.same et v2
        exact ⟨v, v', rfl, p4 _ F2 H2 (fun _ h => h) Kp.refl y2 d2 rB⟩
      · unfold ns2 at hns
        rw [Bool.and_eq_true, Bool.and_eq_true, Bool.and_eq_true, Bool.and_eq_true, Bool.and_eq_true] at hns
        obtain ⟨⟨⟨⟨⟨h1, h2⟩, h3⟩, h4⟩, h5⟩, h6⟩ := hns
        rw [Bool.not_eq_true'] at h4 h5 h6
        have ne := idx_ne h4 hi hj
        refine ps_ev (ps_asg (pe_tup (pa_cons pe_can (pa_cons pe_can pa_nil (star_cons h6)) (star_cons h5))) (pg_tup x.x.calm (pgs_cons (pg_loc x hi h1) (pgs_cons (pg_loc x hj h2) pgs_nil rfl) rfl)) rfl (swN2 x h3)) ?_
        refine (h a).thnS r dm e p fun w v F1 H1 e1 x1 d1 r1 y1 v1 p1 => ?_
        refine (h b).thnS r1 d1 y1 p1 fun u v' F2 H2 e2 x2 d2 r2 y2 v2 p2 => ?_
        obtain ⟨s, es, p3⟩ := slOf_bindS p2
        obtain ⟨t, et, p4⟩ := slOf_bindS p3
        have rA := RepS.put (i := i) r1 r e.same es v1
        have rB := RepS.put (i := j) (rA.ext x2) rA y1.same et v2
        refine ⟨by rw [sizeLine_eq]; exact (by decide : 2 ≤ 16777216), fun l n => ⟨l, [v, v'], rfl, .inl (.inl upd_same), rfl, v, [v'], rfl, v', [], rfl, rfl, ?_⟩⟩
        have xl := Ext.upd (F := F2) (o := .tup [v, v']) n
        exact p4 _ F2 _ (fun _ h => h) (Kp.of xl.same) (y2.trans xl) (d2.same xl.same) (rB.ext xl)
    · exact p.elim
  · rename_i n pn m pm o po a b c
    split at p
    · rename_i i j l hsw' hi hj hl
      rcases Bool.or_eq_true_iff.mp hsw' with hsw | hns
      · have q := hsw
        unfold sw3 at q
        simp only [Bool.and_eq_true, Bool.not_eq_true'] at q
        obtain ⟨⟨⟨⟨⟨⟨⟨⟨⟨⟨⟨⟨h1, h2⟩, h2'⟩, h3⟩, h3'⟩, h4⟩, h4'⟩, h4''⟩, h5⟩, h6⟩, h6'⟩, h7⟩, h8⟩ := q
        refine ps_ev (ps_par3 (i := i) (j := j) (l := l) x.x.calm x.x.nd (by rw [x.x.hN]; exact idx_get hi) (by rw [x.x.hN]; exact idx_get hj) (by rw [x.x.hN]; exact idx_get hl) (idx_ne h4 hi hj) (idx_ne h4' hi hl) (idx_ne h4'' hj hl)
          (kindLocal x h1) (kindLocal x h2) (kindLocal x h2') (pa_cons pe_can (pa_cons pe_can (pa_cons pe_can pa_nil (star_cons h6')) (star_cons h6)) (star_cons h5)) (swappedStores3 x hsw)) ?_
        refine (h a).thnS r dm e p fun w v F1 H1 e1 x1 d1 r1 y1 v1 p1 => ?_
        refine (h b).thnS r1 d1 y1 p1 fun u v' F2 H2 e2 x2 d2 r2 y2 v2 p2 => ?_
        refine (h c).thnS r2 d2 y2 p2 fun u v'' F3 H3 e3 x3 d3 r3 y3 v3 p3 => ?_
        obtain ⟨s, es, p3⟩ := slOf_bindS p3
        obtain ⟨t, et, p4⟩ := slOf_bindS p3
        obtain ⟨q, eq, p5⟩ := slOf_bindS p4
        have rA := RepS.put (i := i) r1 r e.same es v1
        have rB := RepS.put (i := j) (rA.ext x2) rA y1.same et v2
        have rC := RepS.put (i := l) (rB.ext x3) rB y2.same eq v3
        exact ⟨v, v', v'', rfl, p5 _ F3 H3 (fun _ h => h) Kp.refl y3 d3 rC⟩
      · unfold ns3 at hns
        rw [Bool.and_eq_true, Bool.and_eq_true, Bool.and_eq_true, Bool.and_eq_true, Bool.and_eq_true, Bool.and_eq_true, Bool.and_eq_true, Bool.and_eq_true, Bool.and_eq_true] at hns
        obtain ⟨⟨⟨⟨⟨⟨⟨⟨⟨h1, h2⟩, h2'⟩, h3⟩, h4⟩, h4'⟩, h4''⟩, h5⟩, h6⟩, h7⟩ := hns
        rw [Bool.not_eq_true'] at h4 h4' h4'' h5 h6 h7
        refine ps_ev (ps_asg (pe_tup (pa_cons pe_can (pa_cons pe_can (pa_cons pe_can pa_nil (star_cons h7)) (star_cons h6)) (star_cons h5))) (pg_tup x.x.calm (pgs_cons (pg_loc x hi h1) (pgs_cons (pg_loc x hj h2) (pgs_cons (pg_loc x hl h2') pgs_nil rfl) rfl) rfl)) rfl (swN3 x h3)) ?_
        refine (h a).thnS r dm e p fun w v F1 H1 e1 x1 d1 r1 y1 v1 p1 => ?_
        refine (h b).thnS r1 d1 y1 p1 fun u v' F2 H2 e2 x2 d2 r2 y2 v2 p2 => ?_
        refine (h c).thnS r2 d2 y2 p2 fun u v'' F3 H3 e3 x3 d3 r3 y3 v3 p3 => ?_
        obtain ⟨s, es, p3⟩ := slOf_bindS p3
        obtain ⟨t, et, p4⟩ := slOf_bindS p3
        obtain ⟨q, eq, p5⟩ := slOf_bindS p4
        have rA := RepS.put (i := i) r1 r e.same es v1
        have rB := RepS.put (i := j) (rA.ext x2) rA y1.same et v2
        have rC := RepS.put (i := l) (rB.ext x3) rB y2.same eq v3
        refine ⟨by rw [sizeLine_eq]; exact (by decide : 3 ≤ 16777216), fun l n => ⟨l, [v, v', v''], rfl, .inl (.inl upd_same), rfl, v, [v', v''], rfl, v', [v''], rfl, v'', [], rfl, rfl, ?_⟩⟩
        have xl := Ext.upd (F := F3) (o := .tup [v, v', v'']) n
        exact p5 _ F3 _ (fun _ h => h) (Kp.of xl.same) (y3.trans xl) (d3.same xl.same) (rC.ext xl)
    · exact p.elim
  · exact snd_par4 x h ρ σ F H D r dm e p
  · exact p.elim
theorem swNone {ts : List Expr} {kt : Nat} {pt : Pos} {e : Expr} (h : ∀ vs a b, e ≠ .Tuple vs a b) : swappedStores [.Tuple ts kt pt] e X.env = pure none := by
  unfold swappedStores
  cases e <;> first | rfl | exact absurd rfl (h _ _ _)
theorem snd_asgT (x : SOk T k N X sc W) {f : Env → R Vw} {e : Expr} (h : SndE X W H0 f e) (hc : isComp e = false) (ht : ∀ vs a b, e ≠ .Tuple vs a b) {ts : List Expr} {kt : Nat} {pt pos : Pos} :
    SndS X W F0 H0 (fun ρ => (f ρ).bind (asgD N sc (.Tuple ts kt pt) ρ)) (.Assign [.Tuple ts kt pt] e pos) := by
  intro ρ σ F H D r dm y p
  refine ps_ev (ps_asg pe_can pg_can (by cases e <;> first | rfl | cases hc) (swNone ht)) (h.thnS r dm y p fun w v F1 H1 e1 x1 d1 r1 y1 v1 p1 => ?_)
  cases w with
  | dt d =>
    obtain ⟨ρ', ea, p2⟩ := nxR_bind p1 fun c => asg_noexc
    exact asg_ok x.st x.x.calm ea r1 v1 y1.same fun σ' r' _ => p2 σ' F1 H1 (fun _ h => h) Kp.refl y1 d1 r'
  | _ => exact p1.elim
theorem snd_ifS {t : Env → R Bool} {f g : Env → R Fl} {c : Expr} {a b : List Stmt} {pos : Pos} (hc : SndT X W H0 t c) (ha : SndSS X W F0 H0 f a) (hb : SndSS X W F0 H0 g b) : SndS X W F0 H0 (fun ρ => (t ρ).bind fun z => match z with
    | true => f ρ
    | false => g ρ) (.If c a b pos) := by
  intro ρ σ F H D r dm y p
  refine ps_ev (ps_if pt_can pss_can pss_can) (hc.thnS r dm y p fun z F1 H1 e1 x1 d1 r1 y1 p1 => ?_)
  cases z with
  | true => exact iteT (ha ρ σ F1 H1 D r1 d1 y1 p1)
  | false => exact iteF (hb ρ σ F1 H1 D r1 d1 y1 p1)
theorem forL_cons {f : PyData → Env → R Fl} {x : PyData} {xs : List PyData} {ρ : Env} : forL f (x :: xs) ρ = (f x ρ).bind fun z => match z with
    | .nx ρ' => forL f xs ρ'
    | .rt w => .ok (.rt w) := rfl
theorem snd_for (x : SOk T k N X sc W) {fi : Env → R (List PyData)} {fb : Env → R Fl} {tg iter : Expr} {body : List Stmt} {pos : Pos} (hi : SndI X W H0 true tg fi iter) (hs : ∀ v, foldedSetIterable iter X.env v = pure v) (hb : SndSS X W F0 H0 fb body) :
    SndS X W F0 H0 (fun ρ => (fi ρ).bind fun items => forL (fun x ρ => (asg N sc tg (.dt x) ρ).bind fun ρ1 => fb ρ1) items ρ) (.For tg iter body [] pos) := by
  intro ρ σ F H D r dm y p
  refine ps_ev (ps_for x.hp x.x.calm pi_can pg_can pss_can hs) (hi.thnS r dm y p fun ds J F1 H1 e1 x1 d1 r1 y1 wk p1 => ?_)
  generalize hf : (fun (x : PyData) (ρ : Env) => (asg N sc tg (.dt x) ρ).bind fun ρ1 => fb ρ1) = f at p1
  refine ⟨fun i m σ' H' => m = ds.length - i ∧ i ≤ ds.length ∧ ∃ ρ' F', (∀ a, F1 a → F' a) ∧ Kp F1 H1 H' ∧ Ext F0 H0 F' H' ∧ Dom F' H' ∧ RepS X.K H0 F' H' σ' ρ' ∧ PostS X.K W F0 H0 F' H' D (forL f (ds.drop i) ρ'),
    ⟨ds.length, by simp, Nat.zero_le _, ρ, F1, fun _ h => h, Kp.refl, y1, d1, r1, by rw [List.drop_zero]; exact p1⟩, ?_⟩
  rintro i m σ' H' ⟨rfl, hi, ρ', F', mo, kp, y', d', r', p'⟩
  by_cases hlt : i < ds.length
  · have hd : ds.drop i = ds[i] :: ds.drop (i + 1) := List.drop_eq_getElem_cons hlt
    rw [hd, forL_cons] at p'
    refine .inr ⟨wk.go i F' H' ⟨mo, kp⟩ hlt, fun σ2 H2 => ∃ ρ2 F2, (∀ a, F1 a → F2 a) ∧ Kp F1 H1 H2 ∧ Ext F0 H0 F2 H2 ∧ Dom F2 H2 ∧ RepS X.K H0 F2 H2 σ2 ρ2 ∧ PostS X.K W F0 H0 F2 H2 D (forL f (ds.drop (i + 1)) ρ2),
      fun σ2 H2 h2 => ⟨ds.length - (i + 1), by omega, rfl, hlt, h2⟩, fun v H3 hy => ?_⟩
    obtain ⟨xy, ry⟩ := wk.yld i F' H' v H3 ds[i] ⟨mo, kp⟩ d' (List.getElem?_eq_getElem hlt) hy
    have p3 := p'.ext xy
    rw [← hf, R.bind_assoc] at p3
    obtain ⟨ρ1, ea, p4⟩ := bindS_ok p3 fun c => asg_noexc
    have y3 := y'.trans xy
    refine asg_ok x.st x.x.calm ea (r'.ext xy) ry y3.same fun σ2 r2 _ => ?_
    refine hb ρ1 σ2 F' H3 _ r2 (d'.same xy.same) y3 ?_
    refine PostS.bind (g := fun ρ => forL f (ds.drop (i + 1)) ρ) (D := D) ?_ rfl fun ρ3 _ σ3 F3 H4 m3 k3 y4 d4 r4 p5 => ?_
    · rw [hf] at p4
      exact p4
    · exact ⟨ρ3, F3, fun a h => m3 a (mo a h), (kp.trans (F' := F') mo (Kp.of xy.same)).trans mo k3, y4, d4, r4, p5⟩
  · have e : i = ds.length := by omega
    subst e
    rw [List.drop_length] at p'
    exact .inl ⟨wk.stop _ F' H' ⟨mo, kp⟩ (Nat.le_refl _), p' σ' F' H' (fun _ h => h) Kp.refl y' d' r'⟩
theorem snd_while (x : SOk T k N X sc W) {t : Env → R Bool} {f : Env → R Fl} {c : Expr} {body : List Stmt} {pos : Pos} (hc : SndT X W H0 t c) (hb : SndSS X W F0 H0 f body) (n : Nat) : SndS X W F0 H0 (whileF t f n) (.While c body [] pos) := by
  intro ρ σ F H D r dm y p
  refine ps_ev (ps_while x.hp pt_can pss_can) ⟨fun m σ' H' => ∃ ρ' F', Ext F0 H0 F' H' ∧ Dom F' H' ∧ RepS X.K H0 F' H' σ' ρ' ∧ (∀ a, F a → F' a) ∧ Kp F H H' ∧ PostS X.K W F0 H0 F' H' D (whileF t f m ρ'), ⟨n, ρ, F, y, dm, r, fun _ h => h, Kp.refl, p⟩, ?_⟩
  rintro m σ' H' ⟨ρ', F', y', d', r', mo, kp, p'⟩
  cases m with
  | zero => exact p'.elim
  | succ m =>
    unfold whileF at p'
    refine hc.thnS r' d' y' p' fun z F1 H1 e1 x1 d1 r1 y1 p1 => ?_
    cases z with
    | false => exact iteF (p1 σ' F1 H1 (fun _ h => h) Kp.refl y1 d1 r1)
    | true =>
      refine iteT ⟨fun σ2 H2 => ∃ ρ2 F2, Ext F0 H0 F2 H2 ∧ Dom F2 H2 ∧ RepS X.K H0 F2 H2 σ2 ρ2 ∧ (∀ a, F a → F2 a) ∧ Kp F H H2 ∧ PostS X.K W F0 H0 F2 H2 D (whileF t f m ρ2), fun σ2 H2 h2 => ⟨m, Nat.lt_succ_self _, h2⟩, ?_⟩
      refine hb ρ' σ' F1 H1 _ r1 d1 y1 ?_
      refine PostS.bind (g := fun ρ => whileF t f m ρ) (D := D) p1 rfl fun ρ3 _ σ3 F3 H4 m3 k3 y4 d4 r4 p5 => ?_
      exact ⟨ρ3, F3, y4, d4, r4, fun a h => m3 a (x1.mono a (mo a h)), (kp.trans (F' := F1) (fun a h => x1.mono a (mo a h)) (Kp.of x1.same) ).trans (fun a h => x1.mono a (mo a h)) k3, p5⟩
theorem snd_raise (x : SOk T k N X sc W) {n m : Str} {j : Nat} {p p2 p3 pos : Pos} (hg : isGlob sc n = true) {rel : List (Str × Bool)} (hl : T.lookup n = some (.cls rel)) : SndS X W F0 H0 (fun _ => .exc n) (.Raise (some (.Call (.Name n p) [.Constant (.str m) j p2] [] p3)) none pos) := by
  intro ρ σ F H D r dm y q
  obtain ⟨C, hm, h1, h2, h3, h4⟩ := (x.x.tab n _ hl).ok
  obtain ⟨g1, g2, g3⟩ := isGlob_of hg
  have gl : Gl X n := (show X.env.scope.names.lookup n = _ by rw [x.x.hsc]; exact g1)
  refine ps_ev (ps_raise x.x.calm x.x.takes (pmk_own PySem.F.excBase_ValueError h1 hm h2 (raises_own h3 h4) gl g2)) ?_
  exact ⟨n, C, hm, rfl, rfl, q σ F H y dm⟩
/-! ### all of it -/
def SndSt (T : Tab) (k : Nat) (N : List Str) (ev : Ev) : Prop := ∀ (X : Cx) (sc : Scope) (W : WS) (F0 : Addr → Prop) (H0 : Hp), SOk T k N X sc W → ∀ ss, SndSS X W F0 H0 (ev.ss sc ss) ss
theorem evIt_set {T : Tab} {sc : Scope} {ev : Expr → Env → R Vw} {tg e : Expr} {env : PySem.Env} : (∀ v, foldedSetIterable e env v = pure v) ∨ ∀ ρ, evIt true T sc ev tg e ρ = .stk := by
  cases e <;> first | exact .inl fun _ => rfl | exact .inr fun _ => rfl
end
end BR
namespace BR
open PySem PySem.Spec PyProof.Rows L2
/-! ### in an except suite: slot i holds the exception at a -/
def HSnd (X : Cx) (H0 : Hp) (i : Nat) (a : Addr) (f : Env → R Vw) (e : Expr) : Prop :=
  ∀ ρ σ F H Q, σ[i]? = some (some (.ref a)) → RepS X.K H0 F H σ ρ → Dom F H → Same H0 H → Post X.K (fun _ _ => False) F H Q (f ρ) → EvOk X e σ H Q
section
variable {X : Cx} {H0 : Hp} {i : Nat} {a : Addr}
theorem SndE.hot {f : Env → R Vw} {e : Expr} (h : SndE X (fun _ _ _ => False) H0 f e) : HSnd X H0 i a f e := fun ρ σ F H Q _ r dm sm p => h ρ σ F H Q r dm sm p
theorem hstk {f : Env → R Vw} {e : Expr} (h : ∀ ρ, f ρ = .stk) : HSnd X H0 i a f e := fun ρ σ F H Q z r dm sm p => by rw [h] at p; exact p.elim
variable {ρ : Env} {σ : L2.St} {F : Addr → Prop} {H : Hp}
theorem HSnd.thn {f : Env → R Vw} {e : Expr} {g : Vw → R Vw} {Q Q1 : VK} (h : HSnd X H0 i a f e) (z : σ[i]? = some (some (.ref a))) (r : RepS X.K H0 F H σ ρ) (dm : Dom F H) (sm : Same H0 H) (p : Post X.K (fun _ _ => False) F H Q ((f ρ).bind g))
    (k : ∀ w v F1 H1, f ρ = .ok w → Ext F H F1 H1 → Dom F1 H1 → RepS X.K H0 F1 H1 σ ρ → Same H0 H1 → VRep X.K F1 H H1 v w → Post X.K (fun _ _ => False) F1 H1 Q (g w) → Q1 v H1) : EvOk X e σ H Q1 := by
  refine h ρ σ F H Q1 z r dm sm ?_
  cases q : f ρ with
  | ok w =>
    rw [q] at p
    exact fun v F1 H1 e1 d1 rv => k w v F1 H1 q e1 d1 (r.ext e1) (sm.trans e1.same) rv (Post.ext (r := g w) p e1)
  | exc c => rw [q] at p; exact p
  | stk => rw [q] at p; exact p.elim
theorem HSnd.thnB {f : Env → R Vw} {e : Expr} {g : Vw → R Vw} {Q Q1 : VK} {Fb : Addr → Prop} {Hb : Hp} (h : HSnd X H0 i a f e) (x : Ext Fb Hb F H) (z : σ[i]? = some (some (.ref a))) (r : RepS X.K H0 F H σ ρ) (dm : Dom F H) (sm : Same H0 H) (p : Post X.K (fun _ _ => False) Fb Hb Q ((f ρ).bind g))
    (k : ∀ w v F1 H1, f ρ = .ok w → Ext Fb Hb F1 H1 → Ext F H F1 H1 → Dom F1 H1 → RepS X.K H0 F1 H1 σ ρ → Same H0 H1 → VRep X.K F1 Hb H1 v w → Post X.K (fun _ _ => False) Fb Hb Q (g w) → Q1 v H1) : EvOk X e σ H Q1 := by
  refine h ρ σ F H Q1 z r dm sm ?_
  cases q : f ρ with
  | ok w =>
    rw [q] at p
    exact fun v F1 H1 e1 d1 rv => k w v F1 H1 q (x.trans e1) e1 d1 (r.ext e1) (sm.trans e1.same) (rv.back x.same) p
  | exc c => rw [q] at p; exact Post.ext (r := .exc c) p x
  | stk => rw [q] at p; exact p.elim
theorem hL0_ok {ev : Expr → Env → R Vw} (h : ∀ e, HSnd X H0 i a (ev e) e) {Q : VK} {Fb : Addr → Prop} {Hb : Hp} : ∀ (es : List Expr) {g : List Vw → R Vw} {Q1 : List V → Hp → Prop} {ρ : Env} {σ : L2.St} {F : Addr → Prop} {H : Hp}, (∀ e ∈ es, isStar e = false) → Ext Fb Hb F H → σ[i]? = some (some (.ref a)) → RepS X.K H0 F H σ ρ → Dom F H → Same H0 H →
    Post X.K (fun _ _ => False) Fb Hb Q ((evL0 ev es ρ).bind g) →
    (∀ ws vs F1 H1, evL0 ev es ρ = .ok ws → Ext Fb Hb F1 H1 → Ext F H F1 H1 → Dom F1 H1 → RepS X.K H0 F1 H1 σ ρ → Same H0 H1 → VRL X.K F1 Hb H1 vs ws → Post X.K (fun _ _ => False) Fb Hb Q (g ws) → Q1 vs H1) → EaOk X es σ H Q1
  | [], g, Q1, ρ, σ, F, H, _, x, z, r, dm, sm, p, k => pa_ev pa_nil (k [] [] F H rfl x .refl dm r sm .nil p)
  | e :: es, g, Q1, ρ, σ, F, H, ns, x, z, r, dm, sm, p, k => by
    unfold evL0 at p k
    have p' : Post X.K (fun _ _ => False) Fb Hb Q ((ev e ρ).bind fun w => (evL0 ev es ρ).bind fun ws => g (w :: ws)) := by
      cases q : ev e ρ with
      | exc c => rw [q] at p; exact p
      | stk => rw [q] at p; exact p
      | ok w =>
        rw [q] at p
        cases q2 : evL0 ev es ρ with
        | exc c => simp only [R.bind, q2] at p ⊢; exact p
        | stk => simp only [R.bind, q2] at p ⊢; exact p
        | ok ws => simp only [R.bind, q2] at p ⊢; exact p
    refine pa_ev (pa_cons pe_can pa_can (star_cons (ns e List.mem_cons_self))) ((h e).thnB x z r dm sm p' fun w v F1 H1 e1 x1 y1 d1 r1 s1 v1 p1 => ?_)
    refine hL0_ok h es (fun e' he => ns e' (List.mem_cons_of_mem _ he)) x1 z r1 d1 s1 p1 fun ws vs F2 H2 e2 x2 y2 d2 r2 s2 q2 p2 => ?_
    refine k (w :: ws) (v :: vs) F2 H2 ?_ x2 (y1.trans y2) d2 r2 s2 (.cons (v1.ext y2) q2) p2
    rw [e1]
    show (evL0 ev es ρ).bind _ = _
    rw [e2]
    rfl
theorem hL_ok {ev : Expr → Env → R Vw} (h : ∀ e, HSnd X H0 i a (ev e) e) {Q : VK} (es : List Expr) {g : List Vw → R Vw} {Q1 : List V → Hp → Prop} (z : σ[i]? = some (some (.ref a))) (r : RepS X.K H0 F H σ ρ) (dm : Dom F H) (sm : Same H0 H)
    (p : Post X.K (fun _ _ => False) F H Q ((evL ev es ρ).bind g))
    (k : ∀ ws vs F1 H1, Ext F H F1 H1 → Dom F1 H1 → RepS X.K H0 F1 H1 σ ρ → Same H0 H1 → VRL X.K F1 H H1 vs ws → Post X.K (fun _ _ => False) F H Q (g ws) → Q1 vs H1) : EaOk X es σ H Q1 :=
  let ⟨ns, p⟩ := evL_stars p
  hL0_ok h es ns .refl z r dm sm p fun ws vs F1 H1 _ x1 _ d1 r1 s1 v1 p1 => k ws vs F1 H1 x1 d1 r1 s1 v1 p1
theorem h_add {f g : Env → R Vw} {e1 e2 : Expr} {pos : Pos} (h1 : HSnd X H0 i a f e1) (h2 : HSnd X H0 i a g e2) : HSnd X H0 i a (fun ρ => (f ρ).bind fun w => (g ρ).bind fun u => gBin .Add w u) (.BinOp e1 .Add e2 pos) := by
  intro ρ σ F H Q z r dm sm p
  refine pe_ev (pe_op (op_gBin (W := fun _ _ => False) .Add) pe_can pe_can) (h1.thn z r dm sm p fun w v F1 H1 e1 x1 d1 r1 s1 v1 p1 => ?_)
  refine h2.thn z r1 d1 s1 p1 fun u v2 F2 H2 e2 x2 d2 r2 s2 q2 p2 => ?_
  exact ⟨F2, w, u, d2, ⟨_, v1.ext x2⟩, ⟨_, q2⟩, p2⟩
theorem h_list {ev : Expr → Env → R Vw} (h : ∀ e, HSnd X H0 i a (ev e) e) {es : List Expr} {pos : Pos} : HSnd X H0 i a (fun ρ => (evL ev es ρ).bind fun ws => (toDs ws).bind fun ds => if ds.length ≤ 1000 then .ok (.fl ds) else .stk) (.List es pos) := by
  intro ρ σ F H Q z r dm sm p
  refine pe_ev (pe_lst pa_can) (hL_ok h es z r dm sm p fun ws vs F1 H1 x1 d1 r1 s1 v1 p1 => ?_)
  obtain ⟨ds, e2, p2⟩ := toDs_bind p1
  obtain ⟨hz, p3⟩ := post_if p2
  have rl := v1.fz e2
  refine ⟨by rw [sizeLine_eq, rl.length]; omega, fun l n => ?_⟩
  have x2 := FzA.ext x1
  exact p3 _ _ _ (x2.trans (Ext.upd n)) ((FzA.dom d1).same (same_upd n)) ⟨l, vs, rfl, upd_same, rl.ext (Ext.upd n), x1.same.free n, fun q => (FzA.dom d1) l q n⟩
theorem h_tuple {ev : Expr → Env → R Vw} (h : ∀ e, HSnd X H0 i a (ev e) e) {es : List Expr} {j : Nat} {pos : Pos} : HSnd X H0 i a (fun ρ => (evL ev es ρ).bind fun ws => (toDs ws).bind fun ds => if ds.length ≤ 1000 then .ok (.dt (.tuple ds)) else .stk) (.Tuple es j pos) := by
  intro ρ σ F H Q z r dm sm p
  refine pe_ev (pe_tup pa_can) (hL_ok h es z r dm sm p fun ws vs F1 H1 x1 d1 r1 s1 v1 p1 => ?_)
  obtain ⟨ds, e2, p2⟩ := toDs_bind p1
  obtain ⟨hz, p3⟩ := post_if p2
  have rl := v1.fz e2
  refine ⟨by rw [sizeLine_eq, rl.length]; omega, fun l n => ?_⟩
  have x2 := FzA.ext x1
  exact p3 _ _ _ (x2.trans (Ext.upd n)) ((FzA.dom d1).same (same_upd n)) (.tup upd_same (rl.ext (Ext.upd n)))
theorem h_if {f g t : Env → R Vw} {fe : Expr} {as : List Expr} {ks : List Keyword} {p0 pos : Pos} {e1 e2 : Expr} (ht : HSnd X H0 i a t (.Call fe as ks p0)) (h1 : HSnd X H0 i a f e1) (h2 : HSnd X H0 i a g e2) :
    HSnd X H0 i a (fun ρ => (t ρ).bind fun w => (gTru w.peek).bind fun z => match z with
      | true => f ρ
      | false => g ρ) (.IfExp (.Call fe as ks p0) e1 e2 pos) := by
  intro ρ σ F H Q z r dm sm p
  refine pe_ev (pe_ifExp (pt_truth pe_can fun _ => rfl) pe_can pe_can) (ht.thn z r dm sm p fun w v F1 H1 e1 x1 d1 r1 s1 v1 p1 => ?_)
  cases q : gTru w.peek with
  | stk => rw [q] at p1; exact p1.elim
  | exc c => unfold gTru at q; split at q <;> cases q
  | ok b =>
    rw [q] at p1
    refine ⟨b, tru_of v1.p q, ?_⟩
    cases b with
    | true => exact iteT (h1 ρ σ F1 H1 Q z r1 d1 s1 p1)
    | false => exact iteF (h2 ρ σ F1 H1 Q z r1 d1 s1 p1)
theorem h_idx (hu : X.A.units + 65 < cLine) {f g : Env → R Vw} {o e : Expr} {ap cp : Pos} (ho : HSnd X H0 i a f o) (ha : HSnd X H0 i a g e) (hb : isBase o = true) (hl : (ap.endLine == cp.line) = true) (hs : isStar e = false) :
    HSnd X H0 i a (fun ρ => (f ρ).bind fun w => (lsW w).bind fun xs => (g ρ).bind fun u => gIdx xs u) (.Call (.Attribute o "index" ap) [e] [] cp) := by
  intro ρ σ F H Q z r dm sm p
  refine pe_ev (pe_bm PySem.F.plainAttrs_list PySem.F.slot_list_index PySem.F.type_list_index (mt_indexD hu) pe_can (pa_cons pe_can pa_nil (star_cons hs)) (base_of hb) (by rw [star_cons hs]; rfl) hl (star_cons hs) rfl) ?_
  refine ho.thn z r dm sm p fun w v F1 H1 e1 x1 d1 r1 s1 v1 p1 => ?_
  unfold lsW at p1
  split at p1
  · rename_i xs ex
    have vp := v1.p
    rw [ex] at vp
    have p1 : Post X.K (fun _ _ => False) F1 H1 Q ((g ρ).bind fun u => gIdx xs u) := p1
    cases vp with
    | @lst l ys _ hq rl =>
      refine ⟨.inl ⟨rfl, ys, hq⟩, ha.thn z r1 d1 s1 p1 fun u v2 F2 H2 e2 x2 d2 r2 s2 v2' p2 => ?_⟩
      exact idx_rd d2 (x2.same.seq hq) (rl.ext x2) v2'.p p2
  · exact p1.elim
end
section
variable {T : Tab} {k : Nat} {N : List Str} {X : Cx} {sc : Scope} {H0 : Hp} {i : Nat} {a : Addr}
theorem h_isi (hsc : X.env.scope = sc) (hN : X.N = N) (tab : TOk T k X.prog X.w X.K X.mg X.base) {n c y f : Str} {C : Addr} {oe : Obj} {pn : List (Addr × Obj)} {p1 p2 p3 pos : Pos} (hi : N[i]? = some n) (hloc : isLocal sc n = true) (hd : badName n = false)
    (hf : isBlt T sc f = true) (ef : f = "isinstance") (hy : isGlob sc y = true) (hC : X.mg c = some (.ref C)) (hz : Zc (.ref C) none oe) (hfd : ∃ vs, oe.data = .fields vs) :
    HSnd (X.suite a ((a, oe) :: pn)) H0 i a (fun _ => hIs T c y) (.Call (.Name f p1) [.Name n p2, .Name y p3] [] pos) := by
  subst ef
  intro ρ σ F H Q z r dm sm p
  unfold hIs at p
  split at p
  · rename_i rel hl
    split at p
    · rename_i b hb
      obtain ⟨C', D', h1, h2, hx, _, h4⟩ := (tab c _ hl).is y b hb
      rw [hC] at h1
      cases h1
      obtain ⟨g1, g2, g3⟩ := isGlob_of hy
      have gly : Gl (X.suite a ((a, oe) :: pn)) y := (show X.env.scope.names.lookup y = _ by rw [hsc]; exact g1)
      unfold isBlt at hf
      rw [Bool.and_eq_true] at hf
      obtain ⟨f1, f2, f3⟩ := isGlob_of hf.1
      have glf : Gl (X.suite a ((a, oe) :: pn)) "isinstance" := (show X.env.scope.names.lookup _ = _ by rw [hsc]; exact f1)
      have hmf : X.mg "isinstance" = none := by
        have q := hf.2
        split at q
        · rename_i e; exact tab _ _ e
        · cases q
      unfold badName at hd
      rw [Bool.or_eq_false_iff] at hd
      have pv : PE (X.suite a ((a, oe) :: pn)) (.Name n p2) (tVar i) := pe_var (by show X.N[i]? = some n; rw [hN]; exact hi) (.inl (show X.env.scope.names.lookup n = _ by rw [hsc]; exact isLocal_of hloc)) hd.1 hd.2
      refine pe_ev (pe_callB (call_isE hx hz hfd) glf hmf (by decide +kernel) (pa_cons pv (pa_cons (pe_glob (v := .ref D') gly h2 rfl g2) pa_nil))) ?_
      exact ⟨.ref a, z, .ref D', .ref D', b, rfl, fun u r => r, h4, p.dat dm (.bl _)⟩
    · exact p.elim
  · exact p.elim
theorem hE_ok (hsc : X.env.scope = sc) (hN : X.N = N) (hu : X.A.units + 65 < cLine) (tab : TOk T k X.prog X.w X.K X.mg X.base) {n c : Str} {C : Addr} {oe : Obj} {pn : List (Addr × Obj)} (hi : N[i]? = some n) (hloc : isLocal sc n = true) (hd : badName n = false)
    (hC : X.mg c = some (.ref C)) (hz : Zc (.ref C) none oe) (hfd : ∃ vs, oe.data = .fields vs) : ∀ (m : Nat) (e : Expr), HSnd (X.suite a ((a, oe) :: pn)) H0 i a (hE T N sc n c m e) e
  | 0, e => hstk fun _ => rfl
  | m + 1, e => by
    have ih := hE_ok hsc hN hu tab hi hloc hd hC hz hfd (pn := pn) m
    show HSnd _ H0 i a (hStep T N sc n c (hE T N sc n c m) e) e
    unfold hStep
    split
    · exact (snd_const (W := fun _ _ _ => False)).hot
    · exact (snd_name0 (X := X.suite a ((a, oe) :: pn)) (W := fun _ _ _ => False) (T := T) (k := k) hN hsc tab).hot
    · exact h_add (ih _) (ih _)
    · exact h_list ih
    · exact h_tuple ih
    · exact h_if (ih _) (ih _) (ih _)
    · split
      · rename_i h1 h2 h3 h4
        cases beq_iff_eq.mp h3
        exact h_isi hsc hN tab hi hloc hd h1 (beq_iff_eq.mp h2) h4 hC hz hfd
      · exact hstk fun _ => rfl
    · split
      · rename_i h1 h2 h3 h4
        cases beq_iff_eq.mp h3
        exact h_idx (X := X.suite a ((a, oe) :: pn)) hu (ih _) (ih _) h2 h1 h4
      · exact hstk fun _ => rfl
    · exact hstk fun _ => rfl
/-! the suite's statements -/
theorem wB_bindS {α : Type} {K : PySem.W.Frag} {W : WS} {F0 F : Addr → Prop} {H0 H : Hp} {D : Ends} {r : R α} {g : α → R Fl} (p : PostS K W F0 H0 F H D ((wB r).bind g)) : ∃ a, r = .ok a ∧ PostS K W F0 H0 F H D (g a) := by
  cases r with
  | ok a => exact ⟨a, rfl, p⟩
  | exc c => exact p.elim
  | stk => exact p.elim
theorem HSnd.thnS {ρ : Env} {σ : L2.St} {F : Addr → Prop} {H : Hp} {F0 : Addr → Prop} {W : WS} {D : Ends} {f : Env → R Vw} {e : Expr} {g : Vw → R Fl} {Q1 : VK} (h : HSnd X H0 i a f e) (z : σ[i]? = some (some (.ref a))) (r : RepS X.K H0 F H σ ρ) (dm : Dom F H) (x : Ext F0 H0 F H) (p : PostS X.K W F0 H0 F H D ((wB (f ρ)).bind g))
    (k : ∀ w v F1 H1, Ext F H F1 H1 → Dom F1 H1 → RepS X.K H0 F1 H1 σ ρ → Ext F0 H0 F1 H1 → VRep X.K F1 H H1 v w → PostS X.K W F0 H0 F1 H1 D (g w) → Q1 v H1) : EvOk X e σ H Q1 := by
  obtain ⟨w, e1, p1⟩ := wB_bindS p
  refine h ρ σ F H Q1 z r dm x.same ?_
  rw [e1]
  exact fun v F1 H1 x1 d1 rv => k w v F1 H1 x1 d1 (r.ext x1) (x.trans x1) rv (PostS.ext (r := g w) p1 x1)
theorem hSS_ok {W : WS} {F0 : Addr → Prop} (nd : X.N.Nodup) (hsc : X.env.scope = sc) (hN : X.N = N) (hu : X.A.units + 65 < cLine) (tab : TOk T k X.prog X.w X.K X.mg X.base) {n c : Str} {C : Addr} {oe : Obj} {pn : List (Addr × Obj)} (hi : N[i]? = some n) (hloc : isLocal sc n = true) (hd : badName n = false)
    (hC : X.mg c = some (.ref C)) (hz : Zc (.ref C) none oe) (hfd : ∃ vs, oe.data = .fields vs) : ∀ (ss : List Stmt) (ρ : Env) (σ : L2.St) (F : Addr → Prop) (H : Hp) (D D' : Ends), D'.rt = D.rt → σ[i]? = some (some (.ref a)) → RepS X.K H0 F H σ ρ → Dom F H → Ext F0 H0 F H →
      PostS X.K W F0 H0 F H D (hSS T N sc n c i ss ρ) → EssOk (X.suite a ((a, oe) :: pn)) ss D' σ H
  | ss, ρ, σ, F, H, D, D', hrt, z, r, dm, y, p => by
    unfold hSS at p
    split at p
    · rename_i e pos
      refine pss_ev (pss_one (ps_ret pe_can)) ((hE_ok hsc hN hu tab hi hloc hd hC hz hfd 8 e).thnS z r dm y p fun w v F1 H1 x1 d1 r1 y1 v1 p1 => ?_)
      have vb := v1.back y.same
      rw [hrt]
      cases w <;> first
        | exact p1 v F1 H1 y1 d1 vb
        | exact p1.elim
    · rename_i x pp e pos rest
      split at p
      · rename_i j h1 h2 h3
        split at p
        · exact p.elim
        · rename_i hji
          have hji : j ≠ i := beq_eq_false_iff_ne.mp hji
          have hNj : X.N[j]? = some x := by rw [hN]; exact idx_get h2
          have hxl : X.env.scope.names.lookup x = some .local := by rw [hsc]; exact isLocal_of h1
          obtain ⟨w, e1, p1⟩ := wB_bindS p
          obtain ⟨s, es, p2⟩ := slOf_bindS p1
          refine pss_ev (pss_cons (ps_set (i := j) (X := X.suite a ((a, oe) :: pn)) nd hNj (.inl hxl) pe_can (by cases e <;> first | rfl | cases h3) (.inr hxl)) pss_can) ?_
          refine (hE_ok hsc hN hu tab hi hloc hd hC hz hfd 8 e).thnS z r dm y p fun w' v F1 H1 x1 d1 r1 y1 v1 q1 => ?_
          obtain ⟨s', es', q2⟩ := slOf_bindS q1
          have z2 : (σ.set j (some v))[i]? = some (some (.ref a)) := by rw [List.getElem?_set_ne hji]; exact z
          exact hSS_ok nd hsc hN hu tab hi hloc hd hC hz hfd rest _ _ F1 H1 D D' hrt z2 (RepS.put r1 r y.same es' v1) d1 y1 q2
      · exact p.elim
    · exact p.elim
end
theorem retV_nx {r : R Vw} {ρ : Env} : r.bind retV ≠ .ok (.nx ρ) := by
  intro h
  obtain ⟨w, _, h⟩ := bind_ok h
  cases w <;> cases h
theorem hSS_nx {T : Tab} {N : List Str} {sc : Scope} {n c : Str} {i : Nat} {ρ' : Env} : ∀ (ss : List Stmt) (ρ : Env), hSS T N sc n c i ss ρ ≠ .ok (.nx ρ')
  | ss, ρ, h => by
    unfold hSS at h
    split at h
    · exact retV_nx h
    · rename_i rest
      split at h
      · split at h
        · cases h
        · obtain ⟨w, _, h⟩ := bind_ok h
          obtain ⟨s, _, h⟩ := bind_ok h
          exact hSS_nx rest _ h
      · cases h
    · cases h
/-! ### the statement -/
section
variable {T : Tab} {k : Nat} {N : List Str} {X : Cx} {sc : Scope} {W : WS} {F0 : Addr → Prop} {H0 : Hp}
theorem emE_rep {K : PySem.W.Frag} {F : Addr → Prop} {H : Hp} {σ : L2.St} {ρ : Env} (h : ρ.length = σ.length) : RepS K H0 F H σ (emE ρ) := by
  have em : ∀ (i : Nat) (s : Sl), (emE ρ)[i]? = some s → s = .em := fun i s h => by
    unfold emE at h
    rw [List.getElem?_map] at h
    obtain ⟨_, _, h2⟩ := Option.map_eq_some_iff.mp h
    exact h2.symm
  refine ⟨by unfold emE; rw [List.length_map]; exact h, fun i s h => .inl (em i s h), fun i j s t l h1 h2 o1 o2 e1 e2 => ?_⟩
  rw [em i s h1] at o1
  cases o1
theorem snd_try {ev : Ev} (hw : SndSt T k N ev) (x : SOk T k N X sc W) {body suite : List Stmt} {xn n : Str} {np p2 pos : Pos} {i : Nat} (ht : tryOk T sc xn n suite = true) (hi : idx N n = some i) :
    SndS X W F0 H0 (fun ρ => tryR ρ.length (ev.ss sc body ρ) (.ok (.nx (emE ρ))) (hdR T N sc xn n i suite (emE ρ))) (.Try body [.ExceptHandler (some (.Name xn np)) (some n) suite p2] [] [] pos) := by
  unfold tryOk at ht
  rw [Bool.and_eq_true, Bool.and_eq_true, Bool.and_eq_true, Bool.and_eq_true, Bool.and_eq_true] at ht
  obtain ⟨t1, t2, t3, t4, t6, t5⟩ := ht
  have t6 : badName n = false := by rw [Bool.not_eq_true'] at t6; exact t6
  have hmi : X.mg "isinstance" = none := (isBlt_of0 x.x t1).2
  have hNi : N[i]? = some n := idx_get hi
  obtain ⟨g1, g2, g3⟩ := isGlob_of t3
  have gl : Gl X xn := (show X.env.scope.names.lookup xn = _ by rw [x.x.hsc]; exact g1)
  obtain ⟨D0, hm⟩ : ∃ D0, X.mg xn = some (.ref D0) := by
    split at t5
    · rename_i rel hl
      obtain ⟨D0, h, _⟩ := (x.x.tab xn _ hl).ok
      exact ⟨D0, h⟩
    · cases t5
  cases suite with
  | nil => cases t4
  | cons b0 suite =>
  intro ρ σ F H D r dm y p
  intro pins s I
  have hl : ρ.length = X.N.length := r.len.trans I.len
  refine (ps_try_as (i := i) (c := .ref D0) (x := xn) (np := np) (pos := pos) (pos' := p2)
    (tb := fun W' D σ H => ∀ pn xe, Takes (X.tr pn xe) W' → PassesOwn (model X.prog X.w) X.A X.env xe → EssOk (X.tr pn xe) body D σ H)
    (ts := fun a cls d D σ H => ∀ oe pn, Zc cls d oe → (∃ vs, oe.data = .fields vs) → EssOk (X.suite a ((a, oe) :: pn)) (b0 :: suite) D σ H)
    x.fr.1 x.fr.2 x.x.nd (by rw [x.x.hN]; exact hNi) (show X.env.scope.names.lookup n = _ by rw [x.x.hsc]; exact isLocal_of t2) ⟨gl, g2, .inl hm⟩ x.x.takes
    (fun W' pn xe tk po => ⟨fun pins s σ H D I h => h pn xe tk po pins s I⟩)
    (fun a oe cls d pn zc hf => ⟨fun pins s σ H D I h => h oe pn zc hf pins s I⟩)).run pins s σ H D I ?_
  intro pn xe tk po
  have x2 : SOk T k N (X.tr pn xe) sc (fun c σ H => ∀ C, X.mg c = some (.ref C) → wAs X.K (.ref D0) i (fun a cls d D σ H => ∀ oe pn, Zc cls d oe → (∃ vs, oe.data = .fields vs) → EssOk (X.suite a ((a, oe) :: pn)) (b0 :: suite) D σ H)
      (fun cls d σ H => ∃ c C, X.mg c = some (.ref C) ∧ cls = .ref C ∧ d = none ∧ W c σ H) D (.ref C) none σ H) := {
    x := {
      hN := x.x.hN
      nd := x.x.nd
      hsc := x.x.hsc
      calm := x.x.calm
      room := x.x.room
      tab := x.x.tab
      takes := tk.imp fun cls d σ H' ⟨c, C, hm, e, ed, hw⟩ => by
        subst e ed
        exact hw C hm }
    st := ⟨x.st.hN, x.st.nd, x.st.loc, x.st.cel⟩
    fn := x.fn
    fr := x.fr
    hp := po }
  refine hw (X.tr pn xe) sc _ F0 H0 x2 body ρ σ F H D r dm y ?_
  dsimp only at p
  cases q : ev.ss sc body ρ with
  | stk => rw [q] at p; exact p.elim
  | ok z =>
    rw [q] at p
    cases z with
    | rt w => exact p
    | nx ρ' =>
      unfold tryR at p
      dsimp only at p
      cases e : Nat.beq ρ'.length ρ.length with
      | false => rw [e] at p; exact p.elim
      | true =>
        rw [e] at p
        have e := Nat.eq_of_beq_eq_true e
        exact fun σ' F' H' m kp x' d' r' => p σ' F' H' m kp x' d' (emE_rep (e.symm.trans r'.len))
  | exc c =>
    rw [q] at p
    unfold tryR at p
    dsimp only at p
    intro σ' F' H' y' d' C hC
    cases e : c == ("isinstance" : Str) with
    | true =>
      have e := beq_iff_eq.mp e
      subst e
      have hC' : X.mg "isinstance" = some (.ref C) := hC
      rw [hmi] at hC'
      cases hC'
    | false =>
      rw [e] at p
      dsimp only at p
      unfold hdR at p
      split at p
      · rename_i rel hlc
        split at p
        · rename_i hlx
          obtain ⟨C', D', h1, h2, hx, h3, h4⟩ := (x.x.tab c _ hlc).is xn true hlx
          rw [hC] at h1
          cases h1
          rw [hm] at h2
          cases h2
          refine ⟨true, h3, fun _ a ha oe pn' zc hf => ?_, fun z => nomatch z⟩
          intro pins' s' I'
          have hl2 : (σ'.set i (some (V.ref a))).length = X.N.length := I'.len
          have hil : i < σ'.length := by
            rw [List.length_set] at hl2
            rw [hl2, x.x.hN]
            exact (List.getElem?_eq_some_iff.mp hNi).1
          have rE : RepS X.K H0 F' H' (σ'.set i (some (V.ref a))) (emE ρ) := emE_rep (hl.trans hl2.symm)
          have pE : PostS X.K W F0 H0 F' H' D (hSS T N sc n c i (b0 :: suite) (emE ρ)) := by
            cases qq : hSS T N sc n c i (b0 :: suite) (emE ρ) with
            | ok z =>
              rw [qq] at p
              cases z with
              | nx ρ2 => exact absurd qq (hSS_nx _ _)
              | rt w => exact p
            | exc c => rw [qq] at p; exact p
            | stk => rw [qq] at p; exact p
          exact (show EssOk (X.suite a ((a, oe) :: pn')) _ _ _ _ from hSS_ok x.x.nd x.x.hsc x.x.hN x.x.hu65 x.x.tab hNi t2 t6 hC zc hf (b0 :: suite) (emE ρ) _ F' H' D _ (by rfl) (by rw [List.getElem?_set_self hil]) rE d' y' pE) pins' s' I'
        · exact p.elim
      · exact p.elim
end
end BR
namespace BR
open PySem PySem.Spec PyProof.Rows L2
/-! ### stores into an own dict or list -/
def kdD (ks : KD) : List (PyData × PyData) := ks.map fun p => (keyD p.1, p.2)
section
variable {K : PySem.W.Frag} {F : Addr → Prop} {H : Hp}
theorem repK_any (k : List Int) : ∀ {kvs : List (List Key × V)} {ks : KD}, RepK K F H kvs (kdD ks) → (kvs.any fun kv => decide (kv.1 = toKey k)) = ks.any fun p => decide (p.1 = k)
  | [], [], _ => rfl
  | _ :: _, [], h => nomatch h
  | [], _ :: _, h => nomatch h
  | _ :: _, p :: ks, h => by
    obtain ⟨j, d⟩ := p
    have h' : RepK K F H _ ((keyD j, d) :: kdD ks) := h
    generalize e : (keyD j, d) :: kdD ks = l at h'
    cases h' with
    | @cons k' v vs d' ds hr r =>
      injection e with e1 e2
      injection e1 with e3 e4
      have ej : j = k' := by
        unfold keyD at e3
        injection e3 with e5
        have := congrArg intsOf e5
        rw [intsOf_map, intsOf_map] at this
        exact Option.some.inj this
      subst e2 ej
      rw [List.any_cons, List.any_cons, repK_any k r]
      congr 1
      exact decide_eq_decide.mpr ⟨fun z => toKey_inj z, fun z => congrArg toKey z⟩
theorem repK_repl (k : List Int) {v0 : V} {d0 : PyData} (hv : Rep K F H v0 d0) : ∀ {kvs : List (List Key × V)} {ks : KD}, RepK K F H kvs (kdD ks) → RepK K F H (kvs.map fun kv => if kv.1 = toKey k then (kv.1, v0) else kv) (kdD (ks.map fun p => if p.1 = k then (p.1, d0) else p))
  | [], [], _ => .nil
  | _ :: _, [], h => nomatch h
  | [], _ :: _, h => nomatch h
  | _ :: _, p :: ks, h => by
    obtain ⟨j, d⟩ := p
    have h' : RepK K F H _ ((keyD j, d) :: kdD ks) := h
    generalize e : (keyD j, d) :: kdD ks = l at h'
    cases h' with
    | @cons k' v vs d' ds hr r =>
      injection e with e1 e2
      injection e1 with e3 e4
      have ej : j = k' := by
        unfold keyD at e3
        injection e3 with e5
        have := congrArg intsOf e5
        rw [intsOf_map, intsOf_map] at this
        exact Option.some.inj this
      subst e2 ej e4
      have ih := repK_repl k hv r
      rw [List.map_cons, List.map_cons]
      by_cases q : j = k
      · subst q
        rw [if_pos rfl, if_pos rfl]
        exact .cons hv ih
      · rw [if_neg (fun z => q (toKey_inj z)), if_neg q]
        exact .cons hr ih
theorem repK_append : ∀ {kvs : List (List Key × V)} {ds : List (PyData × PyData)} {k : List Int} {v : V} {d : PyData}, RepK K F H kvs ds → Rep K F H v d → RepK K F H (kvs ++ [(toKey k, v)]) (ds ++ [(keyD k, d)])
  | _, _, _, _, _, .nil, h => .cons h .nil
  | _, _, _, _, _, .cons h r, q => .cons h (repK_append r q)
theorem repK_put {k : List Int} {v0 : V} {d0 : PyData} (hv : Rep K F H v0 d0) {kvs : List (List Key × V)} {ks : KD} (h : RepK K F H kvs (kdD ks)) : RepK K F H (putK kvs (toKey k) v0) (kdD (kput ks k d0)) := by
  unfold putK kput
  rw [repK_any k h]
  split
  · exact repK_repl k hv h
  · unfold kdD
    rw [List.map_append]
    exact repK_append h hv
end
section
variable {T : Tab} {k : Nat} {N : List Str} {X : Cx} {sc : Scope} {W : WS} {F0 : Addr → Prop} {H0 : Hp}
theorem sw_sub {e o i : Expr} {p : Pos} {l : Nat} {env : PySem.Env} : swapsWith e (some (.Subscript o i p)) l env = pure false := by
  cases e <;> rfl
theorem snd_dput (x : SOk T k N X sc W) {ev : Expr → Env → R Vw} (h : ∀ e, SndE X W H0 (ev e) e) {n : Str} {e kx : Expr} {i : Nat} {ks : KD} {p1 sp pos : Pos} {ρ : Env} {σ : L2.St} {F : Addr → Prop} {H : Hp} {D : Ends}
    (ho : ownAt N sc n ρ = some (i, .od ks)) (r : RepS X.K H0 F H σ ρ) (dm : Dom F H) (y : Ext F0 H0 F H)
    (p : PostS X.K W F0 H0 F H D ((ev e ρ).bind fun w => w.toD.bind fun d => (ev kx ρ).bind fun u => dpE ks i ρ d u)) : EsOk X (.Assign [.Subscript (.Name n p1) kx sp] e pos) D σ H := by
  obtain ⟨h1, _, pe⟩ := ownAt_ok x ho
  obtain ⟨l, xs, g1, g2, g3, g4, g5⟩ := r.od h1
  refine ps_ev (ps_dput x.x.hu1 (pe p1) pe_can pe_can sw_sub) ?_
  refine (h e).thnS r dm y p fun w v F1 H1 e1 x1 d1 r1 y1 v1 q1 => ?_
  obtain ⟨d, e2, q2⟩ := toD_bindS q1
  have xA := FzA.ext x1
  have rd := v1.fz e2
  have nF : ¬ FzA F1 H H1 l := fun q => (xA.new l q).elim g5 fun z => by rw [g2] at z; cases z
  have rA := r.ext xA
  have yA := y.trans xA
  have dA : Dom (FzA F1 H H1) H1 := FzA.dom d1
  refine ⟨.ref l, g1, ?_⟩
  have q2' : PostS X.K W F0 H0 (FzA F1 H H1) H1 D ((ev kx ρ).bind fun u => dpE ks i ρ d u) := q2.kp FzA.mono Kp.refl
  refine (h kx).thnS rA dA yA q2' fun u v2 F2 H2 e3 x2 d2 r2 y2 v2r q3 => ?_
  unfold dpE at q3
  split at q3
  · split at q3
    · rename_i k0 ek
      obtain ⟨hz, q4⟩ := postS_if q3
      cases v2r with
      | @tup b vs _ hb rl =>
      rw [intsOf_some ek] at rl
      have q1 := rl.ints
      subst q1
      have g2' := x2.same _ _ (x1.same _ _ g2)
      have nF2 : ¬ F2 l := fun q => (x2.new l q).elim nF fun z => by rw [x1.same _ _ g2] at z; cases z
      have g3' : RepK X.K F2 H2 xs (kdD ks) := (g3.ext xA).ext x2
      have hlen : xs.length < sizeLine := by
        rw [sizeLine_eq, RepK.length g3']
        unfold kdD
        rw [List.length_map]
        exact hz
      refine ⟨l, _, rfl, .inr ⟨xs, toKey k0, b, g2', rfl, by rw [toKey_kV]; exact hb, hlen, rfl⟩, ?_⟩
      obtain ⟨w1, w2⟩ := r2.wr (s' := .od (kput ks k0 d)) (o := .dT (putK xs (toKey k0) v)) h1 rfl g1 ⟨_, g2', (fun _ z => nomatch z), fun _ _ z => nomatch z⟩ nF2 fun kp =>
        ⟨l, _, rfl, upd_same, (repK_put (rd.ext x2) g3').mono kp fun _ x => x, g4, nF2⟩
      exact q4 σ _ _ (fun a f => f) w2 (ext_wr y2 g4) (dom_wr d2) w1
    · exact q3.elim
  · exact q3.elim
theorem snd_lput (x : SOk T k N X sc W) {ev : Expr → Env → R Vw} (h : ∀ e, SndE X W H0 (ev e) e) {n : Str} {e kx : Expr} {i : Nat} {ds : List PyData} {p1 sp pos : Pos} {ρ : Env} {σ : L2.St} {F : Addr → Prop} {H : Hp} {D : Ends}
    (hsl : isSlice kx = false) (ho : ownAt N sc n ρ = some (i, .ol ds)) (r : RepS X.K H0 F H σ ρ) (dm : Dom F H) (y : Ext F0 H0 F H)
    (p : PostS X.K W F0 H0 F H D ((ev e ρ).bind fun w => w.toD.bind fun d => (ev kx ρ).bind fun u => lpE ds i ρ d u)) : EsOk X (.Assign [.Subscript (.Name n p1) kx sp] e pos) D σ H := by
  obtain ⟨h1, _, pe⟩ := ownAt_ok x ho
  obtain ⟨l, xs, g1, g2, g3, g4, g5⟩ := r.ol h1
  refine ps_ev (ps_asg pe_can (pg_sub (pe p1) pe_can set_list (by intro v; cases kx <;> first | rfl | cases hsl)) (show swapsWith e (some (.Subscript (.Name n p1) kx sp)) pos.line X.env = pure false from sw_sub)) ?_
  refine (h e).thnS r dm y p fun w v F1 H1 e1 x1 d1 r1 y1 v1 q1 => ?_
  obtain ⟨d, e2, q2⟩ := toD_bindS q1
  have xA := FzA.ext x1
  have rd := v1.fz e2
  have nF : ¬ FzA F1 H H1 l := fun q => (xA.new l q).elim g5 fun z => by rw [g2] at z; cases z
  have rA := r.ext xA
  have yA := y.trans xA
  have dA : Dom (FzA F1 H H1) H1 := FzA.dom d1
  refine ⟨.ref l, g1, ?_⟩
  have q2' : PostS X.K W F0 H0 (FzA F1 H H1) H1 D ((ev kx ρ).bind fun u => lpE ds i ρ d u) := q2.kp FzA.mono Kp.refl
  refine (h kx).thnS rA dA yA q2' fun u v2 F2 H2 e3 x2 d2 r2 y2 v2r q3 => ?_
  unfold lpE at q3
  have vp := v2r.p
  split at q3
  · rename_i j ej
    rw [ej] at vp
    split at q3
    · rename_i m em
      cases vp
      have g2' := x2.same _ _ (x1.same _ _ g2)
      have nF2 : ¬ F2 l := fun q => (x2.new l q).elim nF fun z => by rw [x1.same _ _ g2] at z; cases z
      have g3' : RepL X.K F2 H2 xs ds := (g3.ext xA).ext x2
      refine ⟨l, xs, j, m, rfl, rfl, g2', by rw [g3'.length]; exact em, ?_⟩
      obtain ⟨w1, w2⟩ := r2.wr (s' := .ol (ds.set m d)) (o := .lst (xs.set m v)) h1 rfl g1 ⟨_, g2', (fun _ z => nomatch z), fun _ _ z => nomatch z⟩ nF2 fun kp =>
        ⟨l, _, rfl, upd_same, (RepL.set (rd.ext x2) m g3').mono kp fun _ x => x, g4, nF2⟩
      exact q3 σ _ _ (fun a f => f) w2 (ext_wr y2 g4) (dom_wr d2) w1
    · exact q3.elim
  · exact q3.elim
theorem stepXS_ok {ev : Ev} (hv : SndEv T k N ev) (hw : SndSt T k N ev) (x : SOk T k N X sc W) (st : Stmt) : SndS X W F0 H0 (stepXS T N ev sc st) st := by
  have he : ∀ e, SndE X W H0 (ev.e sc e) e := fun e => (hv X sc W H0 x.x e).1
  unfold stepXS
  split
  · intro ρ σ F H D r dm y p
    dsimp only at p
    split at p
    · rename_i i ks ho
      exact snd_dput x he ho r dm y p
    · rename_i i ds ho hs
      exact snd_lput x he hs ho r dm y p
    · exact p.elim
  · split
    · rename_i h1 h2
      exact snd_try hw x h1 h2
    · exact sndS_stk fun _ => rfl
  · exact sndS_stk fun _ => rfl
end
end BR
namespace BR
open PySem PySem.Spec PyProof.Rows L2

section
variable {T : Tab} {k : Nat} {N : List Str} {X : Cx} {sc : Scope} {W : WS} {F0 : Addr → Prop} {H0 : Hp}
theorem stepS_ok {ev : Ev} (hv : SndEv T k N ev) (hw : SndSt T k N ev) (x : SOk T k N X sc W) (st : Stmt) : SndS X W F0 H0 (stepS T N ev sc st) st := by
  have he : ∀ e, SndE X W H0 (ev.e sc e) e := fun e => (hv X sc W H0 x.x e).1
  have ht : ∀ e, SndT X W H0 (ev.t sc e) e := fun e => (hv X sc W H0 x.x e).2
  have hss : ∀ ss, SndSS X W F0 H0 (ev.ss sc ss) ss := fun ss => hw X sc W F0 H0 x ss
  unfold stepS
  split
  · exact snd_pass
  · exact snd_retN
  · split
    · exact snd_retO x (snd_ret (he _))
    · exact snd_ret (he _)
  · rename_i e pos
    split
    · rename_i n p1 m ap a cp
      intro ρ σ F H D r dm y p
      dsimp only at p
      split at p
      · rename_i i ds h1 h2 h3
        split at p
        · rename_i hm
          cases beq_iff_eq.mp hm
          exact snd_append x he h1 h2 h3 r dm y p
        · rename_i hm
          cases beq_iff_eq.mp hm
          exact snd_extend x he h1 h2 h3 r dm y p
        · exact p.elim
      · exact p.elim
    · split
      · exact sndS_stk fun _ => rfl
      · rename_i hc
        exact snd_expr (he _) hc
  · split
    · exact snd_setLcs x hv
    · split
      · exact sndS_stk fun _ => rfl
      · rename_i hc
        exact snd_set x (he _) hc
  · split
    · exact snd_par x he
    · split
      · exact sndS_stk fun _ => rfl
      · rename_i hn _ hc
        exact snd_asgT x (he _) hc fun vs a b z => hn vs a b z
  · exact snd_ifS (ht _) (hss _) (hss _)
  · rename_i tg iter body pos
    rcases evIt_set (T := T) (sc := sc) (ev := ev.e sc) (tg := tg) (e := iter) (env := X.env) with q | q
    · exact snd_for x (sndI_ok x.x he _) q (hss _)
    · exact sndS_stk fun ρ => by rw [q]; rfl
  · exact snd_while x (ht _) (hss _) _
  · split
    · rename_i h1 h2
      exact snd_raise x h1 h2
    · exact sndS_stk fun _ => rfl
  · exact stepXS_ok hv hw x _
theorem stepSS_ok {fz : FzT} {ev : Ev} (hv : SndEv T k N ev) (hw : SndSt T k N ev) (x : SOk T k N X sc W) : ∀ ss : List Stmt, SndSS X W F0 H0 (stepSS T fz N ev sc ss) ss
  | [] => fun ρ σ F H D r dm y p => pss_ev pss_nil (p σ F H (fun _ h => h) Kp.refl y dm r : D.nx σ H)
  | st :: rest => fun ρ σ F H D r dm y p => by
    unfold stepSS at p
    refine pss_ev (pss_cons ps_can pss_can) ?_
    refine snd_frz (N := N) (xs := fzAt fz st) (f := stepS T N ev sc st) (stepS_ok hv hw x st) ρ σ F H _ r dm y ?_
    refine PostS.bind (g := fun ρ => stepSS T fz N ev sc rest ρ) (D := D) p rfl fun ρ3 _ σ3 F3 H4 m3 k3 y4 d4 r4 p5 => ?_
    exact stepSS_ok hv hw x rest ρ3 σ3 F3 H4 D r4 d4 y4 p5
end
theorem evN_ok {T : Tab} {k : Nat} {fz : FzT} {N : List Str} : ∀ n, SndEv T k N (evN T fz N n) ∧ SndSt T k N (evN T fz N n)
  | 0 => ⟨fun X sc W H0 x e => ⟨sndE_stk fun _ => rfl, sndT_stk fun _ => rfl⟩, fun X sc W F0 H0 x ss ρ σ F H D r dm y p => p.elim⟩
  | n + 1 => ⟨fun X sc W H0 x e => ⟨stepE_ok (evN_ok n).1 x e, stepT_ok (evN_ok n).1 x e⟩, fun X sc W F0 H0 x ss => stepSS_ok (evN_ok n).1 (evN_ok n).2 x ss⟩
end BR
namespace BR
open PySem PySem.Spec PyProof.Rows L2

/-! ### the evaluator once more, with what comes behind -/
structure CEv where
  e : Scope → Expr → Env → {β : Type} → (Vw → R β) → R β
  t : Scope → Expr → Env → {β : Type} → (Bool → R β) → R β
  ss : Scope → List Stmt → Env → (Env → R Vw) → R Vw
section
variable {β : Type}
def cL (ev : Expr → Env → {β : Type} → (Vw → R β) → R β) : List Expr → Env → (List Vw → R β) → R β
  | [], _, k => k []
  | e :: es, ρ, k => ev e ρ fun w => cL ev es ρ fun ws => k (w :: ws)
def cLs (ev : Expr → Env → {β : Type} → (Vw → R β) → R β) (es : List Expr) (ρ : Env) (k : List Vw → R β) : R β := match es.any isStar with
  | true => .stk
  | false => cL ev es ρ k
def cBo (ev : Expr → Env → {β : Type} → (Vw → R β) → R β) (op : BoolOp) : List Expr → Env → (Vw → R β) → R β
  | [], _, _ => .stk
  | [a], ρ, k => ev a ρ k
  | a :: r, ρ, k => ev a ρ fun w => (isB w.peek).bind fun b => match op, b with
    | .And, false => k (.dt (.bool false))
    | .Or, true => k (.dt (.bool true))
    | .And, true => cBo ev op r ρ k
    | .Or, false => cBo ev op r ρ k
def cTs (et : Expr → Env → {β : Type} → (Bool → R β) → R β) (op : BoolOp) : List Expr → Env → (Bool → R β) → R β
  | [], _, _ => .stk
  | [a], ρ, k => et a ρ k
  | a :: r, ρ, k => et a ρ fun b => match op, b with
    | .And, false => k false
    | .Or, true => k true
    | .And, true => cTs et op r ρ k
    | .Or, false => cTs et op r ρ k
def cBltN (ev : Expr → Env → {β : Type} → (Vw → R β) → R β) (x : Str) (args : List Expr) (ρ : Env) (k : Vw → R β) : R β := match gBlt x with
  | some (_, g) => cLs ev args ρ fun ws => (g ws).bind k
  | none => .stk
def cBlt1 (T : Tab) (sc : Scope) (ev : Expr → Env → {β : Type} → (Vw → R β) → R β) (x : Str) (args : List Expr) (ρ : Env) (k : Vw → R β) : R β := match x == ("sorted" : Str), setArg args with
  | true, some (y, a) => (match y == ("set" : Str), isBlt T sc y, isStar a with
    | true, true, false => ev a ρ fun w => (gSS w).bind k
    | _, _, _ => .stk)
  | true, none => cBltN ev x args ρ k
  | false, _ => cBltN ev x args ρ k
def cCallN (T : Tab) (sc : Scope) (ev : Expr → Env → {β : Type} → (Vw → R β) → R β) (x : Str) (args : List Expr) (ρ : Env) (k : Vw → R β) : R β :=
  match isGlob sc x with
  | false => .stk
  | true => match T.lookup x with
    | some (.fn ps g) => if args.length = ps.length then cLs ev args ρ fun ws => (toDs ws).bind fun ds => (g ds).bind k else (cLs ev args ρ fun ws => (toDs ws).bind fun _ => .stk)
    | some .blt => (match x == ("isinstance" : Str), args with
      | true, [a, .Name t _] => (match isBlt T sc t, isiTy t, isStar a with
        | true, some ty, false => ev a ρ fun w => (gIsi ty w.peek).bind k
        | _, _, _ => .stk)
      | true, _ => .stk
      | false, [] => .stk
      | false, a :: r => cBlt1 T sc ev x (a :: r) ρ k)
    | _ => .stk
def intV : Vw → R Int
  | .dt (.int i) => .ok i
  | w => match w.peek with
    | .int i => .ok i
    | _ => .stk
def cO (ev : Expr → Env → {β : Type} → (Vw → R β) → R β) : Option Expr → Env → (Option Int → R β) → R β
  | none, _, k => k none
  | some e, ρ, k => ev e ρ fun w => match w.peek with
    | .int i => k (some i)
    | _ => .stk
def cRng (ev : Expr → Env → {β : Type} → (Vw → R β) → R β) (args : List Expr) (ρ : Env) (k : List D → R β) : R β := match args with
  | [a] => (match isStar a with
    | true => .stk
    | false => ev a ρ fun w => match w.peek with
      | .int j => if rgOk j = true then k (rgD 0 j) else .stk
      | _ => .stk)
  | [a, b] => (match isStar a, isStar b with
    | false, false => ev a ρ fun w => ev b ρ fun u => match w.peek, u.peek with
      | .int i, .int j => if rgOk i = true ∧ rgOk j = true then k (rgD i j) else .stk
      | _, _ => .stk
    | _, _ => .stk)
  | _ => .stk
def cZip (kp : Bool) (ev : Expr → Env → {β : Type} → (Vw → R β) → R β) (tg : Expr) (args : List Expr) (ρ : Env) (k : List D → R β) : R β := match args with
  | [a, b] => (match isStar a, isStar b, tg with
    | false, false, .Tuple _ _ _ => ev a ρ fun w => ev b ρ fun u => (zpE kp w u).bind k
    | _, _, _ => .stk)
  | _ => .stk
def cEnum (kp : Bool) (ev : Expr → Env → {β : Type} → (Vw → R β) → R β) (tg : Expr) (args : List Expr) (ρ : Env) (k : List D → R β) : R β := match args with
  | [a] => (match isStar a, tg with
    | false, .Tuple _ _ _ => ev a ρ fun w => (enV kp w).bind k
    | _, _ => .stk)
  | _ => .stk
def cIt (kp : Bool) (T : Tab) (sc : Scope) (ev : Expr → Env → {β : Type} → (Vw → R β) → R β) (tg : Expr) (e : Expr) (ρ : Env) (k : List D → R β) : R β :=
  match e with
  | .Set _ _ _ => .stk
  | .Call (.Name x _) args [] _ => (match itKind T sc x with
    | .rng => cRng ev args ρ k
    | .zp => cZip kp ev tg args ρ k
    | .en => cEnum kp ev tg args ρ k
    | .val => ev e ρ fun w => (itV kp w).bind k)
  | _ => ev e ρ fun w => (itV kp w).bind k
def cIfs (et : Expr → Env → {β : Type} → (Bool → R β) → R β) : List Expr → Env → (Bool → R β) → R β
  | [], _, k => k true
  | [c], ρ, k => et c ρ k
  | _, _, _ => .stk
/-- targets with what comes behind -/
def cAsgN (N : List Str) (sc0 : Scope) (t : Expr) (w : Vw) (ρ : Env) (k : Env → R β) : R β := match t with
  | .Name x _ => (match sc0.names.lookup x, idx N x with
    | some .local, some i => (slOf w).bind fun s => k (ρ.set i s)
    | some .cell, some i => (slOf w).bind fun s => k (ρ.set i s)
    | _, _ => (slOf w).bind fun _ => .stk)
  | _ => .stk
def unp2 (d : D) (k : D → D → R β) : R β := match d with
  | .tuple [a, b] => k a b
  | _ => .stk
def unp3 (d : D) (k : D → D → D → R β) : R β := match d with
  | .tuple [a, b, c] => k a b c
  | _ => .stk
def cAsg (N : List Str) (sc0 : Scope) (t : Expr) (d : D) (ρ : Env) (k : Env → R β) : R β := match t with
  | .Tuple [t1, t2] _ _ => unp2 d fun a b => cAsgN N sc0 t1 (.dt a) ρ fun ρ1 => cAsgN N sc0 t2 (.dt b) ρ1 k
  | .Tuple [t1, t2, t3] _ _ => unp3 d fun a b c => cAsgN N sc0 t1 (.dt a) ρ fun ρ1 => cAsgN N sc0 t2 (.dt b) ρ1 fun ρ2 => cAsgN N sc0 t3 (.dt c) ρ2 k
  | .Tuple _ _ _ => (asg N sc0 t (.dt d) ρ).bind k
  | .Name x p => cAsgN N sc0 (.Name x p) (.dt d) ρ k
  | _ => .stk
def cTurn (N : List Str) (scope sc' : Scope) (ev : CEv) (tg elt : Expr) (ifs : List Expr) (ρ : Env) (x : D) : R (Option D) :=
  wB (cAsg N scope tg x ρ fun ρ1 => cIfs (fun e ρ => ev.t sc' e ρ) ifs ρ1 fun b => match b with
    | true => ev.e sc' elt ρ1 fun w => w.toD.bind fun d => .ok (some d)
    | false => .ok none)
def cLc (T : Tab) (N : List Str) (sc : Scope) (ev : CEv) (elt : Expr) (gs : List Comprehension) (scope : Scope) (ρ : Env) (k : List D → R β) : R β :=
  match gs with
  | [⟨tg, iter, ifs, 0⟩] =>
    match blkC N sc scope (ownOf N scope) && tgOwn N (ownOf N scope) tg with
    | true => cIt false T sc (fun e ρ => ev.e sc e ρ) tg iter ρ fun items =>
      (lcL (cTurn N scope (relS scope sc) ev tg elt ifs (wipeE ρ ((ownOf N scope).map (·.2)))) items).bind fun ds => if ds.length ≤ 16777216 then k ds else .stk
    | false => .stk
  | _ => .stk
def cM (f : D → R (List D)) : List D → R (List D) := lcM f
def cTurn2 (T : Tab) (N : List Str) (scope sc' : Scope) (ev : CEv) (tg elt : Expr) (ifs : List Expr) (tg1 iter1 : Expr) (ifs1 : List Expr) (ρ : Env) (x : D) : R (List D) :=
  wB (cAsg N scope tg x ρ fun ρ1 => cIfs (fun e ρ => ev.t sc' e ρ) ifs ρ1 fun b => match b with
    | true => cIt true T sc' (fun e ρ => ev.e sc' e ρ) tg1 iter1 ρ1 fun items => lcL (cTurn N scope sc' ev tg1 elt ifs1 (wipeE ρ1 (tgSlots N tg1))) items
    | false => .ok [])
def cLc2 (T : Tab) (N : List Str) (sc : Scope) (ev : CEv) (elt tg iter : Expr) (ifs : List Expr) (tg1 iter1 : Expr) (ifs1 : List Expr) (scope : Scope) (ρ : Env) (k : List D → R β) : R β :=
  match blkC N sc scope (ownOf N scope) && tgOwn N (ownOf N scope) tg && tgOwn N (ownOf N scope) tg1 && !isSetE iter && !isSetE iter1 with
  | true => cIt false T sc (fun e ρ => ev.e sc e ρ) tg iter ρ fun items =>
    (lcM (cTurn2 T N scope (relS scope sc) ev tg elt ifs tg1 iter1 ifs1 (wipeE ρ ((ownOf N scope).map (·.2)))) items).bind fun ds => if ds.length ≤ 16777216 then k ds else .stk
  | false => .stk
def cLcs (T : Tab) (N : List Str) (sc : Scope) (ev : CEv) (elt : Expr) (gs : List Comprehension) (scope : Scope) (ρ : Env) (k : List D → R β) : R β := match gs with
  | [⟨tg, iter, ifs, 0⟩, ⟨tg1, iter1, ifs1, 0⟩] => cLc2 T N sc ev elt tg iter ifs tg1 iter1 ifs1 scope ρ k
  | _ => cLc T N sc ev elt gs scope ρ k
def cMeth (ev : Expr → Env → {β : Type} → (Vw → R β) → R β) (o : Expr) (m : Str) (args : List Expr) (ρ : Env) (k : Vw → R β) : R β := match args with
  | [a, b] => (match m == ("get" : Str), isStar a, isStar b with
    | true, false, false => ev o ρ fun w => (dctV w).bind fun ds => ev a ρ fun u => ev b ρ fun z => (gGet ds u z).bind k
    | _, _, _ => .stk)
  | [a] => (match m == ("index" : Str), isStar a with
    | true, false => ev o ρ fun w => (lsW w).bind fun xs => ev a ρ fun u => (gIdx xs u).bind k
    | _, _ => .stk)
  | _ => .stk
def cPick (T : Tab) (sc : Scope) (ev : Expr → Env → {β : Type} → (Vw → R β) → R β) (fs : List Expr) (ix : Expr) (args : List Expr) (ρ : Env) (k : Vw → R β) : R β := match fnsOf T sc fs, (isSlice ix || (args.any isStar || !(Nat.ble fs.length 1000))), args with
  | some fl, false, a :: r => ev ix ρ fun w => (pkF fl w).bind fun p => cLs ev (a :: r) ρ fun ws => (toDs ws).bind fun ds => (apF p ds).bind k
  | _, _, _ => .stk
def cX (T : Tab) (N : List Str) (ev : CEv) (sc : Scope) (e : Expr) (ρ : Env) (k : Vw → R β) : R β := match e with
  | .Dict [some a] [v] _ => ev.e sc a ρ fun w => ev.e sc v ρ fun u => (gDisp w u).bind k
  | .Call (.Attribute o m ap) args [] cp => (match (ap.endLine == cp.line), isBase o with
    | true, true => cMeth (fun e ρ => ev.e sc e ρ) o m args ρ k
    | _, _ => .stk)
  | .Call (.Subscript (.List fs _) ix _) args [] _ => cPick T sc (fun e ρ => ev.e sc e ρ) fs ix args ρ k
  | _ => .stk
def cE (T : Tab) (N : List Str) (ev : CEv) (sc : Scope) (e : Expr) (ρ : Env) (k : Vw → R β) : R β := match e with
  | .Constant c _ _ => (gConst c).bind k
  | .Name x _ => (evName T N sc x ρ).bind k
  | .BinOp a op b _ => ev.e sc a ρ fun w => ev.e sc b ρ fun u => (gBin op w u).bind k
  | .UnaryOp op a _ => (match op with
    | .Not => ev.e sc a ρ fun w => (isB w.peek).bind fun b => k (.dt (.bool (!b)))
    | .USub => ev.e sc a ρ fun w => (gUn .USub w.peek).bind k
    | _ => .stk)
  | .BoolOp op xs _ => (cBo (fun e ρ => ev.e sc e ρ) op xs ρ .ok).bind k
  | .IfExp t a b _ => (ev.t sc t ρ fun c => match c with
    | true => ev.e sc a ρ .ok
    | false => ev.e sc b ρ .ok).bind k
  | .Tuple es _ _ => cLs (fun e ρ => ev.e sc e ρ) es ρ fun ws => (toDs ws).bind fun ds => if es.length ≤ 1000 then k (.dt (.tuple ds)) else .stk
  | .List es _ => cLs (fun e ρ => ev.e sc e ρ) es ρ fun ws => (toDs ws).bind fun ds => if es.length ≤ 1000 then k (.fl ds) else .stk
  | .Dict [] [] _ => k (.fd [])
  | .Compare a [op] [b] _ => (match behindInMarks op b with
    | true => .stk
    | false => ev.e sc a ρ fun w => ev.e sc b ρ fun u => (gCmp op w u).bind k)
  | .Compare a [op, op'] [b, c] _ => (match lastMarks [op, op'] [b, c] with
    | true => .stk
    | false => ev.e sc a ρ fun w => ev.e sc b ρ fun u => ((gCmp op w u).bind fun z => (isB z.peek).bind fun q => match q with
      | true => ev.e sc c ρ fun v => gCmp op' u v
      | false => .ok (.dt (.bool false))).bind k)
  | .Call (.Name x _) args [] _ => cCallN T sc (fun e ρ => ev.e sc e ρ) x args ρ k
  | .Subscript a b _ => (match b with
    | .Slice lo hi none _ => ev.e sc a ρ fun w => cO (fun e ρ => ev.e sc e ρ) lo ρ fun l => cO (fun e ρ => ev.e sc e ρ) hi ρ fun h => (gSl w l h).bind k
    | .Slice none none (some (.UnaryOp .USub (.Constant (.int 1) _ _) _)) _ => ev.e sc a ρ fun w => (gRev w).bind k
    | _ => match isSlice b with
      | true => .stk
      | false => ev.e sc a ρ fun w => ev.e sc b ρ fun u => (gIxV w u).bind k)
  | .ListComp elt gs scope _ => cLcs T N sc ev elt gs scope ρ fun ds => k (.fl ds)
  | e => cX T N ev sc e ρ k
def cT (T : Tab) (N : List Str) (ev : CEv) (sc : Scope) (e : Expr) (ρ : Env) (k : Bool → R β) : R β := match e with
  | .UnaryOp .Not a _ => ev.t sc a ρ fun b => k (!b)
  | .BoolOp op xs _ => (cTs (fun e ρ => ev.t sc e ρ) op xs ρ .ok).bind k
  | .Compare a [op] [b] pos => cE T N ev sc (.Compare a [op] [b] pos) ρ fun w => (isB w.peek).bind k
  | .Compare a [op, op'] [b, c] pos => cE T N ev sc (.Compare a [op, op'] [b, c] pos) ρ fun w => (isB w.peek).bind k
  | .Name x pos => ev.e sc (.Name x pos) ρ fun w => (gTru w.peek).bind k
  | .Call f as ks pos => ev.e sc (.Call f as ks pos) ρ fun w => (gTru w.peek).bind k
  | .Subscript a b pos => ev.e sc (.Subscript a b pos) ρ fun w => (gTru w.peek).bind k
  | _ => .stk
end

end BR
namespace BR
open PySem PySem.Spec PyProof.Rows L2

/-! ### both are one -/
section
variable {β : Type}
def CEq (c : Expr → Env → {β : Type} → (Vw → R β) → R β) (e : Expr → Env → R Vw) : Prop := ∀ {β : Type} x ρ (k : Vw → R β), c x ρ k = (e x ρ).bind k
def CEqT (c : Expr → Env → {β : Type} → (Bool → R β) → R β) (e : Expr → Env → R Bool) : Prop := ∀ {β : Type} x ρ (k : Bool → R β), c x ρ k = (e x ρ).bind k
theorem cL_eq {c : Expr → Env → {β : Type} → (Vw → R β) → R β} {e : Expr → Env → R Vw} (h : CEq c e) : ∀ (es : List Expr) (ρ : Env) (k : List Vw → R β), cL c es ρ k = (evL0 e es ρ).bind k
  | [], ρ, k => rfl
  | a :: es, ρ, k => by
    unfold cL evL0
    rw [h, R.bind_assoc]
    congr 1
    funext w
    rw [cL_eq h es, R.bind_assoc]
    rfl
theorem cLs_eq {c : Expr → Env → {β : Type} → (Vw → R β) → R β} {e : Expr → Env → R Vw} (h : CEq c e) (es : List Expr) (ρ : Env) (k : List Vw → R β) : cLs c es ρ k = (evL e es ρ).bind k := by
  unfold cLs evL
  generalize es.any isStar = b
  cases b with
  | true => rfl
  | false => exact cL_eq h es ρ k
theorem cBo_eq {c : Expr → Env → {β : Type} → (Vw → R β) → R β} {e : Expr → Env → R Vw} (h : CEq c e) (op : BoolOp) : ∀ (es : List Expr) (ρ : Env) (k : Vw → R β), cBo c op es ρ k = (evBo e op es ρ).bind k
  | [], ρ, k => rfl
  | [a], ρ, k => h a ρ k
  | a :: b :: es, ρ, k => by
    unfold cBo evBo
    rw [h, R.bind_assoc]
    congr 1
    funext w
    rw [R.bind_assoc]
    congr 1
    funext z
    cases op <;> cases z <;> first
      | rfl
      | exact cBo_eq h _ (b :: es) ρ k
theorem cTs_eq {c : Expr → Env → {β : Type} → (Bool → R β) → R β} {e : Expr → Env → R Bool} (h : CEqT c e) (op : BoolOp) : ∀ (es : List Expr) (ρ : Env) (k : Bool → R β), cTs c op es ρ k = (evTs e op es ρ).bind k
  | [], ρ, k => rfl
  | [a], ρ, k => h a ρ k
  | a :: b :: es, ρ, k => by
    unfold cTs evTs
    rw [h, R.bind_assoc]
    congr 1
    funext z
    cases op <;> cases z <;> first
      | rfl
      | exact cTs_eq h _ (b :: es) ρ k
theorem toDs_len' {ws : List Vw} {ds : List D} (h : toDs ws = .ok ds) : ds.length = ws.length := toDs_len h
theorem evL_len {e : Expr → Env → R Vw} {ρ : Env} : ∀ {es : List Expr} {ws : List Vw}, evL0 e es ρ = .ok ws → ws.length = es.length
  | [], ws, h => by cases h; rfl
  | a :: es, ws, h => by
    unfold evL0 at h
    obtain ⟨w, h1, h⟩ := bind_ok h
    obtain ⟨ws', h2, h⟩ := bind_ok h
    cases h
    rw [List.length_cons, List.length_cons, evL_len h2]
theorem evL_len' {e : Expr → Env → R Vw} {ρ : Env} {es : List Expr} {ws : List Vw} (h : evL e es ρ = .ok ws) : ws.length = es.length := by
  unfold evL at h
  split at h
  · cases h
  · exact evL_len h
/-- binds agree where the left is there -/
theorem bind_congr_ok {α γ : Type} {r : R α} {f g : α → R γ} (h : ∀ a, r = .ok a → f a = g a) : r.bind f = r.bind g := by
  cases r with
  | ok a => exact h a rfl
  | exc c => rfl
  | stk => rfl
theorem bind_ok_r {α : Type} {r : R α} : r.bind .ok = r := by cases r <;> rfl
theorem cBltN_eq {c : Expr → Env → {β : Type} → (Vw → R β) → R β} {e : Expr → Env → R Vw} (h : CEq c e) (x : Str) (args : List Expr) (ρ : Env) (k : Vw → R β) : cBltN c x args ρ k = (gBltN e x args ρ).bind k := by
  unfold cBltN gBltN
  generalize gBlt x = q4
  cases q4 with
  | none => rfl
  | some p =>
    dsimp only
    rw [cLs_eq h, R.bind_assoc]
theorem cBlt1_eq {T : Tab} {sc : Scope} {c : Expr → Env → {β : Type} → (Vw → R β) → R β} {e : Expr → Env → R Vw} (h : CEq c e) (x : Str) (args : List Expr) (ρ : Env) (k : Vw → R β) : cBlt1 T sc c x args ρ k = (gBlt1 T sc e x args ρ).bind k := by
  unfold cBlt1 gBlt1
  generalize (x == ("sorted" : Str)) = z1
  generalize setArg args = z5
  cases z1 with
  | false => exact cBltN_eq h _ _ _ _
  | true =>
    cases z5 with
    | none => exact cBltN_eq h _ _ _ _
    | some p =>
      obtain ⟨y, b⟩ := p
      dsimp only
      generalize (y == ("set" : Str)) = z2
      generalize isBlt T sc y = z3
      generalize isStar b = z4
      cases z2 <;> cases z3 <;> cases z4 <;> first
        | rfl
        | (dsimp only; rw [h, R.bind_assoc])
theorem cCallN_eq {T : Tab} {sc : Scope} {c : Expr → Env → {β : Type} → (Vw → R β) → R β} {e : Expr → Env → R Vw} (h : CEq c e) (x : Str) (args : List Expr) (ρ : Env) (k : Vw → R β) : cCallN T sc c x args ρ k = (gCallN T sc e x args ρ).bind k := by
  unfold cCallN gCallN
  generalize isGlob sc x = q1
  cases q1 with
  | false => rfl
  | true =>
    dsimp only
    generalize T.lookup x = q2
    cases q2 with
    | none => rfl
    | some v =>
      cases v with
      | fn ps g =>
        dsimp only
        rw [R.bind_assoc]
        by_cases hn : args.length = ps.length
        · rw [if_pos hn, cLs_eq h]
          refine bind_congr_ok fun ws hw => ?_
          rw [R.bind_assoc]
          refine bind_congr_ok fun ds hd => ?_
          rw [if_pos (by rw [toDs_len' hd, evL_len' hw]; exact hn)]
        · rw [if_neg hn, cLs_eq h]
          refine bind_congr_ok fun ws hw => ?_
          rw [R.bind_assoc]
          refine bind_congr_ok fun ds hd => ?_
          rw [if_neg (by rw [toDs_len' hd, evL_len' hw]; exact hn)]
          rfl
      | con w => rfl
      | cls => rfl
      | blt =>
        dsimp only
        generalize (x == ("isinstance" : Str)) = q3
        cases q3 with
        | true =>
          match args with
          | [a, .Name t p] =>
            dsimp only
            generalize isBlt T sc t = q4
            generalize isiTy t = q5
            generalize isStar a = q6
            cases q4 <;> cases q5 <;> cases q6 <;> first
              | rfl
              | (dsimp only; rw [h, R.bind_assoc])
          | [] => rfl
          | [_] => rfl
          | _ :: b :: _ :: _ => cases b <;> rfl
          | [a, b] => cases b <;> first
            | rfl
            | (rename_i t p
               dsimp only
               generalize isBlt T sc t = q4
               generalize isiTy t = q5
               generalize isStar a = q6
               cases q4 <;> cases q5 <;> cases q6 <;> first
                | rfl
                | (dsimp only; rw [h, R.bind_assoc]))
        | false =>
          cases args with
          | nil => rfl
          | cons a r => exact cBlt1_eq h _ _ _ _
theorem cO_eq {c : Expr → Env → {β : Type} → (Vw → R β) → R β} {e : Expr → Env → R Vw} (h : CEq c e) (o : Option Expr) (ρ : Env) (k : Option Int → R β) : cO c o ρ k = (evO e o ρ).bind k := by
  cases o with
  | none => rfl
  | some a =>
    unfold cO evO
    dsimp only
    rw [h, R.bind_assoc]
    refine bind_congr_ok fun w _ => ?_
    cases w.peek <;> rfl
theorem cRng_eq {c : Expr → Env → {β : Type} → (Vw → R β) → R β} {e : Expr → Env → R Vw} (h : CEq c e) (args : List Expr) (ρ : Env) (k : List D → R β) : cRng c args ρ k = (evRng e args ρ).bind k := by
  unfold cRng evRng
  match args with
  | [] => rfl
  | [a] =>
    dsimp only
    generalize isStar a = q
    cases q with
    | true => rfl
    | false =>
      dsimp only
      rw [h, R.bind_assoc]
      refine bind_congr_ok fun w _ => ?_
      cases w.peek <;> first
        | rfl
        | (dsimp only; split <;> rfl)
  | [a, b] =>
    dsimp only
    generalize isStar a = q
    generalize isStar b = q2
    cases q <;> cases q2 <;> first
      | rfl
      | (dsimp only
         rw [h, R.bind_assoc]
         refine bind_congr_ok fun w _ => ?_
         rw [h, R.bind_assoc]
         refine bind_congr_ok fun u _ => ?_
         cases w.peek <;> first
          | rfl
          | (cases u.peek <;> first
            | rfl
            | (dsimp only; split <;> rfl)))
  | _ :: _ :: _ :: _ => rfl
theorem cZip_eq {kp : Bool} {c : Expr → Env → {β : Type} → (Vw → R β) → R β} {e : Expr → Env → R Vw} (h : CEq c e) (tg : Expr) (args : List Expr) (ρ : Env) (k : List D → R β) : cZip kp c tg args ρ k = (evZip kp e tg args ρ).bind k := by
  unfold cZip evZip
  match args with
  | [] => rfl
  | [a] => rfl
  | _ :: _ :: _ :: _ => rfl
  | [a, b] =>
    dsimp only
    generalize isStar a = q
    generalize isStar b = q2
    cases q <;> cases q2 <;> first
      | rfl
      | (cases tg <;> first
        | rfl
        | (dsimp only
           rw [h, R.bind_assoc]
           refine bind_congr_ok fun w _ => ?_
           rw [h, R.bind_assoc]))
theorem cEnum_eq {kp : Bool} {c : Expr → Env → {β : Type} → (Vw → R β) → R β} {e : Expr → Env → R Vw} (h : CEq c e) (tg : Expr) (args : List Expr) (ρ : Env) (k : List D → R β) : cEnum kp c tg args ρ k = (evEnum kp e tg args ρ).bind k := by
  unfold cEnum evEnum
  match args with
  | [] => rfl
  | _ :: _ :: _ => rfl
  | [a] =>
    dsimp only
    generalize isStar a = q
    cases q <;> first
      | rfl
      | (cases tg <;> first
        | rfl
        | (dsimp only
           rw [h, R.bind_assoc]))
theorem cIt_eq {kp : Bool} {T : Tab} {sc : Scope} {c : Expr → Env → {β : Type} → (Vw → R β) → R β} {e : Expr → Env → R Vw} (h : CEq c e) (tg x : Expr) (ρ : Env) (k : List D → R β) : cIt kp T sc c tg x ρ k = (evIt kp T sc e tg x ρ).bind k := by
  have gen : c x ρ (fun w => (itV kp w).bind k) = ((e x ρ).bind (itV kp)).bind k := by rw [h, R.bind_assoc]
  unfold cIt evIt
  split
  · rfl
  · rename_i y p args p2
    try dsimp only
    generalize itKind T sc y = q
    cases q with
    | rng => exact cRng_eq h _ _ _
    | zp => exact cZip_eq h _ _ _ _
    | en => exact cEnum_eq h _ _ _ _
    | val => exact gen
  · rename_i h1 h2
    first
      | exact gen
      | (split
         · exact absurd rfl (h1 _ _ _)
         · exact absurd rfl (h2 _ _ _ _)
         · exact gen)
theorem cIfs_eq {c : Expr → Env → {β : Type} → (Bool → R β) → R β} {e : Expr → Env → R Bool} (h : CEqT c e) (xs : List Expr) (ρ : Env) (k : Bool → R β) : cIfs c xs ρ k = (evIfs e xs ρ).bind k := by
  match xs with
  | [] => rfl
  | [a] => exact h _ _ _
  | _ :: _ :: _ => rfl
theorem cAsgN_eq (N : List Str) (sc0 : Scope) (t : Expr) (w : Vw) (ρ : Env) (k : Env → R β) : cAsgN N sc0 t w ρ k = (asgN N sc0 t w ρ).bind k := by
  unfold cAsgN asgN
  cases t <;> try rfl
  rename_i y p
  dsimp only
  rw [R.bind_assoc]
  generalize sc0.names.lookup y = q
  generalize idx N y = q2
  cases q with
  | none => rfl
  | some kk => cases kk <;> cases q2 <;> rfl
theorem cAsg_eq (N : List Str) (sc0 : Scope) (t : Expr) (d : D) (ρ : Env) (k : Env → R β) : cAsg N sc0 t d ρ k = (asg N sc0 t (.dt d) ρ).bind k := by
  unfold cAsg
  split
  · rename_i t1 t2 j p
    unfold asg unp2
    cases d <;> try rfl
    rename_i ds
    match ds with
    | [] => rfl
    | [a] =>
      dsimp only [List.map, asgNs]
      cases q : asgN N sc0 t1 (.dt a) ρ with
      | exc c => exact (asgN_noexc q).elim
      | _ => rfl
    | [a, b] =>
      dsimp only [List.map, asgNs]
      rw [cAsgN_eq, R.bind_assoc]
      refine bind_congr_ok fun ρ1 _ => ?_
      rw [cAsgN_eq, R.bind_assoc]
      rfl
    | a :: b :: c :: r =>
      dsimp only [List.map, asgNs]
      cases q : asgN N sc0 t1 (.dt a) ρ with
      | ok ρ1 =>
        dsimp only [R.bind]
        cases q2 : asgN N sc0 t2 (.dt b) ρ1 with
        | ok ρ2 => rfl
        | exc c => exact (asgN_noexc q2).elim
        | stk => rfl
      | exc c => exact (asgN_noexc q).elim
      | stk => rfl
  · rename_i t1 t2 t3 j p
    unfold asg unp3
    cases d <;> try rfl
    rename_i ds
    match ds with
    | [] => rfl
    | [a] =>
      dsimp only [List.map, asgNs]
      cases q : asgN N sc0 t1 (.dt a) ρ with
      | exc c => exact (asgN_noexc q).elim
      | _ => rfl
    | [a, b] =>
      dsimp only [List.map, asgNs]
      cases q : asgN N sc0 t1 (.dt a) ρ with
      | ok ρ1 =>
        dsimp only [R.bind]
        cases q2 : asgN N sc0 t2 (.dt b) ρ1 with
        | exc c => exact (asgN_noexc q2).elim
        | _ => rfl
      | exc c => exact (asgN_noexc q).elim
      | stk => rfl
    | [a, b, c] =>
      dsimp only [List.map, asgNs]
      rw [cAsgN_eq, R.bind_assoc]
      refine bind_congr_ok fun ρ1 _ => ?_
      rw [cAsgN_eq, R.bind_assoc]
      refine bind_congr_ok fun ρ2 _ => ?_
      rw [cAsgN_eq, R.bind_assoc]
      rfl
    | a :: b :: c :: e :: r =>
      dsimp only [List.map, asgNs]
      cases q : asgN N sc0 t1 (.dt a) ρ with
      | ok ρ1 =>
        dsimp only [R.bind]
        cases q2 : asgN N sc0 t2 (.dt b) ρ1 with
        | ok ρ2 =>
          dsimp only [R.bind]
          cases q3 : asgN N sc0 t3 (.dt c) ρ2 with
          | exc c => exact (asgN_noexc q3).elim
          | _ => rfl
        | exc c => exact (asgN_noexc q2).elim
        | stk => rfl
      | exc c => exact (asgN_noexc q).elim
      | stk => rfl
  · rfl
  · rw [cAsgN_eq]
    rfl
  · rename_i h1 h2 h3 h4
    unfold asg
    split
    · exact absurd rfl (h3 _ _ _)
    · exact absurd rfl (h4 _ _)
    · rfl
structure CEvOk (c : CEv) (ev : Ev) : Prop where
  e : ∀ (sc : Scope) {β : Type} x ρ (k : Vw → R β), c.e sc x ρ k = (ev.e sc x ρ).bind k
  t : ∀ (sc : Scope) {β : Type} x ρ (k : Bool → R β), c.t sc x ρ k = (ev.t sc x ρ).bind k
theorem cTurn_eq {c : CEv} {ev : Ev} (h : CEvOk c ev) {N : List Str} {scope sc' : Scope} {tg elt : Expr} {ifs : List Expr} {ρ : Env} : cTurn N scope sc' c tg elt ifs ρ = lcTurn N scope sc' ev tg elt ifs ρ := by
  funext x
  unfold cTurn lcTurn
  congr 1
  rw [cAsg_eq]
  refine bind_congr_ok fun ρ1 _ => ?_
  rw [cIfs_eq (e := ev.t sc') (fun x ρ k => h.t sc' x ρ k)]
  refine bind_congr_ok fun b _ => ?_
  cases b with
  | true => exact h.e sc' elt ρ1 _
  | false => rfl
theorem cLc_eq {c : CEv} {ev : Ev} (h : CEvOk c ev) {T : Tab} {N : List Str} {sc : Scope} {elt : Expr} {gs : List Comprehension} {scope : Scope} {ρ : Env} (k : List D → R β) : cLc T N sc c elt gs scope ρ k = (evLc T N sc ev elt gs scope ρ).bind k := by
  match gs with
  | [] => rfl
  | _ :: _ :: _ =>
    unfold cLc evLc
    split
    · rename_i he
      cases he
    · first
        | rfl
        | (split
           · rename_i he
             cases he
           · rfl)
  | [⟨tg, iter, ifs, asy⟩] =>
    by_cases hz : asy = 0
    · subst hz
      have e1 : cLc T N sc c elt [⟨tg, iter, ifs, 0⟩] scope ρ k = (match blkC N sc scope (ownOf N scope) && tgOwn N (ownOf N scope) tg with
        | true => cIt false T sc (fun e ρ => c.e sc e ρ) tg iter ρ fun items =>
          (lcL (cTurn N scope (relS scope sc) c tg elt ifs (wipeE ρ ((ownOf N scope).map (·.2)))) items).bind fun ds => if ds.length ≤ 16777216 then k ds else .stk
        | false => .stk) := rfl
      have e2 : evLc T N sc ev elt [⟨tg, iter, ifs, 0⟩] scope ρ = (match blkC N sc scope (ownOf N scope) && tgOwn N (ownOf N scope) tg with
        | true => (evIt false T sc (ev.e sc) tg iter ρ).bind fun items =>
          (lcL (lcTurn N scope (relS scope sc) ev tg elt ifs (wipeE ρ ((ownOf N scope).map (·.2)))) items).bind fun ds => if ds.length ≤ 16777216 then .ok ds else .stk
        | false => .stk) := rfl
      rw [e1, e2]
      generalize (blkC N sc scope (ownOf N scope) && tgOwn N (ownOf N scope) tg) = q
      cases q with
      | false => rfl
      | true =>
        dsimp only
        rw [cIt_eq (e := ev.e sc) (fun x ρ k => h.e sc x ρ k), R.bind_assoc]
        refine bind_congr_ok fun items _ => ?_
        rw [cTurn_eq h, R.bind_assoc]
        refine bind_congr_ok fun ds _ => ?_
        split <;> rfl
    · unfold cLc evLc
      split
      · rename_i he
        cases he
        exact absurd rfl hz
      · first
          | rfl
          | (split
             · rename_i he
               cases he
               exact absurd rfl hz
             · rfl)
theorem cTurn2_eq {c : CEv} {ev : Ev} (h : CEvOk c ev) {T : Tab} {N : List Str} {scope sc' : Scope} {tg elt : Expr} {ifs : List Expr} {tg1 iter1 : Expr} {ifs1 : List Expr} {ρ : Env} : cTurn2 T N scope sc' c tg elt ifs tg1 iter1 ifs1 ρ = lcTurn2 T N scope sc' ev tg elt ifs tg1 iter1 ifs1 ρ := by
  funext x
  unfold cTurn2 lcTurn2
  congr 1
  rw [cAsg_eq]
  refine bind_congr_ok fun ρ1 _ => ?_
  rw [cIfs_eq (e := ev.t sc') (fun x ρ k => h.t sc' x ρ k)]
  refine bind_congr_ok fun b _ => ?_
  cases b with
  | true =>
    dsimp only
    rw [cIt_eq (e := ev.e sc') (fun x ρ k => h.e sc' x ρ k), cTurn_eq h]
  | false => rfl
theorem cLc2_eq {c : CEv} {ev : Ev} (h : CEvOk c ev) {T : Tab} {N : List Str} {sc : Scope} {elt tg iter : Expr} {ifs : List Expr} {tg1 iter1 : Expr} {ifs1 : List Expr} {scope : Scope} {ρ : Env} (k : List D → R β) : cLc2 T N sc c elt tg iter ifs tg1 iter1 ifs1 scope ρ k = (evLc2 T N sc ev elt tg iter ifs tg1 iter1 ifs1 scope ρ).bind k := by
  unfold cLc2 evLc2
  generalize (blkC N sc scope (ownOf N scope) && tgOwn N (ownOf N scope) tg && tgOwn N (ownOf N scope) tg1 && !isSetE iter && !isSetE iter1) = q
  cases q with
  | false => rfl
  | true =>
    dsimp only
    rw [cIt_eq (e := ev.e sc) (fun x ρ k => h.e sc x ρ k), R.bind_assoc]
    refine bind_congr_ok fun items _ => ?_
    rw [cTurn2_eq h, R.bind_assoc]
    refine bind_congr_ok fun ds _ => ?_
    split <;> rfl
theorem cLcs_eq {c : CEv} {ev : Ev} (h : CEvOk c ev) {T : Tab} {N : List Str} {sc : Scope} {elt : Expr} {gs : List Comprehension} {scope : Scope} {ρ : Env} (k : List D → R β) : cLcs T N sc c elt gs scope ρ k = (evLcs T N sc ev elt gs scope ρ).bind k := by
  unfold cLcs
  split
  · exact cLc2_eq h k
  · rename_i hn
    unfold evLcs
    first
      | exact cLc_eq h k
      | (split
         · exact absurd rfl (hn _ _ _ _ _ _)
         · exact cLc_eq h k)
theorem cMeth_eq {c : Expr → Env → {β : Type} → (Vw → R β) → R β} {e : Expr → Env → R Vw} (h : CEq c e) (o : Expr) (m : Str) (args : List Expr) (ρ : Env) (k : Vw → R β) : cMeth c o m args ρ k = (gMeth e o m args ρ).bind k := by
  unfold cMeth
  split
  · rename_i a b
    dsimp only [gMeth]
    generalize (m == ("get" : Str)) = q1
    generalize isStar a = q2
    generalize isStar b = q3
    cases q1 <;> cases q2 <;> cases q3 <;> try rfl
    dsimp only
    rw [h, R.bind_assoc]
    refine bind_congr_ok fun w _ => ?_
    rw [R.bind_assoc]
    refine bind_congr_ok fun ds _ => ?_
    rw [h, R.bind_assoc]
    refine bind_congr_ok fun u _ => ?_
    rw [h, R.bind_assoc]
  · rename_i a
    dsimp only [gMeth]
    generalize (m == ("index" : Str)) = q1
    generalize isStar a = q2
    cases q1 <;> cases q2 <;> try rfl
    dsimp only
    rw [h, R.bind_assoc]
    refine bind_congr_ok fun w _ => ?_
    rw [R.bind_assoc]
    refine bind_congr_ok fun xs _ => ?_
    rw [h, R.bind_assoc]
  · rename_i hn hn2
    unfold gMeth
    split
    · exact absurd rfl (hn _ _)
    · exact absurd rfl (hn2 _)
    · rfl
theorem cPick_eq {T : Tab} {sc : Scope} {c : Expr → Env → {β : Type} → (Vw → R β) → R β} {e : Expr → Env → R Vw} (h : CEq c e) (fs : List Expr) (ix : Expr) (args : List Expr) (ρ : Env) (k : Vw → R β) : cPick T sc c fs ix args ρ k = (gPick T sc e fs ix args ρ).bind k := by
  unfold cPick
  split
  · rename_i fl a r h1 h2
    unfold gPick
    rw [h1, h2]
    dsimp only
    rw [h, R.bind_assoc]
    refine bind_congr_ok fun w _ => ?_
    rw [R.bind_assoc]
    refine bind_congr_ok fun p _ => ?_
    rw [cLs_eq h, R.bind_assoc]
    refine bind_congr_ok fun ws _ => ?_
    rw [R.bind_assoc]
  · rename_i hn
    unfold gPick
    split
    · rename_i h1 h2
      exact absurd rfl (hn _ _ _ h1 h2)
    · rfl
theorem cX_eq {c : CEv} {ev : Ev} (h : CEvOk c ev) {T : Tab} {N : List Str} {sc : Scope} (x : Expr) (ρ : Env) (k : Vw → R β) : cX T N c sc x ρ k = (stepX T N ev sc x ρ).bind k := by
  have he : CEq (fun e ρ => c.e sc e ρ) (ev.e sc) := fun x ρ k => h.e sc x ρ k
  unfold cX
  split
  · dsimp only [stepX]
    rw [h.e, R.bind_assoc]
    refine bind_congr_ok fun w _ => ?_
    rw [h.e, R.bind_assoc]
  · rename_i o m ap args cp
    dsimp only [stepX]
    generalize (ap.endLine == cp.line) = q1
    generalize isBase o = q2
    cases q1 <;> cases q2 <;> try rfl
    exact cMeth_eq he _ _ _ _ _
  · exact cPick_eq he _ _ _ _ _
  · rename_i h1 h2 h3
    unfold stepX
    split
    · exact absurd rfl (h1 _ _ _)
    · exact absurd rfl (h2 _ _ _ _ _)
    · exact absurd rfl (h3 _ _ _ _ _ _)
    · rfl
theorem cE_eq {c : CEv} {ev : Ev} (h : CEvOk c ev) {T : Tab} {N : List Str} {sc : Scope} (x : Expr) (ρ : Env) (k : Vw → R β) : cE T N c sc x ρ k = (stepE T N ev sc x ρ).bind k := by
  have he : CEq (fun e ρ => c.e sc e ρ) (ev.e sc) := fun x ρ k => h.e sc x ρ k
  unfold cE
  split
  · rfl
  · rfl
  · dsimp only [stepE]
    rw [h.e, R.bind_assoc]
    refine bind_congr_ok fun w _ => ?_
    rw [h.e, R.bind_assoc]
  · rename_i op a p
    cases op with
    | Not =>
      dsimp only [stepE]
      rw [h.e, R.bind_assoc]
      refine bind_congr_ok fun w _ => ?_
      rw [R.bind_assoc]
      rfl
    | USub =>
      dsimp only [stepE]
      rw [h.e, R.bind_assoc]
    | _ => rfl
  · dsimp only [stepE]
    rw [cBo_eq he, bind_ok_r]
  · dsimp only [stepE]
    rw [h.t]
    congr 1
    refine bind_congr_ok fun b _ => ?_
    cases b with
    | true =>
      dsimp only
      rw [h.e, bind_ok_r]
    | false =>
      dsimp only
      rw [h.e, bind_ok_r]
  · dsimp only [stepE]
    rw [cLs_eq he, R.bind_assoc]
    refine bind_congr_ok fun ws hw => ?_
    rw [R.bind_assoc]
    refine bind_congr_ok fun ds hd => ?_
    rw [toDs_len' hd, evL_len' hw]
    split <;> rfl
  · dsimp only [stepE]
    rw [cLs_eq he, R.bind_assoc]
    refine bind_congr_ok fun ws hw => ?_
    rw [R.bind_assoc]
    refine bind_congr_ok fun ds hd => ?_
    rw [toDs_len' hd, evL_len' hw]
    split <;> rfl
  · rfl
  · rename_i a op b p
    dsimp only [stepE]
    generalize behindInMarks op b = q
    cases q with
    | true => rfl
    | false =>
      dsimp only
      rw [h.e, R.bind_assoc]
      refine bind_congr_ok fun w _ => ?_
      rw [h.e, R.bind_assoc]
  · rename_i a op op' b d p
    dsimp only [stepE]
    generalize lastMarks [op, op'] [b, d] = q
    cases q with
    | true => rfl
    | false =>
      dsimp only
      rw [h.e, R.bind_assoc]
      refine bind_congr_ok fun w _ => ?_
      rw [h.e, R.bind_assoc]
      refine bind_congr_ok fun u _ => ?_
      congr 1
      refine bind_congr_ok fun z _ => ?_
      refine bind_congr_ok fun q _ => ?_
      cases q with
      | true => exact h.e _ _ _ _
      | false => rfl
  · exact cCallN_eq he _ _ _ _
  · rename_i a b p
    have gen : isSlice b = false → c.e sc a ρ (fun w => c.e sc b ρ fun u => (gIxV w u).bind k) = ((ev.e sc a ρ).bind fun w => (ev.e sc b ρ).bind fun u => gIxV w u).bind k := fun _ => by
      rw [h.e, R.bind_assoc]
      refine bind_congr_ok fun w _ => ?_
      rw [h.e, R.bind_assoc]
    split
    · dsimp only [stepE]
      rw [h.e, R.bind_assoc]
      refine bind_congr_ok fun w _ => ?_
      rw [cO_eq he, R.bind_assoc]
      refine bind_congr_ok fun l _ => ?_
      rw [cO_eq he, R.bind_assoc]
    · show _ = ((ev.e sc a ρ).bind gRev).bind k
      rw [h.e, R.bind_assoc]
    · rename_i h1 h2
      dsimp only [stepE]
      generalize hq : isSlice b = q
      cases q with
      | true =>
        dsimp only
        split
        · exact absurd rfl (h1 _ _ _)
        · exact absurd rfl (h2 _ _ _ _)
        · rfl
      | false =>
        dsimp only
        split
        · exact absurd rfl (h1 _ _ _)
        · exact absurd rfl (h2 _ _ _ _)
        · exact gen hq
  · dsimp only [stepE]
    rw [cLcs_eq h, R.bind_assoc]
    rfl
  · rename_i h1 h2 h3 h4 h5 h6 h7 h8 h9 h10 h11 h12 h13 h14
    unfold stepE
    split
    · exact absurd rfl (h1 _ _ _)
    · exact absurd rfl (h2 _ _)
    · exact absurd rfl (h3 _ _ _ _)
    · exact absurd rfl (h4 _ _ _)
    · exact absurd rfl (h5 _ _ _)
    · exact absurd rfl (h6 _ _ _ _)
    · exact absurd rfl (h7 _ _ _)
    · exact absurd rfl (h8 _ _)
    · exact absurd rfl (h9 _)
    · exact absurd rfl (h10 _ _ _ _)
    · exact absurd rfl (h11 _ _ _ _ _ _)
    · exact absurd rfl (h12 _ _ _ _)
    · exact absurd rfl (h13 _ _ _)
    · exact absurd rfl (h14 _ _ _ _)
    · exact cX_eq h _ _ _
theorem cT_eq {c : CEv} {ev : Ev} (h : CEvOk c ev) {T : Tab} {N : List Str} {sc : Scope} (x : Expr) (ρ : Env) (k : Bool → R β) : cT T N c sc x ρ k = (stepT T N ev sc x ρ).bind k := by
  unfold cT
  split
  · dsimp only [stepT]
    rw [h.t, R.bind_assoc]
    rfl
  · dsimp only [stepT]
    rw [cTs_eq (fun x ρ k => h.t sc x ρ k), bind_ok_r]
  · dsimp only [stepT]
    rw [cE_eq h, R.bind_assoc]
  · dsimp only [stepT]
    rw [cE_eq h, R.bind_assoc]
  · dsimp only [stepT]
    rw [h.e, R.bind_assoc]
  · dsimp only [stepT]
    rw [h.e, R.bind_assoc]
  · dsimp only [stepT]
    rw [h.e, R.bind_assoc]
  · rename_i h1 h2 h3 h4 h5 h6 h7
    unfold stepT
    split
    · exact absurd rfl (h1 _ _)
    · exact absurd rfl (h2 _ _ _)
    · exact absurd rfl (h3 _ _ _ _)
    · exact absurd rfl (h4 _ _ _ _ _ _)
    · exact absurd rfl (h5 _ _)
    · exact absurd rfl (h6 _ _ _ _)
    · exact absurd rfl (h7 _ _ _)
    · rfl
end
end BR
namespace BR
open PySem PySem.Spec PyProof.Rows L2

/-! ### statements with what comes behind -/
def fin' (r : R Fl) (kn : Env → R Vw) : R Vw := match r with
  | .ok (.nx ρ) => kn ρ
  | .ok (.rt w) => .ok w
  | .exc c => .exc c
  | .stk => .stk
def retW : Vw → R Vw
  | .dt d => .ok (.dt d)
  | .fl ds => .ok (.fl ds)
  | .fd ks => .ok (.fd ks)
  | _ => .stk
def forC (f : D → Env → (Env → R Vw) → R Vw) : List D → Env → (Env → R Vw) → R Vw
  | [], ρ, k => k ρ
  | x :: xs, ρ, k => f x ρ fun ρ' => forC f xs ρ' k
def whileC (t : Env → (Bool → R Vw) → R Vw) (f : Env → (Env → R Vw) → R Vw) : Nat → Env → (Env → R Vw) → R Vw
  | 0, _, _ => .stk
  | n + 1, ρ, k => t ρ fun b => match b with
    | false => k ρ
    | true => f ρ fun ρ' => whileC t f n ρ' k
def ownK {α : Type} (s : Sl) (kl : List D → α) (kd : KD → α) (ko : α) : α := match s with
  | .ol ds => kl ds
  | .od ks => kd ks
  | _ => ko
def ownC {α : Type} (N : List Str) (sc : Scope) (x : Str) (ρ : Env) (kl : Nat → List D → α) (kd : Nat → KD → α) (ko : α) : α := match isLoc sc x, badName x with
  | true, false => (match idx N x with
    | some i => (match ρ[i]? with
      | some s => ownK s (kl i) (kd i) ko
      | none => ko)
    | none => ko)
  | _, _ => ko
theorem ownC_eq {α : Type} {N : List Str} {sc : Scope} {x : Str} {ρ : Env} {kl : Nat → List D → α} {kd : Nat → KD → α} {ko : α} : ownC N sc x ρ kl kd ko = (match ownAt N sc x ρ with
    | some (i, .ol ds) => kl i ds
    | some (i, .od ks) => kd i ks
    | _ => ko) := by
  unfold ownC ownAt
  generalize isLoc sc x = q
  generalize badName x = q2
  cases q <;> cases q2 <;> try rfl
  dsimp only
  generalize idx N x = q3
  cases q3 with
  | none => rfl
  | some i =>
    dsimp only
    generalize ρ[i]? = q4
    cases q4 with
    | none => rfl
    | some s => cases s <;> rfl
def cApE (ds : List D) (i : Nat) (ρ : Env) (d : D) (kn : Env → R Vw) : R Vw := if ds.length < 16777216 then kn (ρ.set i (.ol (ds ++ [d]))) else .stk
def lsV : Vw → R (List D)
  | .fl es => .ok es
  | .bl es => .ok es
  | _ => .stk
def cExE (ds : List D) (i : Nat) (ρ : Env) (w : Vw) (kn : Env → R Vw) : R Vw := (lsV w).bind fun es => if ds.length + es.length ≤ 16777216 then kn (ρ.set i (.ol (ds ++ es))) else .stk
def cPar (N : List Str) (sc : Scope) (ev : Expr → Env → {β : Type} → (Vw → R β) → R β) (ts vs : List Expr) (ρ : Env) (kn : Env → R Vw) : R Vw := match ts, vs with
  | [.Name x px, .Name y py], [a, b] => (match sw2 sc x px y py a b || ns2 sc x y a b, idx N x, idx N y with
    | true, some i, some j => ev a ρ fun w => ev b ρ fun u => (slOf w).bind fun s => (slOf u).bind fun t => kn ((ρ.set i s).set j t)
    | _, _, _ => .stk)
  | [.Name x px, .Name y py, .Name z pz], [a, b, c] => (match sw3 sc x px y py z pz a b c || ns3 sc x y z a b c, idx N x, idx N y, idx N z with
    | true, some i, some j, some l => ev a ρ fun w => ev b ρ fun u => ev c ρ fun o => (slOf w).bind fun s => (slOf u).bind fun t => (slOf o).bind fun q => kn (((ρ.set i s).set j t).set l q)
    | _, _, _, _ => .stk)
  | [.Name x _, .Name y _, .Name z _, .Name u _], [a, b, c, d] => (match ns4 sc x y z u a b c d, idx N x, idx N y, idx N z, idx N u with
    | true, some i, some j, some l, some m => ev a ρ fun w1 => ev b ρ fun w2 => ev c ρ fun w3 => ev d ρ fun w4 =>
      (slOf w1).bind fun s1 => (slOf w2).bind fun s2 => (slOf w3).bind fun s3 => (slOf w4).bind fun s4 => kn ((((ρ.set i s1).set j s2).set l s3).set m s4)
    | _, _, _, _, _ => .stk)
  | _, _ => .stk
def datV {β : Type} (w : Vw) (k : D → R β) : R β := match w with
  | .dt d => k d
  | _ => .stk
def cDp (ks : KD) (i : Nat) (ρ : Env) (d : D) (u : Vw) (kn : Env → R Vw) : R Vw := match u with
  | .dt (.tuple xs) => match intsOf xs with
    | some k => if ks.length < 16777216 then kn (ρ.set i (.od (kput ks k d))) else .stk
    | none => .stk
  | _ => .stk
def cLp (ds : List D) (i : Nat) (ρ : Env) (d : D) (u : Vw) (kn : Env → R Vw) : R Vw := match u.peek with
  | .int j => match ixN ds.length j with
    | some n => kn (ρ.set i (.ol (ds.set n d)))
    | none => .stk
  | _ => .stk
def tryC (r : R Vw) (em : R Vw) (hd : Str → R Vw) : R Vw := match r with
  | .ok w => .ok w
  | .exc c => match c == ("isinstance" : Str) with
    | true => em
    | false => hd c
  | .stk => .stk
def tryK (l : Nat) (ρ : Env) : R Vw := match Nat.beq ρ.length l with
  | true => .exc "isinstance"
  | false => .stk
def cXS (T : Tab) (N : List Str) (ev : CEv) (sc : Scope) (st : Stmt) (ρ : Env) (kn : Env → R Vw) : R Vw := match st with
  | .Assign [.Subscript (.Name x _) kx _] e _ => ownC N sc x ρ (fun i ds => (match isSlice kx with
      | false => ev.e sc e ρ fun w => w.toD.bind fun d => ev.e sc kx ρ fun u => cLp ds i ρ d u kn
      | true => .stk)) (fun i ks => ev.e sc e ρ fun w => w.toD.bind fun d => ev.e sc kx ρ fun u => cDp ks i ρ d u kn) .stk
  | .Try body [.ExceptHandler (some (.Name x _)) (some n) suite _] [] [] _ => (match tryOk T sc x n suite, idx N n with
    | true, some i => tryC (ev.ss sc body ρ (tryK ρ.length)) (kn (emE ρ)) (fun c => fin' (hdR T N sc x n i suite (emE ρ) c) kn)
    | _, _ => .stk)
  | _ => .stk
noncomputable def cS (T : Tab) (N : List Str) (ev : CEv) (sc : Scope) (st : Stmt) (ρ : Env) (kn : Env → R Vw) : R Vw := match st with
  | .Pass _ => kn ρ
  | .Return none _ => .ok (.dt .none)
  | .Return (some e) _ => (match e with
    | .Name x p => ownC N sc x ρ (fun _ ds => .ok (.fl ds)) (fun _ ks => .ok (.fd ks)) (ev.e sc (.Name x p) ρ retW)
    | _ => ev.e sc e ρ retW)
  | .Expr e _ => (match e with
    | .Call (.Attribute (.Name x _) m ap) [a] [] cp => (match (ap.endLine == cp.line), isStar a with
      | true, false => ownC N sc x ρ (fun i ds => (match m == ("append" : Str), m == ("extend" : Str) with
        | true, _ => ev.e sc a ρ fun w => w.toD.bind fun d => cApE ds i ρ d kn
        | false, true => ev.e sc a ρ fun w => cExE ds i ρ w kn
        | _, _ => .stk)) (fun _ _ => .stk) .stk
      | _, _ => .stk)
    | _ => (match isComp e with
      | true => .stk
      | false => ev.e sc e ρ fun _ => kn ρ))
  | .Assign [.Name x p] e _ => (match e with
    | .ListComp elt gs scope _ => cLcs T N sc ev elt gs scope ρ fun ds => cAsgN N sc (.Name x p) (.fl ds) ρ kn
    | _ => (match isComp e with
      | true => .stk
      | false => ev.e sc e ρ fun w => cAsgN N sc (.Name x p) w ρ kn))
  | .Assign [.Tuple ts kt pt] e _ => (match e with
    | .Tuple vs _ _ => cPar N sc (fun e ρ => ev.e sc e ρ) ts vs ρ kn
    | _ => (match isComp e with
      | true => .stk
      | false => ev.e sc e ρ fun w => datV w fun d => cAsg N sc (.Tuple ts kt pt) d ρ kn))
  | .If c a b _ => ev.t sc c ρ fun z => match z with
    | true => ev.ss sc a ρ kn
    | false => ev.ss sc b ρ kn
  | .For tg iter body [] _ => cIt true T sc (fun e ρ => ev.e sc e ρ) tg iter ρ fun items => forC (fun x ρ k => cAsg N sc tg x ρ fun ρ1 => ev.ss sc body ρ1 k) items ρ kn
  | .While c body [] _ => whileC (fun ρ k => ev.t sc c ρ k) (fun ρ k => ev.ss sc body ρ k) wFuel ρ kn
  | .Raise (some (.Call (.Name x _) [.Constant (.str _) _ _] [] _)) none _ => (match isGlob sc x, T.lookup x with
    | true, some (.cls _) => .exc x
    | _, _ => .stk)
  | st => cXS T N ev sc st ρ kn
noncomputable def cSS (T : Tab) (fz : FzT) (N : List Str) (ev : CEv) (sc : Scope) : List Stmt → Env → (Env → R Vw) → R Vw
  | [], ρ, kn => kn ρ
  | st :: rest, ρ, kn => cS T N ev sc st (frzE N (fzAt fz st) ρ) fun ρ' => cSS T fz N ev sc rest ρ' kn
def c0 : CEv := ⟨fun _ _ _ _ _ => .stk, fun _ _ _ _ _ => .stk, fun _ _ _ _ => .stk⟩
noncomputable def cN (T : Tab) (fz : FzT) (N : List Str) (n : Nat) : CEv := Nat.rec (motive := fun _ => CEv) c0 (fun _ ih => ⟨fun sc e ρ _ k => cE T N ih sc e ρ k, fun sc e ρ _ k => cT T N ih sc e ρ k, fun sc ss ρ kn => cSS T fz N ih sc ss ρ kn⟩) n

theorem fin_bind {α : Type} {r : R α} {f : α → R Fl} {kn : Env → R Vw} : fin' (r.bind f) kn = r.bind fun a => fin' (f a) kn := by cases r <;> rfl
theorem fin_nxR {r : R Env} {kn : Env → R Vw} : fin' (nxR r) kn = r.bind kn := by cases r <;> rfl
theorem retV_fin {w : Vw} {kn : Env → R Vw} : fin' (retV w) kn = retW w := by cases w <;> rfl
structure CSOk (c : CEv) (ev : Ev) : Prop where
  x : CEvOk c ev
  ss : ∀ sc ss ρ kn, c.ss sc ss ρ kn = fin' (ev.ss sc ss ρ) kn
theorem fin_fin {r : R Fl} {g : Env → R Fl} {kn : Env → R Vw} : fin' (r.bind fun z => match z with | .nx ρ => g ρ | .rt w => .ok (.rt w)) kn = fin' r fun ρ => fin' (g ρ) kn := by
  cases r with
  | ok z => cases z <;> rfl
  | exc c => rfl
  | stk => rfl
theorem forC_eq {g : D → Env → (Env → R Vw) → R Vw} {f : D → Env → R Fl} (h : ∀ x ρ k, g x ρ k = fin' (f x ρ) k) : ∀ (xs : List D) (ρ : Env) (kn : Env → R Vw), forC g xs ρ kn = fin' (forL f xs ρ) kn
  | [], ρ, kn => rfl
  | x :: xs, ρ, kn => by
    unfold forC
    rw [h, forL_cons]
    refine Eq.trans ?_ (fin_fin (g := fun ρ' => forL f xs ρ')).symm
    congr 1
    funext ρ'
    exact forC_eq h xs ρ' kn
theorem whileC_eq {t : Env → (Bool → R Vw) → R Vw} {t' : Env → R Bool} {g : Env → (Env → R Vw) → R Vw} {f : Env → R Fl} (ht : ∀ ρ k, t ρ k = (t' ρ).bind k) (h : ∀ ρ k, g ρ k = fin' (f ρ) k) : ∀ (n : Nat) (ρ : Env) (kn : Env → R Vw), whileC t g n ρ kn = fin' (whileF t' f n ρ) kn
  | 0, ρ, kn => rfl
  | n + 1, ρ, kn => by
    unfold whileC whileF
    rw [ht, fin_bind]
    refine bind_congr_ok fun b _ => ?_
    cases b with
    | false => rfl
    | true =>
      dsimp only
      rw [h]
      refine Eq.trans ?_ (fin_fin (g := fun ρ' => whileF t' f n ρ')).symm
      congr 1
      funext ρ'
      exact whileC_eq ht h n ρ' kn
theorem cPar_eq {N : List Str} {sc : Scope} {c : Expr → Env → {β : Type} → (Vw → R β) → R β} {e : Expr → Env → R Vw} (h : CEq c e) (ts vs : List Expr) (ρ : Env) (kn : Env → R Vw) : cPar N sc c ts vs ρ kn = fin' (evPar N sc e ts vs ρ) kn := by
  unfold cPar
  split
  · rename_i n pn m pm a b
    dsimp only [evPar]
    generalize (sw2 sc n pn m pm a b || ns2 sc n m a b) = q1
    generalize idx N n = q2
    generalize idx N m = q3
    cases q1 <;> cases q2 <;> cases q3 <;> try rfl
    dsimp only
    rw [h, fin_bind]
    refine bind_congr_ok fun w _ => ?_
    rw [h, fin_bind]
    refine bind_congr_ok fun u _ => ?_
    rw [fin_bind]
    refine bind_congr_ok fun s _ => ?_
    rw [fin_bind]
    rfl
  · rename_i n pn m pm o po a b d
    dsimp only [evPar]
    generalize (sw3 sc n pn m pm o po a b d || ns3 sc n m o a b d) = q1
    generalize idx N n = q2
    generalize idx N m = q3
    generalize idx N o = q4
    cases q1 <;> cases q2 <;> cases q3 <;> cases q4 <;> try rfl
    dsimp only
    rw [h, fin_bind]
    refine bind_congr_ok fun w _ => ?_
    rw [h, fin_bind]
    refine bind_congr_ok fun u _ => ?_
    rw [h, fin_bind]
    refine bind_congr_ok fun t _ => ?_
    rw [fin_bind]
    refine bind_congr_ok fun s _ => ?_
    rw [fin_bind]
    refine bind_congr_ok fun s _ => ?_
    rw [fin_bind]
    rfl
  · rename_i n pn m pm o po u pu a b d f
    dsimp only [evPar]
    unfold evPar4
    generalize ns4 sc n m o u a b d f = q1
    generalize idx N n = q2
    generalize idx N m = q3
    generalize idx N o = q4
    generalize idx N u = q5
    cases q1 <;> cases q2 <;> cases q3 <;> cases q4 <;> cases q5 <;> try rfl
    dsimp only
    rw [h, fin_bind]
    refine bind_congr_ok fun w _ => ?_
    rw [h, fin_bind]
    refine bind_congr_ok fun u _ => ?_
    rw [h, fin_bind]
    refine bind_congr_ok fun t _ => ?_
    rw [h, fin_bind]
    refine bind_congr_ok fun t2 _ => ?_
    rw [fin_bind]
    refine bind_congr_ok fun s _ => ?_
    rw [fin_bind]
    refine bind_congr_ok fun s _ => ?_
    rw [fin_bind]
    refine bind_congr_ok fun s _ => ?_
    rw [fin_bind]
    rfl
  · rename_i h1 h2 h3
    unfold evPar
    split
    · exact absurd rfl (h1 _ _ _ _ _ _ rfl)
    · exact absurd rfl (h2 _ _ _ _ _ _ _ _ _ rfl)
    · exact absurd rfl (h3 _ _ _ _ _ _ _ _ _ _ _ _ rfl)
    · rfl
theorem cXS_eq {c : CEv} {ev : Ev} (h : CSOk c ev) {T : Tab} {N : List Str} {sc : Scope} (st : Stmt) (ρ : Env) (kn : Env → R Vw) : cXS T N c sc st ρ kn = fin' (stepXS T N ev sc st ρ) kn := by
  unfold cXS
  split
  · rename_i n p1 kx p2 e p3
    dsimp only [stepXS]
    rw [ownC_eq]
    generalize ownAt N sc n ρ = q3
    generalize isSlice kx = q4
    have kl : ∀ i ds, (c.e sc e ρ fun w => w.toD.bind fun d => c.e sc kx ρ fun u => cLp ds i ρ d u kn) = fin' ((ev.e sc e ρ).bind fun w => w.toD.bind fun d => (ev.e sc kx ρ).bind fun u => lpE ds i ρ d u) kn := fun i ds => by
      rw [h.x.e, fin_bind]
      refine bind_congr_ok fun w _ => ?_
      rw [fin_bind]
      refine bind_congr_ok fun d _ => ?_
      rw [h.x.e, fin_bind]
      refine bind_congr_ok fun u hu => ?_
      clear hu
      unfold cLp lpE
      generalize u.peek = dd
      cases dd <;> try rfl
      dsimp only
      generalize ixN ds.length _ = q
      cases q <;> rfl
    have kd : ∀ i ks, (c.e sc e ρ fun w => w.toD.bind fun d => c.e sc kx ρ fun u => cDp ks i ρ d u kn) = fin' ((ev.e sc e ρ).bind fun w => w.toD.bind fun d => (ev.e sc kx ρ).bind fun u => dpE ks i ρ d u) kn := fun i ks => by
      rw [h.x.e, fin_bind]
      refine bind_congr_ok fun w _ => ?_
      rw [fin_bind]
      refine bind_congr_ok fun d _ => ?_
      rw [h.x.e, fin_bind]
      refine bind_congr_ok fun u hu => ?_
      clear hu
      unfold cDp dpE
      cases u <;> try rfl
      rename_i dd
      cases dd <;> try rfl
      rename_i xs
      dsimp only
      generalize intsOf xs = q
      cases q <;> try rfl
      dsimp only
      by_cases hl : ks.length < 16777216
      · rw [if_pos hl, if_pos hl]; rfl
      · rw [if_neg hl, if_neg hl]; rfl
    cases q3 with
    | none => cases q4 <;> rfl
    | some p =>
      obtain ⟨i, s⟩ := p
      cases s <;> cases q4 <;> first
        | rfl
        | exact kl _ _
        | exact kd _ _
  · rename_i body xn np n suite p2 p3
    dsimp only [stepXS]
    generalize tryOk T sc xn n suite = q1
    generalize idx N n = q2
    cases q1 <;> cases q2 <;> try rfl
    dsimp only
    rw [h.ss]
    generalize hdR T N sc xn n _ suite (emE ρ) = hd
    cases ev.ss sc body ρ with
    | stk => rfl
    | exc c =>
      show (match c == ("isinstance" : Str) with | true => _ | false => _) = fin' (match c == ("isinstance" : Str) with | true => _ | false => _) kn
      cases c == ("isinstance" : Str) <;> rfl
    | ok z =>
      cases z with
      | rt w => rfl
      | nx ρ' =>
        show tryC (match Nat.beq ρ'.length ρ.length with | true => _ | false => _) _ _ = fin' (match Nat.beq ρ'.length ρ.length with | true => _ | false => _) kn
        cases Nat.beq ρ'.length ρ.length <;> rfl
  · rename_i h1 h2
    unfold stepXS
    split
    · exact absurd rfl (h1 _ _ _ _ _ _)
    · exact absurd rfl (h2 _ _ _ _ _ _ _)
    · rfl
theorem cS_eq {c : CEv} {ev : Ev} (h : CSOk c ev) {T : Tab} {N : List Str} {sc : Scope} (st : Stmt) (ρ : Env) (kn : Env → R Vw) : cS T N c sc st ρ kn = fin' (stepS T N ev sc st ρ) kn := by
  have he : CEq (fun e ρ => c.e sc e ρ) (ev.e sc) := fun x ρ k => h.x.e sc x ρ k
  have ret : ∀ e : Expr, c.e sc e ρ retW = fin' ((ev.e sc e ρ).bind retV) kn := fun e => by
    rw [h.x.e, fin_bind]
    refine bind_congr_ok fun w _ => ?_
    rw [retV_fin]
  unfold cS
  split
  · rfl
  · rfl
  · rename_i e p
    split
    · rename_i n p2
      dsimp only [stepS]
      rw [ownC_eq]
      split
      · rename_i q
        first
          | rfl
          | (rw [q] <;> rfl)
      · rename_i q
        first
          | rfl
          | (rw [q] <;> rfl)
      · rename_i h1 h2
        first
          | exact ret _
          | (split
             · rename_i q
               exact absurd q (h1 _ _)
             · rename_i q
               exact absurd q (h2 _ _)
             · exact ret _)
    · rename_i hn
      dsimp only [stepS]
      split
      · exact absurd rfl (hn _ _)
      · exact ret _
  · rename_i e p
    split
    · rename_i n p1 m ap a cp
      dsimp only [stepS]
      generalize (ap.endLine == cp.line) = q1
      generalize isStar a = q2
      cases q1 <;> cases q2 <;> try rfl
      dsimp only
      rw [ownC_eq]
      generalize ownAt N sc n ρ = q3
      cases q3 with
      | none => rfl
      | some p =>
        obtain ⟨i, s⟩ := p
        cases s <;> try rfl
        dsimp only
        generalize (m == ("append" : Str)) = q4
        generalize (m == ("extend" : Str)) = q5
        have ap : ∀ ds, (c.e sc a ρ fun w => w.toD.bind fun d => cApE ds i ρ d kn) = fin' ((ev.e sc a ρ).bind fun w => w.toD.bind fun d => apE ds i ρ d) kn := fun ds => by
          rw [h.x.e, fin_bind]
          refine bind_congr_ok fun w _ => ?_
          rw [fin_bind]
          refine bind_congr_ok fun d _ => ?_
          unfold cApE apE
          split <;> rfl
        have ex : ∀ ds, (c.e sc a ρ fun w => cExE ds i ρ w kn) = fin' ((ev.e sc a ρ).bind fun w => exE ds i ρ w) kn := fun ds => by
          rw [h.x.e, fin_bind]
          refine bind_congr_ok fun w _ => ?_
          unfold cExE
          cases w <;> first
            | rfl
            | (dsimp only [lsV, exE, R.bind]; split <;> rfl)
        cases q4 <;> cases q5 <;> first
          | rfl
          | exact ap _
          | exact ex _
    · rename_i hn
      dsimp only [stepS]
      generalize isComp e = q
      cases q with
      | true =>
        dsimp only
        split
        · exact absurd rfl (hn _ _ _ _ _ _)
        · rfl
      | false =>
        dsimp only
        split
        · exact absurd rfl (hn _ _ _ _ _ _)
        · rw [h.x.e, fin_bind]
          rfl
  · rename_i n p e p2
    split
    · dsimp only [stepS]
      rw [cLcs_eq h.x, fin_bind]
      refine bind_congr_ok fun ds _ => ?_
      rw [cAsgN_eq, fin_nxR]
    · rename_i hn
      dsimp only [stepS]
      generalize isComp e = q
      cases q with
      | true =>
        dsimp only
        split
        · exact absurd rfl (hn _ _ _ _)
        · rfl
      | false =>
        dsimp only
        split
        · exact absurd rfl (hn _ _ _ _)
        · rw [h.x.e, fin_bind]
          refine bind_congr_ok fun ds _ => ?_
          rw [cAsgN_eq, fin_nxR]
  · rename_i ts kt pt e p2
    split
    · dsimp only [stepS]
      exact cPar_eq he _ _ _ _
    · rename_i hn
      dsimp only [stepS]
      generalize isComp e = q
      cases q with
      | true =>
        dsimp only
        split
        · exact absurd rfl (hn _ _ _)
        · rfl
      | false =>
        dsimp only
        split
        · exact absurd rfl (hn _ _ _)
        · rw [h.x.e, fin_bind]
          refine bind_congr_ok fun w _ => ?_
          cases w <;> try rfl
          dsimp only [datV, asgD]
          rw [cAsg_eq, fin_nxR]
  · dsimp only [stepS]
    rw [h.x.t, fin_bind]
    refine bind_congr_ok fun z _ => ?_
    cases z with
    | true => exact h.ss _ _ _ _
    | false => exact h.ss _ _ _ _
  · dsimp only [stepS]
    rw [cIt_eq he, fin_bind]
    refine bind_congr_ok fun items _ => ?_
    refine forC_eq (fun x ρ k => ?_) items ρ kn
    rw [cAsg_eq, fin_bind]
    refine bind_congr_ok fun ρ1 _ => ?_
    exact h.ss _ _ _ _
  · dsimp only [stepS]
    rename_i cc body pos
    exact whileC_eq (fun ρ k => h.x.t sc cc ρ k) (fun ρ k => h.ss sc body ρ k) _ _ _
  · rename_i n p1 m j p2 p3 p4
    dsimp only [stepS]
    generalize isGlob sc n = q1
    generalize T.lookup n = q2
    cases q1 with
    | false => rfl
    | true =>
      cases q2 with
      | none => rfl
      | some g => cases g <;> rfl
  · rename_i h1 h2 h3 h4 h5 h6 h7 h8 h9 h10
    unfold stepS
    split
    · exact absurd rfl (h1 _)
    · exact absurd rfl (h2 _)
    · exact absurd rfl (h3 _ _)
    · exact absurd rfl (h4 _ _)
    · exact absurd rfl (h5 _ _ _ _)
    · exact absurd rfl (h6 _ _ _ _ _)
    · exact absurd rfl (h7 _ _ _ _)
    · exact absurd rfl (h8 _ _ _ _)
    · exact absurd rfl (h9 _ _ _)
    · exact absurd rfl (h10 _ _ _ _ _ _ _)
    · exact cXS_eq h _ _ _
theorem cSS_eq {c : CEv} {ev : Ev} (h : CSOk c ev) {T : Tab} {fz : FzT} {N : List Str} {sc : Scope} : ∀ (ss : List Stmt) (ρ : Env) (kn : Env → R Vw), cSS T fz N c sc ss ρ kn = fin' (stepSS T fz N ev sc ss ρ) kn
  | [], ρ, kn => rfl
  | st :: rest, ρ, kn => by
    unfold cSS stepSS
    rw [cS_eq h]
    refine Eq.trans ?_ (fin_fin (g := fun ρ' => stepSS T fz N ev sc rest ρ')).symm
    congr 1
    funext ρ'
    exact cSS_eq h rest ρ' kn
theorem cN_ok {T : Tab} {fz : FzT} {N : List Str} : ∀ n, CSOk (cN T fz N n) (evN T fz N n)
  | 0 => ⟨⟨fun _ _ _ _ _ => rfl, fun _ _ _ _ _ => rfl⟩, fun _ _ _ _ => rfl⟩
  | n + 1 => ⟨⟨fun sc _ x ρ k => cE_eq (cN_ok n).x x ρ k, fun sc _ x ρ k => cT_eq (cN_ok n).x x ρ k⟩, fun sc ss ρ kn => cSS_eq (cN_ok n) ss ρ kn⟩
end BR
namespace BR
open PySem PySem.Spec PyProof.Rows L2

/-! ### defs -/
def initE (N : List Str) (args : List D) : Env := args.map .dd ++ List.replicate (N.length - args.length) .em
noncomputable def cFn (T : Tab) (fz : FzT) (N : List Str) (sc : Scope) (body : List Stmt) (n : Nat) (args : List D) : R Vw := (cN T fz N n).ss sc body (initE N args) fun _ => .ok (.dt .none)
section
variable {P : Program} {w : World} {K : PySem.W.Frag} {mg : Str → Option Value} {base : Heap}
theorem repS_start {N : List Str} {F : Addr → Prop} {H : Hp} {vs : List V} {ds : List PyData} (r : RepL K F H vs ds) : RepS K H F H (L2.start N vs) (initE N ds) := by
  have hl := r.length
  have dd : ∀ (i : Nat) (s : Sl), (initE N ds)[i]? = some s → s = .em ∨ ∃ d, s = .dd d ∧ ds[i]? = some d := fun i s h => by
    unfold initE at h
    by_cases hi : i < ds.length
    · rw [List.getElem?_append_left (by simpa using hi), List.getElem?_map] at h
      obtain ⟨d, h1, h2⟩ := Option.map_eq_some_iff.mp h
      exact .inr ⟨d, h2.symm, h1⟩
    · rw [List.getElem?_append_right (by simpa using hi), List.getElem?_replicate] at h
      split at h <;> cases h
      exact .inl rfl
  refine ⟨?_, fun i s h => ?_, fun i j s t l h1 h2 o1 o2 e1 e2 => ?_⟩
  · unfold initE L2.start
    rw [List.length_append, List.length_append, List.length_map, List.length_map, List.length_replicate, List.length_replicate, hl]
  · rcases dd i s h with q | ⟨d, rfl, h1⟩
    · exact .inl q
    · obtain ⟨v, h2, h3⟩ := r.get h1
      refine .inr ⟨v, ?_, h3⟩
      unfold L2.start
      have hi : i < vs.length := (List.getElem?_eq_some_iff.mp h2).1
      rw [List.getElem?_append_left (by simpa using hi), List.getElem?_map, h2]
      rfl
  · rcases dd i s h1 with q | ⟨d, rfl, _⟩
    · subst q; cases o1
    · cases o1
theorem fn_ok {T : Tab} {k : Nat} {x q : Str} {pa : Arguments} {body : List Stmt} {scope : Scope} {f : Addr} {fd : FuncData} {N ps : List Str} {kws : List (Str × V)} (fz : FzT) (n : Nat) (F : FunD K x q pa body scope [] kws f fd) (S : FnScope N ps scope) (t : TOk T k P w K mg base) {g : List PyData → R Vw} (hg : ∀ ds, ds.length = ps.length → cFn T fz N scope body n ds = g ds) :
    FnOk P w K mg base (L2.CX P w) (k + 1) f fd ps (spOf K mg ps.length g) := by
  refine F.ok S (fun vs H Q E h => ?_) (fun cdv A outer s H vs Q E hr h => ?_)
  · obtain ⟨F0, ds, hl, dm, rl, _⟩ := h
    exact rl.length.trans hl
  · obtain ⟨F0, ds, hl, dm, rl, p⟩ := h
    refine ⟨_, pss_can, ?_⟩
    rw [← hg ds hl] at p
    unfold cFn at p
    rw [(cN_ok n).ss] at p
    have x : SOk T k N (cxOf (L2.CX P w) P w K mg base N q scope f cdv A outer s H E) scope (fun c σ H => EX mg E c H) := {
      x := {
        hN := rfl
        nd := S.nd
        hsc := rfl
        calm := rfl
        room := hr
        tab := t
        takes := (takes_of (E := E) rfl rfl rfl rfl).imp fun cls d σ H' ⟨c, C, hm, e, ed, hw⟩ => by
          subst e ed
          exact hw C hm }
      st := {
        hN := rfl
        nd := S.nd
        loc := fun y h => ⟨.inl h, .inl rfl⟩
        cel := fun y h => ⟨.inr h, .inl rfl⟩ }
      fn := S.kind
      fr := ⟨rfl, rfl⟩
      hp := passes_of rfl }
    refine (evN_ok (fz := fz) n).2 _ scope _ F0 H x body (initE N ds) (L2.start N vs) F0 H _ (repS_start rl) dm .refl ?_
    cases hr : (evN T fz N n).ss scope body (initE N ds) with
    | ok z =>
      rw [hr] at p
      cases z with
      | nx ρ => exact fun σ' F' H' _ _ e d _ => p .non F' H' e d .non
      | rt w => exact fun v F' H' e d r => p v F' H' e d r
    | exc c =>
      rw [hr] at p
      exact fun σ' F' H' e d => p F' H' e d
    | stk => rw [hr] at p; exact p.elim
end
end BR
namespace BR
open PySem PySem.Spec PyProof.Rows L2

section
variable {T : Tab} {k : Nat} {P : Program} {w : World} {K : PySem.W.Frag} {mg : Str → Option Value} {base : Heap}
theorem GOk.mono {x : Str} {g : GV} (h : GOk k P w K mg base x g) : GOk (k + 1) P w K mg base x g := by
  cases g with
  | fn ps f =>
    obtain ⟨a, fd, h1, h2, h3, h4⟩ := h.ok
    exact ⟨a, fd, h1, h2, h3, h4.mono (Nat.le_succ k)⟩
  | con w => exact h
  | cls => exact h
  | blt => exact h
theorem TOk.mono (t : TOk T k P w K mg base) : TOk T (k + 1) P w K mg base := fun x g e => (t x g e).mono
theorem TOk.nil : TOk [] k P w K mg base := fun _ _ e => nomatch e
theorem TOk.cons {x : Str} {g : GV} (h : GOk k P w K mg base x g) (t : TOk T k P w K mg base) : TOk ((x, g) :: T) k P w K mg base := fun y g' e => by
  have e2 : (match y == x with | true => some g | false => T.lookup y) = some g' := e
  cases q : (y == x) with
  | true =>
    rw [q] at e2
    cases e2
    rw [beq_iff_eq.mp q]
    exact h
  | false =>
    rw [q] at e2
    exact t y g' e2
theorem TOk.fn {x : Str} {pa : Arguments} {body : List Stmt} {scope : Scope} {f : Addr} {fd : FuncData} {N ps : List Str} (t : TOk T k P w K mg base) (F : FunD K x x pa body scope [] [] f fd) (hm : mg x = some (.ref f)) (fz : FzT) (n : Nat) (S : C8.scC N ps scope = true)
    (hb : ∀ (kV doc pm : Value) (an : Option Addr) (cdv ct : Value) (us : List Value), us.length = ps.length → bindArgs (PySem.W.fnOf x x pa body scope .none kV doc pm an cdv ct) ⟨us, []⟩ = pure (ps.zip us))
    {g : List PyData → R Vw} (hg : ∀ ds, ds.length = ps.length → cFn T fz N scope body n ds = g ds) : TOk ((x, .fn ps g) :: T) (k + 1) P w K mg base :=
  TOk.cons ⟨f, fd, hm, F.kp, F.bindsN hb, fn_ok fz n F (C8.fnScope_by S) t hg⟩ t.mono
/-! ### facts -/
section
variable {h : Heap}
theorem gok_int (X : K.In h) (G : h.Ns mainGlobals mg) {x : Str} {i : Int} (c : (He.Fa.int x i).ok K = true) : GOk k P w K mg base x (.con (.dt (.int i))) := by
  obtain ⟨t, e⟩ := He.int_ok X G c
  exact ⟨_, .int i, e, ⟨t, rfl⟩, fun F H0 H => Rep.int i⟩
theorem gok_str (X : K.In h) (G : h.Ns mainGlobals mg) {x z : Str} (c : (He.Fa.str x z).ok K = true) : GOk k P w K mg base x (.con (.dt (.str z))) := by
  obtain ⟨t, e⟩ := He.str_ok X G c
  exact ⟨_, .str z, e, ⟨t, rfl⟩, fun F H0 H => Rep.str z⟩
/-- what is asked of an own exception class, so that its instances may be asked for their class -/
def clsF (K : PySem.W.Frag) (x : Str) : Bool :=
  decide (PySem.W.findIn K (.ref (He.ga K x)) "__getattribute__" = some (some (.builtin "BaseException.__getattribute__"))) &&
  (decide (PySem.W.findIn K (.ref (He.ga K x)) "__getattr__" = some none) &&
  (decide (PySem.W.subIn K (.ref (He.ga K x)) (.type "BaseException") = some true) &&
  (PySem.W.hasDictIn K (He.ga K x) &&
  (decide (PySem.W.findIn K (.ref (He.ga K x)) "__class__" = some (some (.builtin "object.__class__"))) &&
  (decide (PySem.W.specialIn K (.builtin "object.__class__") "__get__" = some (some (.builtin "getset_descriptor.__get__"))) &&
  (decide (PySem.W.takesIn K (.builtin "object.__class__") = some true) &&
  decide (PySem.W.mroIn K (He.ga K x) (.type "object") = some true)))))))
def relF (K : PySem.W.Frag) (x : Str) (rel : List (Str × Bool)) : Bool := rel.all fun q => (He.Fa.glo q.1).ok K && (decide (PySem.W.exmOne K (.ref (He.ga K x)) (.ref (He.ga K q.1)) = some q.2) && decide (PySem.W.kitOne K (.ref (He.ga K x)) (.ref (He.ga K q.1)) = some q.2))
abbrev RelT := List (Str × List (Str × Bool))
def clsB (K : PySem.W.Frag) (cs : RelT) : Bool := cs.all fun p => p.2.isEmpty || (clsF K p.1 && relF K p.1 p.2)
theorem clsB_at {cs : RelT} (h : clsB K cs = true) (i : Nat) {p : Str × List (Str × Bool)} (e : cs[i]? = some p) : (p.2.isEmpty || (clsF K p.1 && relF K p.1 p.2)) = true :=
  List.all_eq_true.mp h p (List.mem_of_getElem? e)
theorem clsF_ok {x : Str} (h : clsF K x = true) : ExcC K (He.ga K x) := by
  unfold clsF at h
  simp only [Bool.and_eq_true, decide_eq_true_eq] at h
  obtain ⟨h1, h2, h3, h4, h5, h6, h7, h8⟩ := h
  exact ⟨h1, h2, h3, h4, h5, h6, h7, h8⟩
theorem lookup_mem {α : Type} {y : Str} {b : α} : ∀ {l : List (Str × α)}, l.lookup y = some b → (y, b) ∈ l
  | (z, c) :: l, h => by
    rw [List.lookup_cons] at h
    cases q : y == z with
    | true =>
      rw [q] at h
      cases h
      rw [beq_iff_eq.mp q]
      exact List.mem_cons_self
    | false =>
      rw [q] at h
      exact List.mem_cons_of_mem _ (lookup_mem h)
theorem gok_cls (X : K.In h) (G : h.Ns mainGlobals mg) {x : Str} {rel : List (Str × Bool)} (c : (He.Fa.glo x).ok K = true) (c2 : (He.Fa.exc x).ok K = true) (cf : (rel.isEmpty || (clsF K x && relF K x rel)) = true) : GOk k P w K mg base x (.cls rel) := by
  obtain ⟨h1, h2, h3, h4⟩ := He.exc_ok c2
  refine ⟨⟨_, He.glo_ok X G c, h1, h2, h3, h4⟩, fun y b hy => ?_⟩
  have hm := lookup_mem hy
  have ne : rel.isEmpty = false := by
    cases rel with
    | nil => cases hm
    | cons => rfl
  rw [ne, Bool.false_or, Bool.and_eq_true] at cf
  have q := List.all_eq_true.mp cf.2 _ hm
  simp only [Bool.and_eq_true, decide_eq_true_eq] at q
  exact ⟨_, _, He.glo_ok X G c, He.glo_ok X G q.1, clsF_ok cf.1, q.2.1, q.2.2⟩
theorem gok_blt (X : K.In h) (G : h.Ns mainGlobals mg) {x : Str} (c : (He.Fa.free x).ok K = true) : GOk k P w K mg base x .blt := He.free_ok X G c
theorem dv_ints {H : Hp} {F : Addr → Prop} : ∀ ns : List Int, RepL K F H ((ns.map He.Dv.int).map (He.Dv.v K)) (ns.map .int)
  | [] => .nil
  | n :: ns => .cons (.int n) (dv_ints ns)
theorem gok_tup (X : K.In h) (G : h.Ns mainGlobals mg) {x : Str} {ns : List Int} (c : (He.Fa.glo x).ok K = true) (c2 : He.tupB K x (ns.map He.Dv.int) = true) : GOk k P w K mg base x (.con (.kc (.tuple (ns.map .int)))) :=
  ⟨_, .ref (He.ga K x), He.glo_ok X G c, rfl, fun F H0 H => PRep.tup (He.tupB_ok c2 H) (dv_ints ns)⟩
end
end
/-! ### the end -/
theorem law_end {l : PySem.W.OpenLaw} {k : Nat} {q : Program} {loose : List Str} {XP : (Str → Option Value) → Heap → Prop} {YP : World → Heap → Prop} {d : DefRec} {x : Str}
    (hn : l.most = some 63) (hdf : d.params.defaults = []) (hr : Room k callerA)
    (F : ∀ (w : World) (mg : Str → Option Value) (fa : Addr) (h : Heap), YP w h → h.Ns mainGlobals mg → mg d.name = some (.ref fa) →
      ∃ (K : PySem.W.Frag) (fd : FuncData) (g : List PyData → R Vw), K.In h ∧ (∀ (s : Shared) (u : Value), BindsTo s fd ⟨[u], []⟩ [(x, u)]) ∧
        (∀ ns : List Int, ns.length ≤ 63 → (∀ z ∈ ns, Builtin.Int.intBits z ≤ 1048576) → g [.list (ns.map .int)] = .ok (.dt (.bool true))) ∧
        ∀ base : Heap, K.In base → base.Ns mainGlobals mg → FnOk l.prog w K mg base (L2.CX l.prog w) k fa fd [x] (spOf K mg 1 g)) :
    PySem.W.WalkO q loose XP YP l.row.toRowW d [] (fun f vs => PySem.call f vs) := by
  refine Att.attach_callB hn hdf fun w s₀ s₁ mg mb fa o pm cd doc a vs ns G Y ho hd hcd hmg hobj hints hlen hbits hg => ?_
  obtain ⟨K, fd, g, KX, hb, hv, hF⟩ := F w mg fa _ Y G.T.g hmg
  refine law_call KX G.T.g G.T.b G.T.builtins G.T.nolimit hg hobj hints (Nat.le_trans hlen (by decide)) hr hF hb (fun H hO hS => ?_) fun H e s' hc => ?_
  · refine ⟨fun _ => False, [.list (ns.map .int)], rfl, fun _ h => h.elim, .cons ?_ .nil, ?_⟩
    · refine .lst ?_ (repL_ints ns)
      rcases hS with (hS | hS) | hS
      · rcases hO a with z | ⟨o, xs, z⟩
        · rw [z] at hS; cases hS
        · rw [z] at hS; cases hS
      · exact .inr (.inl hS)
      · exact .inr (.inr hS)
    · rw [hv ns hlen hbits]
      intro v F' H' _ _ r
      cases r
      rfl
  · obtain ⟨_, _, _, _, _, _, _, _, _, _, _, _, z⟩ := hc
    exact z.elim
end BR
namespace BR
open PySem PySem.Spec PyProof.Rows L2
/-! ### short words for mirrors -/
section
variable {β : Type}
def bc (b : Bool) (t f : β) : β := match b with
  | true => t
  | false => f
def intK (d : D) (k : Int → R β) : R β := match d with
  | .int i => k i
  | _ => .stk
def rng1 (d : D) (k : List D → R β) : R β := match d with
  | .int j => if rgOk j = true then k (rgD 0 j) else .stk
  | _ => .stk
def rng2 (d e : D) (k : List D → R β) : R β := match d, e with
  | .int i, .int j => if rgOk i = true ∧ rgOk j = true then k (rgD i j) else .stk
  | _, _ => .stk
def zp (d e : D) (k : List D → R β) : R β := match d, e with
  | .tuple xs, .tuple ys => k (zipD xs ys)
  | _, _ => .stk
/-- a store into an own dict, list -/
def dpK (ks : KD) (d : D) (u : Vw) (k : KD → R β) : R β := match u with
  | .dt (.tuple xs) => match intsOf xs with
    | some q => if ks.length < 16777216 then k (kput ks q d) else .stk
    | none => .stk
  | _ => .stk
def lpK (ds : List D) (d : D) (u : Vw) (k : List D → R β) : R β := match u.peek with
  | .int j => match ixN ds.length j with
    | some n => k (ds.set n d)
    | none => .stk
  | _ => .stk
end
def stAt (ss : List Stmt) (j : Nat) : Stmt := ss.getD j (.Pass ⟨0, 0, 0, 0⟩)
def forB : Stmt → List Stmt
  | .For _ _ b _ _ => b
  | .While _ b _ _ => b
  | _ => []
def forT : Stmt → Expr
  | .For t _ _ _ _ => t
  | _ => .Constant .none 0 ⟨0, 0, 0, 0⟩
def whT : Stmt → Expr
  | .While t _ _ _ => t
  | _ => .Constant .none 0 ⟨0, 0, 0, 0⟩
def tryB : Stmt → List Stmt
  | .Try b _ _ _ _ => b
  | _ => []
def tryS : Stmt → List Stmt
  | .Try _ [.ExceptHandler _ _ s _] _ _ _ => s
  | _ => []
def ifA : Stmt → List Stmt
  | .If _ a _ _ => a
  | _ => []
def ifB : Stmt → List Stmt
  | .If _ _ b _ => b
  | _ => []
end BR
namespace BR
open PySem PySem.Spec PyProof.Rows L2

/-! ### plain: the primitives at known data -/
section
variable {α β : Type}
@[simp] theorem rb_ok (a : α) (f : α → R β) : (R.ok a).bind f = f a := rfl
@[simp] theorem rb_exc (c : Str) (f : α → R β) : (R.exc c).bind f = .exc c := rfl
@[simp] theorem rb_stk (f : α → R β) : (R.stk : R α).bind f = .stk := rfl
@[simp] theorem bc_t (t f : β) : bc true t f = t := rfl
@[simp] theorem bc_f (t f : β) : bc false t f = f := rfl
theorem bc_dec {c : Prop} [Decidable c] (t f : β) : bc (decide c) t f = if c then t else f := by
  by_cases h : c <;> simp [h]
end
@[simp] theorem pk_dt (d : PyData) : (Vw.dt d).peek = d := rfl
@[simp] theorem pk_fl (d : List PyData) : (Vw.fl d).peek = .list d := rfl
@[simp] theorem pk_bl (d : List PyData) : (Vw.bl d).peek = .list d := rfl
@[simp] theorem pk_kc (d : PyData) : (Vw.kc d).peek = d := rfl
@[simp] theorem pk_fd (d : KD) : (Vw.fd d).peek = dicD d := rfl
@[simp] theorem pk_bd (d : KD) : (Vw.bd d).peek = dicD d := rfl
@[simp] theorem tD_dt (d : PyData) : (Vw.dt d).toD = .ok d := rfl
@[simp] theorem tD_fl (d : List PyData) : (Vw.fl d).toD = .ok (.list d) := rfl
@[simp] theorem toDs_n : toDs [] = .ok [] := rfl
@[simp] theorem toDs_c (w : Vw) (ws : List Vw) : toDs (w :: ws) = w.toD.bind fun d => (toDs ws).bind fun ds => .ok (d :: ds) := rfl
@[simp] theorem isB_b (b : Bool) : isB (.bool b) = .ok b := rfl
@[simp] theorem gTru_b (b : Bool) : gTru (.bool b) = .ok b := rfl
@[simp] theorem gTru_n : gTru .none = .ok false := rfl
@[simp] theorem gTru_i (i : Int) : gTru (.int i) = .ok (i != 0) := rfl
@[simp] theorem slV_dd (d : PyData) : slotV (.dd d) = .ok (.dt d) := rfl
@[simp] theorem slV_ol (d : List PyData) : slotV (.ol d) = .ok (.bl d) := rfl
@[simp] theorem slV_od (d : KD) : slotV (.od d) = .ok (.bd d) := rfl
@[simp] theorem slO_dt (d : PyData) : slOf (.dt d) = .ok (.dd d) := rfl
@[simp] theorem slO_fl (d : List PyData) : slOf (.fl d) = .ok (.ol d) := rfl
@[simp] theorem slO_fd (d : KD) : slOf (.fd d) = .ok (.od d) := rfl
@[simp] theorem frz_dd (d : PyData) : frzS (.dd d) = .dd d := rfl
@[simp] theorem frz_ol (d : List PyData) : frzS (.ol d) = .dd (.list d) := rfl
@[simp] theorem frz_od (d : KD) : frzS (.od d) = .dd (dicD d) := rfl
@[simp] theorem retW_dt (d : PyData) : retW (.dt d) = .ok (.dt d) := rfl
@[simp] theorem retW_fl (d : List PyData) : retW (.fl d) = .ok (.fl d) := rfl
@[simp] theorem intK_i {β : Type} (i : Int) (k : Int → R β) : intK (.int i) k = k i := rfl
@[simp] theorem datV_d {β : Type} (d : PyData) (k : PyData → R β) : datV (.dt d) k = k d := rfl
@[simp] theorem unp2_t {β : Type} (a b : PyData) (k : PyData → PyData → R β) : unp2 (.tuple [a, b]) k = k a b := rfl
@[simp] theorem unp3_t {β : Type} (a b c : PyData) (k : PyData → PyData → PyData → R β) : unp3 (.tuple [a, b, c]) k = k a b c := rfl
@[simp] theorem ownK_ol {α : Type} (ds : List PyData) (f : List PyData → α) (g : KD → α) (h : α) : ownK (.ol ds) f g h = f ds := rfl
@[simp] theorem ownK_od {α : Type} (ds : KD) (f : List PyData → α) (g : KD → α) (h : α) : ownK (.od ds) f g h = g ds := rfl
@[simp] theorem ownK_dd {α : Type} (d : PyData) (f : List PyData → α) (g : KD → α) (h : α) : ownK (.dd d) f g h = h := rfl
/-! operators -/
@[simp] theorem gB_add (a b : Int) : gBin .Add (.dt (.int a)) (.dt (.int b)) = .ok (.dt (.int (a + b))) := rfl
@[simp] theorem gB_sub (a b : Int) : gBin .Sub (.dt (.int a)) (.dt (.int b)) = .ok (.dt (.int (a - b))) := rfl
theorem gB_mul {a b : Int} (h : CMulX a b) : gBin .Mult (.dt (.int a)) (.dt (.int b)) = .ok (.dt (.int (a * b))) := if_pos h
theorem gB_mod {a b : Int} (h : 0 < b) : gBin .Mod (.dt (.int a)) (.dt (.int b)) = .ok (.dt (.int (a % b))) := if_pos h
theorem gB_div {a b : Int} (h : 0 < b) (h2 : b.natAbs < 2 ^ 64) : gBin .FloorDiv (.dt (.int a)) (.dt (.int b)) = .ok (.dt (.int (a / b))) := if_pos (wide_div h h2 (by decide) (by decide))
theorem log2_lt {a : Nat} {n : Nat} (h : a < 2 ^ n) (hn : 0 < n) : a.log2 < n := PySem.Flt.log2_lt_of hn h
theorem mulX_of {a b : Int} {n m : Nat} (h1 : a.natAbs < 2 ^ n) (h2 : b.natAbs < 2 ^ m) (n0 : 0 < n) (m0 : 0 < m) (h : n + m ≤ 100000000) : CMulX a b := by
  have x := log2_lt h1 n0
  have y := log2_lt h2 m0
  unfold CMulX
  omega
theorem abs_add {a b : Int} {n : Nat} (h1 : a.natAbs < 2 ^ n) (h2 : b.natAbs < 2 ^ n) : (a + b).natAbs < 2 ^ (n + 1) := by
  rw [Nat.pow_succ]
  omega
theorem abs_mul {a b : Int} {n m : Nat} (h1 : a.natAbs < 2 ^ n) (h2 : b.natAbs < 2 ^ m) : (a * b).natAbs < 2 ^ (n + m) := by
  rw [Int.natAbs_mul, Nat.pow_add]
  exact Nat.mul_lt_mul'' h1 h2
theorem abs_up {a : Int} {n m : Nat} (h : a.natAbs < 2 ^ n) (hn : n ≤ m) : a.natAbs < 2 ^ m := Nat.lt_of_lt_of_le h (Nat.pow_le_pow_right (by decide) hn)
@[simp] theorem gC_lt (a b : Int) : gCmp .Lt (.dt (.int a)) (.dt (.int b)) = .ok (.dt (.bool (decide (a < b)))) := rfl
@[simp] theorem gC_le (a b : Int) : gCmp .LtE (.dt (.int a)) (.dt (.int b)) = .ok (.dt (.bool (decide (a ≤ b)))) := rfl
@[simp] theorem gC_gt (a b : Int) : gCmp .Gt (.dt (.int a)) (.dt (.int b)) = .ok (.dt (.bool (decide (b < a)))) := rfl
@[simp] theorem gC_ge (a b : Int) : gCmp .GtE (.dt (.int a)) (.dt (.int b)) = .ok (.dt (.bool (decide (b ≤ a)))) := rfl
/-! equality -/
@[simp] theorem ev_ii (a b : Int) : PyData.eqv (.int a) (.int b) = (a == b) := by rw [PyData.eqv]
@[simp] theorem ev_bb (a b : Bool) : PyData.eqv (.bool a) (.bool b) = (a == b) := by rw [PyData.eqv]
@[simp] theorem ev_ss (a b : Str) : PyData.eqv (.str a) (.str b) = (a == b) := by rw [PyData.eqv]
@[simp] theorem ev_nn : PyData.eqv .none .none = true := by rw [PyData.eqv]
@[simp] theorem ev_in (a : Int) : PyData.eqv (.int a) .none = false := by rw [PyData.eqv]
@[simp] theorem ev_ni (a : Int) : PyData.eqv .none (.int a) = false := by rw [PyData.eqv]
@[simp] theorem ev_ll (a b : List PyData) : PyData.eqv (.list a) (.list b) = PyData.eqvAll a b := by rw [PyData.eqv]
@[simp] theorem ev_tt (a b : List PyData) : PyData.eqv (.tuple a) (.tuple b) = PyData.eqvAll a b := by rw [PyData.eqv]
@[simp] theorem eva_nn : PyData.eqvAll [] [] = true := by rw [PyData.eqvAll]
@[simp] theorem eva_nc (a : PyData) (b : List PyData) : PyData.eqvAll [] (a :: b) = false := by rw [PyData.eqvAll]
@[simp] theorem eva_cn (a : PyData) (b : List PyData) : PyData.eqvAll (a :: b) [] = false := by rw [PyData.eqvAll]
@[simp] theorem eva_cc (a b : PyData) (as bs : List PyData) : PyData.eqvAll (a :: as) (b :: bs) = (PyData.eqv a b && PyData.eqvAll as bs) := by rw [PyData.eqvAll]
theorem eva_nil (a : List PyData) : PyData.eqvAll a [] = a.isEmpty := by cases a <;> simp
theorem eva_map {α : Type} [BEq α] (f : α → PyData) (h : ∀ x y, PyData.eqv (f x) (f y) = (x == y)) : ∀ xs ys : List α, PyData.eqvAll (xs.map f) (ys.map f) = (xs == ys)
  | [], [] => by simp
  | [], y :: ys => by simp
  | x :: xs, [] => by simp
  | x :: xs, y :: ys => by
    rw [List.map_cons, List.map_cons, eva_cc, h, eva_map f h xs ys]
    rfl
@[simp] theorem fin_n (n : Nat) : fin n .none = true := by cases n <;> rfl
@[simp] theorem fin_b (n : Nat) (b : Bool) : fin n (.bool b) = true := by cases n <;> rfl
@[simp] theorem fin_i (n : Nat) (i : Int) : fin n (.int i) = true := by cases n <;> rfl
@[simp] theorem fin_s (n : Nat) (x : Str) : fin n (.str x) = true := by cases n <;> rfl
@[simp] theorem fin_l (n : Nat) (xs : List PyData) : fin (n + 1) (.list xs) = xs.all (fin n) := rfl
@[simp] theorem fin_t (n : Nat) (xs : List PyData) : fin (n + 1) (.tuple xs) = xs.all (fin n) := rfl
@[simp] theorem fin9_l (xs : List PyData) : fin 9 (.list xs) = xs.all (fin 8) := rfl
@[simp] theorem fin9_t (xs : List PyData) : fin 9 (.tuple xs) = xs.all (fin 8) := rfl
@[simp] theorem fin8_l (xs : List PyData) : fin 8 (.list xs) = xs.all (fin 7) := rfl
@[simp] theorem fin8_t (xs : List PyData) : fin 8 (.tuple xs) = xs.all (fin 7) := rfl
@[simp] theorem fin7_l (xs : List PyData) : fin 7 (.list xs) = xs.all (fin 6) := rfl
@[simp] theorem fin7_t (xs : List PyData) : fin 7 (.tuple xs) = xs.all (fin 6) := rfl
@[simp] theorem fin6_l (xs : List PyData) : fin 6 (.list xs) = xs.all (fin 5) := rfl
@[simp] theorem fin6_t (xs : List PyData) : fin 6 (.tuple xs) = xs.all (fin 5) := rfl
@[simp] theorem fin5_l (xs : List PyData) : fin 5 (.list xs) = xs.all (fin 4) := rfl
@[simp] theorem fin5_t (xs : List PyData) : fin 5 (.tuple xs) = xs.all (fin 4) := rfl
@[simp] theorem fin4_l (xs : List PyData) : fin 4 (.list xs) = xs.all (fin 3) := rfl
@[simp] theorem fin4_t (xs : List PyData) : fin 4 (.tuple xs) = xs.all (fin 3) := rfl
theorem fin_map {α : Type} (f : α → PyData) (n : Nat) (h : ∀ x, fin n (f x) = true) (xs : List α) : (xs.map f).all (fin n) = true := by
  rw [List.all_eq_true]
  intro d hd
  obtain ⟨x, _, rfl⟩ := List.mem_map.mp hd
  exact h x
@[simp] theorem fin_ints (n : Nat) (xs : List Int) : (xs.map PyData.int).all (fin n) = true := fin_map _ _ (fun _ => fin_i _ _) xs
@[simp] theorem fin_bools (n : Nat) (xs : List Bool) : (xs.map PyData.bool).all (fin n) = true := fin_map _ _ (fun _ => fin_b _ _) xs
@[simp] theorem gC_eq {a b : Vw} (h : fin 9 a.peek = true ∧ fin 9 b.peek = true) : gCmp .Eq a b = .ok (.dt (.bool (PyData.eqv a.peek b.peek))) := if_pos h
@[simp] theorem gC_ne {a b : Vw} (h : fin 9 a.peek = true ∧ fin 9 b.peek = true) : gCmp .NotEq a b = .ok (.dt (.bool (!PyData.eqv a.peek b.peek))) := if_pos h
@[simp] theorem gC_is_bb (a b : Bool) : gCmp .Is (.dt (.bool a)) (.dt (.bool b)) = .ok (.dt (.bool (decide (a = b)))) := by
  show R.ok (Vw.dt (.bool (xor false (decide (a = b))))) = _
  rw [Bool.false_xor]
@[simp] theorem gC_isn_bb (a b : Bool) : gCmp .IsNot (.dt (.bool a)) (.dt (.bool b)) = .ok (.dt (.bool (!decide (a = b)))) := by
  show R.ok (Vw.dt (.bool (xor true (decide (a = b))))) = _
  rw [Bool.true_xor]
theorem gC_in_list (a : Vw) (xs : List PyData) (b : Vw) (hb : b.peek = .list xs) (h1 : fin 9 a.peek = true) (h2 : xs.all (fin 9) = true) : gCmp .In a b = .ok (.dt (.bool (xs.any fun y => PyData.eqv y a.peek))) := by
  show gIn false a b = _
  unfold gIn
  rw [hb]
  dsimp only
  rw [if_pos ⟨h1, h2⟩, Bool.false_xor]
theorem gC_in_tuple (a : Vw) (xs : List PyData) (b : Vw) (hb : b.peek = .tuple xs) (h1 : fin 9 a.peek = true) (h2 : xs.all (fin 9) = true) : gCmp .In a b = .ok (.dt (.bool (xs.any fun y => PyData.eqv y a.peek))) := by
  show gIn false a b = _
  unfold gIn
  rw [hb]
  dsimp only
  rw [if_pos ⟨h1, h2⟩, Bool.false_xor]
@[simp] theorem gC_in_dt {a : Vw} {xs : List PyData} (h : fin 9 a.peek = true ∧ xs.all (fin 9) = true) : gCmp .In a (.dt (.tuple xs)) = .ok (.dt (.bool (xs.any fun y => PyData.eqv y a.peek))) := gC_in_tuple a xs _ rfl h.1 h.2
/-! built-ins -/
@[simp] theorem gLen_t (w : Vw) (xs : List PyData) (h : w.peek = .tuple xs) : on1 gLen [w] = .ok (.dt (.int (xs.length : Nat))) := by
  show gLen w.peek = _
  rw [h] <;> rfl
@[simp] theorem gLen_dt (xs : List PyData) : on1 gLen [.dt (.tuple xs)] = .ok (.dt (.int (xs.length : Nat))) := rfl
@[simp] theorem gLen_dl (xs : List PyData) : on1 gLen [.dt (.list xs)] = .ok (.dt (.int (xs.length : Nat))) := rfl
@[simp] theorem gLen_fl (xs : List PyData) : on1 gLen [.fl xs] = .ok (.dt (.int (xs.length : Nat))) := rfl
@[simp] theorem gLen_bl (xs : List PyData) : on1 gLen [.bl xs] = .ok (.dt (.int (xs.length : Nat))) := rfl
theorem gAll_fl {xs : List PyData} {bs : List Bool} (h : xs = bs.map .bool) : on1 (gAll false) [.fl xs] = .ok (.dt (.bool (bs.all id))) := by
  subst h
  show gAll false (.list (bs.map .bool)) = _
  unfold gAll
  dsimp only
  rw [blsOf_map]
  rfl
theorem gAny_fl {xs : List PyData} {bs : List Bool} (h : xs = bs.map .bool) : on1 (gAll true) [.fl xs] = .ok (.dt (.bool (bs.any id))) := by
  subst h
  show gAll true (.list (bs.map .bool)) = _
  unfold gAll
  dsimp only
  rw [blsOf_map]
  rfl
theorem gSum_fl {xs : List PyData} {ns : List Int} (h : xs = ns.map .int) : on1 gSum [.fl xs] = .ok (.dt (.int ns.sum)) := by
  subst h
  show gSum (.list (ns.map .int)) = _
  unfold gSum
  dsimp only
  rw [intsOf_map]
@[simp] theorem gMM_i (mx : Bool) (a b : Int) : gMM mx [.dt (.int a), .dt (.int b)] = .ok (.dt (.int (if mx then max a b else min a b))) := by
  show R.ok (Vw.dt (.int (if mx then (if b > a then b else a) else (if b < a then b else a)))) = _
  cases mx
  · simp only [Bool.false_eq_true, if_false]
    congr 3
    omega
  · simp only [if_true]
    congr 3
    omega
@[simp] theorem gTup_fl (xs : List PyData) : gTup [.fl xs] = .ok (.dt (.tuple xs)) := rfl
@[simp] theorem gTup_bl (xs : List PyData) : gTup [.bl xs] = .ok (.dt (.tuple xs)) := rfl
@[simp] theorem gTup_dl (xs : List PyData) : gTup [.dt (.list xs)] = .ok (.dt (.tuple xs)) := rfl
@[simp] theorem gIsi_int_i (i : Int) : gIsi "int" (.int i) = .ok (.dt (.bool true)) := by kernel_rfl
@[simp] theorem gIsi_bool_i (i : Int) : gIsi "bool" (.int i) = .ok (.dt (.bool false)) := by kernel_rfl
@[simp] theorem gIsi_tup_t (xs : List PyData) : gIsi "tuple" (.tuple xs) = .ok (.dt (.bool true)) := by kernel_rfl
/-! items, slices -/
theorem atI_nat {α : Type} (xs : List α) (i : Nat) : atI xs (i : Int) = xs[i]? := by
  unfold atI ixN
  rw [if_pos (by omega)]
  by_cases h : i < xs.length
  · rw [if_pos (by omega)]
    simp
  · rw [if_neg (by omega)]
    simp
    omega
theorem gIx_t {xs : List PyData} {i : Int} {d : PyData} (h : atI xs i = some d) : gIxV (.dt (.tuple xs)) (.dt (.int i)) = .ok (.dt d) := by
  show (match atI xs i with | some d => R.ok (Vw.dt d) | none => .stk) = _
  rw [h]
theorem gIx_dl {xs : List PyData} {i : Int} {d : PyData} (h : atI xs i = some d) : gIxV (.dt (.list xs)) (.dt (.int i)) = .ok (.dt d) := by
  show (match atI xs i with | some d => R.ok (Vw.dt d) | none => .stk) = _
  rw [h]
theorem gIx_fl {xs : List PyData} {i : Int} {d : PyData} (h : atI xs i = some d) : gIxV (.fl xs) (.dt (.int i)) = .ok (.dt d) := by
  show (match atI xs i with | some d => R.ok (Vw.dt d) | none => .stk) = _
  rw [h]
theorem gIx_bl {xs : List PyData} {i : Int} {d : PyData} (h : atI xs i = some d) : gIxV (.bl xs) (.dt (.int i)) = .ok (.dt d) := by
  show (match atI xs i with | some d => R.ok (Vw.dt d) | none => .stk) = _
  rw [h]
@[simp] theorem gIx0_b (x : PyData) (xs : List PyData) : gIxV (.bl (x :: xs)) (.dt (.int 0)) = .ok (.dt x) := gIx_bl (by unfold atI ixN; simp)
@[simp] theorem gIx0_f (x : PyData) (xs : List PyData) : gIxV (.fl (x :: xs)) (.dt (.int 0)) = .ok (.dt x) := gIx_fl (by unfold atI ixN; simp)
@[simp] theorem gIx0_l (x : PyData) (xs : List PyData) : gIxV (.dt (.list (x :: xs))) (.dt (.int 0)) = .ok (.dt x) := gIx_dl (by unfold atI ixN; simp)
@[simp] theorem gIx0_t (x : PyData) (xs : List PyData) : gIxV (.dt (.tuple (x :: xs))) (.dt (.int 0)) = .ok (.dt x) := gIx_t (by unfold atI ixN; simp)
@[simp] theorem gIx3_0 (a b c : PyData) : gIxV (.dt (.tuple [a, b, c])) (.dt (.int 0)) = .ok (.dt a) := rfl
@[simp] theorem gIx3_1 (a b c : PyData) : gIxV (.dt (.tuple [a, b, c])) (.dt (.int 1)) = .ok (.dt b) := rfl
@[simp] theorem gIx3_2 (a b c : PyData) : gIxV (.dt (.tuple [a, b, c])) (.dt (.int 2)) = .ok (.dt c) := rfl
theorem cut_from {α : Type} (xs : List α) {i : Int} (h : 0 ≤ i) : cutL xs (some i) none = xs.drop i.toNat := by
  obtain ⟨n, rfl⟩ := Int.eq_ofNat_of_zero_le h
  unfold cutL
  rw [HT.sIx_nat, HT.sIx_none, Int.toNat_natCast]
  rcases Nat.le_total n xs.length with h | h
  · rw [Nat.min_eq_left h, List.take_of_length_le (by rw [List.length_drop]; exact Nat.le_refl _)]
  · rw [Nat.min_eq_right h, List.drop_length, List.drop_of_length_le h, List.take_nil]
theorem cut_to {α : Type} (xs : List α) {i : Int} (h : 0 ≤ i) : cutL xs none (some i) = xs.take i.toNat := by
  obtain ⟨n, rfl⟩ := Int.eq_ofNat_of_zero_le h
  unfold cutL
  rw [HT.sIx_nat, HT.sIx_none, Int.toNat_natCast, List.drop_zero, Nat.sub_zero]
  rcases Nat.le_total n xs.length with h | h
  · rw [Nat.min_eq_left h]
  · rw [Nat.min_eq_right h, List.take_length, List.take_of_length_le h]
@[simp] theorem gSl_t (xs : List PyData) (lo hi : Option Int) : gSl (.dt (.tuple xs)) lo hi = .ok (.dt (.tuple (cutL xs lo hi))) := rfl
@[simp] theorem gRev_t (xs : List PyData) : gRev (.dt (.tuple xs)) = .ok (.dt (.tuple xs.reverse)) := rfl
@[simp] theorem itV_t (b : Bool) (xs : List PyData) : itV b (.dt (.tuple xs)) = .ok xs := rfl
@[simp] theorem itV_l (b : Bool) (xs : List PyData) : itV b (.dt (.list xs)) = .ok xs := rfl
@[simp] theorem itV_f (b : Bool) (xs : List PyData) : itV b (.fl xs) = .ok xs := rfl
@[simp] theorem itV_b (xs : List PyData) : itV false (.bl xs) = .ok xs := rfl
@[simp] theorem zp_t {β : Type} (xs ys : List PyData) (k : List PyData → R β) : zp (.tuple xs) (.tuple ys) k = k (zipD xs ys) := rfl
@[simp] theorem zpE_t (kp : Bool) (xs ys : List PyData) : zpE kp (.dt (.tuple xs)) (.dt (.tuple ys)) = .ok (zipD xs ys) := rfl
@[simp] theorem enV_t (kp : Bool) (xs : List PyData) : enV kp (.dt (.tuple xs)) = .ok (enumD xs) := rfl
@[simp] theorem enV_b (xs : List PyData) : enV false (.bl xs) = .ok (enumD xs) := rfl
@[simp] theorem enV_l (kp : Bool) (xs : List PyData) : enV kp (.dt (.list xs)) = .ok (enumD xs) := rfl
theorem rgOk_i {j : Int} (h1 : -500000000 < j) (h2 : j < 500000000) : rgOk j = true := by
  unfold rgOk
  refine Nat.ble_eq_true_of_le ?_
  have e : (2 : Nat) ^ 29 = 536870912 := by decide
  have := log2_lt (a := j.natAbs) (n := 29) (by omega) (by decide)
  omega
theorem rng1_i {β : Type} {j : Int} (h1 : -500000000 < j) (h2 : j < 500000000) (k : List PyData → R β) : rng1 (.int j) k = k (rgD 0 j) := if_pos (rgOk_i h1 h2)
theorem rng2_i {β : Type} {i j : Int} (a1 : -500000000 < i) (a2 : i < 500000000) (h1 : -500000000 < j) (h2 : j < 500000000) (k : List PyData → R β) : rng2 (.int i) (.int j) k = k (rgD i j) := if_pos ⟨rgOk_i a1 a2, rgOk_i h1 h2⟩
theorem rgD_map (n : Nat) : rgD 0 (n : Int) = (List.range n).map fun (i : Nat) => PyData.int (i : Int) := by
  unfold rgD
  have : ((n : Int) - 0).toNat = n := by omega
  rw [this]
  apply List.map_congr_left
  intro a _
  rw [Int.zero_add]
/-! comprehensions, loops -/
theorem lcL_filter {α : Type} (e : α → PyData) (p : α → Bool) (g : α → PyData) {f : PyData → R (Option PyData)} : ∀ as : List α, (∀ a ∈ as, f (e a) = .ok (if p a = true then some (g a) else none)) → lcL f (as.map e) = .ok ((as.filter p).map g)
  | [], _ => rfl
  | a :: as, h => by
    rw [List.map_cons]
    unfold lcL
    rw [h a List.mem_cons_self, lcL_filter e p g as fun b hb => h b (List.mem_cons_of_mem _ hb)]
    by_cases hp : p a = true
    · simp [hp]
    · simp [hp]
theorem lcL_map {α : Type} (e : α → PyData) (g : α → PyData) {f : PyData → R (Option PyData)} (as : List α) (h : ∀ a ∈ as, f (e a) = .ok (some (g a))) : lcL f (as.map e) = .ok (as.map g) := by
  rw [lcL_filter e (fun _ => true) g as (fun a ha => by rw [h a ha]; rfl)]
  rw [List.filter_eq_self.mpr fun _ _ => rfl]
/-- some values, each told -/
theorem lcL_ex {α : Type} (e : α → PyData) (P : α → PyData → Prop) {f : PyData → R (Option PyData)} : ∀ as : List α, (∀ a ∈ as, ∃ d, f (e a) = .ok (some d) ∧ P a d) → ∃ ds, lcL f (as.map e) = .ok ds ∧ ds.length = as.length ∧ ∀ d ∈ ds, ∃ a ∈ as, P a d
  | [], _ => ⟨[], rfl, rfl, fun _ h => nomatch h⟩
  | a :: as, h => by
    obtain ⟨d, h1, h2⟩ := h a List.mem_cons_self
    obtain ⟨ds, h3, h4, h5⟩ := lcL_ex e P as fun b hb => h b (List.mem_cons_of_mem _ hb)
    refine ⟨d :: ds, ?_, by rw [List.length_cons, List.length_cons, h4], fun x hx => ?_⟩
    · rw [List.map_cons]
      unfold lcL
      rw [h1, h3]
      rfl
    · rcases List.mem_cons.mp hx with q | q
      · subst q; exact ⟨a, List.mem_cons_self, h2⟩
      · obtain ⟨b, hb, hp⟩ := h5 x q
        exact ⟨b, List.mem_cons_of_mem _ hb, hp⟩
@[simp] theorem wB_ok' {α : Type} (a : α) : wB (R.ok a) = .ok a := rfl
theorem forC_inv {α : Type} (e : α → PyData) (P : Env → Prop) {f : PyData → Env → (Env → R Vw) → R Vw} {kn : Env → R Vw} : ∀ (as : List α) (ρ : Env), P ρ → (∀ a ∈ as, ∀ ρ, P ρ → ∃ ρ', P ρ' ∧ ∀ k, f (e a) ρ k = k ρ') → ∃ ρ', P ρ' ∧ forC f (as.map e) ρ kn = kn ρ'
  | [], ρ, h, _ => ⟨ρ, h, rfl⟩
  | a :: as, ρ, h, hs => by
    obtain ⟨ρ1, h1, h2⟩ := hs a List.mem_cons_self ρ h
    obtain ⟨ρ2, h3, h4⟩ := forC_inv e P (f := f) (kn := kn) as ρ1 h1 fun b hb => hs b (List.mem_cons_of_mem _ hb)
    refine ⟨ρ2, h3, ?_⟩
    rw [List.map_cons]
    unfold forC
    rw [h2]
    exact h4
theorem whileC_inv (P : Nat → Env → Prop) {t : Env → (Bool → R Vw) → R Vw} {f : Env → (Env → R Vw) → R Vw} {kn : Env → R Vw} (hs : ∀ m ρ, P m ρ → (∀ k, t ρ k = k false) ∨ ((∀ k, t ρ k = k true) ∧ ∃ m' ρ', m = m' + 1 ∧ P m' ρ' ∧ ∀ k, f ρ k = k ρ')) : ∀ (m n : Nat) (ρ : Env), P m ρ → m < n → ∃ m' ρ', P m' ρ' ∧ whileC t f n ρ kn = kn ρ'
  | m, 0, ρ, _, hn => absurd hn (Nat.not_lt_zero _)
  | m, n + 1, ρ, h, hn => by
    rcases hs m ρ h with q | ⟨q, m', ρ', em, h', q2⟩
    · refine ⟨m, ρ, h, ?_⟩
      unfold whileC
      rw [q]
    · subst em
      obtain ⟨m2, ρ2, h2, e2⟩ := whileC_inv P hs (kn := kn) m' n ρ' h' (by omega)
      refine ⟨m2, ρ2, h2, ?_⟩
      unfold whileC
      rw [q]
      dsimp only
      rw [q2]
      exact e2
end BR
namespace BR
open PySem PySem.Spec PyProof.Rows L2
/-! ### rules, rows -/
abbrev RuT := Int × Int × Int
def ruD (q : RuT) : PyData := .tuple [.int q.1, .int q.2.1, .int q.2.2]
def roD (r : List Int) : PyData := .tuple (r.map .int)
def rsD (rs : List RuT) : PyData := .tuple (rs.map ruD)
/-- many, window, band -/
structure Ru (q : RuT) : Prop where
  w1 : 1 ≤ q.2.1
  w4 : q.2.1 ≤ 4
  m1 : 1 ≤ q.1
  mw : q.1 ≤ q.2.1
  b1 : 1 ≤ q.2.2
  b3 : q.2.2 ≤ 3
structure Ro (r : List Int) : Prop where
  len : r.length ≤ 30
  val : ∀ v ∈ r, -3 ≤ v ∧ v ≤ 3
/-- the values that a window sees -/
def lst (w : Int) (r : List Int) : List Int := r.drop (r.length - w.toNat)
def nAb (q : RuT) (r : List Int) : Nat := ((lst q.2.1 r).filter fun v => decide (q.2.2 ≤ v)).length
def nBe (q : RuT) (r : List Int) : Nat := ((lst q.2.1 r).filter fun v => decide (v ≤ 0 - q.2.2)).length
def abv (q : RuT) (r : List Int) : Bool := decide (q.1 ≤ (nAb q r : Int))
def blw (q : RuT) (r : List Int) : Bool := decide (q.1 ≤ (nBe q r : Int))
def rng (q : RuT) (r : List Int) : Bool := abv q r || blw q r
/-- the law's own view of the window -/
def lstR (w : Int) (r : List Int) : List Int := r.reverse.take w.toNat
theorem lst_rev (w : Int) (r : List Int) : lst w r = (lstR w r).reverse := by
  unfold lst lstR
  rw [List.reverse_take, List.length_reverse, List.reverse_reverse]
theorem len_filter_rev {α : Type} (p : α → Bool) (xs : List α) : (xs.reverse.filter p).length = (xs.filter p).length := by
  rw [List.filter_reverse, List.length_reverse]
theorem neg_filter {b : Int} (xs : List Int) : ((xs.map fun v => 0 - v).filter fun v => decide (b ≤ v)).length = (xs.filter fun v => decide (v ≤ 0 - b)).length := by
  rw [List.filter_map, List.length_map]
  congr 2
  funext v
  simp only [Function.comp]
  exact decide_eq_decide.mpr (by omega)
theorem lst_map (f : Int → Int) (w : Int) (r : List Int) : lst w (r.map f) = (lst w r).map f := by
  unfold lst
  rw [List.length_map, List.map_drop]
def opp (r : List Int) : List Int := r.map fun v => 0 - v
theorem opp_opp (r : List Int) : opp (opp r) = r := by
  unfold opp
  rw [List.map_map]
  have : ((fun v : Int => 0 - v) ∘ fun v => 0 - v) = id := by
    funext v
    simp only [Function.comp, id]
    omega
  rw [this, List.map_id]
theorem abv_opp (q : RuT) (r : List Int) : abv q (opp r) = blw q r := by
  unfold abv blw nAb nBe opp
  rw [lst_map, neg_filter]
theorem blw_opp (q : RuT) (r : List Int) : blw q (opp r) = abv q r := by
  rw [← abv_opp, opp_opp]
theorem rng_opp (q : RuT) (r : List Int) : rng q (opp r) = rng q r := by
  unfold rng
  rw [abv_opp, blw_opp, Bool.or_comm]
theorem Ro.opp {r : List Int} (h : Ro r) : Ro (opp r) := by
  refine ⟨by unfold BR.opp; rw [List.length_map]; exact h.len, fun v hv => ?_⟩
  unfold BR.opp at hv
  obtain ⟨u, hu, rfl⟩ := List.mem_map.mp hv
  have := h.val u hu
  omega
/-- more values reach the band: still an alarm -/
theorem filter_mono {α : Type} {p q : α → Bool} {xs : List α} (h : ∀ x ∈ xs, p x = true → q x = true) : (xs.filter p).length ≤ (xs.filter q).length := by
  induction xs with
  | nil => simp
  | cons x xs ih =>
    have ih := ih fun y hy => h y (List.mem_cons_of_mem _ hy)
    by_cases hp : p x = true
    · rw [List.filter_cons_of_pos hp, List.filter_cons_of_pos (h x List.mem_cons_self hp), List.length_cons, List.length_cons]
      omega
    · rw [List.filter_cons_of_neg hp]
      by_cases hq : q x = true
      · rw [List.filter_cons_of_pos hq, List.length_cons]
        omega
      · rw [List.filter_cons_of_neg hq]
        exact ih
theorem lst_mem {w : Int} {r : List Int} {v : Int} (h : v ∈ lst w r) : v ∈ r := List.mem_of_mem_drop h
@[simp] theorem fin_ru (n : Nat) (q : RuT) : fin (n + 2) (ruD q) = true := by simp [ruD]
theorem ints3 (q : RuT) : ruD q = .tuple ([q.1, q.2.1, q.2.2].map .int) := rfl
@[simp] theorem gIx_ru0 (q : RuT) : gIxV (.dt (ruD q)) (.dt (.int 0)) = .ok (.dt (.int q.1)) := rfl
@[simp] theorem gIx_ru1 (q : RuT) : gIxV (.dt (ruD q)) (.dt (.int 1)) = .ok (.dt (.int q.2.1)) := rfl
@[simp] theorem gIx_ru2 (q : RuT) : gIxV (.dt (ruD q)) (.dt (.int 2)) = .ok (.dt (.int q.2.2)) := rfl
@[simp] theorem itV_ro (b : Bool) (r : List Int) : itV b (.dt (roD r)) = .ok (r.map .int) := rfl
@[simp] theorem itV_rs (b : Bool) (r : List RuT) : itV b (.dt (rsD r)) = .ok (r.map ruD) := rfl
@[simp] theorem gLen_ro (r : List Int) : on1 gLen [.dt (roD r)] = .ok (.dt (.int (r.length : Nat))) := by
  show R.ok (Vw.dt (.int ((r.map PyData.int).length : Nat))) = _
  rw [List.length_map]
@[simp] theorem gLen_rs (r : List RuT) : on1 gLen [.dt (rsD r)] = .ok (.dt (.int (r.length : Nat))) := by
  show R.ok (Vw.dt (.int ((r.map ruD).length : Nat))) = _
  rw [List.length_map]
/-- the values twice as far -/
def wid (r : List Int) : List Int := r.map fun v => max (-3) (min 3 (2 * v))
theorem Ro.wid {r : List Int} (h : Ro r) : Ro (wid r) := by
  refine ⟨by unfold BR.wid; rw [List.length_map]; exact h.len, fun v hv => ?_⟩
  unfold BR.wid at hv
  obtain ⟨u, hu, rfl⟩ := List.mem_map.mp hv
  omega
theorem rng_iff {q : RuT} {r : List Int} : rng q r = true ↔ q.1 ≤ (nAb q r : Int) ∨ q.1 ≤ (nBe q r : Int) := by
  unfold rng abv blw
  rw [Bool.or_eq_true, decide_eq_true_eq, decide_eq_true_eq]
theorem rng_wid {q : RuT} {r : List Int} (h : Ru q) (hr : rng q r = true) : rng q (wid r) = true := by
  have b1 := h.b1
  have b3 := h.b3
  rw [rng_iff] at hr ⊢
  have ab : nAb q r ≤ nAb q (wid r) := by
    unfold nAb wid
    rw [lst_map, List.filter_map, List.length_map]
    refine filter_mono fun v _ hp => ?_
    simp only [Function.comp, decide_eq_true_eq] at hp ⊢
    omega
  have be : nBe q r ≤ nBe q (wid r) := by
    unfold nBe wid
    rw [lst_map, List.filter_map, List.length_map]
    refine filter_mono fun v _ hp => ?_
    simp only [Function.comp, decide_eq_true_eq] at hp ⊢
    omega
  omega
theorem rng_band {m w b c : Int} {r : List Int} (h : b ≤ c) (hr : rng (m, w, c) r = true) : rng (m, w, b) r = true := by
  rw [rng_iff] at hr ⊢
  have ab : nAb (m, w, c) r ≤ nAb (m, w, b) r := by
    unfold nAb
    refine filter_mono fun v _ hp => ?_
    simp only [decide_eq_true_eq] at hp ⊢
    omega
  have be : nBe (m, w, c) r ≤ nBe (m, w, b) r := by
    unfold nBe
    refine filter_mono fun v _ hp => ?_
    simp only [decide_eq_true_eq] at hp ⊢
    omega
  omega
end BR
namespace BR
open PySem PySem.Spec PyProof.Rows L2
/-! ### sets of rules -/
def l3 (q : RuT) : List Int := [q.1, q.2.1, q.2.2]
theorem ruD_key (q : RuT) : ruD q = keyD (l3 q) := rfl
structure Rs (rs : List RuT) : Prop where
  n1 : 1 ≤ rs.length
  n4 : rs.length ≤ 4
  ok : ∀ q ∈ rs, Ru q
  srt : rs.Pairwise fun a b => HT.lexLt (l3 a) (l3 b) = true
theorem pair_next {α : Type} {r : α → α → Prop} : ∀ {xs : List α}, xs.Pairwise r → ∀ p ∈ xs.zip (xs.drop 1), r p.1 p.2
  | [], _, p, hp => nomatch hp
  | [x], _, p, hp => nomatch hp
  | x :: y :: r, h, p, hp => by
    obtain ⟨h1, h2⟩ := List.pairwise_cons.mp h
    rw [List.drop_succ_cons, List.drop_zero, List.zip_cons_cons] at hp
    rcases List.mem_cons.mp hp with q | q
    · subst q
      exact h1 y List.mem_cons_self
    · exact pair_next h2 p (by rw [List.drop_succ_cons, List.drop_zero]; exact q)
theorem gC_lt_ru (a b : RuT) : gCmp .Lt (.dt (ruD a)) (.dt (ruD b)) = .ok (.dt (.bool (HT.lexLt (l3 a) (l3 b)))) := rfl
theorem zipD_ru (as bs : List RuT) : zipD (as.map ruD) (bs.map ruD) = (as.zip bs).map fun p => PyData.tuple [ruD p.1, ruD p.2] := by
  unfold zipD
  rw [List.zip_map, List.map_map]
  rfl
theorem Rs.take {rs : List RuT} (h : Rs rs) {n : Nat} (hn : 1 ≤ n) : Rs (rs.take n) := by
  have := h.n1
  have := h.n4
  exact ⟨by rw [List.length_take]; omega, by rw [List.length_take]; omega, fun q hq => h.ok q (List.mem_of_mem_take hq), h.srt.sublist (List.take_sublist _ _)⟩
def anyR (rs : List RuT) (r : List Int) : Bool := rs.any fun q => rng q r
/-- the places at which rules ring -/
def almN (rs : List RuT) (r : List Int) : List Nat := (List.range r.length).filter fun p => anyR rs (r.take (p + 1))
def nD (xs : List Nat) : List PyData := xs.map fun (p : Nat) => PyData.int (p : Int)
theorem fin_nD (n : Nat) (xs : List Nat) : (nD xs).all (fin n) = true := fin_map _ _ (fun _ => fin_i _ _) xs
theorem fin_ruDs (n : Nat) (xs : List RuT) : (xs.map ruD).all (fin (n + 2)) = true := fin_map _ _ (fun _ => fin_ru _ _) xs
theorem eqv_nD (xs ys : List Nat) : PyData.eqvAll (nD xs) (nD ys) = (xs == ys) := eva_map _ (fun a b => by
  rw [ev_ii]
  by_cases h : a = b
  · subst h; simp
  · have : ¬ ((a : Int) = (b : Int)) := by omega
    rw [beq_eq_false_iff_ne.mpr this, beq_eq_false_iff_ne.mpr h]) xs ys
theorem eqv_ints (xs ys : List Int) : PyData.eqvAll (xs.map .int) (ys.map .int) = (xs == ys) := eva_map _ (fun a b => ev_ii a b) xs ys
theorem eqv_ru (a b : RuT) : PyData.eqv (ruD a) (ruD b) = (a == b) := by
  obtain ⟨a1, a2, a3⟩ := a
  obtain ⟨b1, b2, b3⟩ := b
  show PyData.eqv (.tuple [.int a1, .int a2, .int a3]) (.tuple [.int b1, .int b2, .int b3]) = _
  simp only [ev_tt, eva_cc, eva_nn, ev_ii, Bool.and_true]
  rfl
theorem eqv_rus (xs ys : List RuT) : PyData.eqvAll (xs.map ruD) (ys.map ruD) = (xs == ys) := eva_map _ eqv_ru xs ys
theorem take_map_ro (r : List Int) (n : Nat) : (r.map PyData.int).take n = (r.take n).map .int := by rw [List.map_take]
theorem Ro.take {r : List Int} (h : Ro r) (n : Nat) : Ro (r.take n) := ⟨by have := h.len; rw [List.length_take]; omega, fun v hv => h.val v (List.mem_of_mem_take hv)⟩
theorem Ro.drop {r : List Int} (h : Ro r) (n : Nat) : Ro (r.drop n) := ⟨by have := h.len; rw [List.length_drop]; omega, fun v hv => h.val v (List.mem_of_mem_drop hv)⟩
theorem nodup_len {α : Type} [DecidableEq α] : ∀ {l m : List α}, l.Nodup → (∀ x ∈ l, x ∈ m) → l.length ≤ m.length
  | [], _, _, _ => Nat.zero_le _
  | a :: l, m, hn, hs => by
    obtain ⟨h1, h2⟩ := List.pairwise_cons.mp hn
    have ha := hs a List.mem_cons_self
    have ih := nodup_len (l := l) (m := m.erase a) h2 fun x hx => (List.mem_erase_of_ne (fun e => h1 x hx e.symm)).mpr (hs x (List.mem_cons_of_mem _ hx))
    rw [List.length_erase_of_mem ha] at ih
    have := List.length_pos_of_mem ha
    rw [List.length_cons]
    omega
/-- few: all in all -/
theorem srt_rules0 {ks : List RuT} (h : ∀ q ∈ ks, Ru q) (hn : ks ≠ []) : ∃ rs : List RuT, rs.Pairwise (fun a b => HT.lexLt (l3 a) (l3 b) = true) ∧ srtSet (ks.map l3) = rs.map l3 ∧ (∀ q, q ∈ rs ↔ q ∈ ks) := by
  have bd : ∀ q ∈ ks, (l3 q).length = 3 ∧ TS.Bd 64 (l3 q) := fun q hq => by
    obtain ⟨a1, a2, a3, a4, a5, a6⟩ := h q hq
    refine ⟨rfl, fun m hm => ?_⟩
    unfold l3 at hm
    simp only [List.mem_cons, List.not_mem_nil, or_false] at hm
    omega
  have bd' : ∀ x ∈ ks.map l3, x.length = 3 ∧ TS.Bd 64 x := fun x hx => by
    obtain ⟨q, hq, rfl⟩ := List.mem_map.mp hx
    exact bd q hq
  have inj : ∀ a b : RuT, l3 a = l3 b → a = b := fun a b e => by
    obtain ⟨a1, a2, a3⟩ := a
    obtain ⟨b1, b2, b3⟩ := b
    unfold l3 at e
    simp only [List.cons.injEq, and_true] at e
    obtain ⟨e1, e2, e3⟩ := e
    subst e1 e2 e3
    rfl
  -- the sorted ones are rules
  have back : ∀ l : List (List Int), (∀ x ∈ l, ∃ q ∈ ks, l3 q = x) → ∃ rs : List RuT, l = rs.map l3 ∧ ∀ q ∈ rs, q ∈ ks := by
    intro l
    induction l with
    | nil => exact fun _ => ⟨[], rfl, fun _ h => nomatch h⟩
    | cons x l ih =>
      intro hx
      obtain ⟨q, hq, rfl⟩ := hx x List.mem_cons_self
      obtain ⟨rs, rfl, hr⟩ := ih fun y hy => hx y (List.mem_cons_of_mem _ hy)
      exact ⟨q :: rs, rfl, fun z hz => (List.mem_cons.mp hz).elim (fun e => e ▸ hq) (hr z)⟩
  obtain ⟨rs, e, hr⟩ := back (srtSet (ks.map l3)) fun x hx => by
    obtain ⟨q, hq, e⟩ := List.mem_map.mp (srtSet_sub hx)
    exact ⟨q, hq, e⟩
  have iff : ∀ q, q ∈ rs ↔ q ∈ ks := fun q => ⟨hr q, fun hq => by
    have := srtSet_mem bd' (List.mem_map.mpr ⟨q, hq, rfl⟩)
    rw [e] at this
    obtain ⟨q', hq', e'⟩ := List.mem_map.mp this
    rw [← inj _ _ e']
    exact hq'⟩
  have srt := srtSet_srt (ks.map l3)
  rw [e] at srt
  have srt2 : rs.Pairwise fun a b => TS.code 64 (l3 a) < TS.code 64 (l3 b) := by
    have z : (rs.map l3).Pairwise fun a b => TS.code 64 a < TS.code 64 b := srt
    rw [List.pairwise_map] at z
    exact z
  exact ⟨rs, srt2.imp_of_mem fun {a b} ha hb hlt => code_lex rfl (bd a (hr a ha)).2 (bd b (hr b hb)).2 hlt, e, iff⟩
theorem lex_irr (l : List Int) : HT.lexLt l l = false := by
  induction l with
  | nil => rfl
  | cons x l ih => rw [HT.lexLt_cons, if_pos rfl]; exact ih
theorem srt_nodup {rs : List RuT} (h : rs.Pairwise fun a b => HT.lexLt (l3 a) (l3 b) = true) : rs.Nodup := h.imp fun {a b} z e => by
  subst e
  rw [lex_irr] at z
  cases z
theorem srt_rules {ks : List RuT} (h : ∀ q ∈ ks, Ru q) (hn : ks ≠ []) (h4 : ks.length ≤ 4) : ∃ rs, Rs rs ∧ srtSet (ks.map l3) = rs.map l3 ∧ (∀ q, q ∈ rs ↔ q ∈ ks) := by
  obtain ⟨rs, srt, e, iff⟩ := srt_rules0 h hn
  have nd := srt_nodup srt
  refine ⟨rs, ⟨?_, ?_, fun q hq => h q ((iff q).mp hq), srt⟩, e, iff⟩
  · obtain ⟨q, hq⟩ := List.exists_mem_of_ne_nil ks hn
    exact List.length_pos_of_mem ((iff q).mpr hq)
  · exact Nat.le_trans (nodup_len nd fun q hq => (iff q).mp hq) h4
theorem ssOk_ru {ks : List RuT} (h : ∀ q ∈ ks, Ru q) (h4 : ks.length < 64) : ssOk (ks.map l3) = true := by
  cases ks with
  | nil => rfl
  | cons q ks =>
    have hr : ∀ z ∈ q :: ks, rowOk 3 (l3 z) = true := fun z hz => by
      obtain ⟨a1, a2, a3, a4, a5, a6⟩ := h z hz
      unfold rowOk l3
      simp
      omega
    show (decide (1 ≤ (l3 q).length) && decide (((q :: ks).map l3).length < 64) && ((q :: ks).map l3).all (rowOk (l3 q).length)) = true
    rw [Bool.and_eq_true, Bool.and_eq_true, List.length_map]
    refine ⟨⟨rfl, decide_eq_true h4⟩, ?_⟩
    rw [List.all_eq_true]
    intro x hx
    obtain ⟨z, hz, rfl⟩ := List.mem_map.mp hx
    exact hr z hz
/-- sorted(set(..)) of rules -/
theorem gSS_rules {w : Vw} {ks : List RuT} (hw : w.peek = .list (ks.map ruD)) (h : ∀ q ∈ ks, Ru q) (hn : ks ≠ []) (h4 : ks.length ≤ 4) : ∃ rs, Rs rs ∧ gSS w = .ok (.fl (rs.map ruD)) ∧ (∀ q, q ∈ rs ↔ q ∈ ks) := by
  obtain ⟨rs, h1, h2, h3⟩ := srt_rules h hn h4
  refine ⟨rs, h1, ?_, h3⟩
  unfold gSS
  rw [hw]
  dsimp only
  unfold gSSs
  have e : ks.map ruD = (ks.map l3).map keyD := by rw [List.map_map]; rfl
  rw [e, rowsI_map]
  dsimp only
  rw [if_pos (ssOk_ru h (by omega)), h2, List.map_map]
  rfl
/-- the same of a tuple -/
theorem gSS_rulesT {w : Vw} {ks : List RuT} (hw : w.peek = .tuple (ks.map ruD)) (h : ∀ q ∈ ks, Ru q) (hn : ks ≠ []) (h4 : ks.length < 64) : ∃ rs : List RuT, srtSet (ks.map l3) = rs.map l3 ∧ gSS w = .ok (.fl (rs.map ruD)) ∧ (∀ q, q ∈ rs ↔ q ∈ ks) ∧ rs.Pairwise (fun a b => HT.lexLt (l3 a) (l3 b) = true) := by
  obtain ⟨rs, h1, h2, h3⟩ := srt_rules0 h hn
  refine ⟨rs, h2, ?_, h3, h1⟩
  unfold gSS
  rw [hw]
  dsimp only
  unfold gSSs
  have e : ks.map ruD = (ks.map l3).map keyD := by rw [List.map_map]; rfl
  rw [e, rowsI_map]
  dsimp only
  rw [if_pos (ssOk_ru h h4), h2, List.map_map]
  rfl
/-- data that are rules -/
theorem rus_of : ∀ {ds : List PyData}, (∀ d ∈ ds, ∃ q, d = ruD q ∧ Ru q) → ∃ ks : List RuT, ds = ks.map ruD ∧ ∀ q ∈ ks, Ru q
  | [], _ => ⟨[], rfl, fun _ h => nomatch h⟩
  | d :: ds, h => by
    obtain ⟨q, rfl, hq⟩ := h d List.mem_cons_self
    obtain ⟨ks, rfl, hk⟩ := rus_of fun x hx => h x (List.mem_cons_of_mem _ hx)
    exact ⟨q :: ks, rfl, fun z hz => (List.mem_cons.mp hz).elim (fun e => e ▸ hq) (hk z)⟩
end BR
namespace BR
open PySem PySem.Spec PyProof.Rows L2
/-! ### alarms, plainly -/
theorem lst_tail {w : Int} {r : List Int} {s n : Nat} (hw : w ≤ (n : Int)) (h : s + n ≤ r.length) : lst w ((r.drop s).take n) = lst w (r.take (s + n)) := by
  unfold lst
  rw [List.length_take, List.length_take, List.length_drop, Nat.min_eq_left (by omega), Nat.min_eq_left h]
  have e : (r.drop s).take n = (r.take (s + n)).drop s := by
    rw [List.drop_take]
    congr 1
    omega
  rw [e, List.drop_drop]
  congr 1
  omega
theorem rng_lst {q : RuT} {r t : List Int} (h : lst q.2.1 r = lst q.2.1 t) : rng q r = rng q t := by
  unfold rng abv blw nAb nBe
  rw [h]
theorem anyR_tail {rs : List RuT} {r : List Int} {s n : Nat} (hr : ∀ q ∈ rs, q.2.1 ≤ (n : Int)) (h : s + n ≤ r.length) : anyR rs ((r.drop s).take n) = anyR rs (r.take (s + n)) := by
  unfold anyR
  rw [Bool.eq_iff_iff, List.any_eq_true, List.any_eq_true]
  constructor
  · rintro ⟨q, hq, e⟩
    exact ⟨q, hq, by rw [← rng_lst (lst_tail (hr q hq) h)]; exact e⟩
  · rintro ⟨q, hq, e⟩
    exact ⟨q, hq, by rw [rng_lst (lst_tail (hr q hq) h)]; exact e⟩
theorem anyR_sub {rs ts : List RuT} {r : List Int} (h : ∀ q ∈ rs, q ∈ ts) (e : anyR rs r = true) : anyR ts r = true := by
  unfold anyR at e ⊢
  rw [List.any_eq_true] at e ⊢
  obtain ⟨q, hq, z⟩ := e
  exact ⟨q, h q hq, z⟩
theorem almN_sub {rs ts : List RuT} {r : List Int} (h : ∀ q ∈ rs, q ∈ ts) {p : Nat} (hp : p ∈ almN rs r) : p ∈ almN ts r := by
  unfold almN at hp ⊢
  rw [List.mem_filter] at hp ⊢
  exact ⟨hp.1, anyR_sub h hp.2⟩
/-- behind a place the alarms of the last values are the row's -/
theorem almN_part {rs : List RuT} {r : List Int} {s : Nat} (hr : ∀ q ∈ rs, q.2.1 ≤ 4) (h3 : 3 ≤ s) (h : s < r.length) :
    ((almN rs (r.drop (s - 3))).filter fun k => decide (3 ≤ k)).map (fun k => k + s - 3) = (almN rs r).filter fun k => decide (s ≤ k) := by
  have e1 : ((almN rs (r.drop (s - 3))).filter fun k => decide (3 ≤ k)) = (List.range (r.length - (s - 3))).filter fun k => decide (3 ≤ k) && anyR rs (r.take (s - 3 + (k + 1))) := by
    unfold almN
    rw [List.length_drop, List.filter_filter]
    apply List.filter_congr
    intro k hk
    have hk := List.mem_range.mp hk
    by_cases h3 : 3 ≤ k
    · rw [anyR_tail (fun q hq => by have := hr q hq; omega) (by omega)]
    · simp [h3]
  have e2 : List.range r.length = List.range (s - 3) ++ (List.range (r.length - (s - 3))).map fun k => s - 3 + k := by
    rw [← List.range_add]
    congr 1
    omega
  rw [e1]
  unfold almN
  rw [e2, List.filter_append, List.filter_append]
  have e3 : ((List.range (s - 3)).filter fun p => anyR rs (r.take (p + 1))).filter (fun k => decide (s ≤ k)) = [] := by
    rw [List.filter_filter, List.filter_eq_nil_iff]
    intro k hk
    have := List.mem_range.mp hk
    simp
    omega
  rw [e3, List.nil_append, List.filter_filter, List.filter_map]
  have e4 : ((fun a => decide (s ≤ a) && anyR rs (r.take (a + 1))) ∘ fun k => s - 3 + k) = fun k => decide (3 ≤ k) && anyR rs (r.take (s - 3 + (k + 1))) := by
    funext k
    simp only [Function.comp]
    have a1 : decide (s ≤ s - 3 + k) = decide (3 ≤ k) := decide_eq_decide.mpr (by omega)
    rw [a1, show s - 3 + k + 1 = s - 3 + (k + 1) from by omega]
  rw [e4]
  apply List.map_congr_left
  intro k hk
  omega
end BR
namespace BR
open PySem PySem.Spec PyProof.Rows L2
/-! simp looks at the head alone: what follows has a term that depends on it -/
abbrev Dep {α : Type} (_ : α) : Type := Unit
def R.bF {α β : Type} (r : R α) (f : α → R β) (_ : Dep f := ()) : R β := r.bind f
@[simp] theorem bF_ok {α β : Type} (a : α) (f : α → R β) (u : Dep f) : (R.ok a).bF f u = f a := rfl
@[simp] theorem bF_exc {α β : Type} (c : Str) (f : α → R β) (u : Dep f) : (R.exc c : R α).bF f u = .exc c := rfl
@[simp] theorem bF_stk {α β : Type} (f : α → R β) (u : Dep f) : (R.stk : R α).bF f u = .stk := rfl
@[simp] theorem gInt_i (i : Int) : on1 gInt [.dt (.int i)] = .ok (.dt (.int i)) := rfl
/-! ### loops, plainly -/
theorem lcM_flat {α : Type} (e : α → PyData) (g : α → List PyData) {f : PyData → R (List PyData)} : ∀ as : List α, (∀ a ∈ as, f (e a) = .ok (g a)) → lcM f (as.map e) = .ok (as.flatMap g)
  | [], _ => rfl
  | a :: as, h => by
    rw [List.map_cons]
    unfold lcM
    rw [h a List.mem_cons_self, lcM_flat e g as fun b hb => h b (List.mem_cons_of_mem _ hb), List.flatMap_cons]
    rfl
/-- a loop, place by place -/
theorem forC_ix {α : Type} (e : α → PyData) (P : Nat → Env → Prop) {f : PyData → Env → (Env → R Vw) → R Vw} : ∀ (as : List α) (i : Nat) (ρ : Env), P i ρ →
    (∀ j a, as[j]? = some a → ∀ ρ, P (i + j) ρ → ∃ ρ', P (i + j + 1) ρ' ∧ ∀ k, f (e a) ρ k = k ρ') → ∃ ρ', P (i + as.length) ρ' ∧ ∀ kn, forC f (as.map e) ρ kn = kn ρ'
  | [], i, ρ, h, _ => ⟨ρ, h, fun _ => rfl⟩
  | a :: as, i, ρ, h, hs => by
    obtain ⟨ρ1, h1, h2⟩ := hs 0 a rfl ρ h
    obtain ⟨ρ2, h3, h4⟩ := forC_ix e P (f := f) as (i + 1) ρ1 h1 fun j b hb ρ hp => by
      obtain ⟨ρ', q1, q2⟩ := hs (j + 1) b (by simpa using hb) ρ (by rw [show i + (j + 1) = i + 1 + j from by omega]; exact hp)
      exact ⟨ρ', by rw [show i + 1 + j + 1 = i + (j + 1) + 1 from by omega]; exact q1, q2⟩
    refine ⟨ρ2, by rw [List.length_cons, show i + (as.length + 1) = i + 1 + as.length from by omega]; exact h3, fun kn => ?_⟩
    rw [List.map_cons]
    unfold forC
    rw [h2]
    exact h4 kn
/-- a loop that may return -/
theorem forC_first {α : Type} (e : α → PyData) (P : Env → Prop) (h : α → Option Vw) {f : PyData → Env → (Env → R Vw) → R Vw} : ∀ (as : List α) (ρ : Env), P ρ →
    (∀ a ∈ as, ∀ ρ, P ρ → ∃ ρ', P ρ' ∧ ∀ k, f (e a) ρ k = match h a with
      | some w => .ok w
      | none => k ρ') →
    ∃ ρ', P ρ' ∧ ∀ kn, forC f (as.map e) ρ kn = match as.findSome? h with
      | some w => .ok w
      | none => kn ρ'
  | [], ρ, hp, _ => ⟨ρ, hp, fun _ => rfl⟩
  | a :: as, ρ, hp, hs => by
    obtain ⟨ρ1, h2, h3⟩ := hs a List.mem_cons_self ρ hp
    obtain ⟨ρ2, q1, q2⟩ := forC_first e P h (f := f) as ρ1 h2 fun b hb => hs b (List.mem_cons_of_mem _ hb)
    refine ⟨ρ2, q1, fun kn => ?_⟩
    rw [List.findSome?_cons, List.map_cons]
    unfold forC
    rw [h3]
    cases h a with
    | some w => rfl
    | none => exact q2 kn
theorem fs_find {α β : Type} (p : α → Bool) (g : α → β) : ∀ as : List α, (as.findSome? fun a => if p a = true then some (g a) else none) = (as.find? p).map g
  | [] => rfl
  | a :: as => by
    rw [List.findSome?_cons, List.find?_cons]
    cases p a with
    | true => rfl
    | false => exact fs_find p g as
theorem fs_map {α β γ : Type} (h : α → Option β) (g : β → γ) : ∀ as : List α, (as.findSome? fun a => (h a).map g) = (as.findSome? h).map g
  | [] => rfl
  | a :: as => by
    rw [List.findSome?_cons, List.findSome?_cons]
    cases h a with
    | some w => rfl
    | none => exact fs_map h g as
theorem take_flat {α β : Type} (g : α → List β) {as : List α} {i : Nat} {a : α} (h : as[i]? = some a) : (as.take (i + 1)).flatMap g = (as.take i).flatMap g ++ g a := by
  rw [List.take_succ, h, List.flatMap_append]
  simp
theorem take_map {α β : Type} (g : α → β) {as : List α} {i : Nat} {a : α} (h : as[i]? = some a) : (as.take (i + 1)).map g = (as.take i).map g ++ [g a] := by
  rw [List.take_succ, h, List.map_append]
  rfl
theorem take_filter {α : Type} (p : α → Bool) {as : List α} {i : Nat} {a : α} (h : as[i]? = some a) : (as.take (i + 1)).filter p = (as.take i).filter p ++ (if p a = true then [a] else []) := by
  rw [List.take_succ, h, List.filter_append]
  cases hp : p a <;> simp [hp]
theorem ix_lt {α : Type} {as : List α} {i : Nat} {a : α} (h : as[i]? = some a) : i < as.length := (List.getElem?_eq_some_iff.mp h).1
theorem ix_range {n i a : Nat} (h : (List.range n)[i]? = some a) : i < n ∧ a = i := by
  have h1 := ix_lt h
  rw [List.length_range] at h1
  rw [List.getElem?_range h1] at h
  exact ⟨h1, (Option.some.inj h).symm⟩
/-! ### all rows -/
def V7 : List Int := [-3, -2, -1, 0, 1, 2, 3]
def allR : Nat → List (List Int)
  | 0 => [[]]
  | n + 1 => (allR n).flatMap fun b => V7.map fun v => b ++ [v]
theorem allR_len (n : Nat) : (allR n).length = 7 ^ n := by
  induction n with
  | zero => rfl
  | succ n ih =>
    show ((allR n).flatMap fun b => V7.map fun v => b ++ [v]).length = _
    have key : ∀ xs : List (List Int), (xs.flatMap fun b => V7.map fun v => b ++ [v]).length = 7 * xs.length := by
      intro xs
      induction xs with
      | nil => rfl
      | cons x xs ih2 =>
        rw [List.flatMap_cons, List.length_append, ih2, List.length_map, List.length_cons]
        show 7 + _ = _
        omega
    rw [key, ih, Nat.pow_succ, Nat.mul_comm]
theorem mem_V7 {v : Int} : v ∈ V7 ↔ -3 ≤ v ∧ v ≤ 3 := by
  unfold V7
  simp only [List.mem_cons, List.not_mem_nil, or_false]
  omega
theorem mem_allR : ∀ {n : Nat} {r : List Int}, r ∈ allR n ↔ r.length = n ∧ ∀ v ∈ r, -3 ≤ v ∧ v ≤ 3
  | 0, r => by
    show r ∈ [[]] ↔ _
    rw [List.mem_singleton]
    constructor
    · rintro rfl
      exact ⟨rfl, fun _ h => nomatch h⟩
    · exact fun h => List.length_eq_zero_iff.mp h.1
  | n + 1, r => by
    show r ∈ ((allR n).flatMap fun b => V7.map fun v => b ++ [v]) ↔ _
    rw [List.mem_flatMap]
    constructor
    · rintro ⟨b, hb, h⟩
      obtain ⟨v, hv, rfl⟩ := List.mem_map.mp h
      obtain ⟨h1, h2⟩ := mem_allR.mp hb
      refine ⟨by rw [List.length_append, h1]; rfl, fun u hu => ?_⟩
      rcases List.mem_append.mp hu with q | q
      · exact h2 u q
      · rw [List.mem_singleton.mp q]; exact mem_V7.mp hv
    · rintro ⟨h1, h2⟩
      have hn : r ≠ [] := fun e => by rw [e] at h1; cases h1
      refine ⟨r.dropLast, mem_allR.mpr ⟨by rw [List.length_dropLast, h1]; rfl, fun v hv => h2 v (List.dropLast_subset r hv)⟩, List.mem_map.mpr ⟨r.getLast hn, mem_V7.mpr (h2 _ (List.getLast_mem hn)), List.dropLast_concat_getLast hn⟩⟩
theorem flat7_len (xs : List (List Int)) : (xs.flatMap fun b => V7.map fun v => b ++ [v]).length = 7 * xs.length := by
  induction xs with
  | nil => rfl
  | cons x xs ih2 =>
    rw [List.flatMap_cons, List.length_append, ih2, List.length_map, List.length_cons]
    show 7 + _ = _
    omega
theorem allR_ro {n : Nat} {r : List Int} (h : r ∈ allR n) (hn : n ≤ 30) : Ro r := by
  obtain ⟨h1, h2⟩ := mem_allR.mp h
  exact ⟨by omega, h2⟩
theorem len_allR {n : Nat} (hn : n ≤ 7) : (allR n).length ≤ 823543 := by
  rw [allR_len]
  exact Nat.pow_le_pow_right (by decide) hn
theorem add_ro (r : List Int) (v : Int) (h : r.length ≤ 1000) : gBin .Add (.dt (roD r)) (.dt (.tuple [.int v])) = .ok (.dt (roD (r ++ [v]))) := by
  show (if (r.map PyData.int).length + ([PyData.int v] : List PyData).length ≤ 16777216 then R.ok (Vw.dt (.tuple (r.map .int ++ [.int v]))) else .stk) = _
  rw [List.length_map, List.length_singleton, if_pos (by omega)]
  unfold roD
  rw [List.map_append]
  rfl
/-! ### implied rules -/
def implR (q o : RuT) : Bool := decide (o.2.2 ≤ q.2.2) && decide (o.1 ≤ q.1 - max 0 (q.2.1 - o.2.1))
theorem cnt_drop {α : Type} (p : α → Bool) (xs : List α) (k : Nat) : (xs.filter p).length ≤ ((xs.drop k).filter p).length + k := by
  have e : xs.filter p = (xs.take k).filter p ++ (xs.drop k).filter p := by rw [← List.filter_append, List.take_append_drop]
  rw [e, List.length_append]
  have h1 := List.length_filter_le p (xs.take k)
  have h2 := List.length_take_le k xs
  omega
theorem lst_drop {s w : Int} (r : List Int) (h : s ≤ w) : ∃ k : Nat, (k : Int) ≤ max 0 (w - s) ∧ (0 ≤ s → lst s r = (lst w r).drop k) := by
  refine ⟨(r.length - s.toNat) - (r.length - w.toNat), by omega, fun hs => ?_⟩
  unfold lst
  rw [List.drop_drop]
  congr 1
  omega
theorem cnt_lst {p : Int → Bool} {s w : Int} (r : List Int) (hs : 0 ≤ s) : (((lst w r).filter p).length : Int) - max 0 (w - s) ≤ (((lst s r).filter p).length : Int) := by
  rcases Int.le_total s w with h | h
  · obtain ⟨k, h1, h2⟩ := lst_drop r h
    rw [h2 hs]
    have := cnt_drop p (lst w r) k
    omega
  · have e : ∃ k : Nat, lst w r = (lst s r).drop k := by
      refine ⟨(r.length - w.toNat) - (r.length - s.toNat), ?_⟩
      unfold lst
      rw [List.drop_drop]
      congr 1
      omega
    obtain ⟨k, e⟩ := e
    rw [e]
    have h1 : ((lst s r).drop k).Sublist (lst s r) := List.drop_sublist _ _
    have := (h1.filter p).length_le
    omega
theorem impl_rng {q o : RuT} {r : List Int} (ho : Ru o) (hi : implR q o = true) (h : rng q r = true) : rng o r = true := by
  unfold implR at hi
  rw [Bool.and_eq_true, decide_eq_true_eq, decide_eq_true_eq] at hi
  have w1 := ho.w1
  rw [rng_iff] at h ⊢
  have a1 := cnt_lst (p := fun v => decide (q.2.2 ≤ v)) (s := o.2.1) (w := q.2.1) r (by omega)
  have a2 := cnt_lst (p := fun v => decide (v ≤ 0 - q.2.2)) (s := o.2.1) (w := q.2.1) r (by omega)
  have b1 : ((lst o.2.1 r).filter fun v => decide (q.2.2 ≤ v)).length ≤ nAb o r := by
    unfold nAb
    refine filter_mono fun v _ hp => ?_
    rw [decide_eq_true_eq] at hp ⊢
    omega
  have b2 : ((lst o.2.1 r).filter fun v => decide (v ≤ 0 - q.2.2)).length ≤ nBe o r := by
    unfold nBe
    refine filter_mono fun v _ hp => ?_
    rw [decide_eq_true_eq] at hp ⊢
    omega
  unfold nAb nBe at h
  omega
def rulesL : List RuT := [1, 2, 3, 4].flatMap fun w => ([1, 2, 3, 4].filter fun m => decide (m ≤ w)).flatMap fun m => [1, 2, 3].map fun b => (m, w, b)
theorem ru_mem {q : RuT} (h : Ru q) : q ∈ rulesL := by
  obtain ⟨m, w, b⟩ := q
  obtain ⟨h1, h2, h3, h4, h5, h6⟩ := h
  dsimp only at h1 h2 h3 h4 h5 h6
  have hw : w = 1 ∨ w = 2 ∨ w = 3 ∨ w = 4 := by omega
  have hm : m = 1 ∨ m = 2 ∨ m = 3 ∨ m = 4 := by omega
  have hb : b = 1 ∨ b = 2 ∨ b = 3 := by omega
  rcases hw with rfl | rfl | rfl | rfl <;> rcases hm with rfl | rfl | rfl | rfl <;> rcases hb with rfl | rfl | rfl <;> first | (exfalso; omega) | decide
/-- a row at whose end the rule rings, and none that it does not imply -/
def witR (q : RuT) : List Int := List.replicate q.1.toNat q.2.2 ++ List.replicate (q.2.1 - q.1).toNat 0
theorem wit_all : ∀ q ∈ rulesL, rng q (witR q) = true ∧ (witR q).length = q.2.1.toNat ∧ (witR q).all (fun v => decide (-3 ≤ v) && decide (v ≤ 3)) = true ∧ ∀ o ∈ rulesL, implR q o = false → rng o (witR q) = false := by decide +kernel
/-- the first of the shortest rows -/
def silF (rs : List RuT) (q : RuT) : Option (List Int) := [1, 2, 3, 4].findSome? fun n => (allR n).find? fun r => rng q r && !anyR rs r
def optR : Option (List Int) → PyData
  | none => .none
  | some r => roD r
theorem silF_none {rs : List RuT} {q : RuT} (hq : Ru q) (hr : ∀ o ∈ rs, Ru o) : silF rs q = none ↔ rs.any (implR q) = true := by
  unfold silF
  rw [List.findSome?_eq_none_iff]
  constructor
  · intro h
    cases hn : rs.any (implR q) with
    | true => rfl
    | false =>
      exfalso
      rw [List.any_eq_false] at hn
      obtain ⟨w1, w2, w3, w4⟩ := wit_all q (ru_mem hq)
      have hlen : q.2.1.toNat ∈ [1, 2, 3, 4] := by
        have := hq.w1
        have := hq.w4
        simp only [List.mem_cons, List.not_mem_nil, or_false]
        omega
      have := h _ hlen
      rw [List.find?_eq_none] at this
      refine this (witR q) (mem_allR.mpr ⟨w2, fun v hv => ?_⟩) ?_
      · have := List.all_eq_true.mp w3 v hv
        rw [Bool.and_eq_true, decide_eq_true_eq, decide_eq_true_eq] at this
        exact this
      · rw [w1, Bool.true_and, Bool.not_eq_true']
        unfold anyR
        rw [List.any_eq_false]
        intro o ho z
        rw [w4 o (ru_mem (hr o ho)) (by simpa using hn o ho)] at z
        cases z
  · intro h n _
    rw [List.find?_eq_none]
    intro r _ z
    rw [Bool.and_eq_true, Bool.not_eq_true'] at z
    obtain ⟨o, ho, hi⟩ := List.any_eq_true.mp h
    have := impl_rng (hr o ho) hi z.1
    have z2 := z.2
    unfold anyR at z2
    rw [List.any_eq_false] at z2
    exact z2 o ho this
theorem silF_isNone {rs : List RuT} {q : RuT} (hq : Ru q) (hr : ∀ o ∈ rs, Ru o) : (silF rs q).isNone = rs.any (implR q) := by
  rw [Bool.eq_iff_iff, Option.isNone_iff_eq_none]
  exact silF_none hq hr
theorem silF_len {rs : List RuT} {q : RuT} {r : List Int} (h : silF rs q = some r) : Ro r := by
  unfold silF at h
  obtain ⟨n, hn, e⟩ := List.exists_of_findSome?_eq_some h
  refine allR_ro (List.mem_of_find?_eq_some e) ?_
  simp only [List.mem_cons, List.not_mem_nil, or_false] at hn
  omega
/-! ### needless rules -/
def othR (rs : List RuT) (q : RuT) : List RuT := rs.filter fun o => !(o == q)
def needR (rs : List RuT) (q : RuT) : Bool := !(othR rs q).any (implR q)
def redR : List RuT → List RuT → List RuT
  | [], cur => cur
  | q :: t, cur => redR t (if needR cur q = true then cur else othR cur q)
theorem mem_oth {rs : List RuT} {q o : RuT} : o ∈ othR rs q ↔ o ∈ rs ∧ o ≠ q := by
  unfold othR
  rw [List.mem_filter]
  simp
theorem oth_nil {rs : List RuT} {q : RuT} (hn : rs.Nodup) (hq : q ∈ rs) : othR rs q = [] ↔ rs.length = 1 := by
  constructor
  · intro h
    have one : ∀ o ∈ rs, o = q := fun o ho => by
      rcases Decidable.em (o = q) with e | e
      · exact e
      · have := mem_oth.mpr ⟨ho, e⟩
        rw [h] at this
        cases this
    match rs, hn, hq, one with
    | [a], _, _, _ => rfl
    | a :: b :: r, hn, _, one =>
      exfalso
      have h1 := one a List.mem_cons_self
      have h2 := one b (List.mem_cons_of_mem _ List.mem_cons_self)
      obtain ⟨n1, _⟩ := List.pairwise_cons.mp hn
      exact n1 b List.mem_cons_self (h1.trans h2.symm)
  · intro h
    obtain ⟨a, rfl⟩ := List.length_eq_one_iff.mp h
    rw [List.mem_singleton.mp hq]
    simp [othR]
theorem redR_sub : ∀ (t cur : List RuT), (redR t cur).Sublist cur
  | [], cur => List.Sublist.refl _
  | q :: t, cur => by
    unfold redR
    split
    · exact redR_sub t cur
    · exact (redR_sub t _).trans List.filter_sublist
theorem redR_ne : ∀ (t cur : List RuT), cur ≠ [] → redR t cur ≠ []
  | [], cur, h => h
  | q :: t, cur, h => by
    unfold redR
    split
    · exact redR_ne t cur h
    · rename_i hn
      refine redR_ne t _ fun e => hn ?_
      unfold needR
      rw [e]
      rfl
theorem redR_need : ∀ (t cur : List RuT), (∀ q ∈ cur, q ∉ t → needR cur q = true) → ∀ q ∈ redR t cur, needR (redR t cur) q = true
  | [], cur, h => fun q hq => h q hq (fun z => nomatch z)
  | p :: t, cur, h => by
    unfold redR
    split
    · rename_i hn
      refine redR_need t cur fun q hq hqt => ?_
      rcases Decidable.em (q = p) with e | e
      · rw [e]; exact hn
      · exact h q hq fun z => (List.mem_cons.mp z).elim e hqt
    · refine redR_need t (othR cur p) fun q hq hqt => ?_
      obtain ⟨h1, h2⟩ := mem_oth.mp hq
      have := h q h1 fun z => (List.mem_cons.mp z).elim h2 hqt
      unfold needR at this ⊢
      rw [Bool.not_eq_true'] at this ⊢
      rw [List.any_eq_false] at this ⊢
      intro o ho
      obtain ⟨o1, o2⟩ := mem_oth.mp ho
      exact this o (mem_oth.mpr ⟨(mem_oth.mp o1).1, o2⟩)
theorem Rs.nodup {rs : List RuT} (h : Rs rs) : rs.Nodup := h.srt.imp fun {a b} z e => by
  subst e
  have : ∀ l : List Int, HT.lexLt l l = false := by
    intro l
    induction l with
    | nil => rfl
    | cons x l ih => rw [HT.lexLt_cons, if_pos rfl]; exact ih
  rw [this] at z
  cases z
theorem Rs.sub {rs ts : List RuT} (h : Rs rs) (hs : ts.Sublist rs) (hn : ts ≠ []) : Rs ts := by
  have := hs.length_le
  have := h.n4
  refine ⟨?_, by omega, fun q hq => h.ok q (hs.subset hq), h.srt.sublist hs⟩
  rcases Nat.eq_zero_or_pos ts.length with e | e
  · exact absurd (List.length_eq_zero_iff.mp e) hn
  · exact e
/-! ### comparisons of known data -/
theorem gNeq {x y : Vw} (a b : PyData) (hx : x.peek = a) (hy : y.peek = b) (h1 : fin 9 a = true) (h2 : fin 9 b = true) : gCmp .NotEq x y = .ok (.dt (.bool (!PyData.eqv a b))) := by
  subst hx hy
  exact gC_ne ⟨h1, h2⟩
theorem gEqq {x y : Vw} (a b : PyData) (hx : x.peek = a) (hy : y.peek = b) (h1 : fin 9 a = true) (h2 : fin 9 b = true) : gCmp .Eq x y = .ok (.dt (.bool (PyData.eqv a b))) := by
  subst hx hy
  exact gC_eq ⟨h1, h2⟩
theorem ne_bb (a b : Bool) : gCmp .NotEq (.dt (.bool a)) (.dt (.bool b)) = .ok (.dt (.bool (!(a == b)))) := by
  rw [gNeq (.bool a) (.bool b) rfl rfl (by simp) (by simp), ev_bb]
theorem eq_bb (a b : Bool) : gCmp .Eq (.dt (.bool a)) (.dt (.bool b)) = .ok (.dt (.bool (a == b))) := by
  rw [gEqq (.bool a) (.bool b) rfl rfl (by simp) (by simp), ev_bb]
theorem ne_ii (a b : Int) : gCmp .NotEq (.dt (.int a)) (.dt (.int b)) = .ok (.dt (.bool (!(a == b)))) := by
  rw [gNeq (.int a) (.int b) rfl rfl (by simp) (by simp), ev_ii]
theorem eq_ii (a b : Int) : gCmp .Eq (.dt (.int a)) (.dt (.int b)) = .ok (.dt (.bool (a == b))) := by
  rw [gEqq (.int a) (.int b) rfl rfl (by simp) (by simp), ev_ii]
theorem eqv_ro (r s : List Int) : PyData.eqv (roD r) (roD s) = (r == s) := by
  show PyData.eqv (.tuple (r.map .int)) (.tuple (s.map .int)) = _
  rw [ev_tt, eqv_ints]
theorem eqv_rs (r s : List RuT) : PyData.eqv (rsD r) (rsD s) = (r == s) := by
  show PyData.eqv (.tuple (r.map ruD)) (.tuple (s.map ruD)) = _
  rw [ev_tt, eqv_rus]
theorem fin_ro (n : Nat) (r : List Int) : fin (n + 1) (roD r) = true := fin_ints n r
theorem fin_rs (n : Nat) (r : List RuT) : fin (n + 3) (rsD r) = true := fin_ruDs n r
theorem ne_ru (a b : RuT) : gCmp .NotEq (.dt (ruD a)) (.dt (ruD b)) = .ok (.dt (.bool (!(a == b)))) := by
  rw [gNeq (ruD a) (ruD b) rfl rfl (fin_ru 7 a) (fin_ru 7 b), eqv_ru]
theorem ne_roD (a b : List Int) : gCmp .NotEq (.dt (roD a)) (.dt (roD b)) = .ok (.dt (.bool (!(a == b)))) := by
  rw [gNeq (roD a) (roD b) rfl rfl (fin_ro 8 a) (fin_ro 8 b), eqv_ro]
theorem ne_rsD (a b : List RuT) : gCmp .NotEq (.dt (rsD a)) (.dt (rsD b)) = .ok (.dt (.bool (!(a == b)))) := by
  rw [gNeq (rsD a) (rsD b) rfl rfl (fin_rs 6 a) (fin_rs 6 b), eqv_rs]
theorem ne_rsnil (ts : List RuT) : gCmp .NotEq (.dt (rsD ts)) (.dt (.tuple [])) = .ok (.dt (.bool (!ts.isEmpty))) := by
  rw [show PyData.tuple [] = rsD [] from rfl, ne_rsD]
  cases ts <;> rfl
theorem eqv_optR (a b : Option (List Int)) : PyData.eqv (optR a) (optR b) = (a == b) := by
  cases a with
  | none =>
    cases b with
    | none => rw [show optR none = .none from rfl, ev_nn]; rfl
    | some r => rw [show optR none = .none from rfl, show optR (some r) = .tuple (r.map .int) from rfl, PyData.eqv]; rfl
  | some r =>
    cases b with
    | none => rw [show optR none = .none from rfl, show optR (some r) = .tuple (r.map .int) from rfl, PyData.eqv]; rfl
    | some s =>
      show PyData.eqv (roD r) (roD s) = _
      rw [eqv_ro]
      rfl
theorem fin_optR (n : Nat) (a : Option (List Int)) : fin (n + 1) (optR a) = true := by
  cases a with
  | none => rfl
  | some r => exact fin_ro n r
theorem ne_optR (a b : Option (List Int)) : gCmp .NotEq (.dt (optR a)) (.dt (optR b)) = .ok (.dt (.bool (!(a == b)))) := by
  rw [gNeq (optR a) (optR b) rfl rfl (fin_optR 8 a) (fin_optR 8 b), eqv_optR]
theorem isNone_optR (o : Option (List Int)) : gCmp .Is (.dt (optR o)) (.dt .none) = .ok (.dt (.bool o.isNone)) := by
  cases o <;> rfl
theorem isnNone_optR (o : Option (List Int)) : gCmp .IsNot (.dt (optR o)) (.dt .none) = .ok (.dt (.bool !o.isNone)) := by
  cases o <;> rfl
theorem ne_nil : gCmp .NotEq (.fl []) (.fl []) = .ok (.dt (.bool false)) := by
  rw [gNeq (.list []) (.list []) rfl rfl rfl rfl, ev_ll, eva_nn]
  rfl
end BR
namespace BR
open PySem PySem.Spec PyProof.Rows L2
/-! ### going on quietly, plainly -/
def stillN (rs : List RuT) (r : List Int) : List Int := ([-3, -2, -1, 0, 1, 2, 3] : List Int).filter fun v => !anyR rs (r ++ [v])
def hist (r : List Int) : List Int := r.drop (r.length - 3)
structure Hi (h : List Int) : Prop where
  len : h.length ≤ 3
  val : ∀ v ∈ h, -3 ≤ v ∧ v ≤ 3
theorem hi_hist {r : List Int} (h : ∀ v ∈ r, -3 ≤ v ∧ v ≤ 3) : Hi (hist r) := by
  refine ⟨?_, fun v hv => h v (List.mem_of_mem_drop hv)⟩
  unfold hist
  rw [List.length_drop]
  omega
theorem still_val {rs : List RuT} {r : List Int} {v : Int} (h : v ∈ stillN rs r) : -3 ≤ v ∧ v ≤ 3 := mem_V7.mp (List.mem_filter.mp h).1
theorem hist_snoc (r : List Int) (v : Int) : hist (hist r ++ [v]) = hist (r ++ [v]) := by
  unfold hist
  rw [List.length_append, List.length_drop, List.length_append, List.length_singleton]
  by_cases h : r.length ≤ 3
  · rw [show r.length - 3 = 0 from by omega, List.drop_zero]
    congr 1
  · rw [List.drop_append_of_le_length (by rw [List.length_drop]; omega), List.drop_append_of_le_length (by omega), List.drop_drop]
    congr 2
    omega
def allH : List (List Int) := allR 0 ++ allR 1 ++ allR 2 ++ allR 3
theorem hi_mem {h : List Int} (x : Hi h) : h ∈ allH := by
  obtain ⟨l, v⟩ := x
  have m : h ∈ allR h.length := mem_allR.mpr ⟨rfl, v⟩
  have hl : h.length = 0 ∨ h.length = 1 ∨ h.length = 2 ∨ h.length = 3 := by omega
  unfold allH
  simp only [List.mem_append]
  rcases hl with e | e | e | e <;> rw [e] at m
  · exact .inl (.inl (.inl m))
  · exact .inl (.inl (.inr m))
  · exact .inl (.inr m)
  · exact .inr m
theorem allH_len : allH.length = 400 := by
  unfold allH
  rw [List.length_append, List.length_append, List.length_append, allR_len, allR_len, allR_len, allR_len]
theorem keys_few {ks : List (List Int)} (hn : ks.Nodup) (h : ∀ k ∈ ks, Hi k) : ks.length ≤ 400 := by
  rw [← allH_len]
  exact nodup_len hn fun k hk => hi_mem (h k hk)
def nexts (rs : List RuT) (h : List Int) : List (Int × List Int) := (stillN rs h).map fun v => (v, hist (h ++ [v]))
theorem nexts_hi {rs : List RuT} {h : List Int} (x : Hi h) {p : Int × List Int} (hp : p ∈ nexts rs h) : Hi p.2 := by
  obtain ⟨v, hv, rfl⟩ := List.mem_map.mp hp
  refine hi_hist fun u hu => ?_
  rcases List.mem_append.mp hu with q | q
  · exact x.val u q
  · rw [List.mem_singleton.mp q]; exact still_val hv
theorem nexts_len (rs : List RuT) (h : List Int) : (nexts rs h).length ≤ 7 := by
  unfold nexts
  rw [List.length_map]
  exact List.length_filter_le _ _
def pairD (p : Int × List Int) : PyData := .tuple [.int p.1, roD p.2]
def stD (rs : List RuT) (h : List Int) : PyData := .list ((nexts rs h).map pairD)
def ways (rs : List RuT) : Nat → List Int → Nat
  | 0, _ => 1
  | n + 1, h => ((nexts rs h).map fun p => ways rs n p.2).sum
/-- the rings see four values -/
theorem rng_hist {q : RuT} {r : List Int} {v : Int} (h : q.2.1 ≤ 4) (h0 : 0 ≤ q.2.1) : rng q (hist r ++ [v]) = rng q (r ++ [v]) := by
  refine rng_lst ?_
  unfold lst hist
  rw [List.length_append, List.length_append, List.length_drop, List.length_singleton]
  by_cases hl : r.length ≤ 3
  · rw [show r.length - 3 = 0 from by omega, List.drop_zero]
    congr 1
  · have e : r.drop (r.length - 3) ++ [v] = (r ++ [v]).drop (r.length - 3) := by rw [List.drop_append_of_le_length (by omega)]
    rw [e, List.drop_drop]
    congr 1
    omega
theorem any_hist {rs : List RuT} {r : List Int} {v : Int} (h : ∀ q ∈ rs, Ru q) : anyR rs (hist r ++ [v]) = anyR rs (r ++ [v]) := by
  unfold anyR
  rw [Bool.eq_iff_iff, List.any_eq_true, List.any_eq_true]
  constructor
  · rintro ⟨q, hq, e⟩
    have := h q hq
    exact ⟨q, hq, by rw [← rng_hist (r := r) this.w4 (by have := this.w1; omega)]; exact e⟩
  · rintro ⟨q, hq, e⟩
    have := h q hq
    exact ⟨q, hq, by rw [rng_hist (r := r) this.w4 (by have := this.w1; omega)]; exact e⟩
theorem still_hist {rs : List RuT} {r : List Int} (h : ∀ q ∈ rs, Ru q) : stillN rs (hist r) = stillN rs r := by
  unfold stillN
  apply List.filter_congr
  intro v _
  rw [any_hist h]
/-! all ways, one by one -/
def grow (rs : List RuT) (r : List Int) : Nat → List (List Int)
  | 0 => [r]
  | n + 1 => (grow rs r n).flatMap fun w => (stillN rs w).map fun v => w ++ [v]
def waysR (rs : List RuT) : Nat → List Int → Nat
  | 0, _ => 1
  | n + 1, r => ((stillN rs r).map fun v => waysR rs n (r ++ [v])).sum
theorem waysR_hist {rs : List RuT} (h : ∀ q ∈ rs, Ru q) : ∀ (n : Nat) (r : List Int), waysR rs n r = ways rs n (hist r)
  | 0, _ => rfl
  | n + 1, r => by
    unfold waysR ways nexts
    rw [List.map_map, still_hist h]
    congr 1
    apply List.map_congr_left
    intro v _
    simp only [Function.comp]
    rw [hist_snoc]
    exact waysR_hist h n (r ++ [v])
theorem sum_flat {α β : Type} (f : α → List β) (g : β → Nat) : ∀ xs : List α, ((xs.flatMap f).map g).sum = (xs.map fun x => ((f x).map g).sum).sum
  | [] => rfl
  | x :: xs => by rw [List.flatMap_cons, List.map_append, List.sum_append, sum_flat f g xs, List.map_cons, List.sum_cons]
theorem grow_ways {rs : List RuT} {r : List Int} : ∀ (n m : Nat), ((grow rs r n).map fun w => waysR rs m w).sum = waysR rs (n + m) r
  | 0, m => by
    show (([r] : List (List Int)).map fun w => waysR rs m w).sum = _
    simp
  | n + 1, m => by
    show (((grow rs r n).flatMap fun w => (stillN rs w).map fun v => w ++ [v]).map fun w => waysR rs m w).sum = _
    rw [sum_flat, show n + 1 + m = n + (m + 1) from by omega, ← grow_ways n (m + 1)]
    congr 1
    apply List.map_congr_left
    intro w _
    rw [List.map_map]
    rfl
theorem grow_len {rs : List RuT} {r : List Int} (n : Nat) : (grow rs r n).length = waysR rs n r := by
  have := grow_ways (rs := rs) (r := r) n 0
  rw [Nat.add_zero] at this
  rw [← this]
  have : ∀ xs : List (List Int), xs.length = (xs.map fun w => waysR rs 0 w).sum := fun xs => by
    induction xs with
    | nil => rfl
    | cons x xs ih => rw [List.length_cons, ih, List.map_cons, List.sum_cons]; show _ = 1 + _; omega
  exact this _
theorem grow_bound {rs : List RuT} {r : List Int} : ∀ n : Nat, (grow rs r n).length ≤ 7 ^ n
  | 0 => Nat.le_refl 1
  | n + 1 => by
    show ((grow rs r n).flatMap fun w => (stillN rs w).map fun v => w ++ [v]).length ≤ _
    have key : ∀ xs : List (List Int), (xs.flatMap fun w => (stillN rs w).map fun v => w ++ [v]).length ≤ 7 * xs.length := fun xs => by
      induction xs with
      | nil => exact Nat.le_refl 0
      | cons x xs ih =>
        have : (stillN rs x).length ≤ 7 := List.length_filter_le _ _
        rw [List.flatMap_cons, List.length_append, List.length_map, List.length_cons]
        omega
    have := key (grow rs r n)
    have := grow_bound (rs := rs) (r := r) n
    rw [Nat.pow_succ]
    omega
theorem grow_mem {rs : List RuT} {r : List Int} : ∀ {n : Nat} {w : List Int}, w ∈ grow rs r n → w.length = r.length + n ∧ ((∀ v ∈ r, -3 ≤ v ∧ v ≤ 3) → ∀ v ∈ w, -3 ≤ v ∧ v ≤ 3)
  | 0, w, h => by
    rw [List.mem_singleton.mp h]
    exact ⟨rfl, id⟩
  | n + 1, w, h => by
    obtain ⟨u, hu, h2⟩ := List.mem_flatMap.mp h
    obtain ⟨v, hv, rfl⟩ := List.mem_map.mp h2
    obtain ⟨l, a⟩ := grow_mem hu
    refine ⟨by rw [List.length_append, l, List.length_singleton]; omega, fun hr x hx => ?_⟩
    rcases List.mem_append.mp hx with q | q
    · exact a hr x q
    · rw [List.mem_singleton.mp q]; exact still_val hv
/-! dicts by rows -/
def kdP (ks : KD) : List (PyData × PyData) := ks.map fun p => (keyD p.1, p.2)
theorem isKey_ne {k j : List Int} (h : j ≠ k) : isKey k (keyD j) = false := by rw [isKey_keyD]; exact decide_eq_false h
theorem dget_map {α : Type} (f : α → List Int × PyData) (k : List Int) : ∀ xs : List α, dget (kdP (xs.map f)) k = ((xs.find? fun x => decide ((f x).1 = k)).map fun x => (f x).2)
  | [] => rfl
  | x :: xs => by
    have ih := dget_map f k xs
    unfold dget at ih ⊢
    show (List.find? _ ((keyD (f x).1, (f x).2) :: kdP (xs.map f))).map _ = _
    rw [List.find?_cons, List.find?_cons, isKey_keyD]
    cases decide ((f x).1 = k) with
    | true => rfl
    | false => exact ih
theorem keyD_ro (k : List Int) : keyD k = roD k := rfl
theorem dctV_bd (ks : KD) : dctV (.bd ks) = .ok (kdP ks) := rfl
theorem dctV_dt (ks : KD) : dctV (.dt (dicD ks)) = .ok (kdP ks) := rfl
theorem gIx_bd {ks : KD} {k : List Int} {d : PyData} (h : dget (kdP ks) k = some d) : gIxV (.bd ks) (.dt (roD k)) = .ok (.dt d) := by
  unfold gIxV
  show (match intsOf (k.map .int) with | some k => (match dget (kdP ks) k with | some d => R.ok (Vw.dt d) | none => .stk) | none => .stk) = _
  rw [intsOf_map]
  dsimp only
  rw [h]
theorem gIx_dd {ks : KD} {k : List Int} {d : PyData} (h : dget (kdP ks) k = some d) : gIxV (.dt (dicD ks)) (.dt (roD k)) = .ok (.dt d) := by
  unfold gIxV
  show (match intsOf (k.map .int) with | some k => (match dget (kdP ks) k with | some d => R.ok (Vw.dt d) | none => .stk) | none => .stk) = _
  rw [intsOf_map]
  dsimp only
  rw [h]
theorem gNin_bd (ks : KD) (k : List Int) : gCmp .NotIn (.dt (roD k)) (.bd ks) = .ok (.dt (.bool (!(dget (kdP ks) k).isSome))) := by
  show (match intsOf (k.map .int) with | some k => R.ok (Vw.dt (.bool (xor true (dget (kdP ks) k).isSome))) | none => .stk) = _
  rw [intsOf_map]
  dsimp only
  rw [Bool.true_xor]
theorem gGet_ro (ds : List (PyData × PyData)) (k : List Int) (d : PyData) : gGet ds (.dt (roD k)) (.dt d) = .ok (.dt ((dget ds k).getD d)) := by
  unfold gGet
  show (match intsOf (k.map .int) with | some k => (match dget ds k with | some d => R.ok (Vw.dt d) | none => .ok (.dt d)) | none => .stk) = _
  rw [intsOf_map]
  dsimp only
  cases dget ds k <;> rfl
theorem dpK_ro {β : Type} (ks : KD) (d : PyData) (k : List Int) (f : KD → R β) (h : ks.length < 16777216) : dpK ks d (.dt (roD k)) f = f (kput ks k d) := by
  show (match intsOf (k.map .int) with | some q => (if ks.length < 16777216 then f (kput ks q d) else R.stk) | none => .stk) = _
  rw [intsOf_map]
  dsimp only
  rw [if_pos h]
theorem gDisp_ro (k : List Int) (d : PyData) : gDisp (.dt (roD k)) (.dt d) = .ok (.fd [(k, d)]) := by
  show (match intsOf (k.map .int) with | some k => (Vw.dt d).toD.bind fun d => R.ok (Vw.fd [(k, d)]) | none => .stk) = _
  rw [intsOf_map]
  rfl
theorem itV_dic (b : Bool) (ks : KD) : itV b (.dt (dicD ks)) = .ok (ks.map fun p => roD p.1) := by
  show R.ok ((ks.map fun p => (keyD p.1, p.2)).map (·.1)) = _
  rw [List.map_map]
  rfl
/-! what go_on finds -/
def goE (rs : List RuT) (keys : List (List Int)) : KD := keys.map fun h => (h, stD rs h)
theorem goE_get (rs : List RuT) (keys : List (List Int)) (k : List Int) : dget (kdP (goE rs keys)) k = if k ∈ keys then some (stD rs k) else none := by
  unfold goE
  rw [dget_map]
  dsimp only
  by_cases h : k ∈ keys
  · rw [if_pos h]
    have : (keys.find? fun x => decide (x = k)) = some k := by
      rw [List.find?_eq_some_iff_append]
      obtain ⟨a, b, e, hn⟩ := List.append_of_mem h |>.elim fun a h => h.elim fun b e => (⟨a, b, e, trivial⟩ : ∃ a b, keys = a ++ k :: b ∧ True)
      clear hn
      have key : ∀ keys : List (List Int), k ∈ keys → ∃ as bs, keys = as ++ k :: bs ∧ ∀ a ∈ as, (!decide (a = k)) = true := by
        intro keys
        induction keys with
        | nil => exact fun h => nomatch h
        | cons x xs ih =>
          intro hm
          by_cases e : x = k
          · subst e
            exact ⟨[], xs, rfl, fun _ h => nomatch h⟩
          · obtain ⟨as, bs, e2, h2⟩ := ih ((List.mem_cons.mp hm).resolve_left fun z => e z.symm)
            refine ⟨x :: as, bs, by rw [e2]; rfl, fun a ha => ?_⟩
            rcases List.mem_cons.mp ha with q | q
            · rw [q]; simp [e]
            · exact h2 a q
      exact ⟨by simp, key keys h⟩
    rw [this]
    rfl
  · rw [if_neg h]
    have : (keys.find? fun x => decide (x = k)) = none := by
      rw [List.find?_eq_none]
      intro x hx z
      rw [decide_eq_true_eq] at z
      exact h (z ▸ hx)
    rw [this]
    rfl
theorem goE_put {rs : List RuT} {keys : List (List Int)} {k : List Int} (h : k ∉ keys) : kput (goE rs keys) k (stD rs k) = goE rs (keys ++ [k]) := by
  unfold kput goE
  rw [List.any_map]
  have : keys.any ((fun p : List Int × PyData => decide (p.1 = k)) ∘ fun h => (h, stD rs h)) = false := by
    rw [List.any_eq_false]
    intro x hx z
    simp only [Function.comp, decide_eq_true_eq] at z
    exact h (z ▸ hx)
  rw [this, if_neg (by decide), List.map_append]
  rfl
/-! counts -/
abbrev Cn := List (List Int × Int)
def cnE (f : Cn) : KD := f.map fun p => (p.1, .int p.2)
def getC (f : Cn) (k : List Int) : Int := ((f.find? fun p => decide (p.1 = k)).map (·.2)).getD 0
def putC (f : Cn) (k : List Int) (c : Int) : Cn := if f.any (fun p => decide (p.1 = k)) = true then f.map fun p => if p.1 = k then (p.1, c) else p else f ++ [(k, c)]
theorem cnE_put (f : Cn) (k : List Int) (c : Int) : kput (cnE f) k (.int c) = cnE (putC f k c) := by
  unfold kput putC cnE
  rw [List.any_map]
  have : ((fun p : List Int × PyData => decide (p.1 = k)) ∘ fun p : List Int × Int => (p.1, PyData.int p.2)) = fun p => decide (p.1 = k) := rfl
  rw [this]
  split
  · rw [List.map_map, List.map_map]
    apply List.map_congr_left
    intro p _
    simp only [Function.comp]
    split <;> rfl
  · rw [List.map_append]
    rfl
theorem cnE_get (f : Cn) (k : List Int) : ((dget (kdP (cnE f)) k).getD (.int 0)) = .int (getC f k) := by
  unfold cnE getC
  rw [dget_map]
  dsimp only
  cases f.find? fun p => decide (p.1 = k) <;> rfl
theorem cnE_at {f : Cn} (hn : (f.map (·.1)).Nodup) {p : List Int × Int} (hp : p ∈ f) : dget (kdP (cnE f)) p.1 = some (.int p.2) := by
  unfold cnE
  rw [dget_map]
  dsimp only
  have : (f.find? fun x => decide (x.1 = p.1)) = some p := by
    induction f with
    | nil => cases hp
    | cons x f ih =>
      rw [List.map_cons, List.nodup_cons] at hn
      rw [List.find?_cons]
      rcases List.mem_cons.mp hp with e | e
      · subst e
        simp
      · have ne : x.1 ≠ p.1 := fun z => hn.1 (z ▸ List.mem_map.mpr ⟨p, e, rfl⟩)
        rw [decide_eq_false ne]
        exact ih hn.2 e
  rw [this]
  rfl
def pot (rs : List RuT) (n : Nat) (f : Cn) : Int := (f.map fun p => p.2 * (ways rs n p.1 : Int)).sum
theorem putC_keys {f : Cn} {k : List Int} {c : Int} : (putC f k c).map (·.1) = if k ∈ f.map (·.1) then f.map (·.1) else f.map (·.1) ++ [k] := by
  unfold putC
  have e : (f.any fun p => decide (p.1 = k)) = true ↔ k ∈ f.map (·.1) := by
    rw [List.any_eq_true]
    constructor
    · rintro ⟨p, hp, z⟩
      exact List.mem_map.mpr ⟨p, hp, of_decide_eq_true z⟩
    · intro h
      obtain ⟨p, hp, z⟩ := List.mem_map.mp h
      exact ⟨p, hp, decide_eq_true z⟩
  by_cases h : k ∈ f.map (·.1)
  · rw [if_pos (e.mpr h), if_pos h, List.map_map]
    apply List.map_congr_left
    intro p _
    simp only [Function.comp]
    split <;> rfl
  · rw [if_neg (mt e.mp h), if_neg h, List.map_append]
    rfl
theorem putC_nodup {f : Cn} {k : List Int} {c : Int} (h : (f.map (·.1)).Nodup) : ((putC f k c).map (·.1)).Nodup := by
  rw [putC_keys]
  split
  · exact h
  · rename_i hn
    rw [List.nodup_append]
    exact ⟨h, by simp, fun a ha b hb e => hn (by rw [← List.mem_singleton.mp hb, ← e]; exact ha)⟩
theorem putC_mem {f : Cn} {k : List Int} {c : Int} {j : List Int} (h : j ∈ (putC f k c).map (·.1)) : j = k ∨ j ∈ f.map (·.1) := by
  rw [putC_keys] at h
  split at h
  · exact .inr h
  · rcases List.mem_append.mp h with q | q
    · exact .inr q
    · exact .inl (List.mem_singleton.mp q)
theorem pot_put {rs : List RuT} {n : Nat} {k : List Int} {c : Int} : ∀ {f : Cn}, (f.map (·.1)).Nodup → pot rs n (putC f k (getC f k + c)) = pot rs n f + c * (ways rs n k : Int)
  | [], _ => by
    show pot rs n [(k, 0 + c)] = _
    unfold pot
    simp
  | p :: f, hn => by
    rw [List.map_cons, List.nodup_cons] at hn
    by_cases e : p.1 = k
    · have g : getC (p :: f) k = p.2 := by
        unfold getC
        rw [List.find?_cons, decide_eq_true e]
        rfl
      have rest : (f.map fun q => if q.1 = k then (q.1, getC (p :: f) k + c) else q) = f := by
        conv => rhs; rw [← List.map_id f]
        apply List.map_congr_left
        intro q hq
        rw [if_neg (fun z => hn.1 (by rw [e, ← z]; exact List.mem_map.mpr ⟨q, hq, rfl⟩))]
        rfl
      have : putC (p :: f) k (getC (p :: f) k + c) = (p.1, p.2 + c) :: f := by
        unfold putC
        rw [if_pos (by rw [List.any_cons, decide_eq_true e]; rfl), List.map_cons, rest, if_pos e, g]
      rw [this]
      unfold pot
      rw [List.map_cons, List.sum_cons, List.map_cons, List.sum_cons, Int.add_mul, e]
      omega
    · have g : getC (p :: f) k = getC f k := by
        unfold getC
        rw [List.find?_cons, decide_eq_false e]
      have : putC (p :: f) k (getC (p :: f) k + c) = p :: putC f k (getC f k + c) := by
        unfold putC
        rw [g, List.any_cons, decide_eq_false e, Bool.false_or]
        split
        · rw [List.map_cons, if_neg e]
        · rfl
      rw [this]
      have ih := pot_put (rs := rs) (n := n) (k := k) (c := c) hn.2
      unfold pot at ih ⊢
      rw [List.map_cons, List.sum_cons, ih, List.map_cons, List.sum_cons]
      omega
theorem whileC_end (P : Nat → Env → Prop) (Qx : Env → Prop) {t : Env → (Bool → R Vw) → R Vw} {f : Env → (Env → R Vw) → R Vw} (hs : ∀ m ρ, P m ρ → ((∀ k, t ρ k = k false) ∧ Qx ρ) ∨ ((∀ k, t ρ k = k true) ∧ ∃ m' ρ', m = m' + 1 ∧ P m' ρ' ∧ ∀ k, f ρ k = k ρ')) :
    ∀ (m n : Nat) (ρ : Env), P m ρ → m < n → ∃ ρ', Qx ρ' ∧ ∀ kn, whileC t f n ρ kn = kn ρ'
  | m, 0, ρ, _, hn => absurd hn (Nat.not_lt_zero _)
  | m, n + 1, ρ, h, hn => by
    rcases hs m ρ h with ⟨q, qx⟩ | ⟨q, m', ρ', em, h', q2⟩
    · refine ⟨ρ, qx, fun kn => ?_⟩
      unfold whileC
      rw [q]
    · subst em
      obtain ⟨ρ2, h2, e2⟩ := whileC_end P Qx hs m' n ρ' h' (by omega)
      refine ⟨ρ2, h2, fun kn => ?_⟩
      unfold whileC
      rw [q]
      dsimp only
      rw [q2]
      exact e2 kn
/-- t[-w:] -/
theorem cut_last {α : Type} (xs : List α) {w : Int} (h : 0 < w) : cutL xs (some (-w)) none = xs.drop (xs.length - w.toNat) := by
  unfold cutL
  have e : HT.sIx xs.length 0 (some (-w)) = xs.length - w.toNat := by
    show (if -w < 0 then (-w + (xs.length : Int)).toNat else min (-w).toNat xs.length) = _
    rw [if_pos (by omega)]
    omega
  rw [e, HT.sIx_none, List.take_of_length_le (by rw [List.length_drop]; exact Nat.le_refl _)]
theorem gMul_n {a : Int} {i n : Nat} (ha : a.natAbs < 2 ^ 30) (h : i ≤ n) (hn : n < 1073741824) : gBin .Mult (.dt (.int a)) (.dt (.int (i : Int))) = .ok (.dt (.int (a * (i : Int)))) :=
  gB_mul (mulX_of ha (m := 30) (by have : (2 : Nat) ^ 30 = 1073741824 := by decide
                                   omega) (by decide) (by decide) (by decide))
/-- values, each told -/
theorem ints_of {P : Int → Prop} : ∀ {ds : List PyData}, (∀ d ∈ ds, ∃ v : Int, d = .int v ∧ P v) → ∃ r : List Int, ds = r.map .int ∧ ∀ v ∈ r, P v
  | [], _ => ⟨[], rfl, fun _ h => nomatch h⟩
  | d :: ds, h => by
    obtain ⟨v, rfl, h1⟩ := h d List.mem_cons_self
    obtain ⟨r, rfl, h2⟩ := ints_of fun x hx => h x (List.mem_cons_of_mem _ hx)
    exact ⟨v :: r, rfl, fun u hu => (List.mem_cons.mp hu).elim (fun e => e ▸ h1) (h2 u)⟩
theorem fs_any {α : Type} (p : α → Bool) (w : Vw) : ∀ as : List α, (as.findSome? fun a => if p a = true then some w else none) = if as.any p = true then some w else none
  | [] => rfl
  | a :: as => by
    rw [List.findSome?_cons, List.any_cons]
    cases p a with
    | true => rfl
    | false => exact fs_any p w as
end BR
namespace BR
open PySem PySem.Spec PyProof.Rows L2
/-! ### rows that begin anew -/
theorem rng_drop {q : RuT} {t : List Int} {s : Nat} (h : rng q (t.drop s) = true) : rng q t = true := by
  have e : ∃ k, lst q.2.1 (t.drop s) = (lst q.2.1 t).drop k := by
    refine ⟨s + (t.length - s - q.2.1.toNat) - (t.length - q.2.1.toNat), ?_⟩
    unfold lst
    rw [List.drop_drop, List.drop_drop, List.length_drop]
    congr 1
    omega
  obtain ⟨k, e⟩ := e
  rw [rng_iff] at h ⊢
  have a : nAb q (t.drop s) ≤ nAb q t := by
    unfold nAb
    rw [e]
    exact ((List.drop_sublist k _).filter _).length_le
  have b : nBe q (t.drop s) ≤ nBe q t := by
    unfold nBe
    rw [e]
    exact ((List.drop_sublist k _).filter _).length_le
  omega
theorem anyR_drop {rs : List RuT} {t : List Int} {s : Nat} (h : anyR rs (t.drop s) = true) : anyR rs t = true := by
  unfold anyR at h ⊢
  rw [List.any_eq_true] at h ⊢
  obtain ⟨q, hq, e⟩ := h
  exact ⟨q, hq, rng_drop e⟩
/-- row[s:s+m] rings at its end -/
abbrev rgA (rs : List RuT) (r : List Int) (s p : Nat) : Bool := anyR rs ((r.drop s).take (p + 1 - s))
def anS (rs : List RuT) (r : List Int) : Nat → List Nat × Nat
  | 0 => ([], 0)
  | p + 1 => if rgA rs r (anS rs r p).2 p = true then ((anS rs r p).1 ++ [p], p + 1) else anS rs r p
def anN (rs : List RuT) (r : List Int) : List Nat := (anS rs r r.length).1
def chn (rs : List RuT) (r : List Int) : Nat → List Nat → Nat → Nat → Prop
  | s, [], n, e => e = s ∧ s ≤ n ∧ ∀ q, s ≤ q → q < n → rgA rs r s q = false
  | s, p :: ps, n, e => s ≤ p ∧ p < n ∧ (∀ q, s ≤ q → q < p → rgA rs r s q = false) ∧ rgA rs r s p = true ∧ chn rs r (p + 1) ps n e
section
variable {rs : List RuT} {r : List Int}
theorem chn_le : ∀ {ps : List Nat} {s n e : Nat}, chn rs r s ps n e → s ≤ e ∧ e ≤ n
  | [], s, n, e, h => by
    obtain ⟨rfl, h2, _⟩ := h
    exact ⟨Nat.le_refl _, h2⟩
  | p :: ps, s, n, e, h => by
    obtain ⟨h1, h2, _, _, h5⟩ := h
    have := chn_le h5
    omega
theorem chn_no : ∀ {ps : List Nat} {s n e : Nat}, chn rs r s ps n e → rgA rs r e n = false → chn rs r s ps (n + 1) e
  | [], s, n, e, h, k => by
    obtain ⟨rfl, h2, h3⟩ := h
    refine ⟨rfl, by omega, fun q h4 h5 => ?_⟩
    by_cases z : q = n
    · subst z; exact k
    · exact h3 q h4 (by omega)
  | p :: ps, s, n, e, h, k => by
    obtain ⟨h1, h2, h3, h4, h5⟩ := h
    exact ⟨h1, by omega, h3, h4, chn_no h5 k⟩
theorem chn_yes : ∀ {ps : List Nat} {s n e : Nat}, chn rs r s ps n e → rgA rs r e n = true → chn rs r s (ps ++ [n]) (n + 1) (n + 1)
  | [], s, n, e, h, k => by
    obtain ⟨rfl, h2, h3⟩ := h
    exact ⟨h2, by omega, h3, k, rfl, Nat.le_refl _, fun q h4 h5 => by omega⟩
  | p :: ps, s, n, e, h, k => by
    obtain ⟨h1, h2, h3, h4, h5⟩ := h
    exact ⟨h1, by omega, h3, h4, chn_yes h5 k⟩
theorem anS_chn : ∀ n : Nat, chn rs r 0 (anS rs r n).1 n (anS rs r n).2
  | 0 => ⟨rfl, Nat.le_refl _, fun q _ h => absurd h (Nat.not_lt_zero _)⟩
  | n + 1 => by
    have ih := anS_chn n
    unfold anS
    split
    · rename_i h
      exact chn_yes ih h
    · rename_i h
      exact chn_no ih (by simpa using h)
theorem chn_uniq : ∀ {ps qs : List Nat} {s n e f : Nat}, chn rs r s ps n e → chn rs r s qs n f → ps = qs ∧ e = f
  | [], [], s, n, e, f, h, k => ⟨rfl, h.1.trans k.1.symm⟩
  | [], q :: qs, s, n, e, f, h, k => by
    obtain ⟨_, _, h3⟩ := h
    obtain ⟨k1, k2, _, k4, _⟩ := k
    rw [h3 q k1 k2] at k4
    cases k4
  | p :: ps, [], s, n, e, f, h, k => by
    obtain ⟨_, _, h3⟩ := k
    obtain ⟨k1, k2, _, k4, _⟩ := h
    rw [h3 p k1 k2] at k4
    cases k4
  | p :: ps, q :: qs, s, n, e, f, h, k => by
    obtain ⟨h1, h2, h3, h4, h5⟩ := h
    obtain ⟨k1, k2, k3, k4, k5⟩ := k
    have e1 : p = q := by
      rcases Nat.lt_trichotomy p q with z | z | z
      · rw [k3 p h1 z] at h4; cases h4
      · exact z
      · rw [h3 q k1 z] at k4; cases k4
    subst e1
    obtain ⟨e2, e3⟩ := chn_uniq h5 k5
    exact ⟨by rw [e2], e3⟩
theorem chn_mem : ∀ {ps : List Nat} {s n e : Nat}, chn rs r s ps n e → ∀ p ∈ ps, s ≤ p ∧ p < n ∧ anyR rs (r.take (p + 1)) = true
  | [], s, n, e, h, p, hp => nomatch hp
  | p :: ps, s, n, e, h, x, hx => by
    obtain ⟨h1, h2, h3, h4, h5⟩ := h
    rcases List.mem_cons.mp hx with z | z
    · subst z
      refine ⟨h1, h2, ?_⟩
      have e : (r.drop s).take (x + 1 - s) = (r.take (x + 1)).drop s := by rw [List.drop_take]
      rw [rgA, e] at h4
      exact anyR_drop h4
    · have := chn_mem h5 x z
      exact ⟨by omega, this.2⟩
theorem chn_pw : ∀ {ps : List Nat} {s n e : Nat}, chn rs r s ps n e → ps.Pairwise (· < ·)
  | [], s, n, e, h => .nil
  | p :: ps, s, n, e, h => by
    obtain ⟨h1, h2, h3, h4, h5⟩ := h
    refine List.pairwise_cons.mpr ⟨fun x hx => ?_, chn_pw h5⟩
    have := (chn_mem h5 x hx).1
    omega
theorem anN_chn : chn rs r 0 (anN rs r) r.length (anS rs r r.length).2 := anS_chn r.length
theorem anN_alm {p : Nat} (h : p ∈ anN rs r) : p ∈ almN rs r := by
  obtain ⟨_, h2, h3⟩ := chn_mem anN_chn p h
  unfold almN
  rw [List.mem_filter]
  exact ⟨List.mem_range.mpr h2, h3⟩
theorem almN_nil {x : List Int} (h : ∀ k, k < x.length → anyR rs (x.take (k + 1)) = false) : almN rs x = [] := by
  unfold almN
  rw [List.filter_eq_nil_iff]
  intro k hk z
  rw [h k (List.mem_range.mp hk)] at z
  cases z
theorem almN_head {x : List Int} {m : Nat} (hm : m < x.length) (h : ∀ k, k < m → anyR rs (x.take (k + 1)) = false) (ht : anyR rs (x.take (m + 1)) = true) : ∃ l, almN rs x = m :: l := by
  unfold almN
  obtain ⟨d, hd⟩ : ∃ d, x.length = m + (d + 1) := ⟨x.length - m - 1, by omega⟩
  rw [hd, List.range_add, List.filter_append, List.range_succ_eq_map, List.map_cons]
  have e1 : (List.range m).filter (fun p => anyR rs (x.take (p + 1))) = [] := by
    rw [List.filter_eq_nil_iff]
    intro k hk z
    rw [h k (List.mem_range.mp hk)] at z
    cases z
  rw [e1, List.nil_append, List.filter_cons_of_pos (by simpa using ht)]
  exact ⟨_, rfl⟩
theorem quiet_part {s p : Nat} (h1 : s ≤ p) (h2 : p ≤ r.length) (h : ∀ q, s ≤ q → q < p → rgA rs r s q = false) : almN rs ((r.drop s).take (p - s)) = [] := by
  refine almN_nil fun k hk => ?_
  rw [List.length_take, List.length_drop] at hk
  rw [List.take_take, Nat.min_eq_left (by omega)]
  have := h (s + k) (by omega) (by omega)
  rw [rgA, show s + k + 1 - s = k + 1 from by omega] at this
  exact this
theorem first_part {s p : Nat} (h1 : s ≤ p) (h2 : p < r.length) (h : ∀ q, s ≤ q → q < p → rgA rs r s q = false) (ht : rgA rs r s p = true) : ∃ l, almN rs (r.drop s) = (p - s) :: l := by
  refine almN_head (by rw [List.length_drop]; omega) (fun k hk => ?_) ?_
  · have := h (s + k) (by omega) (by omega)
    rw [rgA, show s + k + 1 - s = k + 1 from by omega] at this
    exact this
  · rw [rgA, show p + 1 - s = p - s + 1 from by omega] at ht
    exact ht
/-- the alarms, anew and lost together -/
theorem anN_lost : srtI ((anN rs r ++ (almN rs r).filter fun p => !(anN rs r).contains p).map fun p : Nat => (p : Int)) = (almN rs r).map fun p : Nat => (p : Int) := by
  have pwA : (almN rs r).Pairwise (· < ·) := by
    unfold almN
    exact (List.pairwise_lt_range).filter _
  have pwN : (anN rs r).Pairwise (· < ·) := chn_pw anN_chn
  have ndA : (almN rs r).Nodup := pwA.imp fun h => Nat.ne_of_lt h
  have ndN : (anN rs r).Nodup := pwN.imp fun h => Nat.ne_of_lt h
  refine pw_uniq ((srtI_perm _).trans (List.Perm.map _ ?_)) (srtI_pw _) ?_
  · refine (List.perm_ext_iff_of_nodup ?_ ndA).mpr fun p => ?_
    · rw [List.nodup_append]
      refine ⟨ndN, ndA.filter _, fun a ha b hb e => ?_⟩
      subst e
      have := (List.mem_filter.mp hb).2
      simp at this
      exact this ha
    · rw [List.mem_append, List.mem_filter]
      constructor
      · rintro (h | h)
        · exact anN_alm h
        · exact h.1
      · intro h
        by_cases z : p ∈ anN rs r
        · exact .inl z
        · exact .inr ⟨h, by simpa using z⟩
  · rw [List.pairwise_map]
    exact pwA.imp fun h => by omega
/-- the first ones are the same -/
theorem anN_first : (anN rs r = [] ∧ almN rs r = []) ∨ ∃ p l m, anN rs r = p :: l ∧ almN rs r = p :: m := by
  have h := anN_chn (rs := rs) (r := r)
  cases hn : anN rs r with
  | nil =>
    rw [hn] at h
    left
    refine ⟨rfl, ?_⟩
    have := quiet_part (rs := rs) (r := r) (Nat.zero_le _) (Nat.le_refl _) h.2.2
    rw [List.drop_zero, Nat.sub_zero, List.take_length] at this
    exact this
  | cons p l =>
    rw [hn] at h
    right
    obtain ⟨h1, h2, h3, h4, h5⟩ := h
    obtain ⟨m, e⟩ := first_part h1 h2 h3 h4
    rw [List.drop_zero, Nat.sub_zero] at e
    exact ⟨p, l, m, rfl, e⟩
/-- opposite rows -/
theorem anyR_opp (rs : List RuT) (r : List Int) : anyR rs (opp r) = anyR rs r := by
  unfold anyR
  congr 1
  funext q
  exact rng_opp q r
theorem rgA_opp (s p : Nat) : rgA rs (opp r) s p = rgA rs r s p := by
  unfold rgA
  rw [← anyR_opp rs ((r.drop s).take (p + 1 - s))]
  unfold opp
  rw [List.map_take, List.map_drop]
theorem anS_opp : ∀ n, anS rs (opp r) n = anS rs r n
  | 0 => rfl
  | n + 1 => by
    unfold anS
    rw [anS_opp n, rgA_opp]
theorem anN_opp : anN rs (opp r) = anN rs r := by
  unfold anN
  rw [anS_opp]
  unfold opp
  rw [List.length_map]
/-! put together behind an alarm -/
theorem rgA_app {x y : List Int} {s p : Nat} (hp : p < x.length) : rgA rs (x ++ y) s p = rgA rs x s p := by
  unfold rgA
  congr 1
  by_cases h : s ≤ x.length
  · rw [List.drop_append_of_le_length h, List.take_append_of_le_length (by rw [List.length_drop]; omega)]
  · rw [show p + 1 - s = 0 from by omega, List.take_zero, List.take_zero]
theorem rgA_shift {x y : List Int} {s p : Nat} : rgA rs (x ++ y) (x.length + s) (x.length + p) = rgA rs y s p := by
  unfold rgA
  congr 1
  rw [show x.length + p + 1 - (x.length + s) = p + 1 - s from by omega, ← List.drop_drop, List.drop_left]
theorem chn_join {x y : List Int} : ∀ {ps : List Nat} {s e : Nat}, chn rs x s ps x.length e → e = x.length → ∀ {qs : List Nat} {f : Nat}, chn rs y 0 qs y.length f →
    chn rs (x ++ y) s (ps ++ qs.map fun q => x.length + q) (x.length + y.length) (x.length + f)
  | p :: ps, s, e, h, he, qs, f, k => by
    obtain ⟨h1, h2, h3, h4, h5⟩ := h
    refine ⟨h1, by omega, fun q a b => ?_, ?_, chn_join h5 he k⟩
    · rw [rgA_app (by omega)]; exact h3 q a b
    · rw [rgA_app h2]; exact h4
  | [], s, e, h, he, qs, f, k => by
    obtain ⟨rfl, h2, h3⟩ := h
    subst he
    have key : ∀ {qs : List Nat} {s0 f : Nat}, chn rs y s0 qs y.length f → chn rs (x ++ y) (x.length + s0) (qs.map fun q => x.length + q) (x.length + y.length) (x.length + f) := by
      intro qs
      induction qs with
      | nil =>
        rintro s0 f ⟨rfl, k2, k3⟩
        refine ⟨rfl, by omega, fun q a b => ?_⟩
        have := k3 (q - x.length) (by omega) (by omega)
        rw [← rgA_shift (x := x), show x.length + (q - x.length) = q from by omega] at this
        exact this
      | cons p qs ih =>
        rintro s0 f ⟨k1, k2, k3, k4, k5⟩
        show chn rs (x ++ y) (x.length + s0) ((x.length + p) :: qs.map fun q => x.length + q) (x.length + y.length) (x.length + f)
        refine ⟨by omega, by omega, fun q a b => ?_, ?_, ?_⟩
        · have := k3 (q - x.length) (by omega) (by omega)
          rw [← rgA_shift (x := x), show x.length + (q - x.length) = q from by omega] at this
          exact this
        · rw [rgA_shift]; exact k4
        · have := ih k5
          rw [show x.length + (p + 1) = x.length + p + 1 from by omega] at this
          exact this
    exact key k
/-- cut behind the last alarm -/
theorem chn_cut {z : Nat} : ∀ {ps : List Nat} {s n e : Nat}, chn rs r s (ps ++ [z]) n e → n ≤ r.length → chn rs (r.take (z + 1)) s (ps ++ [z]) (z + 1) (z + 1)
  | [], s, n, e, h, hn => by
    obtain ⟨h1, h2, h3, h4, h5⟩ := h
    have cut : ∀ q, q < z + 1 → rgA rs (r.take (z + 1)) s q = rgA rs r s q := fun q hq => by
      conv => rhs; rw [← List.take_append_drop (z + 1) r]
      rw [rgA_app (by rw [List.length_take]; omega)]
    refine ⟨h1, by omega, fun q a b => ?_, ?_, rfl, Nat.le_refl _, fun q a b => by omega⟩
    · rw [cut q (by omega)]; exact h3 q a b
    · rw [cut z (by omega)]; exact h4
  | p :: ps, s, n, e, h, hn => by
    obtain ⟨h1, h2, h3, h4, h5⟩ := h
    have hz := (chn_mem h5 z (by simp)).1
    have cut : ∀ q, q < z + 1 → rgA rs (r.take (z + 1)) s q = rgA rs r s q := fun q hq => by
      have := (chn_mem h5 z (by simp)).2.1
      conv => rhs; rw [← List.take_append_drop (z + 1) r]
      rw [rgA_app (by rw [List.length_take]; omega)]
    refine ⟨h1, by omega, fun q a b => ?_, ?_, chn_cut h5 hn⟩
    · rw [cut q (by omega)]; exact h3 q a b
    · rw [cut p (by omega)]; exact h4
theorem anN_join {ps : List Nat} {z : Nat} (h : anN rs r = ps ++ [z]) (o : List Int) :
    anN rs (r.take (z + 1) ++ (r.drop (z + 1) ++ o)) = anN rs r ++ (anN rs (r.drop (z + 1) ++ o)).map fun q => z + 1 + q := by
  have c := anN_chn (rs := rs) (r := r)
  rw [h] at c
  have hz : z < r.length := (chn_mem c z (by simp)).2.1
  have hl : (r.take (z + 1)).length = z + 1 := by rw [List.length_take]; omega
  have d := chn_cut c (Nat.le_refl _)
  rw [← hl] at d
  have := chn_join (rs := rs) (x := r.take (z + 1)) (y := r.drop (z + 1) ++ o) (e := (r.take (z + 1)).length) (by rw [hl] at d ⊢; exact d) rfl anN_chn
  rw [← List.length_append] at this
  have u := (chn_uniq anN_chn this).1
  rw [hl, ← h] at u
  exact u
/-! the least number of values that ring -/
def leM : List RuT → Int
  | [] => 0
  | q :: rs => extI false q.1 (rs.map (·.1))
theorem leM_ok (hn : rs ≠ []) : (∃ q ∈ rs, q.1 = leM rs) ∧ ∀ q ∈ rs, leM rs ≤ q.1 := by
  cases rs with
  | nil => exact absurd rfl hn
  | cons q rs =>
    have h := extI_ok false (rs.map (·.1)) q.1
    have e : q.1 :: rs.map (·.1) = (q :: rs).map (·.1) := rfl
    rw [e] at h
    refine ⟨?_, fun o ho => ?_⟩
    · obtain ⟨o, ho, e⟩ := List.mem_map.mp h.1
      exact ⟨o, ho, e⟩
    · have := h.2 o.1 (List.mem_map.mpr ⟨o, ho, rfl⟩)
      rw [if_neg (by decide)] at this
      exact this
theorem rng_len {q : RuT} (h : rng q r = true) : q.1 ≤ (r.length : Int) := by
  rw [rng_iff] at h
  have hl : (lst q.2.1 r).length ≤ r.length := by unfold lst; rw [List.length_drop]; omega
  have a : nAb q r ≤ r.length := Nat.le_trans (List.length_filter_le _ _) hl
  have b : nBe q r ≤ r.length := Nat.le_trans (List.length_filter_le _ _) hl
  omega
theorem anyR_len (h : anyR rs r = true) : leM rs ≤ (r.length : Int) := by
  unfold anyR at h
  rw [List.any_eq_true] at h
  obtain ⟨q, hq, e⟩ := h
  have := (leM_ok (rs := rs) (fun z => by rw [z] at hq; cases hq)).2 q hq
  have := rng_len e
  omega
theorem chn_most {L : Nat} (hL : leM rs = (L : Int)) : ∀ {ps : List Nat} {s n e : Nat}, chn rs r s ps n e → s + ps.length * L ≤ e
  | [], s, n, e, h => by
    obtain ⟨rfl, _, _⟩ := h
    simp
  | p :: ps, s, n, e, h => by
    obtain ⟨h1, h2, h3, h4, h5⟩ := h
    have i := chn_most hL h5
    have := anyR_len h4
    rw [List.length_take, hL] at this
    rw [List.length_cons, Nat.add_mul, Nat.one_mul]
    omega
/-- rows of one value, far out -/
theorem rep_rng {q : RuT} (h : Ru q) {v : Int} (hv : v = 3 ∨ v = -3) (n : Nat) : rng q (List.replicate n v) = decide (q.1 ≤ (n : Int)) := by
  obtain ⟨w1, w4, m1, mw, b1, b3⟩ := h
  have e : lst q.2.1 (List.replicate n v) = List.replicate (min n q.2.1.toNat) v := by
    unfold lst
    rw [List.length_replicate, List.drop_replicate]
    congr 1
    omega
  rw [Bool.eq_iff_iff, rng_iff, decide_eq_true_eq]
  unfold nAb nBe
  rw [e]
  rcases hv with hv | hv <;> subst hv
  · rw [List.filter_replicate_of_pos (by simpa using b3), List.filter_replicate_of_neg (by simp; omega), List.length_replicate, List.length_nil]
    omega
  · rw [List.filter_replicate_of_neg (by simp; omega), List.filter_replicate_of_pos (by simp; omega), List.length_replicate, List.length_nil]
    omega
theorem rep_any (h : ∀ q ∈ rs, Ru q) (hn : rs ≠ []) {v : Int} (hv : v = 3 ∨ v = -3) (n : Nat) : anyR rs (List.replicate n v) = decide (leM rs ≤ (n : Int)) := by
  obtain ⟨⟨q0, hq0, e0⟩, hl⟩ := leM_ok hn
  rw [Bool.eq_iff_iff, decide_eq_true_eq]
  unfold anyR
  rw [List.any_eq_true]
  constructor
  · rintro ⟨q, hq, e⟩
    rw [rep_rng (h q hq) hv, decide_eq_true_eq] at e
    have := hl q hq
    omega
  · intro z
    exact ⟨q0, hq0, by rw [rep_rng (h q0 hq0) hv, decide_eq_true_eq]; omega⟩
theorem rep_anS (h : ∀ q ∈ rs, Ru q) (hn : rs ≠ []) {L : Nat} (hL : leM rs = (L : Int)) (l1 : 1 ≤ L) (n : Nat) : ∀ p, p ≤ n → (anS rs (List.replicate n 3) p).1.length = p / L ∧ (anS rs (List.replicate n 3) p).2 = L * (p / L)
  | 0, _ => ⟨by simp [anS], by simp [anS]⟩
  | p + 1, hp => by
    obtain ⟨i1, i2⟩ := rep_anS h hn hL l1 n p (by omega)
    have dm := Nat.div_add_mod p L
    have ml := Nat.mod_lt p (show L > 0 by omega)
    have cut : rgA rs (List.replicate n 3) (anS rs (List.replicate n 3) p).2 p = decide (p % L + 1 = L) := by
      unfold rgA
      rw [List.drop_replicate, List.take_replicate, rep_any h hn (.inl rfl), hL, i2]
      exact decide_eq_decide.mpr (by omega)
    unfold anS
    rw [cut]
    by_cases z : p % L + 1 = L
    · rw [if_pos (decide_eq_true z)]
      have e : p + 1 = L * (p / L + 1) := by rw [Nat.mul_add, Nat.mul_one]; omega
      have d : (p + 1) / L = p / L + 1 := by rw [e]; exact Nat.mul_div_cancel_left _ (by omega)
      refine ⟨by rw [List.length_append, i1, d]; rfl, ?_⟩
      rw [d]
      exact e
    · rw [if_neg (by simpa using z)]
      have d : (p + 1) / L = p / L := by
        rw [show p + 1 = p % L + 1 + L * (p / L) from by omega, Nat.add_mul_div_left _ _ (by omega), Nat.div_eq_of_lt (by omega), Nat.zero_add]
      rw [d]
      exact ⟨i1, i2⟩
theorem zero_any (h : ∀ q ∈ rs, Ru q) (n : Nat) : anyR rs (List.replicate n 0) = false := by
  unfold anyR
  rw [List.any_eq_false]
  intro q hq z
  obtain ⟨w1, w4, m1, mw, b1, b3⟩ := h q hq
  rw [rng_iff] at z
  have e : lst q.2.1 (List.replicate n 0) = List.replicate (min n q.2.1.toNat) 0 := by
    unfold lst
    rw [List.length_replicate, List.drop_replicate]
    congr 1
    omega
  unfold nAb nBe at z
  rw [e, List.filter_replicate_of_neg (by simp; omega), List.filter_replicate_of_neg (by simp; omega), List.length_nil] at z
  omega
theorem zero_alm (h : ∀ q ∈ rs, Ru q) (n : Nat) : almN rs (List.replicate n 0) = [] := almN_nil fun k _ => by rw [List.take_replicate]; exact zero_any h _
/-- one rule that sees one value: none is lost -/
theorem one_any {q : RuT} (h : Ru q) (hw : q.2.1 = 1) {s p : Nat} (hs : s ≤ p) (hp : p < r.length) : rgA [q] r s p = anyR [q] (r.take (p + 1)) := by
  unfold rgA anyR
  rw [List.any_cons, List.any_cons, List.any_nil, List.any_nil]
  congr 1
  refine rng_lst ?_
  rw [lst_tail (n := p + 1 - s) (by omega) (by omega), show s + (p + 1 - s) = p + 1 from by omega]
theorem one_anS {q : RuT} (h : Ru q) (hw : q.2.1 = 1) : ∀ n, n ≤ r.length → (anS [q] r n).1 = (List.range n).filter fun p => anyR [q] (r.take (p + 1))
  | 0, _ => rfl
  | n + 1, hn => by
    have ih := one_anS h hw n (by omega)
    have le := (chn_le (anS_chn (rs := [q]) (r := r) n)).2
    unfold anS
    rw [one_any h hw le (by omega), List.range_succ, List.filter_append]
    cases hz : anyR [q] (r.take (n + 1)) with
    | true => rw [if_pos rfl, ih, List.filter_cons_of_pos (by simpa using hz)]; rfl
    | false => rw [if_neg (by decide), ih, List.filter_cons_of_neg (by simp [hz])]; simp
theorem one_anN {q : RuT} (h : Ru q) (hw : q.2.1 = 1) : anN [q] r = almN [q] r := one_anS h hw r.length (Nat.le_refl _)
end
end BR
namespace BR
open PySem PySem.Spec PyProof.Rows L2
/-! ### one side -/
def abvA (rs : List RuT) (r : List Int) : Bool := rs.any fun q => abv q r
def blwA (rs : List RuT) (r : List Int) : Bool := rs.any fun q => blw q r
theorem abvA_iff {rs : List RuT} {r : List Int} : abvA rs r = true ↔ ∃ q ∈ rs, abv q r = true := List.any_eq_true
theorem blwA_iff {rs : List RuT} {r : List Int} : blwA rs r = true ↔ ∃ q ∈ rs, blw q r = true := List.any_eq_true
theorem anyR_ab (rs : List RuT) (r : List Int) : anyR rs r = (abvA rs r || blwA rs r) := by
  unfold anyR abvA blwA rng
  induction rs with
  | nil => rfl
  | cons q rs ih =>
    rw [List.any_cons, List.any_cons, List.any_cons, ih]
    cases abv q r <;> cases blw q r <;> simp
theorem abvA_opp (rs : List RuT) (r : List Int) : abvA rs (opp r) = blwA rs r := by
  unfold abvA blwA
  congr 1
  funext q
  exact abv_opp q r
theorem blwA_opp (rs : List RuT) (r : List Int) : blwA rs (opp r) = abvA rs r := by rw [← abvA_opp, opp_opp]
def abN (rs : List RuT) (r : List Int) : List Nat := (List.range r.length).filter fun p => abvA rs (r.take (p + 1))
def blN (rs : List RuT) (r : List Int) : List Nat := (List.range r.length).filter fun p => blwA rs (r.take (p + 1))
theorem opp_len (r : List Int) : (opp r).length = r.length := by unfold opp; rw [List.length_map]
theorem opp_take (r : List Int) (n : Nat) : (opp r).take n = opp (r.take n) := by unfold opp; rw [List.map_take]
theorem abN_opp (rs : List RuT) (r : List Int) : abN rs (opp r) = blN rs r := by
  unfold abN blN
  rw [opp_len]
  congr 1
  funext p
  rw [opp_take, abvA_opp]
theorem blN_opp (rs : List RuT) (r : List Int) : blN rs (opp r) = abN rs r := by rw [← abN_opp, opp_opp]
theorem mem_abN {rs : List RuT} {r : List Int} {p : Nat} : p ∈ abN rs r ↔ p < r.length ∧ abvA rs (r.take (p + 1)) = true := by
  unfold abN
  rw [List.mem_filter, List.mem_range]
theorem mem_blN {rs : List RuT} {r : List Int} {p : Nat} : p ∈ blN rs r ↔ p < r.length ∧ blwA rs (r.take (p + 1)) = true := by
  unfold blN
  rw [List.mem_filter, List.mem_range]
theorem mem_almN {rs : List RuT} {r : List Int} {p : Nat} : p ∈ almN rs r ↔ p < r.length ∧ anyR rs (r.take (p + 1)) = true := by
  unfold almN
  rw [List.mem_filter, List.mem_range]
theorem range_pw (n : Nat) : (List.range n).Pairwise (· < ·) := List.pairwise_lt_range
theorem iN_pw {l : List Nat} (h : l.Pairwise (· < ·)) : (l.map fun p : Nat => (p : Int)).Pairwise (· < ·) := by
  rw [List.pairwise_map]
  exact h.imp fun h => by omega
theorem abN_pw (rs : List RuT) (r : List Int) : (abN rs r).Pairwise (· < ·) := (range_pw _).sublist List.filter_sublist
theorem blN_pw (rs : List RuT) (r : List Int) : (blN rs r).Pairwise (· < ·) := (range_pw _).sublist List.filter_sublist
theorem almN_pw (rs : List RuT) (r : List Int) : (almN rs r).Pairwise (· < ·) := (range_pw _).sublist List.filter_sublist
abbrev iN (l : List Nat) : List Int := l.map fun p : Nat => (p : Int)
theorem mem_iN {l : List Nat} {x : Int} : x ∈ iN l ↔ ∃ p ∈ l, (p : Int) = x := List.mem_map
/-- both sides together -/
theorem srtU_both (rs : List RuT) (r : List Int) : srtU (iN (abN rs r) ++ iN (blN rs r)) = iN (almN rs r) := by
  refine lt_uniq (srtU_pw _) (iN_pw (almN_pw rs r)) fun x => ?_
  rw [srtU_mem, List.mem_append, mem_iN, mem_iN, mem_iN]
  constructor
  · rintro (⟨p, hp, e⟩ | ⟨p, hp, e⟩)
    · obtain ⟨h1, h2⟩ := mem_abN.mp hp
      exact ⟨p, mem_almN.mpr ⟨h1, by rw [anyR_ab, h2]; rfl⟩, e⟩
    · obtain ⟨h1, h2⟩ := mem_blN.mp hp
      exact ⟨p, mem_almN.mpr ⟨h1, by rw [anyR_ab, h2, Bool.or_true]⟩, e⟩
  · rintro ⟨p, hp, e⟩
    obtain ⟨h1, h2⟩ := mem_almN.mp hp
    rw [anyR_ab, Bool.or_eq_true] at h2
    rcases h2 with h2 | h2
    · exact .inl ⟨p, mem_abN.mpr ⟨h1, h2⟩, e⟩
    · exact .inr ⟨p, mem_blN.mpr ⟨h1, h2⟩, e⟩
theorem srtU_self {l : List Int} (h : l.Pairwise (· < ·)) : srtU l = l := lt_uniq (srtU_pw _) h fun x => srtU_mem
/-! the values' amounts -/
def hiR (r : List Int) : List Int := r.map fun v => if v < 0 then -v else v
theorem Ro.hi {r : List Int} (h : Ro r) : Ro (hiR r) := by
  refine ⟨by unfold hiR; rw [List.length_map]; exact h.len, fun v hv => ?_⟩
  unfold hiR at hv
  obtain ⟨u, hu, rfl⟩ := List.mem_map.mp hv
  have := h.val u hu
  split <;> omega
theorem abv_hi {q : RuT} {r : List Int} (h : abv q r = true ∨ blw q r = true) : abv q (hiR r) = true := by
  unfold abv blw at *
  rw [decide_eq_true_eq, decide_eq_true_eq] at h
  rw [decide_eq_true_eq]
  have a : nAb q r ≤ nAb q (hiR r) := by
    unfold nAb hiR
    rw [lst_map, List.filter_map, List.length_map]
    refine filter_mono fun v _ hp => ?_
    simp only [Function.comp, decide_eq_true_eq] at hp ⊢
    split <;> omega
  have b : nBe q r ≤ nAb q (hiR r) := by
    unfold nAb nBe hiR
    rw [lst_map, List.filter_map, List.length_map]
    refine filter_mono fun v _ hp => ?_
    simp only [Function.comp, decide_eq_true_eq] at hp ⊢
    split <;> omega
  omega
theorem blw_hi {q : RuT} {r : List Int} (h : Ru q) : blw q (hiR r) = false := by
  unfold blw
  rw [decide_eq_false_iff_not]
  have z : nBe q (hiR r) = 0 := by
    unfold nBe
    rw [List.length_eq_zero_iff, List.filter_eq_nil_iff]
    intro v hv
    have hv := lst_mem hv
    unfold hiR at hv
    obtain ⟨u, hu, rfl⟩ := List.mem_map.mp hv
    have := h.b1
    rw [decide_eq_true_eq]
    split <;> omega
  have := h.m1
  omega
theorem hi_take (r : List Int) (n : Nat) : (hiR r).take n = hiR (r.take n) := by unfold hiR; rw [List.map_take]
theorem hi_len (r : List Int) : (hiR r).length = r.length := by unfold hiR; rw [List.length_map]
theorem blN_hi {rs : List RuT} (h : ∀ q ∈ rs, Ru q) (r : List Int) : blN rs (hiR r) = [] := by
  unfold blN
  rw [List.filter_eq_nil_iff]
  intro p _ z
  rw [hi_take] at z
  obtain ⟨q, hq, z⟩ := blwA_iff.mp z
  rw [blw_hi (h q hq)] at z
  cases z
theorem abN_hi {rs : List RuT} {r : List Int} {p : Nat} (h : p ∈ abN rs r ∨ p ∈ blN rs r) : p ∈ abN rs (hiR r) := by
  rw [mem_abN, hi_len, hi_take, abvA_iff]
  rcases h with h | h
  · obtain ⟨h1, h2⟩ := mem_abN.mp h
    obtain ⟨q, hq, z⟩ := abvA_iff.mp h2
    exact ⟨h1, q, hq, abv_hi (.inl z)⟩
  · obtain ⟨h1, h2⟩ := mem_blN.mp h
    obtain ⟨q, hq, z⟩ := blwA_iff.mp h2
    exact ⟨h1, q, hq, abv_hi (.inr z)⟩
theorem abN_sub {rs ts : List RuT} {r : List Int} (h : ∀ q ∈ rs, q ∈ ts) {p : Nat} (hp : p ∈ abN rs r) : p ∈ abN ts r := by
  obtain ⟨h1, h2⟩ := mem_abN.mp hp
  obtain ⟨q, hq, z⟩ := abvA_iff.mp h2
  exact mem_abN.mpr ⟨h1, abvA_iff.mpr ⟨q, h q hq, z⟩⟩
/-! ### both sides -/
def prB (rs : List RuT) : List Int := rs.flatMap fun q => (rs.filter fun o => decide (q.1 + o.1 ≤ max q.2.1 o.2.1)).map fun o => q.1 + o.1
theorem mem_prB {rs : List RuT} {n : Int} : n ∈ prB rs ↔ ∃ q ∈ rs, ∃ o ∈ rs, q.1 + o.1 ≤ max q.2.1 o.2.1 ∧ q.1 + o.1 = n := by
  unfold prB
  rw [List.mem_flatMap]
  constructor
  · rintro ⟨q, hq, h⟩
    obtain ⟨o, ho, e⟩ := List.mem_map.mp h
    obtain ⟨h1, h2⟩ := List.mem_filter.mp ho
    exact ⟨q, hq, o, h1, of_decide_eq_true h2, e⟩
  · rintro ⟨q, hq, o, ho, h, e⟩
    exact ⟨q, hq, List.mem_map.mpr ⟨o, List.mem_filter.mpr ⟨ho, decide_eq_true h⟩, e⟩⟩
def lenB (rs : List RuT) : Option Int := match prB rs with
  | [] => none
  | n :: ns => some (extI false n ns)
theorem lenB_none {rs : List RuT} : lenB rs = none ↔ ∀ q ∈ rs, ∀ o ∈ rs, ¬ q.1 + o.1 ≤ max q.2.1 o.2.1 := by
  unfold lenB
  cases e : prB rs with
  | nil =>
    refine ⟨fun _ q hq o ho z => ?_, fun _ => rfl⟩
    have : q.1 + o.1 ∈ prB rs := mem_prB.mpr ⟨q, hq, o, ho, z, rfl⟩
    rw [e] at this
    cases this
  | cons n ns =>
    refine ⟨fun z => (nomatch z), fun z => ?_⟩
    have : n ∈ prB rs := by rw [e]; exact List.mem_cons_self
    obtain ⟨q, hq, o, ho, h, _⟩ := mem_prB.mp this
    exact absurd h (z q hq o ho)
theorem lenB_some {rs : List RuT} {L : Int} (h : lenB rs = some L) : (∃ q ∈ rs, ∃ o ∈ rs, q.1 + o.1 ≤ max q.2.1 o.2.1 ∧ q.1 + o.1 = L) ∧ ∀ q ∈ rs, ∀ o ∈ rs, q.1 + o.1 ≤ max q.2.1 o.2.1 → L ≤ q.1 + o.1 := by
  unfold lenB at h
  cases e : prB rs with
  | nil => rw [e] at h; cases h
  | cons n ns =>
    rw [e] at h
    obtain ⟨h1, h2⟩ := extI_ok false ns n
    have hL : extI false n ns = L := Option.some.inj h
    rw [hL] at h1 h2
    refine ⟨mem_prB.mp (by rw [e]; exact h1), fun q hq o ho z => ?_⟩
    have := h2 (q.1 + o.1) (by rw [← e]; exact mem_prB.mpr ⟨q, hq, o, ho, z, rfl⟩)
    simpa using this
theorem cnt_two {α : Type} {p q : α → Bool} : ∀ xs : List α, (∀ x ∈ xs, ¬ (p x = true ∧ q x = true)) → (xs.filter p).length + (xs.filter q).length ≤ xs.length
  | [], _ => Nat.le_refl _
  | x :: xs, h => by
    have ih := cnt_two xs fun y hy => h y (List.mem_cons_of_mem _ hy)
    have hx := h x List.mem_cons_self
    by_cases hp : p x = true
    · have hq : ¬ q x = true := fun z => hx ⟨hp, z⟩
      rw [List.filter_cons_of_pos hp, List.filter_cons_of_neg hq, List.length_cons, List.length_cons]
      omega
    · rw [List.filter_cons_of_neg hp]
      by_cases hq : q x = true
      · rw [List.filter_cons_of_pos hq, List.length_cons, List.length_cons]
        omega
      · rw [List.filter_cons_of_neg hq, List.length_cons]
        omega
theorem cnt_wide {p : Int → Bool} {s w : Int} (r : List Int) (h : s ≤ w) (h0 : 0 ≤ s) : ((lst s r).filter p).length ≤ ((lst w r).filter p).length := by
  obtain ⟨k, _, e⟩ := lst_drop r h
  rw [e h0]
  exact ((List.drop_sublist k (lst w r)).filter p).length_le
theorem lst_len (w : Int) (r : List Int) : (lst w r).length ≤ r.length ∧ (lst w r).length ≤ w.toNat := by
  unfold lst
  rw [List.length_drop]
  omega
theorem both_need {q o : RuT} {r : List Int} (hq : Ru q) (ho : Ru o) (h1 : abv q r = true) (h2 : blw o r = true) : q.1 + o.1 ≤ max q.2.1 o.2.1 ∧ q.1 + o.1 ≤ (r.length : Int) := by
  unfold abv at h1
  unfold blw at h2
  rw [decide_eq_true_eq] at h1 h2
  have a1 := hq.b1
  have a2 := ho.b1
  have w1 := hq.w1
  have w2 := ho.w1
  have c1 := cnt_wide (p := fun v => decide (q.2.2 ≤ v)) (s := q.2.1) (w := max q.2.1 o.2.1) r (by omega) (by omega)
  have c2 := cnt_wide (p := fun v => decide (v ≤ 0 - o.2.2)) (s := o.2.1) (w := max q.2.1 o.2.1) r (by omega) (by omega)
  have c3 := cnt_two (p := fun v => decide (q.2.2 ≤ v)) (q := fun v => decide (v ≤ 0 - o.2.2)) (lst (max q.2.1 o.2.1) r) fun v _ => by
    rw [decide_eq_true_eq, decide_eq_true_eq]
    omega
  have c4 := lst_len (max q.2.1 o.2.1) r
  unfold nAb at h1
  unfold nBe at h2
  omega
def witB (q o : RuT) : List Int := if o.2.1 ≤ q.2.1 then List.replicate q.1.toNat 3 ++ List.replicate o.1.toNat (-3) else List.replicate o.1.toNat (-3) ++ List.replicate q.1.toNat 3
theorem witB_all : ∀ q ∈ rulesL, ∀ o ∈ rulesL, q.1 + o.1 ≤ max q.2.1 o.2.1 → abv q (witB q o) = true ∧ blw o (witB q o) = true ∧ (witB q o).length = (q.1 + o.1).toNat ∧ (witB q o).all (fun v => decide (-3 ≤ v) && decide (v ≤ 3)) = true := by decide +kernel
def bothA (rs : List RuT) (r : List Int) : Bool := abvA rs r && blwA rs r
theorem bothA_opp (rs : List RuT) (r : List Int) : bothA rs (opp r) = bothA rs r := by
  unfold bothA
  rw [abvA_opp, blwA_opp, Bool.and_comm]
theorem bothA_need {rs : List RuT} (h : ∀ q ∈ rs, Ru q) {r : List Int} (hb : bothA rs r = true) : ∃ L, lenB rs = some L ∧ L ≤ (r.length : Int) := by
  unfold bothA at hb
  rw [Bool.and_eq_true] at hb
  obtain ⟨q, hq, h1⟩ := abvA_iff.mp hb.1
  obtain ⟨o, ho, h2⟩ := blwA_iff.mp hb.2
  obtain ⟨n1, n2⟩ := both_need (h q hq) (h o ho) h1 h2
  cases e : lenB rs with
  | none => exact absurd n1 (lenB_none.mp e q hq o ho)
  | some L => exact ⟨L, rfl, Int.le_trans ((lenB_some e).2 q hq o ho n1) n2⟩
theorem lenB_wit {rs : List RuT} (h : ∀ q ∈ rs, Ru q) {L : Int} (e : lenB rs = some L) : 2 ≤ L ∧ L ≤ 4 ∧ ∃ r ∈ allR L.toNat, bothA rs r = true := by
  obtain ⟨⟨q, hq, o, ho, h1, h2⟩, _⟩ := lenB_some e
  obtain ⟨w1, w2, w3, w4⟩ := witB_all q (ru_mem (h q hq)) o (ru_mem (h o ho)) h1
  have a1 := (h q hq).m1
  have a2 := (h o ho).m1
  have a3 := (h q hq).w4
  have a4 := (h o ho).w4
  refine ⟨by omega, by omega, witB q o, mem_allR.mpr ⟨by rw [w3, h2], fun v hv => ?_⟩, ?_⟩
  · have := List.all_eq_true.mp w4 v hv
    rw [Bool.and_eq_true, decide_eq_true_eq, decide_eq_true_eq] at this
    exact this
  · unfold bothA
    rw [abvA_iff.mpr ⟨q, hq, w1⟩, blwA_iff.mpr ⟨o, ho, w2⟩]
    rfl
def bothF (rs : List RuT) : Option (List Int) := match lenB rs with
  | none => none
  | some L => (allR L.toNat).find? (bothA rs)
/-- rows stand in their order -/
theorem lex_snoc : ∀ {a b : List Int} {u v : Int}, a.length = b.length → (HT.lexLt a b = true ∨ (a = b ∧ u < v)) → HT.lexLt (a ++ [u]) (b ++ [v]) = true
  | [], [], u, v, _, h => by
    rcases h with h | ⟨_, h⟩
    · cases h
    · show HT.lexLt [u] [v] = true
      rw [HT.lexLt_cons, if_neg (by omega)]
      exact decide_eq_true h
  | [], _ :: _, _, _, h, _ => nomatch h
  | _ :: _, [], _, _, h, _ => nomatch h
  | x :: a, y :: b, u, v, hl, h => by
    have hl : a.length = b.length := Nat.succ.inj hl
    rw [List.cons_append, List.cons_append, HT.lexLt_cons]
    rcases h with h | ⟨h, h2⟩
    · rw [HT.lexLt_cons] at h
      by_cases e : x = y
      · rw [if_pos e] at h ⊢
        exact lex_snoc hl (.inl h)
      · rw [if_neg e] at h ⊢
        exact h
    · cases h
      rw [if_pos rfl]
      exact lex_snoc rfl (.inr ⟨rfl, h2⟩)
theorem allR_srt : ∀ n : Nat, (allR n).Pairwise fun a b => HT.lexLt a b = true
  | 0 => List.pairwise_singleton _ _
  | n + 1 => by
    show ((allR n).flatMap fun b => V7.map fun v => b ++ [v]).Pairwise _
    rw [List.pairwise_flatMap]
    refine ⟨fun b _ => ?_, ?_⟩
    · rw [List.pairwise_map]
      have : V7.Pairwise (· < ·) := by decide
      exact this.imp fun h => lex_snoc rfl (.inr ⟨rfl, h⟩)
    · refine (allR_srt n).imp_of_mem fun {a b} ha hb h x hx y hy => ?_
      obtain ⟨u, _, rfl⟩ := List.mem_map.mp hx
      obtain ⟨v, _, rfl⟩ := List.mem_map.mp hy
      exact lex_snoc ((mem_allR.mp ha).1.trans (mem_allR.mp hb).1.symm) (.inl h)
theorem find_first {α : Type} {R : α → α → Prop} {p : α → Bool} : ∀ {l : List α} {a b : α}, l.Pairwise R → l.find? p = some a → b ∈ l → p b = true → a = b ∨ R a b
  | x :: l, a, b, h, hf, hb, pb => by
    obtain ⟨h1, h2⟩ := List.pairwise_cons.mp h
    rw [List.find?_cons] at hf
    cases e : p x with
    | true =>
      rw [e] at hf
      cases hf
      rcases List.mem_cons.mp hb with z | z
      · exact .inl z.symm
      · exact .inr (h1 b z)
    | false =>
      rw [e] at hf
      rcases List.mem_cons.mp hb with z | z
      · rw [z, e] at pb; cases pb
      · exact find_first h2 hf z pb
theorem lex_asymm : ∀ {a b : List Int}, HT.lexLt a b = true → HT.lexLt b a = false
  | [], [], h => by cases h
  | [], _ :: _, _ => rfl
  | _ :: _, [], h => by cases h
  | x :: a, y :: b, h => by
    rw [HT.lexLt_cons] at h ⊢
    by_cases e : x = y
    · rw [if_pos e] at h
      rw [if_pos e.symm]
      exact lex_asymm h
    · rw [if_neg e, decide_eq_true_eq] at h
      rw [if_neg (fun z => e z.symm), decide_eq_false_iff_not]
      omega
theorem bothF_some {rs : List RuT} (h : ∀ q ∈ rs, Ru q) {r : List Int} (e : bothF rs = some r) : bothA rs r = true ∧ ∃ L, lenB rs = some L ∧ (r.length : Int) = L ∧ 2 ≤ L ∧ L ≤ 4 ∧ Ro r ∧ HT.lexLt (opp r) r = false := by
  unfold bothF at e
  cases q : lenB rs with
  | none => rw [q] at e; cases e
  | some L =>
    rw [q] at e
    have e : (allR L.toNat).find? (bothA rs) = some r := e
    obtain ⟨l1, l2, _⟩ := lenB_wit h q
    have hm := mem_allR.mp (List.mem_of_find?_eq_some e)
    have hb := List.find?_some e
    have hr : Ro r := ⟨by omega, hm.2⟩
    refine ⟨hb, L, rfl, by omega, l1, l2, hr, ?_⟩
    have ho : opp r ∈ allR L.toNat := mem_allR.mpr ⟨by rw [opp_len]; exact hm.1, hr.opp.val⟩
    rcases find_first (allR_srt _) e ho (by rw [bothA_opp]; exact hb) with z | z
    · rw [← z]; exact lex_irr r
    · exact lex_asymm z
theorem bothF_none {rs : List RuT} (h : ∀ q ∈ rs, Ru q) : bothF rs = none ↔ lenB rs = none := by
  unfold bothF
  cases q : lenB rs with
  | none => exact ⟨fun _ => rfl, fun _ => rfl⟩
  | some L =>
    refine ⟨fun e => ?_, fun e => (nomatch e)⟩
    obtain ⟨_, _, r, hr, hb⟩ := lenB_wit h q
    have e : (allR L.toNat).find? (bothA rs) = none := e
    rw [List.find?_eq_none] at e
    exact absurd hb (e r hr)
theorem lenB_sub {rs ts : List RuT} (h : ∀ q ∈ rs, q ∈ ts) (e : lenB ts = none) : lenB rs = none :=
  lenB_none.mpr fun q hq o ho => lenB_none.mp e q (h q hq) o (h o ho)
/-- tried one by one -/
theorem bothF_try {rs : List RuT} (h : ∀ q ∈ rs, Ru q) (h3 : ∀ q ∈ rs, q.2.1 ≤ 3) : bothF rs = [1, 2, 3].findSome? fun n => (allR n).find? (bothA rs) := by
  have no : ∀ n : Nat, (∀ L, lenB rs = some L → (n : Int) < L) → (allR n).find? (bothA rs) = none := fun n hn => by
    rw [List.find?_eq_none]
    intro r hr hb
    obtain ⟨L, e, hl⟩ := bothA_need h hb
    have := hn L e
    rw [(mem_allR.mp hr).1] at hl
    omega
  unfold bothF
  cases q : lenB rs with
  | none =>
    symm
    rw [List.findSome?_eq_none_iff]
    exact fun n _ => no n fun L e => by rw [q] at e; cases e
  | some L =>
    obtain ⟨l1, l2, r, hr, hb⟩ := lenB_wit h q
    obtain ⟨⟨q1, hq1, o, ho, s1, s2⟩, _⟩ := lenB_some q
    have := h3 q1 hq1
    have := h3 o ho
    have n1 : (allR 1).find? (bothA rs) = none := no 1 fun L' e => by rw [q] at e; cases e; omega
    have hs : ((allR L.toNat).find? (bothA rs)).isSome = true := by
      rw [List.find?_isSome]
      exact ⟨r, hr, hb⟩
    obtain ⟨t, ht⟩ := Option.isSome_iff_exists.mp hs
    show (allR L.toNat).find? (bothA rs) = _
    have hL : L = 2 ∨ L = 3 := by omega
    rcases hL with hL | hL
    · subst hL
      show (allR 2).find? (bothA rs) = _
      have ht : (allR 2).find? (bothA rs) = some t := ht
      rw [List.findSome?_cons, n1]
      dsimp only
      rw [List.findSome?_cons, ht]
    · subst hL
      show (allR 3).find? (bothA rs) = _
      have ht : (allR 3).find? (bothA rs) = some t := ht
      have n2 : (allR 2).find? (bothA rs) = none := no 2 fun L' e => by rw [q] at e; cases e; omega
      rw [List.findSome?_cons, n1]
      dsimp only
      rw [List.findSome?_cons, n2]
      dsimp only
      rw [List.findSome?_cons, ht]
end BR
namespace BR
open PySem PySem.Spec PyProof.Rows L2
/-! ### lists of places, rows and tuples of ints, plainly -/
theorem cut_both {α : Type} (xs : List α) (i j : Nat) : cutL xs (some (i : Int)) (some (j : Int)) = (xs.drop i).take (j - i) := by
  unfold cutL
  rw [HT.sIx_nat, HT.sIx_nat]
  rcases Nat.le_total i xs.length with h | h
  · rw [Nat.min_eq_left h]
    rcases Nat.le_total j xs.length with h2 | h2
    · rw [Nat.min_eq_left h2]
    · rw [Nat.min_eq_right h2, List.take_of_length_le (by rw [List.length_drop]; exact Nat.le_refl _), List.take_of_length_le (by rw [List.length_drop]; omega)]
  · rw [Nat.min_eq_right h, List.drop_length, List.drop_of_length_le h, List.take_nil, List.take_nil]
theorem gSl_ro (r : List Int) (i j : Nat) : gSl (.dt (roD r)) (some (i : Int)) (some (j : Int)) = .ok (.dt (roD ((r.drop i).take (j - i)))) := by
  unfold roD
  rw [gSl_t, cut_both, List.map_take, List.map_drop]
theorem gSl_from (r : List Int) (i : Nat) : gSl (.dt (roD r)) (some (i : Int)) none = .ok (.dt (roD (r.drop i))) := by
  unfold roD
  rw [gSl_t, cut_from _ (by omega), List.map_drop]
  rfl
theorem gSl_to (r : List Int) (i : Nat) : gSl (.dt (roD r)) none (some (i : Int)) = .ok (.dt (roD (r.take i))) := by
  unfold roD
  rw [gSl_t, cut_to _ (by omega), List.map_take]
  rfl
theorem nin_bl (p : Nat) (xs : List Nat) (w : Vw) (hw : w.peek = .list (nD xs)) : gCmp .NotIn (.dt (.int (p : Int))) w = .ok (.dt (.bool (!xs.contains p))) := by
  show gIn true _ _ = _
  have key : ((nD xs).any fun y => PyData.eqv y (.int (p : Int))) = xs.contains p := by
    unfold nD
    rw [List.any_map, Bool.eq_iff_iff, List.any_eq_true]
    rw [List.contains_iff_exists_mem_beq]
    constructor
    · rintro ⟨x, hx, e⟩
      simp only [Function.comp, ev_ii, beq_iff_eq] at e
      exact ⟨x, hx, by simp; omega⟩
    · rintro ⟨x, hx, e⟩
      simp only [beq_iff_eq] at e
      exact ⟨x, hx, by simp [e]⟩
  unfold gIn
  rw [hw]
  dsimp only
  rw [if_pos ⟨fin_i _ _, fin_nD _ _⟩, pk_dt, key, Bool.true_xor]
theorem nD_len (xs : List Nat) : (nD xs).length = xs.length := by unfold nD; rw [List.length_map]
theorem eqv_nD' (a b : List Nat) : PyData.eqv (.list (nD a)) (.list (nD b)) = (a == b) := by rw [ev_ll, eqv_nD]
theorem ne_nD {x y : Vw} (a b : List Nat) (hx : x.peek = .list (nD a)) (hy : y.peek = .list (nD b)) : gCmp .NotEq x y = .ok (.dt (.bool (!(a == b)))) := by
  rw [gNeq _ _ hx hy (fin_nD 8 a) (fin_nD 8 b), eqv_nD']
theorem eq_nD {x y : Vw} (a b : List Nat) (hx : x.peek = .list (nD a)) (hy : y.peek = .list (nD b)) : gCmp .Eq x y = .ok (.dt (.bool (a == b))) := by
  rw [gEqq _ _ hx hy (fin_nD 8 a) (fin_nD 8 b), eqv_nD']
theorem mul_rep (v : Int) (n : Nat) (hn : n ≤ 1000) : gBin .Mult (.dt (.tuple [.int v])) (.dt (.int (n : Int))) = .ok (.dt (roD (List.replicate n v))) := by
  show (if _ then R.ok (Vw.dt (.tuple (List.replicate (n : Int).toNat [PyData.int v]).flatten)) else .stk) = _
  rw [if_pos ⟨by simp, by omega, by omega, by simp⟩, Int.toNat_natCast]
  unfold roD
  congr 3
  induction n with
  | zero => rfl
  | succ n ih => rw [List.replicate_succ, List.flatten_cons, ih (by omega), List.replicate_succ, List.map_cons]; rfl
theorem add_roro (a b : List Int) (h : a.length + b.length ≤ 1000) : gBin .Add (.dt (roD a)) (.dt (roD b)) = .ok (.dt (roD (a ++ b))) := by
  show (if (a.map PyData.int).length + (b.map PyData.int).length ≤ 16777216 then R.ok (Vw.dt (.tuple (a.map .int ++ b.map .int))) else .stk) = _
  rw [List.length_map, List.length_map, if_pos (by omega)]
  unfold roD
  rw [List.map_append]
theorem gIx_last (xs : List PyData) (d : PyData) : gIxV (.dt (.list (xs ++ [d]))) (.dt (.int (-1))) = .ok (.dt d) := by
  refine gIx_dl ?_
  unfold atI ixN
  rw [if_neg (by decide), List.length_append, List.length_singleton]
  rw [if_pos (by omega)]
  show (xs ++ [d])[(-1 + ((xs.length + 1 : Nat) : Int)).toNat]? = _
  rw [show (-1 + ((xs.length + 1 : Nat) : Int)).toNat = xs.length from by omega, List.getElem?_append_right (Nat.le_refl _), Nat.sub_self]
  rfl
theorem any_ints (k : Int) (xs : List Int) : ((xs.map PyData.int).any fun y => PyData.eqv y (.int k)) = xs.contains k := by
  rw [List.any_map, Bool.eq_iff_iff, List.any_eq_true, List.contains_iff_exists_mem_beq]
  constructor
  · rintro ⟨x, hx, e⟩
    simp only [Function.comp, ev_ii, beq_iff_eq] at e
    exact ⟨x, hx, by simp; omega⟩
  · rintro ⟨x, hx, e⟩
    simp only [beq_iff_eq] at e
    exact ⟨x, hx, by simp [e]⟩
theorem in_ints (k : Int) (xs : List Int) (w : Vw) (hw : w.peek = .list (xs.map .int)) : gCmp .In (.dt (.int k)) w = .ok (.dt (.bool (xs.contains k))) := by
  rw [gC_in_list _ _ _ hw (fin_i _ _) (fin_ints 9 xs), pk_dt, any_ints]
theorem in_intsT (k : Int) (xs : List Int) (w : Vw) (hw : w.peek = .tuple (xs.map .int)) : gCmp .In (.dt (.int k)) w = .ok (.dt (.bool (xs.contains k))) := by
  rw [gC_in_tuple _ _ _ hw (fin_i _ _) (fin_ints 9 xs), pk_dt, any_ints]
theorem nD_ints (xs : List Nat) : nD xs = (iN xs).map .int := by unfold nD iN; rw [List.map_map]; rfl
theorem in_nD (p : Nat) (xs : List Nat) (w : Vw) (hw : w.peek = .list (nD xs)) : gCmp .In (.dt (.int (p : Int))) w = .ok (.dt (.bool (xs.contains p))) := by
  rw [in_ints (p : Int) (iN xs) w (by rw [hw, nD_ints])]
  congr 3
  rw [Bool.eq_iff_iff, List.contains_iff_exists_mem_beq, List.contains_iff_exists_mem_beq]
  constructor
  · rintro ⟨x, hx, e⟩
    obtain ⟨q, hq, rfl⟩ := mem_iN.mp hx
    simp only [beq_iff_eq] at e
    exact ⟨q, hq, by simp; omega⟩
  · rintro ⟨x, hx, e⟩
    simp only [beq_iff_eq] at e
    exact ⟨(x : Int), mem_iN.mpr ⟨x, hx, rfl⟩, by simp [e]⟩
/-- sorted(set(..)) of ints -/
theorem rowsI_ints : ∀ (k : Int) (ns : List Int), rowsI ((k :: ns).map .int) = none := fun _ _ => rfl
theorem gSS_ints {w : Vw} {ns : List Int} (hw : w.peek = .list (ns.map .int)) (hl : ns.length < 64) : gSS w = .ok (.fl ((srtU ns).map .int)) := by
  unfold gSS
  rw [hw]
  dsimp only
  unfold gSSs
  cases ns with
  | nil => rfl
  | cons k ns =>
    rw [rowsI_ints]
    dsimp only
    unfold gSSi
    rw [intsOf_map]
    dsimp only
    rw [if_pos hl]
theorem gC_lt_ro (a b : List Int) : gCmp .Lt (.dt (roD a)) (.dt (roD b)) = .ok (.dt (.bool (HT.lexLt a b))) := by
  show gLt (.tuple (a.map .int)) (.tuple (b.map .int)) = _
  unfold gLt
  dsimp only
  rw [intsOf_map, intsOf_map]
theorem gSl_rs (rs : List RuT) (n : Nat) : gSl (.dt (rsD rs)) none (some (n : Int)) = .ok (.dt (rsD (rs.take n))) := by
  unfold rsD
  rw [gSl_t, cut_to _ (by omega), List.map_take]
  rfl
theorem add_rsrs (a b : List RuT) (h : a.length + b.length ≤ 1000) : gBin .Add (.dt (rsD a)) (.dt (rsD b)) = .ok (.dt (rsD (a ++ b))) := by
  show (if (a.map ruD).length + (b.map ruD).length ≤ 16777216 then R.ok (Vw.dt (.tuple (a.map ruD ++ b.map ruD))) else .stk) = _
  rw [List.length_map, List.length_map, if_pos (by omega)]
  unfold rsD
  rw [List.map_append]
end BR
namespace BR.k70
open PySem PySem.Spec L2
noncomputable section
def top (i : Nat) : Stmt := PySem.Challenge.pw_bandrules_k70_whole_naive.main.body.getD i (.Pass ⟨0, 0, 0, 0⟩)
def T0 : Tab := [("MAX_VALUE", .con (.dt (.int 3))), ("MAX_ROW", .con (.dt (.int 30))), ("MAX_WINDOW", .con (.dt (.int 4))), ("MAX_RULES", .con (.dt (.int 4))), ("VALUES", .con (.kc (.tuple [.int (-3), .int (-2), .int (-1), .int (0), .int (1), .int (2), .int (3)]))), ("MAX_TRIED", .con (.dt (.int 3))), ("MAX_LENGTH", .con (.dt (.int 4))), ("BandError", .cls [("BandError", true), ("InvalidRule", false), ("InvalidRules", false), ("TooLarge", false), ("InvalidLength", false)]), ("InvalidRule", .cls [("BandError", true), ("InvalidRule", true), ("InvalidRules", false), ("TooLarge", false), ("InvalidLength", false)]), ("InvalidRules", .cls [("BandError", true), ("InvalidRule", false), ("InvalidRules", true), ("TooLarge", false), ("InvalidLength", false)]), ("TooLarge", .cls [("BandError", true), ("InvalidRule", false), ("InvalidRules", false), ("TooLarge", true), ("InvalidLength", false)]), ("InvalidLength", .cls [("BandError", true), ("InvalidRule", false), ("InvalidRules", false), ("TooLarge", false), ("InvalidLength", true)]), ("all", .blt), ("any", .blt), ("bool", .blt), ("int", .blt), ("isinstance", .blt), ("len", .blt), ("max", .blt), ("min", .blt), ("range", .blt), ("set", .blt), ("sorted", .blt), ("sum", .blt), ("tuple", .blt), ("zip", .blt)]
def body_is_int : List Stmt := defBody (top 12)
def sc_is_int : Scope := defScope (top 12)
def N_is_int : List Str := ["value", "least", "most"]
def fz_is_int : FzT := []
def m_is_int (a_value a_least a_most : D) : R Vw :=
(((gIsi "int" a_value).bF fun w1 =>
(isB w1.peek).bF fun b1 => bc b1 ((gIsi "bool" a_value).bF fun w2 =>
(isB w2.peek).bF fun b2 =>
(isB (.bool (!b2))).bF fun b3 => bc b3 (((gCmp .LtE (.dt a_least) (.dt a_value)).bF fun w3 => (isB w3.peek).bF fun b4 => bc b4 (gCmp .LtE (.dt a_value) (.dt a_most)) (.ok (.dt (.bool false)))).bF fun w4 =>
.ok w4) (.ok (.dt (.bool false)))) (.ok (.dt (.bool false)))) : R Vw).bF fun w5 =>
retW w5
theorem m_is_int_ok (a_value a_least a_most : D) : cFn T0 fz_is_int N_is_int sc_is_int body_is_int 30 [a_value, a_least, a_most] = m_is_int a_value a_least a_most := by kernel_rfl
def g0_is_int (ds : List D) : R Vw := match ds with
  | [a_value, a_least, a_most] => m_is_int a_value a_least a_most
  | _ => .stk
theorem gx_is_int : ∃ g : List D → R Vw, ∀ ds, g ds = g0_is_int ds := ⟨g0_is_int, fun _ => rfl⟩
def g_is_int : List D → R Vw := Classical.choose gx_is_int
theorem gm_is_int (a_value a_least a_most : D) : g_is_int [a_value, a_least, a_most] = m_is_int a_value a_least a_most := Classical.choose_spec gx_is_int _
def T_is_int : Tab := ("is_int", .fn ["value", "least", "most"] g_is_int) :: T0
def body_is_rule : List Stmt := defBody (top 13)
def sc_is_rule : Scope := defScope (top 13)
def N_is_rule : List Str := ["candidate"]
def fz_is_rule : FzT := []
def m_is_rule (a_candidate : D) : R Vw :=
(((gIsi "tuple" a_candidate).bF fun w1 =>
(gTru w1.peek).bF fun b1 =>
bc (!b1) (.ok true) ((on1 gLen [(.dt a_candidate)]).bF fun w2 =>
(gCmp .NotEq w2 (.dt (.int 3))).bF fun w3 =>
(isB w3.peek).bF fun b2 =>
bc b2 (.ok true) ((gIxV (.dt a_candidate) (.dt (.int 1))).bF fun w4 =>
(toDs [w4, (.dt (.int 1)), (.dt (.int 4))]).bF fun ds1 => (g_is_int ds1).bF fun w5 =>
(gTru w5.peek).bF fun b3 =>
.ok (!b3)))) : R Bool).bF fun b4 =>
bc b4 (
.ok (.dt (.bool false))) (
(((gIxV (.dt a_candidate) (.dt (.int 0))).bF fun w6 =>
(gIxV (.dt a_candidate) (.dt (.int 1))).bF fun w7 =>
(toDs [w6, (.dt (.int 1)), w7]).bF fun ds2 => (g_is_int ds2).bF fun w8 =>
(isB w8.peek).bF fun b5 => bc b5 ((gIxV (.dt a_candidate) (.dt (.int 2))).bF fun w9 =>
(toDs [w9, (.dt (.int 1)), (.dt (.int 3))]).bF fun ds3 => (g_is_int ds3).bF fun w10 =>
.ok w10) (.ok (.dt (.bool false)))) : R Vw).bF fun w11 =>
retW w11)
theorem m_is_rule_ok (a_candidate : D) : cFn T_is_int fz_is_rule N_is_rule sc_is_rule body_is_rule 30 [a_candidate] = m_is_rule a_candidate := by kernel_rfl
def g0_is_rule (ds : List D) : R Vw := match ds with
  | [a_candidate] => m_is_rule a_candidate
  | _ => .stk
theorem gx_is_rule : ∃ g : List D → R Vw, ∀ ds, g ds = g0_is_rule ds := ⟨g0_is_rule, fun _ => rfl⟩
def g_is_rule : List D → R Vw := Classical.choose gx_is_rule
theorem gm_is_rule (a_candidate : D) : g_is_rule [a_candidate] = m_is_rule a_candidate := Classical.choose_spec gx_is_rule _
def T_is_rule : Tab := ("is_rule", .fn ["candidate"] g_is_rule) :: T_is_int
def body_are_rules : List Stmt := defBody (top 14)
def sc_are_rules : Scope := defScope (top 14)
def N_are_rules : List Str := ["candidate", "rule", "one", "other"]
def fz_are_rules : FzT := []
def m_are_rules (a_candidate : D) : R Vw :=
(((gIsi "tuple" a_candidate).bF fun w1 =>
(gTru w1.peek).bF fun b1 =>
bc (!b1) (.ok true) ((on1 gLen [(.dt a_candidate)]).bF fun w2 =>
((gCmp .LtE (.dt (.int 1)) w2).bF fun w3 => (isB w3.peek).bF fun b2 => bc b2 (gCmp .LtE w2 (.dt (.int 4))) (.ok (.dt (.bool false)))).bF fun w4 =>
(isB w4.peek).bF fun b3 =>
.ok (!b3))) : R Bool).bF fun b4 =>
bc b4 (
.ok (.dt (.bool false))) (
(itV false (.dt a_candidate)).bF fun it1 =>
(lcL (fun x1 => wB (
(g_is_rule [x1]).bF fun w5 =>
(w5).toD.bF fun d1 => .ok (some d1))) it1).bF fun ds1 => if ds1.length ≤ 16777216 then
(on1 (gAll false) [(.fl ds1)]).bF fun w6 =>
(gTru w6.peek).bF fun b5 =>
bc (!b5) (
.ok (.dt (.bool false))) (
intK (.int 1) fun i1 =>
(gSl (.dt a_candidate) (some i1) none).bF fun w7 =>
(zpE false (.dt a_candidate) w7).bF fun it2 =>
(lcL (fun x2 => wB (
unp2 x2 fun d2 d3 =>
(gCmp .Lt (.dt d2) (.dt d3)).bF fun w8 =>
(w8).toD.bF fun d4 => .ok (some d4))) it2).bF fun ds2 => if ds2.length ≤ 16777216 then
(on1 (gAll false) [(.fl ds2)]).bF fun w9 =>
retW w9
else .stk)
else .stk)
theorem m_are_rules_ok (a_candidate : D) : cFn T_is_rule fz_are_rules N_are_rules sc_are_rules body_are_rules 30 [a_candidate] = m_are_rules a_candidate := by kernel_rfl
def g0_are_rules (ds : List D) : R Vw := match ds with
  | [a_candidate] => m_are_rules a_candidate
  | _ => .stk
theorem gx_are_rules : ∃ g : List D → R Vw, ∀ ds, g ds = g0_are_rules ds := ⟨g0_are_rules, fun _ => rfl⟩
def g_are_rules : List D → R Vw := Classical.choose gx_are_rules
theorem gm_are_rules (a_candidate : D) : g_are_rules [a_candidate] = m_are_rules a_candidate := Classical.choose_spec gx_are_rules _
def T_are_rules : Tab := ("are_rules", .fn ["candidate"] g_are_rules) :: T_is_rule
def body_check_rule : List Stmt := defBody (top 15)
def sc_check_rule : Scope := defScope (top 15)
def N_check_rule : List Str := ["value"]
def fz_check_rule : FzT := []
def m_check_rule (a_value : D) : R Vw :=
(g_is_rule [a_value]).bF fun w1 =>
(gTru w1.peek).bF fun b1 =>
bc (!b1) (
.exc "InvalidRule") (
.ok (.dt .none))
theorem m_check_rule_ok (a_value : D) : cFn T_are_rules fz_check_rule N_check_rule sc_check_rule body_check_rule 30 [a_value] = m_check_rule a_value := by kernel_rfl
def g0_check_rule (ds : List D) : R Vw := match ds with
  | [a_value] => m_check_rule a_value
  | _ => .stk
theorem gx_check_rule : ∃ g : List D → R Vw, ∀ ds, g ds = g0_check_rule ds := ⟨g0_check_rule, fun _ => rfl⟩
def g_check_rule : List D → R Vw := Classical.choose gx_check_rule
theorem gm_check_rule (a_value : D) : g_check_rule [a_value] = m_check_rule a_value := Classical.choose_spec gx_check_rule _
def T_check_rule : Tab := ("check_rule", .fn ["value"] g_check_rule) :: T_are_rules
def body_check_rules : List Stmt := defBody (top 16)
def sc_check_rules : Scope := defScope (top 16)
def N_check_rules : List Str := ["value"]
def fz_check_rules : FzT := []
def m_check_rules (a_value : D) : R Vw :=
(g_are_rules [a_value]).bF fun w1 =>
(gTru w1.peek).bF fun b1 =>
bc (!b1) (
.exc "InvalidRules") (
.ok (.dt .none))
theorem m_check_rules_ok (a_value : D) : cFn T_check_rule fz_check_rules N_check_rules sc_check_rules body_check_rules 30 [a_value] = m_check_rules a_value := by kernel_rfl
def g0_check_rules (ds : List D) : R Vw := match ds with
  | [a_value] => m_check_rules a_value
  | _ => .stk
theorem gx_check_rules : ∃ g : List D → R Vw, ∀ ds, g ds = g0_check_rules ds := ⟨g0_check_rules, fun _ => rfl⟩
def g_check_rules : List D → R Vw := Classical.choose gx_check_rules
theorem gm_check_rules (a_value : D) : g_check_rules [a_value] = m_check_rules a_value := Classical.choose_spec gx_check_rules _
def T_check_rules : Tab := ("check_rules", .fn ["value"] g_check_rules) :: T_check_rule
def body_find_sides : List Stmt := defBody (top 17)
def sc_find_sides : Scope := defScope (top 17)
def N_find_sides : List Str := ["rule", "row", "many", "window", "band", "last", "above", "below", "value"]
def fz_find_sides : FzT := []
def m_find_sides (a_rule a_row : D) : R Vw :=
unp3 a_rule fun d1 d2 d3 =>
(on1 gLen [(.dt a_row)]).bF fun w1 =>
(gBin .Sub w1 (.dt d2)).bF fun w2 =>
(gMM true [(.dt (.int 0)), w2]).bF fun w3 =>
intK w3.peek fun i1 =>
(gSl (.dt a_row) (some i1) none).bF fun w4 =>
(slOf w4).bF fun s1 =>
(slotV s1).bF fun w5 =>
(itV false w5).bF fun it1 =>
(lcL (fun x1 => wB (
(gCmp .GtE (.dt x1) (.dt d3)).bF fun w6 =>
(isB w6.peek).bF fun b1 =>
bc b1 (.ok (some x1)) (.ok none))) it1).bF fun ds1 => if ds1.length ≤ 16777216 then
(on1 gLen [(.fl ds1)]).bF fun w7 =>
(slOf w7).bF fun s2 =>
(slotV s1).bF fun w8 =>
(itV false w8).bF fun it2 =>
(lcL (fun x2 => wB (
(gBin .Sub (.dt (.int 0)) (.dt d3)).bF fun w9 =>
(gCmp .LtE (.dt x2) w9).bF fun w10 =>
(isB w10.peek).bF fun b2 =>
bc b2 (.ok (some x2)) (.ok none))) it2).bF fun ds2 => if ds2.length ≤ 16777216 then
(on1 gLen [(.fl ds2)]).bF fun w11 =>
(slOf w11).bF fun s3 =>
(slotV s2).bF fun w12 =>
(gCmp .GtE w12 (.dt d1)).bF fun w13 =>
(slotV s3).bF fun w14 =>
(gCmp .GtE w14 (.dt d1)).bF fun w15 =>
(toDs [w13, w15]).bF fun ds3 =>
.ok (.dt (.tuple ds3))
else .stk
else .stk
theorem m_find_sides_ok (a_rule a_row : D) : cFn T_check_rules fz_find_sides N_find_sides sc_find_sides body_find_sides 30 [a_rule, a_row] = m_find_sides a_rule a_row := by kernel_rfl
def g0_find_sides (ds : List D) : R Vw := match ds with
  | [a_rule, a_row] => m_find_sides a_rule a_row
  | _ => .stk
theorem gx_find_sides : ∃ g : List D → R Vw, ∀ ds, g ds = g0_find_sides ds := ⟨g0_find_sides, fun _ => rfl⟩
def g_find_sides : List D → R Vw := Classical.choose gx_find_sides
theorem gm_find_sides (a_rule a_row : D) : g_find_sides [a_rule, a_row] = m_find_sides a_rule a_row := Classical.choose_spec gx_find_sides _
def T_find_sides : Tab := ("find_sides", .fn ["rule", "row"] g_find_sides) :: T_check_rules
def body_does_ring : List Stmt := defBody (top 18)
def sc_does_ring : Scope := defScope (top 18)
def N_does_ring : List Str := ["rule", "row", "above", "below"]
def fz_does_ring : FzT := []
def m_does_ring (a_rule a_row : D) : R Vw :=
(g_find_sides [a_rule, a_row]).bF fun w1 =>
datV w1 fun d1 =>
unp2 d1 fun d2 d3 =>
(((isB d2).bF fun b1 => bc b1 (.ok (.dt (.bool true))) (.ok (.dt d3))) : R Vw).bF fun w2 =>
retW w2
theorem m_does_ring_ok (a_rule a_row : D) : cFn T_find_sides fz_does_ring N_does_ring sc_does_ring body_does_ring 30 [a_rule, a_row] = m_does_ring a_rule a_row := by kernel_rfl
def g0_does_ring (ds : List D) : R Vw := match ds with
  | [a_rule, a_row] => m_does_ring a_rule a_row
  | _ => .stk
theorem gx_does_ring : ∃ g : List D → R Vw, ∀ ds, g ds = g0_does_ring ds := ⟨g0_does_ring, fun _ => rfl⟩
def g_does_ring : List D → R Vw := Classical.choose gx_does_ring
theorem gm_does_ring (a_rule a_row : D) : g_does_ring [a_rule, a_row] = m_does_ring a_rule a_row := Classical.choose_spec gx_does_ring _
def T_does_ring : Tab := ("does_ring", .fn ["rule", "row"] g_does_ring) :: T_find_sides
def body_any_rings : List Stmt := defBody (top 19)
def sc_any_rings : Scope := defScope (top 19)
def N_any_rings : List Str := ["rules", "row", "rule"]
def fz_any_rings : FzT := []
def m_any_rings (a_rules a_row : D) : R Vw :=
(itV false (.dt a_rules)).bF fun it1 =>
(lcL (fun x1 => wB (
(g_does_ring [x1, a_row]).bF fun w1 =>
(w1).toD.bF fun d1 => .ok (some d1))) it1).bF fun ds1 => if ds1.length ≤ 16777216 then
(on1 (gAll true) [(.fl ds1)]).bF fun w2 =>
retW w2
else .stk
theorem m_any_rings_ok (a_rules a_row : D) : cFn T_does_ring fz_any_rings N_any_rings sc_any_rings body_any_rings 30 [a_rules, a_row] = m_any_rings a_rules a_row := by kernel_rfl
def g0_any_rings (ds : List D) : R Vw := match ds with
  | [a_rules, a_row] => m_any_rings a_rules a_row
  | _ => .stk
theorem gx_any_rings : ∃ g : List D → R Vw, ∀ ds, g ds = g0_any_rings ds := ⟨g0_any_rings, fun _ => rfl⟩
def g_any_rings : List D → R Vw := Classical.choose gx_any_rings
theorem gm_any_rings (a_rules a_row : D) : g_any_rings [a_rules, a_row] = m_any_rings a_rules a_row := Classical.choose_spec gx_any_rings _
def T_any_rings : Tab := ("any_rings", .fn ["rules", "row"] g_any_rings) :: T_does_ring
def body_find_alarms : List Stmt := defBody (top 21)
def sc_find_alarms : Scope := defScope (top 21)
def N_find_alarms : List Str := ["rules", "row", "place"]
def fz_find_alarms : FzT := []
def m_find_alarms (a_rules a_row : D) : R Vw :=
(on1 gLen [(.dt a_row)]).bF fun w1 =>
rng1 w1.peek fun it1 =>
(lcL (fun x1 => wB (
(gBin .Add (.dt x1) (.dt (.int 1))).bF fun w2 =>
intK w2.peek fun i1 =>
(gSl (.dt a_row) none (some i1)).bF fun w3 =>
(toDs [(.dt a_rules), w3]).bF fun ds2 => (g_any_rings ds2).bF fun w4 =>
(gTru w4.peek).bF fun b1 =>
bc b1 (.ok (some x1)) (.ok none))) it1).bF fun ds1 => if ds1.length ≤ 16777216 then
.ok (.fl ds1)
else .stk
theorem m_find_alarms_ok (a_rules a_row : D) : cFn T_any_rings fz_find_alarms N_find_alarms sc_find_alarms body_find_alarms 30 [a_rules, a_row] = m_find_alarms a_rules a_row := by kernel_rfl
def g0_find_alarms (ds : List D) : R Vw := match ds with
  | [a_rules, a_row] => m_find_alarms a_rules a_row
  | _ => .stk
theorem gx_find_alarms : ∃ g : List D → R Vw, ∀ ds, g ds = g0_find_alarms ds := ⟨g0_find_alarms, fun _ => rfl⟩
def g_find_alarms : List D → R Vw := Classical.choose gx_find_alarms
theorem gm_find_alarms (a_rules a_row : D) : g_find_alarms [a_rules, a_row] = m_find_alarms a_rules a_row := Classical.choose_spec gx_find_alarms _
def T_find_alarms : Tab := ("find_alarms", .fn ["rules", "row"] g_find_alarms) :: T_any_rings
def body_find_still : List Stmt := defBody (top 22)
def sc_find_still : Scope := defScope (top 22)
def N_find_still : List Str := ["rules", "row", "value"]
def fz_find_still : FzT := []
def m_find_still (a_rules a_row : D) : R Vw :=
(itV false (.kc (.tuple [.int (-3), .int (-2), .int (-1), .int (0), .int (1), .int (2), .int (3)]))).bF fun it1 =>
(lcL (fun x1 => wB (
(gBin .Add (.dt a_row) (.dt (.tuple [x1]))).bF fun w1 =>
(toDs [(.dt a_rules), w1]).bF fun ds2 => (g_any_rings ds2).bF fun w2 =>
(gTru w2.peek).bF fun b1 =>
bc (!b1) (.ok (some x1)) (.ok none))) it1).bF fun ds1 => if ds1.length ≤ 16777216 then
.ok (.fl ds1)
else .stk
theorem m_find_still_ok (a_rules a_row : D) : cFn T_find_alarms fz_find_still N_find_still sc_find_still body_find_still 30 [a_rules, a_row] = m_find_still a_rules a_row := by kernel_rfl
def g0_find_still (ds : List D) : R Vw := match ds with
  | [a_rules, a_row] => m_find_still a_rules a_row
  | _ => .stk
theorem gx_find_still : ∃ g : List D → R Vw, ∀ ds, g ds = g0_find_still ds := ⟨g0_find_still, fun _ => rfl⟩
def g_find_still : List D → R Vw := Classical.choose gx_find_still
theorem gm_find_still (a_rules a_row : D) : g_find_still [a_rules, a_row] = m_find_still a_rules a_row := Classical.choose_spec gx_find_still _
def T_find_still : Tab := ("find_still", .fn ["rules", "row"] g_find_still) :: T_find_alarms
def body_implies_rule : List Stmt := defBody (top 24)
def sc_implies_rule : Scope := defScope (top 24)
def N_implies_rule : List Str := ["one", "other", "many", "window", "band", "few", "span", "near"]
def fz_implies_rule : FzT := []
def m_implies_rule (a_one a_other : D) : R Vw :=
unp3 a_one fun d1 d2 d3 =>
unp3 a_other fun d4 d5 d6 =>
(((gCmp .LtE (.dt d6) (.dt d3)).bF fun w1 =>
(isB w1.peek).bF fun b1 => bc b1 ((gBin .Sub (.dt d2) (.dt d5)).bF fun w2 =>
(gMM true [(.dt (.int 0)), w2]).bF fun w3 =>
(gBin .Sub (.dt d1) w3).bF fun w4 =>
(gCmp .LtE (.dt d4) w4).bF fun w5 =>
.ok w5) (.ok (.dt (.bool false)))) : R Vw).bF fun w6 =>
retW w6
theorem m_implies_rule_ok (a_one a_other : D) : cFn T_find_still fz_implies_rule N_implies_rule sc_implies_rule body_implies_rule 30 [a_one, a_other] = m_implies_rule a_one a_other := by kernel_rfl
def g0_implies_rule (ds : List D) : R Vw := match ds with
  | [a_one, a_other] => m_implies_rule a_one a_other
  | _ => .stk
theorem gx_implies_rule : ∃ g : List D → R Vw, ∀ ds, g ds = g0_implies_rule ds := ⟨g0_implies_rule, fun _ => rfl⟩
def g_implies_rule : List D → R Vw := Classical.choose gx_implies_rule
theorem gm_implies_rule (a_one a_other : D) : g_implies_rule [a_one, a_other] = m_implies_rule a_one a_other := Classical.choose_spec gx_implies_rule _
def T_implies_rule : Tab := ("implies_rule", .fn ["one", "other"] g_implies_rule) :: T_find_still
def body_implies : List Stmt := defBody (top 25)
def sc_implies : Scope := defScope (top 25)
def N_implies : List Str := ["one", "other"]
def fz_implies : FzT := []
def m_implies (a_one a_other : D) : R Vw :=
(g_check_rule [a_one]).bF fun w1 =>
(g_check_rule [a_other]).bF fun w2 =>
(g_implies_rule [a_one, a_other]).bF fun w3 =>
retW w3
theorem m_implies_ok (a_one a_other : D) : cFn T_implies_rule fz_implies N_implies sc_implies body_implies 30 [a_one, a_other] = m_implies a_one a_other := by kernel_rfl
def g0_implies (ds : List D) : R Vw := match ds with
  | [a_one, a_other] => m_implies a_one a_other
  | _ => .stk
theorem gx_implies : ∃ g : List D → R Vw, ∀ ds, g ds = g0_implies ds := ⟨g0_implies, fun _ => rfl⟩
def g_implies : List D → R Vw := Classical.choose gx_implies
theorem gm_implies (a_one a_other : D) : g_implies [a_one, a_other] = m_implies a_one a_other := Classical.choose_spec gx_implies _
def T_implies : Tab := ("implies", .fn ["one", "other"] g_implies) :: T_implies_rule
def body_history : List Stmt := defBody (top 27)
def sc_history : Scope := defScope (top 27)
def N_history : List Str := ["row"]
def fz_history : FzT := []
def m_history (a_row : D) : R Vw :=
(on1 gLen [(.dt a_row)]).bF fun w1 =>
(gBin .Sub w1 (.dt (.int 4))).bF fun w2 =>
(gBin .Add w2 (.dt (.int 1))).bF fun w3 =>
(gMM true [(.dt (.int 0)), w3]).bF fun w4 =>
intK w4.peek fun i1 =>
(gSl (.dt a_row) (some i1) none).bF fun w5 =>
retW w5
theorem m_history_ok (a_row : D) : cFn T_implies fz_history N_history sc_history body_history 30 [a_row] = m_history a_row := by kernel_rfl
def g0_history (ds : List D) : R Vw := match ds with
  | [a_row] => m_history a_row
  | _ => .stk
theorem gx_history : ∃ g : List D → R Vw, ∀ ds, g ds = g0_history ds := ⟨g0_history, fun _ => rfl⟩
def g_history : List D → R Vw := Classical.choose gx_history
theorem gm_history (a_row : D) : g_history [a_row] = m_history a_row := Classical.choose_spec gx_history _
def T_history : Tab := ("history", .fn ["row"] g_history) :: T_implies
def body_check_length : List Stmt := defBody (top 29)
def sc_check_length : Scope := defScope (top 29)
def N_check_length : List Str := ["value"]
def fz_check_length : FzT := []
def m_check_length (a_value : D) : R Vw :=
(g_is_int [a_value, (.int 0), (.int 30)]).bF fun w1 =>
(gTru w1.peek).bF fun b1 =>
bc (!b1) (
.exc "InvalidLength") (
.ok (.dt .none))
theorem m_check_length_ok (a_value : D) : cFn T_history fz_check_length N_check_length sc_check_length body_check_length 30 [a_value] = m_check_length a_value := by kernel_rfl
def g0_check_length (ds : List D) : R Vw := match ds with
  | [a_value] => m_check_length a_value
  | _ => .stk
theorem gx_check_length : ∃ g : List D → R Vw, ∀ ds, g ds = g0_check_length ds := ⟨g0_check_length, fun _ => rfl⟩
def g_check_length : List D → R Vw := Classical.choose gx_check_length
theorem gm_check_length (a_value : D) : g_check_length [a_value] = m_check_length a_value := Classical.choose_spec gx_check_length _
def T_check_length : Tab := ("check_length", .fn ["value"] g_check_length) :: T_history
def body_go_on : List Stmt := defBody (top 30)
def sc_go_on : Scope := defScope (top 30)
def N_go_on : List Str := ["rules", "start", "found", "level", "later", "last", "value", "other"]
def fz_go_on : FzT := [(72, ["level"]), (76, ["later"])]
def go_on_w1t (ρ : Env) (k : Bool → R Vw) : R Vw := (cN T_check_length fz_go_on N_go_on 29).t sc_go_on (whT (stAt body_go_on 1)) ρ k
def go_on_w1b (ρ : Env) (k : Env → R Vw) : R Vw := (cN T_check_length fz_go_on N_go_on 29).ss sc_go_on (forB (stAt body_go_on 1)) ρ k
def m_go_on_w1t (v_rules : D) (v_start : D) (s_found : Sl) (s_level : Sl) (s_later : Sl) (s_last : Sl) (k : Bool → R Vw) : R Vw :=
(slotV s_level).bF fun w1 =>
(gCmp .NotEq w1 (.fl [])).bF fun w2 =>
(isB w2.peek).bF fun b1 =>
k b1
theorem m_go_on_w1t_ok (v_rules : D) (v_start : D) (s_found : Sl) (s_level : Sl) (s_later : Sl) (s_last : Sl) (k : Bool → R Vw) : go_on_w1t [.dd v_rules, .dd v_start, s_found, s_level, s_later, s_last, .em, .em] k = m_go_on_w1t v_rules v_start s_found s_level s_later s_last k := by kernel_rfl
def go_on_b2 (x : D) (ρ : Env) (k : Env → R Vw) : R Vw := cAsg N_go_on sc_go_on (forT (stAt (forB (stAt body_go_on 1)) 1)) x ρ fun ρ1 => (cN T_check_length fz_go_on N_go_on 28).ss sc_go_on (forB (stAt (forB (stAt body_go_on 1)) 1)) ρ1 k
def go_on_r1 (kn : Env → R Vw) (ρ : Env) : R Vw := cSS T_check_length fz_go_on N_go_on (cN T_check_length fz_go_on N_go_on 26) sc_go_on (List.drop 1 (ifA (stAt (forB (stAt (forB (stAt body_go_on 1)) 1)) 0))) ρ kn
def m_go_on_r1 (kn : Env → R Vw) (v_rules : D) (v_start : D) (s_found : Sl) (v_level : Sl) (v_later : Sl) (v_last : D) : R Vw :=
ownK v_later (fun y1 =>
(slotV s_found).bF fun w5 =>
(gIxV w5 (.dt v_last)).bF fun w6 =>
(itV false w6).bF fun it1 =>
(lcL (fun x1 => wB (
unp2 x1 fun d1 d2 =>
.ok (some d2))) it1).bF fun ds1 => if ds1.length ≤ 16777216 then
if y1.length + ds1.length ≤ 16777216 then
kn [.dd v_rules, .dd v_start, s_found, v_level, .ol (y1 ++ ds1), .dd v_last, .em, .em]
else .stk
else .stk) (fun _ => .stk) .stk
theorem m_go_on_r1_ok (kn : Env → R Vw) (v_rules : D) (v_start : D) (s_found : Sl) (v_level : Sl) (v_later : Sl) (v_last : D) : go_on_r1 kn [.dd v_rules, .dd v_start, s_found, v_level, v_later, .dd v_last, .em, .em] = m_go_on_r1 kn v_rules v_start s_found v_level v_later v_last := by kernel_rfl
def m_go_on_b2 (x : D) (v_rules : D) (v_start : D) (s_found : Sl) (v_level : Sl) (s_later : Sl) (s_last : Sl) (k : Env → R Vw) : R Vw :=
(slotV s_found).bF fun w3 =>
(gCmp .NotIn (.dt x) w3).bF fun w4 =>
(isB w4.peek).bF fun b2 =>
bc b2 (
ownK s_found (fun y2 =>
(g_find_still [v_rules, x]).bF fun w7 =>
(itV false w7).bF fun it2 =>
(lcL (fun x2 => wB (
(gBin .Add (.dt x) (.dt (.tuple [x2]))).bF fun w8 =>
(toDs [w8]).bF fun ds3 => (g_history ds3).bF fun w9 =>
(toDs [(.dt x2), w9]).bF fun ds4 =>
.ok (some (.tuple ds4)))) it2).bF fun ds2 => if ds2.length ≤ 16777216 then
lpK y2 (.list ds2) (.dt x) fun ds5 =>
(go_on_r1 k) [.dd v_rules, .dd v_start, .ol ds5, v_level, s_later, .dd x, .em, .em]
else .stk) (fun y3 =>
(g_find_still [v_rules, x]).bF fun w10 =>
(itV false w10).bF fun it3 =>
(lcL (fun x3 => wB (
(gBin .Add (.dt x) (.dt (.tuple [x3]))).bF fun w11 =>
(toDs [w11]).bF fun ds7 => (g_history ds7).bF fun w12 =>
(toDs [(.dt x3), w12]).bF fun ds8 =>
.ok (some (.tuple ds8)))) it3).bF fun ds6 => if ds6.length ≤ 16777216 then
dpK y3 (.list ds6) (.dt x) fun ks1 =>
(go_on_r1 k) [.dd v_rules, .dd v_start, .od ks1, v_level, s_later, .dd x, .em, .em]
else .stk) .stk) (
k [.dd v_rules, .dd v_start, s_found, v_level, s_later, .dd x, .em, .em])
theorem m_go_on_b2_ok (x : D) (v_rules : D) (v_start : D) (s_found : Sl) (v_level : Sl) (s_later : Sl) (s_last : Sl) (k : Env → R Vw) : go_on_b2 x [.dd v_rules, .dd v_start, s_found, v_level, s_later, s_last, .em, .em] k = m_go_on_b2 x v_rules v_start s_found v_level s_later s_last k := by kernel_rfl
def go_on_r2 (kn : Env → R Vw) (ρ : Env) : R Vw := cSS T_check_length fz_go_on N_go_on (cN T_check_length fz_go_on N_go_on 28) sc_go_on (List.drop 2 (forB (stAt body_go_on 1))) ρ kn
def m_go_on_r2 (kn : Env → R Vw) (v_rules : D) (v_start : D) (s_found : Sl) (v_level : Sl) (s_later : Sl) (s_last : Sl) : R Vw :=
(slotV (frzS s_later)).bF fun w14 =>
(slOf w14).bF fun s1 =>
kn [.dd v_rules, .dd v_start, s_found, s1, (frzS s_later), s_last, .em, .em]
theorem m_go_on_r2_ok (kn : Env → R Vw) (v_rules : D) (v_start : D) (s_found : Sl) (v_level : Sl) (s_later : Sl) (s_last : Sl) : go_on_r2 kn [.dd v_rules, .dd v_start, s_found, v_level, s_later, s_last, .em, .em] = m_go_on_r2 kn v_rules v_start s_found v_level s_later s_last := by kernel_rfl
def m_go_on_w1b (v_rules : D) (v_start : D) (s_found : Sl) (s_level : Sl) (s_later : Sl) (s_last : Sl) (k : Env → R Vw) : R Vw :=
(slotV (frzS s_level)).bF fun w13 =>
(itV true w13).bF fun it4 =>
forC go_on_b2 it4 [.dd v_rules, .dd v_start, s_found, (frzS s_level), .ol [], s_last, .em, .em] (go_on_r2 k)
theorem m_go_on_w1b_ok (v_rules : D) (v_start : D) (s_found : Sl) (s_level : Sl) (s_later : Sl) (s_last : Sl) (k : Env → R Vw) : go_on_w1b [.dd v_rules, .dd v_start, s_found, s_level, s_later, s_last, .em, .em] k = m_go_on_w1b v_rules v_start s_found s_level s_later s_last k := by kernel_rfl
def go_on_r3 (kn : Env → R Vw) (ρ : Env) : R Vw := cSS T_check_length fz_go_on N_go_on (cN T_check_length fz_go_on N_go_on 29) sc_go_on (List.drop 2 body_go_on) ρ kn
def m_go_on_r3 (kn : Env → R Vw) (v_rules : D) (v_start : D) (s_found : Sl) (s_level : Sl) (s_later : Sl) (s_last : Sl) : R Vw :=
ownK s_found (fun ds => .ok (.fl ds)) (fun ks => .ok (.fd ks)) ((slotV s_found).bF fun w15 =>
retW w15)
theorem m_go_on_r3_ok (kn : Env → R Vw) (v_rules : D) (v_start : D) (s_found : Sl) (s_level : Sl) (s_later : Sl) (s_last : Sl) : go_on_r3 kn [.dd v_rules, .dd v_start, s_found, s_level, s_later, s_last, .em, .em] = m_go_on_r3 kn v_rules v_start s_found s_level s_later s_last := by kernel_rfl
def m_go_on (a_rules a_start : D) : R Vw :=
whileC go_on_w1t go_on_w1b wFuel [.dd a_rules, .dd a_start, .od [], .ol [a_start], .em, .em, .em, .em] (go_on_r3 (fun _ => .ok (.dt .none)))
theorem m_go_on_ok (a_rules a_start : D) : cFn T_check_length fz_go_on N_go_on sc_go_on body_go_on 30 [a_rules, a_start] = m_go_on a_rules a_start := by kernel_rfl
def g0_go_on (ds : List D) : R Vw := match ds with
  | [a_rules, a_start] => m_go_on a_rules a_start
  | _ => .stk
theorem gx_go_on : ∃ g : List D → R Vw, ∀ ds, g ds = g0_go_on ds := ⟨g0_go_on, fun _ => rfl⟩
def g_go_on : List D → R Vw := Classical.choose gx_go_on
theorem gm_go_on (a_rules a_start : D) : g_go_on [a_rules, a_start] = m_go_on a_rules a_start := Classical.choose_spec gx_go_on _
def T_go_on : Tab := ("go_on", .fn ["rules", "start"] g_go_on) :: T_check_length
def body_count_after : List Stmt := defBody (top 31)
def sc_count_after : Scope := defScope (top 31)
def N_count_after : List Str := ["rules", "last", "length", "steps", "found", "turn", "later", "key", "value", "other"]
def fz_count_after : FzT := [(82, ["found"]), (85, ["later"]), (86, ["found"])]
def count_after_b1 (x : D) (ρ : Env) (k : Env → R Vw) : R Vw := cAsg N_count_after sc_count_after (forT (stAt body_count_after 1)) x ρ fun ρ1 => (cN T_go_on fz_count_after N_count_after 29).ss sc_count_after (forB (stAt body_count_after 1)) ρ1 k
def count_after_b2 (x : D) (ρ : Env) (k : Env → R Vw) : R Vw := cAsg N_count_after sc_count_after (forT (stAt (forB (stAt body_count_after 1)) 1)) x ρ fun ρ1 => (cN T_go_on fz_count_after N_count_after 28).ss sc_count_after (forB (stAt (forB (stAt body_count_after 1)) 1)) ρ1 k
def count_after_b3 (x : D) (ρ : Env) (k : Env → R Vw) : R Vw := cAsg N_count_after sc_count_after (forT (stAt (forB (stAt (forB (stAt body_count_after 1)) 1)) 0)) x ρ fun ρ1 => (cN T_go_on fz_count_after N_count_after 27).ss sc_count_after (forB (stAt (forB (stAt (forB (stAt body_count_after 1)) 1)) 0)) ρ1 k
def m_count_after_b3 (x : D) (v_rules : D) (v_last : D) (v_length : D) (v_steps : Sl) (v_found : Sl) (v_turn : D) (s_later : Sl) (v_key : D) (s_value : Sl) (s_other : Sl) (k : Env → R Vw) : R Vw :=
unp2 x fun d1 d2 =>
ownK s_later (fun y1 =>
(slotV s_later).bF fun w3 =>
(dctV w3).bF fun dd1 =>
(gGet dd1 (.dt d2) (.dt (.int 0))).bF fun w4 =>
(slotV v_found).bF fun w5 =>
(gIxV w5 (.dt v_key)).bF fun w6 =>
(gBin .Add w4 w6).bF fun w7 =>
(w7).toD.bF fun d3 =>
lpK y1 d3 (.dt d2) fun ds1 =>
k [.dd v_rules, .dd v_last, .dd v_length, v_steps, v_found, .dd v_turn, .ol ds1, .dd v_key, .dd d1, .dd d2]) (fun y2 =>
(slotV s_later).bF fun w8 =>
(dctV w8).bF fun dd2 =>
(gGet dd2 (.dt d2) (.dt (.int 0))).bF fun w9 =>
(slotV v_found).bF fun w10 =>
(gIxV w10 (.dt v_key)).bF fun w11 =>
(gBin .Add w9 w11).bF fun w12 =>
(w12).toD.bF fun d4 =>
dpK y2 d4 (.dt d2) fun ks1 =>
k [.dd v_rules, .dd v_last, .dd v_length, v_steps, v_found, .dd v_turn, .od ks1, .dd v_key, .dd d1, .dd d2]) .stk
theorem m_count_after_b3_ok (x : D) (v_rules : D) (v_last : D) (v_length : D) (v_steps : Sl) (v_found : Sl) (v_turn : D) (s_later : Sl) (v_key : D) (s_value : Sl) (s_other : Sl) (k : Env → R Vw) : count_after_b3 x [.dd v_rules, .dd v_last, .dd v_length, v_steps, v_found, .dd v_turn, s_later, .dd v_key, s_value, s_other] k = m_count_after_b3 x v_rules v_last v_length v_steps v_found v_turn s_later v_key s_value s_other k := by kernel_rfl
def count_after_r1 (kn : Env → R Vw) (ρ : Env) : R Vw := cSS T_go_on fz_count_after N_count_after (cN T_go_on fz_count_after N_count_after 27) sc_count_after (List.drop 1 (forB (stAt (forB (stAt body_count_after 1)) 1))) ρ kn
def m_count_after_r1 (kn : Env → R Vw) (v_rules : D) (v_last : D) (v_length : D) (v_steps : Sl) (v_found : Sl) (v_turn : D) (s_later : Sl) (v_key : D) (s_value : Sl) (s_other : Sl) : R Vw :=
kn [.dd v_rules, .dd v_last, .dd v_length, v_steps, v_found, .dd v_turn, s_later, .dd v_key, s_value, s_other]
theorem m_count_after_r1_ok (kn : Env → R Vw) (v_rules : D) (v_last : D) (v_length : D) (v_steps : Sl) (v_found : Sl) (v_turn : D) (s_later : Sl) (v_key : D) (s_value : Sl) (s_other : Sl) : count_after_r1 kn [.dd v_rules, .dd v_last, .dd v_length, v_steps, v_found, .dd v_turn, s_later, .dd v_key, s_value, s_other] = m_count_after_r1 kn v_rules v_last v_length v_steps v_found v_turn s_later v_key s_value s_other := by kernel_rfl
def m_count_after_b2 (x : D) (v_rules : D) (v_last : D) (v_length : D) (v_steps : Sl) (v_found : Sl) (v_turn : D) (s_later : Sl) (s_key : Sl) (s_value : Sl) (s_other : Sl) (k : Env → R Vw) : R Vw :=
(slotV v_steps).bF fun w13 =>
(gIxV w13 (.dt x)).bF fun w14 =>
(itV true w14).bF fun it1 =>
forC count_after_b3 it1 [.dd v_rules, .dd v_last, .dd v_length, v_steps, v_found, .dd v_turn, s_later, .dd x, s_value, s_other] (count_after_r1 k)
theorem m_count_after_b2_ok (x : D) (v_rules : D) (v_last : D) (v_length : D) (v_steps : Sl) (v_found : Sl) (v_turn : D) (s_later : Sl) (s_key : Sl) (s_value : Sl) (s_other : Sl) (k : Env → R Vw) : count_after_b2 x [.dd v_rules, .dd v_last, .dd v_length, v_steps, v_found, .dd v_turn, s_later, s_key, s_value, s_other] k = m_count_after_b2 x v_rules v_last v_length v_steps v_found v_turn s_later s_key s_value s_other k := by kernel_rfl
def count_after_r2 (kn : Env → R Vw) (ρ : Env) : R Vw := cSS T_go_on fz_count_after N_count_after (cN T_go_on fz_count_after N_count_after 28) sc_count_after (List.drop 2 (forB (stAt body_count_after 1))) ρ kn
def m_count_after_r2 (kn : Env → R Vw) (v_rules : D) (v_last : D) (v_length : D) (v_steps : Sl) (v_found : Sl) (v_turn : D) (s_later : Sl) (s_key : Sl) (s_value : Sl) (s_other : Sl) : R Vw :=
(slotV (frzS s_later)).bF fun w16 =>
(slOf w16).bF fun s3 =>
kn [.dd v_rules, .dd v_last, .dd v_length, v_steps, s3, .dd v_turn, (frzS s_later), s_key, s_value, s_other]
theorem m_count_after_r2_ok (kn : Env → R Vw) (v_rules : D) (v_last : D) (v_length : D) (v_steps : Sl) (v_found : Sl) (v_turn : D) (s_later : Sl) (s_key : Sl) (s_value : Sl) (s_other : Sl) : count_after_r2 kn [.dd v_rules, .dd v_last, .dd v_length, v_steps, v_found, .dd v_turn, s_later, s_key, s_value, s_other] = m_count_after_r2 kn v_rules v_last v_length v_steps v_found v_turn s_later s_key s_value s_other := by kernel_rfl
def m_count_after_b1 (x : D) (v_rules : D) (v_last : D) (v_length : D) (v_steps : Sl) (s_found : Sl) (s_turn : Sl) (s_later : Sl) (s_key : Sl) (s_value : Sl) (s_other : Sl) (k : Env → R Vw) : R Vw :=
(slotV (frzS s_found)).bF fun w15 =>
(itV true w15).bF fun it2 =>
forC count_after_b2 it2 [.dd v_rules, .dd v_last, .dd v_length, v_steps, (frzS s_found), .dd x, .od [], s_key, s_value, s_other] (count_after_r2 k)
theorem m_count_after_b1_ok (x : D) (v_rules : D) (v_last : D) (v_length : D) (v_steps : Sl) (s_found : Sl) (s_turn : Sl) (s_later : Sl) (s_key : Sl) (s_value : Sl) (s_other : Sl) (k : Env → R Vw) : count_after_b1 x [.dd v_rules, .dd v_last, .dd v_length, v_steps, s_found, s_turn, s_later, s_key, s_value, s_other] k = m_count_after_b1 x v_rules v_last v_length v_steps s_found s_turn s_later s_key s_value s_other k := by kernel_rfl
def count_after_r3 (kn : Env → R Vw) (ρ : Env) : R Vw := cSS T_go_on fz_count_after N_count_after (cN T_go_on fz_count_after N_count_after 29) sc_count_after (List.drop 2 body_count_after) ρ kn
def m_count_after_r3 (kn : Env → R Vw) (v_rules : D) (v_last : D) (v_length : D) (v_steps : Sl) (s_found : Sl) (s_turn : Sl) (s_later : Sl) (s_key : Sl) (s_value : Sl) (s_other : Sl) : R Vw :=
(slotV (frzS s_found)).bF fun w17 =>
(itV false w17).bF fun it4 =>
(lcL (fun x1 => wB (
(slotV (frzS s_found)).bF fun w18 =>
(gIxV w18 (.dt x1)).bF fun w19 =>
(w19).toD.bF fun d5 => .ok (some d5))) it4).bF fun ds2 => if ds2.length ≤ 16777216 then
(on1 gSum [(.fl ds2)]).bF fun w20 =>
retW w20
else .stk
theorem m_count_after_r3_ok (kn : Env → R Vw) (v_rules : D) (v_last : D) (v_length : D) (v_steps : Sl) (s_found : Sl) (s_turn : Sl) (s_later : Sl) (s_key : Sl) (s_value : Sl) (s_other : Sl) : count_after_r3 kn [.dd v_rules, .dd v_last, .dd v_length, v_steps, s_found, s_turn, s_later, s_key, s_value, s_other] = m_count_after_r3 kn v_rules v_last v_length v_steps s_found s_turn s_later s_key s_value s_other := by kernel_rfl
def m_count_after (a_rules a_last a_length : D) : R Vw :=
(g_go_on [a_rules, a_last]).bF fun w1 =>
(gDisp (.dt a_last) (.dt (.int 1))).bF fun w2 =>
(slOf w1).bF fun s1 =>
(slOf w2).bF fun s2 =>
rng1 a_length fun it3 =>
forC count_after_b1 it3 [.dd a_rules, .dd a_last, .dd a_length, s1, s2, .em, .em, .em, .em, .em] (count_after_r3 (fun _ => .ok (.dt .none)))
theorem m_count_after_ok (a_rules a_last a_length : D) : cFn T_go_on fz_count_after N_count_after sc_count_after body_count_after 30 [a_rules, a_last, a_length] = m_count_after a_rules a_last a_length := by kernel_rfl
def g0_count_after (ds : List D) : R Vw := match ds with
  | [a_rules, a_last, a_length] => m_count_after a_rules a_last a_length
  | _ => .stk
theorem gx_count_after : ∃ g : List D → R Vw, ∀ ds, g ds = g0_count_after ds := ⟨g0_count_after, fun _ => rfl⟩
def g_count_after : List D → R Vw := Classical.choose gx_count_after
theorem gm_count_after (a_rules a_last a_length : D) : g_count_after [a_rules, a_last, a_length] = m_count_after a_rules a_last a_length := Classical.choose_spec gx_count_after _
def T_count_after : Tab := ("count_after", .fn ["rules", "last", "length"] g_count_after) :: T_go_on
def body_count_quiet : List Stmt := defBody (top 32)
def sc_count_quiet : Scope := defScope (top 32)
def N_count_quiet : List Str := ["rules", "length"]
def fz_count_quiet : FzT := []
def m_count_quiet (a_rules a_length : D) : R Vw :=
(g_check_rules [a_rules]).bF fun w1 =>
(g_check_length [a_length]).bF fun w2 =>
(g_count_after [a_rules, (.tuple []), a_length]).bF fun w3 =>
retW w3
theorem m_count_quiet_ok (a_rules a_length : D) : cFn T_count_after fz_count_quiet N_count_quiet sc_count_quiet body_count_quiet 30 [a_rules, a_length] = m_count_quiet a_rules a_length := by kernel_rfl
def g0_count_quiet (ds : List D) : R Vw := match ds with
  | [a_rules, a_length] => m_count_quiet a_rules a_length
  | _ => .stk
theorem gx_count_quiet : ∃ g : List D → R Vw, ∀ ds, g ds = g0_count_quiet ds := ⟨g0_count_quiet, fun _ => rfl⟩
def g_count_quiet : List D → R Vw := Classical.choose gx_count_quiet
theorem gm_count_quiet (a_rules a_length : D) : g_count_quiet [a_rules, a_length] = m_count_quiet a_rules a_length := Classical.choose_spec gx_count_quiet _
def T_count_quiet : Tab := ("count_quiet", .fn ["rules", "length"] g_count_quiet) :: T_count_after
def body_all_rows : List Stmt := defBody (top 36)
def sc_all_rows : Scope := defScope (top 36)
def N_all_rows : List Str := ["length", "found", "turn", "row", "value"]
def fz_all_rows : FzT := []
def all_rows_b1 (x : D) (ρ : Env) (k : Env → R Vw) : R Vw := cAsg N_all_rows sc_all_rows (forT (stAt body_all_rows 1)) x ρ fun ρ1 => (cN T_count_quiet fz_all_rows N_all_rows 29).ss sc_all_rows (forB (stAt body_all_rows 1)) ρ1 k
def m_all_rows_b1 (x : D) (v_length : D) (s_found : Sl) (s_turn : Sl) (k : Env → R Vw) : R Vw :=
(slotV s_found).bF fun w1 =>
(itV false w1).bF fun it1 =>
(lcM (fun x1 => wB (
(itV true (.kc (.tuple [.int (-3), .int (-2), .int (-1), .int (0), .int (1), .int (2), .int (3)]))).bF fun it2 =>
lcL (fun x2 => wB (
(gBin .Add (.dt x1) (.dt (.tuple [x2]))).bF fun w2 =>
(w2).toD.bF fun d1 => .ok (some d1))) it2)) it1).bF fun ds1 => if ds1.length ≤ 16777216 then
k [.dd v_length, .ol ds1, .dd x, .em, .em]
else .stk
theorem m_all_rows_b1_ok (x : D) (v_length : D) (s_found : Sl) (s_turn : Sl) (k : Env → R Vw) : all_rows_b1 x [.dd v_length, s_found, s_turn, .em, .em] k = m_all_rows_b1 x v_length s_found s_turn k := by kernel_rfl
def all_rows_r1 (kn : Env → R Vw) (ρ : Env) : R Vw := cSS T_count_quiet fz_all_rows N_all_rows (cN T_count_quiet fz_all_rows N_all_rows 29) sc_all_rows (List.drop 2 body_all_rows) ρ kn
def m_all_rows_r1 (kn : Env → R Vw) (v_length : D) (s_found : Sl) (s_turn : Sl) : R Vw :=
ownK s_found (fun ds => .ok (.fl ds)) (fun ks => .ok (.fd ks)) ((slotV s_found).bF fun w3 =>
retW w3)
theorem m_all_rows_r1_ok (kn : Env → R Vw) (v_length : D) (s_found : Sl) (s_turn : Sl) : all_rows_r1 kn [.dd v_length, s_found, s_turn, .em, .em] = m_all_rows_r1 kn v_length s_found s_turn := by kernel_rfl
def m_all_rows (a_length : D) : R Vw :=
rng1 a_length fun it3 =>
forC all_rows_b1 it3 [.dd a_length, .ol [(.tuple [])], .em, .em, .em] (all_rows_r1 (fun _ => .ok (.dt .none)))
theorem m_all_rows_ok (a_length : D) : cFn T_count_quiet fz_all_rows N_all_rows sc_all_rows body_all_rows 30 [a_length] = m_all_rows a_length := by kernel_rfl
def g0_all_rows (ds : List D) : R Vw := match ds with
  | [a_length] => m_all_rows a_length
  | _ => .stk
theorem gx_all_rows : ∃ g : List D → R Vw, ∀ ds, g ds = g0_all_rows ds := ⟨g0_all_rows, fun _ => rfl⟩
def g_all_rows : List D → R Vw := Classical.choose gx_all_rows
theorem gm_all_rows (a_length : D) : g_all_rows [a_length] = m_all_rows a_length := Classical.choose_spec gx_all_rows _
def T_all_rows : Tab := ("all_rows", .fn ["length"] g_all_rows) :: T_count_quiet
def body_naive_implies : List Stmt := defBody (top 37)
def sc_naive_implies : Scope := defScope (top 37)
def N_naive_implies : List Str := ["one", "other", "length", "row"]
def fz_naive_implies : FzT := []
def naive_implies_b1 (x : D) (ρ : Env) (k : Env → R Vw) : R Vw := cAsg N_naive_implies sc_naive_implies (forT (stAt body_naive_implies 3)) x ρ fun ρ1 => (cN T_all_rows fz_naive_implies N_naive_implies 29).ss sc_naive_implies (forB (stAt body_naive_implies 3)) ρ1 k
def naive_implies_b2 (x : D) (ρ : Env) (k : Env → R Vw) : R Vw := cAsg N_naive_implies sc_naive_implies (forT (stAt (forB (stAt body_naive_implies 3)) 0)) x ρ fun ρ1 => (cN T_all_rows fz_naive_implies N_naive_implies 28).ss sc_naive_implies (forB (stAt (forB (stAt body_naive_implies 3)) 0)) ρ1 k
def m_naive_implies_b2 (x : D) (v_one : D) (v_other : D) (v_length : D) (s_row : Sl) (k : Env → R Vw) : R Vw :=
(((g_does_ring [v_one, x]).bF fun w7 =>
(gTru w7.peek).bF fun b2 =>
bc b2 ((g_does_ring [v_other, x]).bF fun w8 =>
(gTru w8.peek).bF fun b3 =>
.ok (!b3)) (.ok false)) : R Bool).bF fun b4 =>
bc b4 (
.ok (.dt (.bool false))) (
k [.dd v_one, .dd v_other, .dd v_length, .dd x])
theorem m_naive_implies_b2_ok (x : D) (v_one : D) (v_other : D) (v_length : D) (s_row : Sl) (k : Env → R Vw) : naive_implies_b2 x [.dd v_one, .dd v_other, .dd v_length, s_row] k = m_naive_implies_b2 x v_one v_other v_length s_row k := by kernel_rfl
def naive_implies_r1 (kn : Env → R Vw) (ρ : Env) : R Vw := cSS T_all_rows fz_naive_implies N_naive_implies (cN T_all_rows fz_naive_implies N_naive_implies 28) sc_naive_implies (List.drop 1 (forB (stAt body_naive_implies 3))) ρ kn
def m_naive_implies_r1 (kn : Env → R Vw) (v_one : D) (v_other : D) (v_length : D) (s_row : Sl) : R Vw :=
kn [.dd v_one, .dd v_other, .dd v_length, s_row]
theorem m_naive_implies_r1_ok (kn : Env → R Vw) (v_one : D) (v_other : D) (v_length : D) (s_row : Sl) : naive_implies_r1 kn [.dd v_one, .dd v_other, .dd v_length, s_row] = m_naive_implies_r1 kn v_one v_other v_length s_row := by kernel_rfl
def m_naive_implies_b1 (x : D) (v_one : D) (v_other : D) (s_length : Sl) (s_row : Sl) (k : Env → R Vw) : R Vw :=
(g_all_rows [x]).bF fun w9 =>
(itV true w9).bF fun it1 =>
forC naive_implies_b2 it1 [.dd v_one, .dd v_other, .dd x, s_row] (naive_implies_r1 k)
theorem m_naive_implies_b1_ok (x : D) (v_one : D) (v_other : D) (s_length : Sl) (s_row : Sl) (k : Env → R Vw) : naive_implies_b1 x [.dd v_one, .dd v_other, s_length, s_row] k = m_naive_implies_b1 x v_one v_other s_length s_row k := by kernel_rfl
def naive_implies_r2 (kn : Env → R Vw) (ρ : Env) : R Vw := cSS T_all_rows fz_naive_implies N_naive_implies (cN T_all_rows fz_naive_implies N_naive_implies 29) sc_naive_implies (List.drop 4 body_naive_implies) ρ kn
def m_naive_implies_r2 (kn : Env → R Vw) (v_one : D) (v_other : D) (s_length : Sl) (s_row : Sl) : R Vw :=
.ok (.dt (.bool true))
theorem m_naive_implies_r2_ok (kn : Env → R Vw) (v_one : D) (v_other : D) (s_length : Sl) (s_row : Sl) : naive_implies_r2 kn [.dd v_one, .dd v_other, s_length, s_row] = m_naive_implies_r2 kn v_one v_other s_length s_row := by kernel_rfl
def m_naive_implies (a_one a_other : D) : R Vw :=
(g_check_rule [a_one]).bF fun w1 =>
(g_check_rule [a_other]).bF fun w2 =>
(gIxV (.dt a_one) (.dt (.int 1))).bF fun w3 =>
(gIxV (.dt a_other) (.dt (.int 1))).bF fun w4 =>
(gMM true [w3, w4]).bF fun w5 =>
(gCmp .Gt w5 (.dt (.int 3))).bF fun w6 =>
(isB w6.peek).bF fun b1 =>
bc b1 (
.exc "TooLarge") (
(gIxV (.dt a_one) (.dt (.int 1))).bF fun w10 =>
(gIxV (.dt a_other) (.dt (.int 1))).bF fun w11 =>
(gMM true [w10, w11]).bF fun w12 =>
(gBin .Add w12 (.dt (.int 1))).bF fun w13 =>
rng1 w13.peek fun it2 =>
forC naive_implies_b1 it2 [.dd a_one, .dd a_other, .em, .em] (naive_implies_r2 (fun _ => .ok (.dt .none))))
theorem m_naive_implies_ok (a_one a_other : D) : cFn T_all_rows fz_naive_implies N_naive_implies sc_naive_implies body_naive_implies 30 [a_one, a_other] = m_naive_implies a_one a_other := by kernel_rfl
def g0_naive_implies (ds : List D) : R Vw := match ds with
  | [a_one, a_other] => m_naive_implies a_one a_other
  | _ => .stk
theorem gx_naive_implies : ∃ g : List D → R Vw, ∀ ds, g ds = g0_naive_implies ds := ⟨g0_naive_implies, fun _ => rfl⟩
def g_naive_implies : List D → R Vw := Classical.choose gx_naive_implies
theorem gm_naive_implies (a_one a_other : D) : g_naive_implies [a_one, a_other] = m_naive_implies a_one a_other := Classical.choose_spec gx_naive_implies _
def T_naive_implies : Tab := ("naive_implies", .fn ["one", "other"] g_naive_implies) :: T_all_rows
def body_naive_quiet : List Stmt := defBody (top 38)
def sc_naive_quiet : Scope := defScope (top 38)
def N_naive_quiet : List Str := ["rules", "length", "row"]
def fz_naive_quiet : FzT := []
def m_naive_quiet (a_rules a_length : D) : R Vw :=
(g_check_rules [a_rules]).bF fun w1 =>
(g_check_length [a_length]).bF fun w2 =>
(gCmp .Gt (.dt a_length) (.dt (.int 4))).bF fun w3 =>
(isB w3.peek).bF fun b1 =>
bc b1 (
.exc "TooLarge") (
(g_all_rows [a_length]).bF fun w4 =>
(itV false w4).bF fun it1 =>
(lcL (fun x1 => wB (
(g_find_alarms [a_rules, x1]).bF fun w5 =>
(gCmp .Eq w5 (.fl [])).bF fun w6 =>
(isB w6.peek).bF fun b2 =>
bc b2 (.ok (some x1)) (.ok none))) it1).bF fun ds1 => if ds1.length ≤ 16777216 then
(on1 gLen [(.fl ds1)]).bF fun w7 =>
retW w7
else .stk)
theorem m_naive_quiet_ok (a_rules a_length : D) : cFn T_naive_implies fz_naive_quiet N_naive_quiet sc_naive_quiet body_naive_quiet 30 [a_rules, a_length] = m_naive_quiet a_rules a_length := by kernel_rfl
def g0_naive_quiet (ds : List D) : R Vw := match ds with
  | [a_rules, a_length] => m_naive_quiet a_rules a_length
  | _ => .stk
theorem gx_naive_quiet : ∃ g : List D → R Vw, ∀ ds, g ds = g0_naive_quiet ds := ⟨g0_naive_quiet, fun _ => rfl⟩
def g_naive_quiet : List D → R Vw := Classical.choose gx_naive_quiet
theorem gm_naive_quiet (a_rules a_length : D) : g_naive_quiet [a_rules, a_length] = m_naive_quiet a_rules a_length := Classical.choose_spec gx_naive_quiet _
def T_naive_quiet : Tab := ("naive_quiet", .fn ["rules", "length"] g_naive_quiet) :: T_naive_implies
def body__law_drawn : List Stmt := defBody (top 40)
def sc__law_drawn : Scope := defScope (top 40)
def N__law_drawn : List Str := ["_law_script", "_law_k", "_law_many", "_law_cell", "_law_turn", "_law_rest"]
def fz__law_drawn : FzT := []
def _law_drawn_r1 (kn : Env → R Vw) (ρ : Env) : R Vw := cSS T_naive_quiet fz__law_drawn N__law_drawn (cN T_naive_quiet fz__law_drawn N__law_drawn 29) sc__law_drawn (List.drop 2 body__law_drawn) ρ kn
def m__law_drawn_r1 (kn : Env → R Vw) (v__law_script : D) (v__law_k : D) (v__law_many : D) (s__law_cell : Sl) (s__law_turn : Sl) (s__law_rest : Sl) : R Vw :=
(slotV s__law_cell).bF fun w2 =>
(gBin .Mod w2 (.dt (.int 2147483563))).bF fun w3 =>
(gBin .Mult w3 (.dt (.int 69069))).bF fun w4 =>
(gBin .Add (.dt v__law_k) (.dt (.int 1))).bF fun w5 =>
(gBin .Mult (.dt (.int 104723)) w5).bF fun w6 =>
(gBin .Add w4 w6).bF fun w7 =>
(gBin .Mod w7 (.dt (.int 2147483563))).bF fun w8 =>
(slOf w8).bF fun s2 =>
(slotV s2).bF fun w9 =>
(slotV s2).bF fun w10 =>
(gBin .Mult w9 w10).bF fun w11 =>
(slotV s2).bF fun w12 =>
(gBin .FloorDiv w12 (.dt (.int 3))).bF fun w13 =>
(gBin .Add w11 w13).bF fun w14 =>
(gBin .Mod w14 (.dt (.int 2147483399))).bF fun w15 =>
(slOf w15).bF fun s3 =>
(slotV s3).bF fun w16 =>
(slotV s3).bF fun w17 =>
(gBin .Mult w16 w17).bF fun w18 =>
(slotV s3).bF fun w19 =>
(gBin .FloorDiv w19 (.dt (.int 7))).bF fun w20 =>
(gBin .Add w18 w20).bF fun w21 =>
(gBin .Mod w21 (.dt (.int 2147483647))).bF fun w22 =>
(gBin .FloorDiv w22 (.dt (.int 11))).bF fun w23 =>
(gBin .Mod w23 (.dt v__law_many)).bF fun w24 =>
retW w24
theorem m__law_drawn_r1_ok (kn : Env → R Vw) (v__law_script : D) (v__law_k : D) (v__law_many : D) (s__law_cell : Sl) (s__law_turn : Sl) (s__law_rest : Sl) : _law_drawn_r1 kn [.dd v__law_script, .dd v__law_k, .dd v__law_many, s__law_cell, s__law_turn, s__law_rest] = m__law_drawn_r1 kn v__law_script v__law_k v__law_many s__law_cell s__law_turn s__law_rest := by kernel_rfl
def _law_drawn_r2 (kn : Env → R Vw) (ρ : Env) : R Vw := cSS T_naive_quiet fz__law_drawn N__law_drawn (cN T_naive_quiet fz__law_drawn N__law_drawn 28) sc__law_drawn (List.drop 2 (ifA (stAt body__law_drawn 1))) ρ kn
def _law_drawn_r3 (kn : Env → R Vw) (ρ : Env) : R Vw := cSS T_naive_quiet fz__law_drawn N__law_drawn (cN T_naive_quiet fz__law_drawn N__law_drawn 28) sc__law_drawn (List.drop 3 (ifA (stAt body__law_drawn 1))) ρ kn
def m__law_drawn_r3 (kn : Env → R Vw) (v__law_script : D) (v__law_k : D) (v__law_many : D) (v__law_cell : Sl) (s__law_turn : Sl) (s__law_rest : Sl) : R Vw :=
(slotV v__law_cell).bF fun w31 =>
(on1 gLen [(.dt v__law_script)]).bF fun w32 =>
(gBin .FloorDiv (.dt v__law_k) w32).bF fun w33 =>
(gBin .Mult (.dt (.int 6553)) w33).bF fun w34 =>
(gBin .Add w31 w34).bF fun w35 =>
(slOf w35).bF fun s6 =>
kn [.dd v__law_script, .dd v__law_k, .dd v__law_many, s6, s__law_turn, s__law_rest]
theorem m__law_drawn_r3_ok (kn : Env → R Vw) (v__law_script : D) (v__law_k : D) (v__law_many : D) (v__law_cell : Sl) (s__law_turn : Sl) (s__law_rest : Sl) : _law_drawn_r3 kn [.dd v__law_script, .dd v__law_k, .dd v__law_many, v__law_cell, s__law_turn, s__law_rest] = m__law_drawn_r3 kn v__law_script v__law_k v__law_many v__law_cell s__law_turn s__law_rest := by kernel_rfl
def _law_drawn_w1t (ρ : Env) (k : Bool → R Vw) : R Vw := (cN T_naive_quiet fz__law_drawn N__law_drawn 27).t sc__law_drawn (whT (stAt (ifA (stAt (ifA (stAt body__law_drawn 1)) 2)) 1)) ρ k
def _law_drawn_w1b (ρ : Env) (k : Env → R Vw) : R Vw := (cN T_naive_quiet fz__law_drawn N__law_drawn 27).ss sc__law_drawn (forB (stAt (ifA (stAt (ifA (stAt body__law_drawn 1)) 2)) 1)) ρ k
def m__law_drawn_w1t (v__law_script : D) (v__law_k : D) (v__law_many : D) (v__law_cell : Sl) (s__law_turn : Sl) (s__law_rest : Sl) (k : Bool → R Vw) : R Vw :=
(((slotV s__law_rest).bF fun w44 =>
(gCmp .Gt w44 (.dt (.int 0))).bF fun w45 =>
(isB w45.peek).bF fun b5 =>
bc b5 ((slotV s__law_turn).bF fun w46 =>
(gCmp .Gt w46 (.dt (.int 0))).bF fun w47 =>
(isB w47.peek).bF fun b6 =>
.ok b6) (.ok false)) : R Bool).bF fun b7 =>
k b7
theorem m__law_drawn_w1t_ok (v__law_script : D) (v__law_k : D) (v__law_many : D) (v__law_cell : Sl) (s__law_turn : Sl) (s__law_rest : Sl) (k : Bool → R Vw) : _law_drawn_w1t [.dd v__law_script, .dd v__law_k, .dd v__law_many, v__law_cell, s__law_turn, s__law_rest] k = m__law_drawn_w1t v__law_script v__law_k v__law_many v__law_cell s__law_turn s__law_rest k := by kernel_rfl
def m__law_drawn_w1b (v__law_script : D) (v__law_k : D) (v__law_many : D) (v__law_cell : Sl) (s__law_turn : Sl) (s__law_rest : Sl) (k : Env → R Vw) : R Vw :=
(slotV s__law_rest).bF fun w48 =>
(gBin .FloorDiv w48 (.dt (.int 1000000))).bF fun w49 =>
(slOf w49).bF fun s8 =>
(slotV s__law_turn).bF fun w50 =>
(gBin .Sub w50 (.dt (.int 1))).bF fun w51 =>
(slOf w51).bF fun s9 =>
k [.dd v__law_script, .dd v__law_k, .dd v__law_many, v__law_cell, s9, s8]
theorem m__law_drawn_w1b_ok (v__law_script : D) (v__law_k : D) (v__law_many : D) (v__law_cell : Sl) (s__law_turn : Sl) (s__law_rest : Sl) (k : Env → R Vw) : _law_drawn_w1b [.dd v__law_script, .dd v__law_k, .dd v__law_many, v__law_cell, s__law_turn, s__law_rest] k = m__law_drawn_w1b v__law_script v__law_k v__law_many v__law_cell s__law_turn s__law_rest k := by kernel_rfl
def _law_drawn_r4 (kn : Env → R Vw) (ρ : Env) : R Vw := cSS T_naive_quiet fz__law_drawn N__law_drawn (cN T_naive_quiet fz__law_drawn N__law_drawn 27) sc__law_drawn (List.drop 2 (ifA (stAt (ifA (stAt body__law_drawn 1)) 2))) ρ kn
def m__law_drawn_r4 (kn : Env → R Vw) (v__law_script : D) (v__law_k : D) (v__law_many : D) (v__law_cell : Sl) (s__law_turn : Sl) (s__law_rest : Sl) : R Vw :=
(slotV s__law_rest).bF fun w52 =>
(gCmp .Gt w52 (.dt (.int 0))).bF fun w53 =>
(isB w53.peek).bF fun b8 =>
bc b8 (
(slotV s__law_rest).bF fun w54 =>
(gBin .Mod w54 (.dt (.int 1000000))).bF fun w55 =>
(gBin .Mod w55 (.dt v__law_many)).bF fun w56 =>
retW w56) (
kn [.dd v__law_script, .dd v__law_k, .dd v__law_many, v__law_cell, s__law_turn, s__law_rest])
theorem m__law_drawn_r4_ok (kn : Env → R Vw) (v__law_script : D) (v__law_k : D) (v__law_many : D) (v__law_cell : Sl) (s__law_turn : Sl) (s__law_rest : Sl) : _law_drawn_r4 kn [.dd v__law_script, .dd v__law_k, .dd v__law_many, v__law_cell, s__law_turn, s__law_rest] = m__law_drawn_r4 kn v__law_script v__law_k v__law_many v__law_cell s__law_turn s__law_rest := by kernel_rfl
def m__law_drawn_r2 (kn : Env → R Vw) (v__law_script : D) (v__law_k : D) (v__law_many : D) (v__law_cell : Sl) (v__law_turn : Sl) : R Vw :=
(((slotV v__law_cell).bF fun w36 =>
(gBin .Pow (.dt (.int 10)) (.dt (.int 18))).bF fun w37 =>
(gCmp .GtE w36 w37).bF fun w38 =>
(isB w38.peek).bF fun b2 =>
bc b2 ((slotV v__law_turn).bF fun w39 =>
(gCmp .Lt w39 (.dt (.int 60))).bF fun w40 =>
(isB w40.peek).bF fun b3 =>
.ok b3) (.ok false)) : R Bool).bF fun b4 =>
bc b4 (
(slotV v__law_cell).bF fun w41 =>
(gBin .Pow (.dt (.int 10)) (.dt (.int 18))).bF fun w42 =>
(gBin .FloorDiv w41 w42).bF fun w43 =>
(slOf w43).bF fun s7 =>
whileC _law_drawn_w1t _law_drawn_w1b wFuel [.dd v__law_script, .dd v__law_k, .dd v__law_many, v__law_cell, v__law_turn, s7] (_law_drawn_r4 (_law_drawn_r3 kn))) (
(_law_drawn_r3 kn) [.dd v__law_script, .dd v__law_k, .dd v__law_many, v__law_cell, v__law_turn, .em])
theorem m__law_drawn_r2_ok (kn : Env → R Vw) (v__law_script : D) (v__law_k : D) (v__law_many : D) (v__law_cell : Sl) (v__law_turn : Sl) : _law_drawn_r2 kn [.dd v__law_script, .dd v__law_k, .dd v__law_many, v__law_cell, v__law_turn, .em] = m__law_drawn_r2 kn v__law_script v__law_k v__law_many v__law_cell v__law_turn := by kernel_rfl
def m__law_drawn (a__law_script a__law_k a__law_many : D) : R Vw :=
(gBin .Mult (.dt (.int 7)) (.dt a__law_k)).bF fun w1 =>
(slOf w1).bF fun s1 =>
(gCmp .NotEq (.dt a__law_script) (.fl [])).bF fun w25 =>
(isB w25.peek).bF fun b1 =>
bc b1 (
(on1 gLen [(.dt a__law_script)]).bF fun w26 =>
(gBin .Mod (.dt a__law_k) w26).bF fun w27 =>
(gIxV (.dt a__law_script) w27).bF fun w28 =>
(slOf w28).bF fun s4 =>
(on1 gLen [(.dt a__law_script)]).bF fun w29 =>
(gBin .FloorDiv (.dt a__law_k) w29).bF fun w30 =>
(slOf w30).bF fun s5 =>
(_law_drawn_r2 (_law_drawn_r1 (fun _ => .ok (.dt .none)))) [.dd a__law_script, .dd a__law_k, .dd a__law_many, s4, s5, .em]) (
(_law_drawn_r1 (fun _ => .ok (.dt .none))) [.dd a__law_script, .dd a__law_k, .dd a__law_many, s1, .em, .em])
theorem m__law_drawn_ok (a__law_script a__law_k a__law_many : D) : cFn T_naive_quiet fz__law_drawn N__law_drawn sc__law_drawn body__law_drawn 30 [a__law_script, a__law_k, a__law_many] = m__law_drawn a__law_script a__law_k a__law_many := by kernel_rfl
def g0__law_drawn (ds : List D) : R Vw := match ds with
  | [a__law_script, a__law_k, a__law_many] => m__law_drawn a__law_script a__law_k a__law_many
  | _ => .stk
theorem gx__law_drawn : ∃ g : List D → R Vw, ∀ ds, g ds = g0__law_drawn ds := ⟨g0__law_drawn, fun _ => rfl⟩
def g__law_drawn : List D → R Vw := Classical.choose gx__law_drawn
theorem gm__law_drawn (a__law_script a__law_k a__law_many : D) : g__law_drawn [a__law_script, a__law_k, a__law_many] = m__law_drawn a__law_script a__law_k a__law_many := Classical.choose_spec gx__law_drawn _
def T__law_drawn : Tab := ("_law_drawn", .fn ["_law_script", "_law_k", "_law_many"] g__law_drawn) :: T_naive_quiet
def body__law_rules : List Stmt := defBody (top 41)
def sc__law_rules : Scope := defScope (top 41)
def N__law_rules : List Str := ["_law_script", "_law_at", "_law_most", "_law_wide", "_law_found", "_law_k", "_law_window", "_law_many"]
def fz__law_rules : FzT := []
def _law_rules_b1 (x : D) (ρ : Env) (k : Env → R Vw) : R Vw := cAsg N__law_rules sc__law_rules (forT (stAt body__law_rules 1)) x ρ fun ρ1 => (cN T__law_drawn fz__law_rules N__law_rules 29).ss sc__law_rules (forB (stAt body__law_rules 1)) ρ1 k
def m__law_rules_b1 (x : D) (v__law_script : D) (v__law_at : D) (v__law_most : D) (v__law_wide : D) (s__law_found : Sl) (s__law_k : Sl) (s__law_window : Sl) (s__law_many : Sl) (k : Env → R Vw) : R Vw :=
(gBin .Add (.dt v__law_at) (.dt (.int 1))).bF fun w1 =>
(gBin .Mult (.dt (.int 3)) (.dt x)).bF fun w2 =>
(gBin .Add w1 w2).bF fun w3 =>
(toDs [(.dt v__law_script), w3, (.dt v__law_wide)]).bF fun ds1 => (g__law_drawn ds1).bF fun w4 =>
(gBin .Add (.dt (.int 1)) w4).bF fun w5 =>
(slOf w5).bF fun s1 =>
(gBin .Add (.dt v__law_at) (.dt (.int 2))).bF fun w6 =>
(gBin .Mult (.dt (.int 3)) (.dt x)).bF fun w7 =>
(gBin .Add w6 w7).bF fun w8 =>
(slotV s1).bF fun w9 =>
(toDs [(.dt v__law_script), w8, w9]).bF fun ds2 => (g__law_drawn ds2).bF fun w10 =>
(gBin .Add (.dt (.int 1)) w10).bF fun w11 =>
(slOf w11).bF fun s2 =>
ownK s__law_found (fun y1 =>
(slotV s2).bF fun w12 =>
(slotV s1).bF fun w13 =>
(gBin .Add (.dt v__law_at) (.dt (.int 3))).bF fun w14 =>
(gBin .Mult (.dt (.int 3)) (.dt x)).bF fun w15 =>
(gBin .Add w14 w15).bF fun w16 =>
(toDs [(.dt v__law_script), w16, (.dt (.int 3))]).bF fun ds3 => (g__law_drawn ds3).bF fun w17 =>
(gBin .Add (.dt (.int 1)) w17).bF fun w18 =>
(toDs [w12, w13, w18]).bF fun ds4 =>
if y1.length < 16777216 then
k [.dd v__law_script, .dd v__law_at, .dd v__law_most, .dd v__law_wide, .ol (y1 ++ [(.tuple ds4)]), .dd x, s1, s2]
else .stk) (fun _ => .stk) .stk
theorem m__law_rules_b1_ok (x : D) (v__law_script : D) (v__law_at : D) (v__law_most : D) (v__law_wide : D) (s__law_found : Sl) (s__law_k : Sl) (s__law_window : Sl) (s__law_many : Sl) (k : Env → R Vw) : _law_rules_b1 x [.dd v__law_script, .dd v__law_at, .dd v__law_most, .dd v__law_wide, s__law_found, s__law_k, s__law_window, s__law_many] k = m__law_rules_b1 x v__law_script v__law_at v__law_most v__law_wide s__law_found s__law_k s__law_window s__law_many k := by kernel_rfl
def _law_rules_r1 (kn : Env → R Vw) (ρ : Env) : R Vw := cSS T__law_drawn fz__law_rules N__law_rules (cN T__law_drawn fz__law_rules N__law_rules 29) sc__law_rules (List.drop 2 body__law_rules) ρ kn
def m__law_rules_r1 (kn : Env → R Vw) (v__law_script : D) (v__law_at : D) (v__law_most : D) (v__law_wide : D) (s__law_found : Sl) (s__law_k : Sl) (s__law_window : Sl) (s__law_many : Sl) : R Vw :=
(slotV s__law_found).bF fun w21 =>
(gSS w21).bF fun w22 =>
(gTup [w22]).bF fun w23 =>
retW w23
theorem m__law_rules_r1_ok (kn : Env → R Vw) (v__law_script : D) (v__law_at : D) (v__law_most : D) (v__law_wide : D) (s__law_found : Sl) (s__law_k : Sl) (s__law_window : Sl) (s__law_many : Sl) : _law_rules_r1 kn [.dd v__law_script, .dd v__law_at, .dd v__law_most, .dd v__law_wide, s__law_found, s__law_k, s__law_window, s__law_many] = m__law_rules_r1 kn v__law_script v__law_at v__law_most v__law_wide s__law_found s__law_k s__law_window s__law_many := by kernel_rfl
def m__law_rules (a__law_script a__law_at a__law_most a__law_wide : D) : R Vw :=
(g__law_drawn [a__law_script, a__law_at, a__law_most]).bF fun w19 =>
(gBin .Add (.dt (.int 1)) w19).bF fun w20 =>
rng1 w20.peek fun it1 =>
forC _law_rules_b1 it1 [.dd a__law_script, .dd a__law_at, .dd a__law_most, .dd a__law_wide, .ol [], .em, .em, .em] (_law_rules_r1 (fun _ => .ok (.dt .none)))
theorem m__law_rules_ok (a__law_script a__law_at a__law_most a__law_wide : D) : cFn T__law_drawn fz__law_rules N__law_rules sc__law_rules body__law_rules 30 [a__law_script, a__law_at, a__law_most, a__law_wide] = m__law_rules a__law_script a__law_at a__law_most a__law_wide := by kernel_rfl
def g0__law_rules (ds : List D) : R Vw := match ds with
  | [a__law_script, a__law_at, a__law_most, a__law_wide] => m__law_rules a__law_script a__law_at a__law_most a__law_wide
  | _ => .stk
theorem gx__law_rules : ∃ g : List D → R Vw, ∀ ds, g ds = g0__law_rules ds := ⟨g0__law_rules, fun _ => rfl⟩
def g__law_rules : List D → R Vw := Classical.choose gx__law_rules
theorem gm__law_rules (a__law_script a__law_at a__law_most a__law_wide : D) : g__law_rules [a__law_script, a__law_at, a__law_most, a__law_wide] = m__law_rules a__law_script a__law_at a__law_most a__law_wide := Classical.choose_spec gx__law_rules _
def T__law_rules : Tab := ("_law_rules", .fn ["_law_script", "_law_at", "_law_most", "_law_wide"] g__law_rules) :: T__law_drawn
def body__law_sides : List Stmt := defBody (top 42)
def sc__law_sides : Scope := defScope (top 42)
def N__law_sides : List Str := ["_law_rules_here", "_law_row", "_law_up", "_law_down", "_law_many", "_law_window", "_law_band", "_law_last", "_law_value"]
def fz__law_sides : FzT := []
def _law_sides_b1 (x : D) (ρ : Env) (k : Env → R Vw) : R Vw := cAsg N__law_sides sc__law_sides (forT (stAt body__law_sides 1)) x ρ fun ρ1 => (cN T__law_rules fz__law_sides N__law_sides 29).ss sc__law_sides (forB (stAt body__law_sides 1)) ρ1 k
def m__law_sides_b1 (x : D) (v__law_rules_here : D) (v__law_row : D) (s__law_up : Sl) (s__law_down : Sl) (s__law_many : Sl) (s__law_window : Sl) (s__law_band : Sl) (s__law_last : Sl) (k : Env → R Vw) : R Vw :=
unp3 x fun d1 d2 d3 =>
(on1 gLen [(.dt v__law_row)]).bF fun w1 =>
(on1 gLen [(.dt v__law_row)]).bF fun w2 =>
(gMM false [w2, (.dt d2)]).bF fun w3 =>
(gBin .Sub w1 w3).bF fun w4 =>
intK w4.peek fun i1 =>
(gSl (.dt v__law_row) (some i1) none).bF fun w5 =>
(slOf w5).bF fun s1 =>
(((slotV s__law_up).bF fun w6 =>
(isB w6.peek).bF fun b1 => bc b1 (.ok (.dt (.bool true))) ((slotV s1).bF fun w7 =>
(itV false w7).bF fun it1 =>
(lcL (fun x1 => wB (
(gCmp .GtE (.dt x1) (.dt d3)).bF fun w8 =>
(isB w8.peek).bF fun b2 =>
bc b2 (.ok (some x1)) (.ok none))) it1).bF fun ds1 => if ds1.length ≤ 16777216 then
(on1 gLen [(.fl ds1)]).bF fun w9 =>
(gCmp .GtE w9 (.dt d1)).bF fun w10 =>
.ok w10
else .stk)) : R Vw).bF fun w11 =>
(slOf w11).bF fun s2 =>
(((slotV s__law_down).bF fun w12 =>
(isB w12.peek).bF fun b3 => bc b3 (.ok (.dt (.bool true))) ((slotV s1).bF fun w13 =>
(itV false w13).bF fun it2 =>
(lcL (fun x2 => wB (
(gBin .Sub (.dt (.int 0)) (.dt d3)).bF fun w14 =>
(gCmp .LtE (.dt x2) w14).bF fun w15 =>
(isB w15.peek).bF fun b4 =>
bc b4 (.ok (some x2)) (.ok none))) it2).bF fun ds2 => if ds2.length ≤ 16777216 then
(on1 gLen [(.fl ds2)]).bF fun w16 =>
(gCmp .GtE w16 (.dt d1)).bF fun w17 =>
.ok w17
else .stk)) : R Vw).bF fun w18 =>
(slOf w18).bF fun s3 =>
k [.dd v__law_rules_here, .dd v__law_row, s2, s3, .dd d1, .dd d2, .dd d3, s1, .em]
theorem m__law_sides_b1_ok (x : D) (v__law_rules_here : D) (v__law_row : D) (s__law_up : Sl) (s__law_down : Sl) (s__law_many : Sl) (s__law_window : Sl) (s__law_band : Sl) (s__law_last : Sl) (k : Env → R Vw) : _law_sides_b1 x [.dd v__law_rules_here, .dd v__law_row, s__law_up, s__law_down, s__law_many, s__law_window, s__law_band, s__law_last, .em] k = m__law_sides_b1 x v__law_rules_here v__law_row s__law_up s__law_down s__law_many s__law_window s__law_band s__law_last k := by kernel_rfl
def _law_sides_r1 (kn : Env → R Vw) (ρ : Env) : R Vw := cSS T__law_rules fz__law_sides N__law_sides (cN T__law_rules fz__law_sides N__law_sides 29) sc__law_sides (List.drop 2 body__law_sides) ρ kn
def m__law_sides_r1 (kn : Env → R Vw) (v__law_rules_here : D) (v__law_row : D) (s__law_up : Sl) (s__law_down : Sl) (s__law_many : Sl) (s__law_window : Sl) (s__law_band : Sl) (s__law_last : Sl) : R Vw :=
(slotV s__law_up).bF fun w19 =>
(slotV s__law_down).bF fun w20 =>
(toDs [w19, w20]).bF fun ds3 =>
.ok (.dt (.tuple ds3))
theorem m__law_sides_r1_ok (kn : Env → R Vw) (v__law_rules_here : D) (v__law_row : D) (s__law_up : Sl) (s__law_down : Sl) (s__law_many : Sl) (s__law_window : Sl) (s__law_band : Sl) (s__law_last : Sl) : _law_sides_r1 kn [.dd v__law_rules_here, .dd v__law_row, s__law_up, s__law_down, s__law_many, s__law_window, s__law_band, s__law_last, .em] = m__law_sides_r1 kn v__law_rules_here v__law_row s__law_up s__law_down s__law_many s__law_window s__law_band s__law_last := by kernel_rfl
def m__law_sides (a__law_rules_here a__law_row : D) : R Vw :=
(itV true (.dt a__law_rules_here)).bF fun it3 =>
forC _law_sides_b1 it3 [.dd a__law_rules_here, .dd a__law_row, .dd (.bool false), .dd (.bool false), .em, .em, .em, .em, .em] (_law_sides_r1 (fun _ => .ok (.dt .none)))
theorem m__law_sides_ok (a__law_rules_here a__law_row : D) : cFn T__law_rules fz__law_sides N__law_sides sc__law_sides body__law_sides 30 [a__law_rules_here, a__law_row] = m__law_sides a__law_rules_here a__law_row := by kernel_rfl
def g0__law_sides (ds : List D) : R Vw := match ds with
  | [a__law_rules_here, a__law_row] => m__law_sides a__law_rules_here a__law_row
  | _ => .stk
theorem gx__law_sides : ∃ g : List D → R Vw, ∀ ds, g ds = g0__law_sides ds := ⟨g0__law_sides, fun _ => rfl⟩
def g__law_sides : List D → R Vw := Classical.choose gx__law_sides
theorem gm__law_sides (a__law_rules_here a__law_row : D) : g__law_sides [a__law_rules_here, a__law_row] = m__law_sides a__law_rules_here a__law_row := Classical.choose_spec gx__law_sides _
def T__law_sides : Tab := ("_law_sides", .fn ["_law_rules_here", "_law_row"] g__law_sides) :: T__law_rules
def body__law_alarms : List Stmt := defBody (top 43)
def sc__law_alarms : Scope := defScope (top 43)
def N__law_alarms : List Str := ["_law_rules_here", "_law_row", "_law_k"]
def fz__law_alarms : FzT := []
def m__law_alarms (a__law_rules_here a__law_row : D) : R Vw :=
(on1 gLen [(.dt a__law_row)]).bF fun w1 =>
rng1 w1.peek fun it1 =>
(lcL (fun x1 => wB (
(gBin .Add (.dt x1) (.dt (.int 1))).bF fun w2 =>
intK w2.peek fun i1 =>
(gSl (.dt a__law_row) none (some i1)).bF fun w3 =>
(toDs [(.dt a__law_rules_here), w3]).bF fun ds2 => (g__law_sides ds2).bF fun w4 =>
(gCmp .In (.dt (.bool true)) w4).bF fun w5 =>
(isB w5.peek).bF fun b1 =>
bc b1 (.ok (some x1)) (.ok none))) it1).bF fun ds1 => if ds1.length ≤ 16777216 then
.ok (.fl ds1)
else .stk
theorem m__law_alarms_ok (a__law_rules_here a__law_row : D) : cFn T__law_sides fz__law_alarms N__law_alarms sc__law_alarms body__law_alarms 30 [a__law_rules_here, a__law_row] = m__law_alarms a__law_rules_here a__law_row := by kernel_rfl
def g0__law_alarms (ds : List D) : R Vw := match ds with
  | [a__law_rules_here, a__law_row] => m__law_alarms a__law_rules_here a__law_row
  | _ => .stk
theorem gx__law_alarms : ∃ g : List D → R Vw, ∀ ds, g ds = g0__law_alarms ds := ⟨g0__law_alarms, fun _ => rfl⟩
def g__law_alarms : List D → R Vw := Classical.choose gx__law_alarms
theorem gm__law_alarms (a__law_rules_here a__law_row : D) : g__law_alarms [a__law_rules_here, a__law_row] = m__law_alarms a__law_rules_here a__law_row := Classical.choose_spec gx__law_alarms _
def T__law_alarms : Tab := ("_law_alarms", .fn ["_law_rules_here", "_law_row"] g__law_alarms) :: T__law_sides
def body__law_rows : List Stmt := defBody (top 44)
def sc__law_rows : Scope := defScope (top 44)
def N__law_rows : List Str := ["_law_length", "_law_found", "_law_turn", "_law_longer", "_law_row", "_law_value"]
def fz__law_rows : FzT := [(152, ["_law_found"]), (154, ["_law_longer"])]
def _law_rows_b1 (x : D) (ρ : Env) (k : Env → R Vw) : R Vw := cAsg N__law_rows sc__law_rows (forT (stAt body__law_rows 1)) x ρ fun ρ1 => (cN T__law_alarms fz__law_rows N__law_rows 29).ss sc__law_rows (forB (stAt body__law_rows 1)) ρ1 k
def _law_rows_b2 (x : D) (ρ : Env) (k : Env → R Vw) : R Vw := cAsg N__law_rows sc__law_rows (forT (stAt (forB (stAt body__law_rows 1)) 1)) x ρ fun ρ1 => (cN T__law_alarms fz__law_rows N__law_rows 28).ss sc__law_rows (forB (stAt (forB (stAt body__law_rows 1)) 1)) ρ1 k
def m__law_rows_b2 (x : D) (v__law_length : D) (v__law_found : Sl) (v__law_turn : D) (s__law_longer : Sl) (s__law_row : Sl) (k : Env → R Vw) : R Vw :=
(slotV s__law_longer).bF fun w1 =>
rng2 (.int (-3)) (.int 4) fun it1 =>
(lcL (fun x1 => wB (
(gBin .Add (.dt x) (.dt (.tuple [x1]))).bF fun w2 =>
(w2).toD.bF fun d1 => .ok (some d1))) it1).bF fun ds1 => if ds1.length ≤ 16777216 then
(gBin .Add w1 (.fl ds1)).bF fun w3 =>
(slOf w3).bF fun s1 =>
k [.dd v__law_length, v__law_found, .dd v__law_turn, s1, .dd x, .em]
else .stk
theorem m__law_rows_b2_ok (x : D) (v__law_length : D) (v__law_found : Sl) (v__law_turn : D) (s__law_longer : Sl) (s__law_row : Sl) (k : Env → R Vw) : _law_rows_b2 x [.dd v__law_length, v__law_found, .dd v__law_turn, s__law_longer, s__law_row, .em] k = m__law_rows_b2 x v__law_length v__law_found v__law_turn s__law_longer s__law_row k := by kernel_rfl
def _law_rows_r1 (kn : Env → R Vw) (ρ : Env) : R Vw := cSS T__law_alarms fz__law_rows N__law_rows (cN T__law_alarms fz__law_rows N__law_rows 28) sc__law_rows (List.drop 2 (forB (stAt body__law_rows 1))) ρ kn
def m__law_rows_r1 (kn : Env → R Vw) (v__law_length : D) (v__law_found : Sl) (v__law_turn : D) (s__law_longer : Sl) (s__law_row : Sl) : R Vw :=
(slotV (frzS s__law_longer)).bF fun w5 =>
(slOf w5).bF fun s2 =>
kn [.dd v__law_length, s2, .dd v__law_turn, (frzS s__law_longer), s__law_row, .em]
theorem m__law_rows_r1_ok (kn : Env → R Vw) (v__law_length : D) (v__law_found : Sl) (v__law_turn : D) (s__law_longer : Sl) (s__law_row : Sl) : _law_rows_r1 kn [.dd v__law_length, v__law_found, .dd v__law_turn, s__law_longer, s__law_row, .em] = m__law_rows_r1 kn v__law_length v__law_found v__law_turn s__law_longer s__law_row := by kernel_rfl
def m__law_rows_b1 (x : D) (v__law_length : D) (s__law_found : Sl) (s__law_turn : Sl) (s__law_longer : Sl) (s__law_row : Sl) (k : Env → R Vw) : R Vw :=
(slotV (frzS s__law_found)).bF fun w4 =>
(itV true w4).bF fun it2 =>
forC _law_rows_b2 it2 [.dd v__law_length, (frzS s__law_found), .dd x, .ol [], s__law_row, .em] (_law_rows_r1 k)
theorem m__law_rows_b1_ok (x : D) (v__law_length : D) (s__law_found : Sl) (s__law_turn : Sl) (s__law_longer : Sl) (s__law_row : Sl) (k : Env → R Vw) : _law_rows_b1 x [.dd v__law_length, s__law_found, s__law_turn, s__law_longer, s__law_row, .em] k = m__law_rows_b1 x v__law_length s__law_found s__law_turn s__law_longer s__law_row k := by kernel_rfl
def _law_rows_r2 (kn : Env → R Vw) (ρ : Env) : R Vw := cSS T__law_alarms fz__law_rows N__law_rows (cN T__law_alarms fz__law_rows N__law_rows 29) sc__law_rows (List.drop 2 body__law_rows) ρ kn
def m__law_rows_r2 (kn : Env → R Vw) (v__law_length : D) (s__law_found : Sl) (s__law_turn : Sl) (s__law_longer : Sl) (s__law_row : Sl) : R Vw :=
ownK s__law_found (fun ds => .ok (.fl ds)) (fun ks => .ok (.fd ks)) ((slotV s__law_found).bF fun w6 =>
retW w6)
theorem m__law_rows_r2_ok (kn : Env → R Vw) (v__law_length : D) (s__law_found : Sl) (s__law_turn : Sl) (s__law_longer : Sl) (s__law_row : Sl) : _law_rows_r2 kn [.dd v__law_length, s__law_found, s__law_turn, s__law_longer, s__law_row, .em] = m__law_rows_r2 kn v__law_length s__law_found s__law_turn s__law_longer s__law_row := by kernel_rfl
def m__law_rows (a__law_length : D) : R Vw :=
rng1 a__law_length fun it3 =>
forC _law_rows_b1 it3 [.dd a__law_length, .ol [(.tuple [])], .em, .em, .em, .em] (_law_rows_r2 (fun _ => .ok (.dt .none)))
theorem m__law_rows_ok (a__law_length : D) : cFn T__law_alarms fz__law_rows N__law_rows sc__law_rows body__law_rows 30 [a__law_length] = m__law_rows a__law_length := by kernel_rfl
def g0__law_rows (ds : List D) : R Vw := match ds with
  | [a__law_length] => m__law_rows a__law_length
  | _ => .stk
theorem gx__law_rows : ∃ g : List D → R Vw, ∀ ds, g ds = g0__law_rows ds := ⟨g0__law_rows, fun _ => rfl⟩
def g__law_rows : List D → R Vw := Classical.choose gx__law_rows
theorem gm__law_rows (a__law_length : D) : g__law_rows [a__law_length] = m__law_rows a__law_length := Classical.choose_spec gx__law_rows _
def T__law_rows : Tab := ("_law_rows", .fn ["_law_length"] g__law_rows) :: T__law_alarms
def body__law_badrules : List Stmt := defBody (top 45)
def sc__law_badrules : Scope := defScope (top 45)
def N__law_badrules : List Str := ["_law_script", "_law_at", "_law_bad"]
def fz__law_badrules : FzT := []
def m__law_badrules (a__law_script a__law_at : D) : R Vw :=
(gBin .Add (.bl [.none, (.tuple []), (.tuple [(.int 1), (.int 1), (.int 3)]), (.list [(.tuple [(.int 1), (.int 1), (.int 3)])]), (.tuple [(.tuple [(.int 2), (.int 1), (.int 3)])]), (.tuple [(.tuple [(.int 1), (.int 5), (.int 3)])]), (.tuple [(.tuple [(.int 1), (.int 1), (.int 4)])])]) (.fl [(.tuple [(.tuple [(.int 0), (.int 1), (.int 3)])]), (.tuple [(.tuple [(.int 2), (.int 3), (.int 2)]), (.tuple [(.int 1), (.int 1), (.int 3)])])])).bF fun w1 =>
(slOf w1).bF fun s1 =>
(slotV s1).bF fun w2 =>
(gBin .Add w2 (.fl [(.tuple [(.tuple [(.int 1), (.int 1), (.int 3)]), (.tuple [(.int 1), (.int 1), (.int 3)])]), (.tuple [(.tuple [(.int 1), (.int 1), (.bool true)])])])).bF fun w3 =>
(slOf w3).bF fun s2 =>
(slotV s2).bF fun w4 =>
(gBin .Add w4 (.fl [(.tuple [(.tuple [(.int 1), (.int 1), (.int 1)]), (.tuple [(.int 1), (.int 1), (.int 2)]), (.tuple [(.int 1), (.int 1), (.int 3)]), (.tuple [(.int 1), (.int 2), (.int 1)]), (.tuple [(.int 1), (.int 2), (.int 2)])]), (.tuple [(.tuple [(.int 1), (.int 1)])])])).bF fun w5 =>
(slOf w5).bF fun s3 =>
(slotV s3).bF fun w6 =>
(g__law_drawn [a__law_script, a__law_at, (.int 13)]).bF fun w7 =>
(gIxV w6 w7).bF fun w8 =>
retW w8
theorem m__law_badrules_ok (a__law_script a__law_at : D) : cFn T__law_rows fz__law_badrules N__law_badrules sc__law_badrules body__law_badrules 30 [a__law_script, a__law_at] = m__law_badrules a__law_script a__law_at := by kernel_rfl
def g0__law_badrules (ds : List D) : R Vw := match ds with
  | [a__law_script, a__law_at] => m__law_badrules a__law_script a__law_at
  | _ => .stk
theorem gx__law_badrules : ∃ g : List D → R Vw, ∀ ds, g ds = g0__law_badrules ds := ⟨g0__law_badrules, fun _ => rfl⟩
def g__law_badrules : List D → R Vw := Classical.choose gx__law_badrules
theorem gm__law_badrules (a__law_script a__law_at : D) : g__law_badrules [a__law_script, a__law_at] = m__law_badrules a__law_script a__law_at := Classical.choose_spec gx__law_badrules _
def T__law_badrules : Tab := ("_law_badrules", .fn ["_law_script", "_law_at"] g__law_badrules) :: T__law_rows
def body__law_error : List Stmt := defBody (top 46)
def sc__law_error : Scope := defScope (top 46)
def N__law_error : List Str := ["_law_way", "_law_one", "_law_two", "e", "_law_flags"]
def fz__law_error : FzT := []
def _law_error_r1 (kn : Env → R Vw) (ρ : Env) : R Vw := cSS T__law_badrules fz__law_error N__law_error (cN T__law_badrules fz__law_error N__law_error 29) sc__law_error (List.drop 1 body__law_error) ρ kn
def m__law_error_r1 (kn : Env → R Vw) : R Vw :=
.ok (.dt .none)
theorem m__law_error_r1_ok (kn : Env → R Vw) : _law_error_r1 kn [.em, .em, .em, .em, .em] = m__law_error_r1 kn := by kernel_rfl
def _law_error_h1 (kn : Env → R Vw) (c : Str) : R Vw := fin' (hdR T__law_badrules N__law_error sc__law_error "BandError" "e" 3 (tryS (stAt body__law_error 0)) [.em, .em, .em, .em, .em] c) kn
def m__law_error (a__law_way a__law_one a__law_two : D) : R Vw :=
tryC (
(pkF [(["one", "other"], g_naive_implies), (["rules", "length"], g_naive_quiet)] (.dt a__law_way)).bF fun p1 =>
(apF p1 [a__law_one, a__law_two]).bF fun w1 =>
.exc "isinstance") ((_law_error_r1 (fun _ => .ok (.dt .none))) [.em, .em, .em, .em, .em]) (_law_error_h1 (_law_error_r1 (fun _ => .ok (.dt .none))))
theorem m__law_error_ok (a__law_way a__law_one a__law_two : D) : cFn T__law_badrules fz__law_error N__law_error sc__law_error body__law_error 30 [a__law_way, a__law_one, a__law_two] = m__law_error a__law_way a__law_one a__law_two := by kernel_rfl
def g0__law_error (ds : List D) : R Vw := match ds with
  | [a__law_way, a__law_one, a__law_two] => m__law_error a__law_way a__law_one a__law_two
  | _ => .stk
theorem gx__law_error : ∃ g : List D → R Vw, ∀ ds, g ds = g0__law_error ds := ⟨g0__law_error, fun _ => rfl⟩
def g__law_error : List D → R Vw := Classical.choose gx__law_error
theorem gm__law_error (a__law_way a__law_one a__law_two : D) : g__law_error [a__law_way, a__law_one, a__law_two] = m__law_error a__law_way a__law_one a__law_two := Classical.choose_spec gx__law_error _
def T__law_error : Tab := ("_law_error", .fn ["_law_way", "_law_one", "_law_two"] g__law_error) :: T__law_badrules
def body_law : List Stmt := defBody (top 47)
def sc_law : Scope := defScope (top 47)
def N_law : List Str := ["_law_script", "_law_one", "_law_other", "_law_lost", "_law_due", "_law_rules_here", "_law_length", "_law_many", "_law_odd", "_law_bad", "_law_wrong", "_law_wide", "_law_told", "_law_row"]
def fz_law : FzT := []
def m_law (a__law_script : D) : R Vw :=
(g__law_rules [a__law_script, (.int 10), (.int 1), (.int 3)]).bF fun w1 =>
(gIxV w1 (.dt (.int 0))).bF fun w2 =>
(g__law_rules [a__law_script, (.int 20), (.int 1), (.int 3)]).bF fun w3 =>
(gIxV w3 (.dt (.int 0))).bF fun w4 =>
(slOf w2).bF fun s1 =>
(slOf w4).bF fun s2 =>
(slotV s1).bF fun w5 =>
(gIxV w5 (.dt (.int 1))).bF fun w6 =>
(slotV s2).bF fun w7 =>
(gIxV w7 (.dt (.int 1))).bF fun w8 =>
(gBin .Sub w6 w8).bF fun w9 =>
(gMM true [(.dt (.int 0)), w9]).bF fun w10 =>
(slOf w10).bF fun s3 =>
(((slotV s2).bF fun w11 =>
(gIxV w11 (.dt (.int 2))).bF fun w12 =>
(slotV s1).bF fun w13 =>
(gIxV w13 (.dt (.int 2))).bF fun w14 =>
(gCmp .LtE w12 w14).bF fun w15 =>
(isB w15.peek).bF fun b1 => bc b1 ((slotV s2).bF fun w16 =>
(gIxV w16 (.dt (.int 0))).bF fun w17 =>
(slotV s1).bF fun w18 =>
(gIxV w18 (.dt (.int 0))).bF fun w19 =>
(slotV s3).bF fun w20 =>
(gBin .Sub w19 w20).bF fun w21 =>
(gCmp .LtE w17 w21).bF fun w22 =>
.ok w22) (.ok (.dt (.bool false)))) : R Vw).bF fun w23 =>
(slOf w23).bF fun s4 =>
(((slotV s1).bF fun w24 =>
(slotV s2).bF fun w25 =>
(toDs [w24, w25]).bF fun ds1 => (g_naive_implies ds1).bF fun w26 =>
(slotV s4).bF fun w27 =>
(gCmp .NotEq w26 w27).bF fun w28 =>
(isB w28.peek).bF fun b2 =>
bc b2 (.ok true) ((slotV s1).bF fun w29 =>
(slotV s2).bF fun w30 =>
(toDs [w29, w30]).bF fun ds2 => (g_implies ds2).bF fun w31 =>
(slotV s4).bF fun w32 =>
(gCmp .NotEq w31 w32).bF fun w33 =>
(isB w33.peek).bF fun b3 =>
.ok b3)) : R Bool).bF fun b4 =>
bc b4 (
.ok (.dt (.bool false))) (
(slotV s1).bF fun w34 =>
(slotV s1).bF fun w35 =>
(toDs [w34, w35]).bF fun ds3 => (g_naive_implies ds3).bF fun w36 =>
(gCmp .IsNot w36 (.dt (.bool true))).bF fun w37 =>
(isB w37.peek).bF fun b5 =>
bc b5 (
.ok (.dt (.bool false))) (
(g__law_rules [a__law_script, (.int 30), (.int 3), (.int 4)]).bF fun w38 =>
(g__law_drawn [a__law_script, (.int 1), (.int 4)]).bF fun w39 =>
(slOf w38).bF fun s5 =>
(slOf w39).bF fun s6 =>
(slotV s6).bF fun w40 =>
(toDs [w40]).bF fun ds4 => (g__law_rows ds4).bF fun w41 =>
(itV false w41).bF fun it1 =>
(lcL (fun x1 => wB (
(slotV s5).bF fun w42 =>
(toDs [w42, (.dt x1)]).bF fun ds6 => (g__law_alarms ds6).bF fun w43 =>
(gCmp .Eq w43 (.fl [])).bF fun w44 =>
(isB w44.peek).bF fun b6 =>
bc b6 (.ok (some x1)) (.ok none))) it1).bF fun ds5 => if ds5.length ≤ 16777216 then
(on1 gLen [(.fl ds5)]).bF fun w45 =>
(slOf w45).bF fun s7 =>
(((slotV s5).bF fun w46 =>
(slotV s6).bF fun w47 =>
(toDs [w46, w47]).bF fun ds7 => (g_naive_quiet ds7).bF fun w48 =>
(slotV s7).bF fun w49 =>
(gCmp .NotEq w48 w49).bF fun w50 =>
(isB w50.peek).bF fun b7 =>
bc b7 (.ok true) ((slotV s5).bF fun w51 =>
(slotV s6).bF fun w52 =>
(toDs [w51, w52]).bF fun ds8 => (g_count_quiet ds8).bF fun w53 =>
(slotV s7).bF fun w54 =>
(gCmp .NotEq w53 w54).bF fun w55 =>
(isB w55.peek).bF fun b8 =>
.ok b8)) : R Bool).bF fun b9 =>
bc b9 (
.ok (.dt (.bool false))) (
(g__law_drawn [a__law_script, (.int 2), (.int 7)]).bF fun w56 =>
(gIxV (.fl [.none, (.tuple [(.int 1), (.int 1)]), (.tuple [(.int 2), (.int 1), (.int 3)]), (.tuple [(.int 1), (.int 5), (.int 1)]), (.tuple [(.int 1), (.int 1), (.int 4)]), (.list [(.int 1), (.int 1), (.int 1)]), (.tuple [(.bool true), (.int 1), (.int 1)])]) w56).bF fun w57 =>
(slOf w57).bF fun s8 =>
(g__law_badrules [a__law_script, (.int 3)]).bF fun w58 =>
(slOf w58).bF fun s9 =>
(g__law_drawn [a__law_script, (.int 4), (.int 5)]).bF fun w59 =>
(gIxV (.fl [.none, (.int (-1)), (.int 31), (.bool true), (.str "5")]) w59).bF fun w60 =>
(slOf w60).bF fun s10 =>
(slotV s8).bF fun w61 =>
(slotV s8).bF fun w62 =>
(toDs [(.dt (.int 0)), w61, w62]).bF fun ds9 => (g__law_error ds9).bF fun w63 =>
(slotV s1).bF fun w64 =>
(slotV s8).bF fun w65 =>
(toDs [(.dt (.int 0)), w64, w65]).bF fun ds10 => (g__law_error ds10).bF fun w66 =>
(slotV s1).bF fun w67 =>
(toDs [(.dt (.int 0)), w67, (.dt (.tuple [(.int 2), (.int 4), (.int 1)]))]).bF fun ds11 => (g__law_error ds11).bF fun w68 =>
(toDs [w63, w66, w68]).bF fun ds12 =>
(slotV s1).bF fun w69 =>
(toDs [(.dt (.int 0)), (.dt (.tuple [(.int 2), (.int 4), (.int 1)])), w69]).bF fun ds13 => (g__law_error ds13).bF fun w70 =>
(toDs [w70]).bF fun ds14 =>
(gBin .Add (.bl ds12) (.fl ds14)).bF fun w71 =>
(slOf w71).bF fun s11 =>
(slotV s11).bF fun w72 =>
(slotV s9).bF fun w73 =>
(slotV s10).bF fun w74 =>
(toDs [(.dt (.int 1)), w73, w74]).bF fun ds15 => (g__law_error ds15).bF fun w75 =>
(slotV s5).bF fun w76 =>
(slotV s10).bF fun w77 =>
(toDs [(.dt (.int 1)), w76, w77]).bF fun ds16 => (g__law_error ds16).bF fun w78 =>
(slotV s5).bF fun w79 =>
(toDs [(.dt (.int 1)), w79, (.dt (.int 5))]).bF fun ds17 => (g__law_error ds17).bF fun w80 =>
(toDs [w75, w78, w80]).bF fun ds18 =>
(gBin .Add w72 (.fl ds18)).bF fun w81 =>
(slOf w81).bF fun s12 =>
(slotV s12).bF fun w82 =>
(gCmp .Eq w82 (.fl [(.int 0), (.int 0), (.int 3), (.int 3), (.int 1), (.int 2), (.int 3)])).bF fun w83 =>
retW w83)
else .stk))
theorem m_law_ok (a__law_script : D) : cFn T__law_error fz_law N_law sc_law body_law 30 [a__law_script] = m_law a__law_script := by kernel_rfl
def g0_law (ds : List D) : R Vw := match ds with
  | [a__law_script] => m_law a__law_script
  | _ => .stk
theorem gx_law : ∃ g : List D → R Vw, ∀ ds, g ds = g0_law ds := ⟨g0_law, fun _ => rfl⟩
def g_law : List D → R Vw := Classical.choose gx_law
theorem gm_law (a__law_script : D) : g_law [a__law_script] = m_law a__law_script := Classical.choose_spec gx_law _
def T_law : Tab := ("law", .fn ["_law_script"] g_law) :: T__law_error
end
end BR.k70
namespace BR.k70
open PySem PySem.Spec L2

/-! ### the drawn numbers -/
/-- a script -/
structure Scr (ns : List Int) : Prop where
  len : ns.length ≤ 63
  bits : ∀ z ∈ ns, Builtin.Int.intBits z ≤ 1048576
abbrev scD (ns : List Int) : D := .list (ns.map .int)
theorem modU {b : Int} (h : 0 < b) (a : Int) : gBin .Mod (.dt (.int a)) (.dt (.int b)) = .ok (.dt (.int (a % b))) := gB_mod h
theorem divU {b : Int} (h : 0 < b) (h2 : b.natAbs < 2 ^ 64) (a : Int) : gBin .FloorDiv (.dt (.int a)) (.dt (.int b)) = .ok (.dt (.int (a / b))) := gB_div h h2
def InR (many : Int) (x : R Vw) : Prop := ∃ r : Int, 0 ≤ r ∧ r < many ∧ x = .ok (.dt (.int r))
theorem drawn_r1 {kn : Env → R Vw} {s : D} {k many c : Int} {a b : Sl} (hk : 0 ≤ k) (hk2 : k < 1000000) (hm : 0 < many) :
    InR many (_law_drawn_r1 kn [.dd s, .dd (.int k), .dd (.int many), .dd (.int c), a, b]) := by
  rw [m__law_drawn_r1_ok]
  unfold m__law_drawn_r1
  generalize hd : c % 2147483563 = d
  have d0 : 0 ≤ d := by rw [← hd]; exact Int.emod_nonneg _ (by decide)
  have d1 : d < 2147483563 := by rw [← hd]; exact Int.emod_lt_of_pos _ (by decide)
  have p32 : (2 : Nat) ^ 32 = 4294967296 := by decide
  have p20 : (2 : Nat) ^ 20 = 1048576 := by decide
  have e1 : CMulX d 69069 := mulX_of (show d.natAbs < 2 ^ 32 by omega) (show (69069 : Int).natAbs < 2 ^ 17 by decide) (by decide) (by decide) (by decide)
  have e2 : CMulX 104723 (k + 1) := mulX_of (show (104723 : Int).natAbs < 2 ^ 17 by decide) (show (k + 1).natAbs < 2 ^ 20 by omega) (by decide) (by decide) (by decide)
  simp only [bF_ok, bF_exc, rb_ok, rb_exc, slO_dt, slO_fl, slO_fd, slV_dd, slV_ol, slV_od, frz_dd, frz_ol, frz_od, toDs_c, toDs_n, tD_dt, tD_fl, pk_dt, pk_fl, pk_bl, pk_kc, pk_fd, pk_bd, isB_b, gTru_b, gTru_n, bc_t, bc_f, intK_i, datV_d, unp2_t, unp3_t, ownK_ol, ownK_od, ownK_dd, retW_dt, retW_fl, gB_add, gB_sub, gC_lt, gC_le, gC_gt, gC_ge, itV_t, itV_l, itV_f, itV_b, itV_ro, itV_rs, gLen_ro, gLen_rs, gLen_dt, gLen_dl, gLen_fl, gLen_bl, gSl_t, gTup_fl, gTup_bl, gTup_dl, Bool.not_true, Bool.not_false, wB_ok', gInt_i, gm_is_int, gm_is_rule, gm_are_rules, gm_check_rule, gm_check_rules, gm_find_sides, gm_does_ring, gm_any_rings, gm_find_alarms, gm_find_still, gm_implies_rule, gm_implies, gm_history, gm_check_length, gm_go_on, gm_count_after, gm_count_quiet, gm_all_rows, gm_naive_implies, gm_naive_quiet, gm__law_drawn, gm__law_rules, gm__law_sides, gm__law_alarms, gm__law_rows, gm__law_badrules, gm__law_error, gm_law, modU (show (0 : Int) < 2147483563 by decide), hd, gB_mul e1, gB_mul e2]
  generalize hf : (d * 69069 + 104723 * (k + 1)) % 2147483563 = f
  have f0 : 0 ≤ f := by rw [← hf]; exact Int.emod_nonneg _ (by decide)
  have f1 : f < 2147483563 := by rw [← hf]; exact Int.emod_lt_of_pos _ (by decide)
  have e3 : CMulX f f := mulX_of (show f.natAbs < 2 ^ 32 by omega) (show f.natAbs < 2 ^ 32 by omega) (by decide) (by decide) (by decide)
  simp only [bF_ok, bF_exc, rb_ok, rb_exc, slO_dt, slO_fl, slO_fd, slV_dd, slV_ol, slV_od, frz_dd, frz_ol, frz_od, toDs_c, toDs_n, tD_dt, tD_fl, pk_dt, pk_fl, pk_bl, pk_kc, pk_fd, pk_bd, isB_b, gTru_b, gTru_n, bc_t, bc_f, intK_i, datV_d, unp2_t, unp3_t, ownK_ol, ownK_od, ownK_dd, retW_dt, retW_fl, gB_add, gB_sub, gC_lt, gC_le, gC_gt, gC_ge, itV_t, itV_l, itV_f, itV_b, itV_ro, itV_rs, gLen_ro, gLen_rs, gLen_dt, gLen_dl, gLen_fl, gLen_bl, gSl_t, gTup_fl, gTup_bl, gTup_dl, Bool.not_true, Bool.not_false, wB_ok', gInt_i, gm_is_int, gm_is_rule, gm_are_rules, gm_check_rule, gm_check_rules, gm_find_sides, gm_does_ring, gm_any_rings, gm_find_alarms, gm_find_still, gm_implies_rule, gm_implies, gm_history, gm_check_length, gm_go_on, gm_count_after, gm_count_quiet, gm_all_rows, gm_naive_implies, gm_naive_quiet, gm__law_drawn, gm__law_rules, gm__law_sides, gm__law_alarms, gm__law_rows, gm__law_badrules, gm__law_error, gm_law, gB_mul e3, divU (show (0 : Int) < 3 by decide) (by decide), modU (show (0 : Int) < 2147483399 by decide)]
  generalize hg : (f * f + f / 3) % 2147483399 = g
  have g0 : 0 ≤ g := by rw [← hg]; exact Int.emod_nonneg _ (by decide)
  have g1 : g < 2147483399 := by rw [← hg]; exact Int.emod_lt_of_pos _ (by decide)
  have e4 : CMulX g g := mulX_of (show g.natAbs < 2 ^ 32 by omega) (show g.natAbs < 2 ^ 32 by omega) (by decide) (by decide) (by decide)
  simp only [bF_ok, bF_exc, rb_ok, rb_exc, slO_dt, slO_fl, slO_fd, slV_dd, slV_ol, slV_od, frz_dd, frz_ol, frz_od, toDs_c, toDs_n, tD_dt, tD_fl, pk_dt, pk_fl, pk_bl, pk_kc, pk_fd, pk_bd, isB_b, gTru_b, gTru_n, bc_t, bc_f, intK_i, datV_d, unp2_t, unp3_t, ownK_ol, ownK_od, ownK_dd, retW_dt, retW_fl, gB_add, gB_sub, gC_lt, gC_le, gC_gt, gC_ge, itV_t, itV_l, itV_f, itV_b, itV_ro, itV_rs, gLen_ro, gLen_rs, gLen_dt, gLen_dl, gLen_fl, gLen_bl, gSl_t, gTup_fl, gTup_bl, gTup_dl, Bool.not_true, Bool.not_false, wB_ok', gInt_i, gm_is_int, gm_is_rule, gm_are_rules, gm_check_rule, gm_check_rules, gm_find_sides, gm_does_ring, gm_any_rings, gm_find_alarms, gm_find_still, gm_implies_rule, gm_implies, gm_history, gm_check_length, gm_go_on, gm_count_after, gm_count_quiet, gm_all_rows, gm_naive_implies, gm_naive_quiet, gm__law_drawn, gm__law_rules, gm__law_sides, gm__law_alarms, gm__law_rows, gm__law_badrules, gm__law_error, gm_law, gB_mul e4, divU (show (0 : Int) < 7 by decide) (by decide), modU (show (0 : Int) < 2147483647 by decide), divU (show (0 : Int) < 11 by decide) (by decide), modU hm]
  exact ⟨_, Int.emod_nonneg _ (by omega), Int.emod_lt_of_pos _ hm, rfl⟩
theorem drawn_r3 {kn : Env → R Vw} {ns : List Int} {k many c : Int} {a b : Sl} (hl : (0 : Int) < (ns.length : Int)) (hl2 : ns.length ≤ 63) (hk : 0 ≤ k) (hk2 : k < 1000000) (hm : 0 < many) :
    InR many (_law_drawn_r3 (_law_drawn_r1 kn) [.dd (scD ns), .dd (.int k), .dd (.int many), .dd (.int c), a, b]) := by
  rw [m__law_drawn_r3_ok]
  unfold m__law_drawn_r3
  have p64 : (2 : Nat) ^ 64 = 18446744073709551616 := by decide
  have p20 : (2 : Nat) ^ 20 = 1048576 := by decide
  have a0 : 0 ≤ k / (ns.length : Int) := Int.ediv_nonneg hk (by omega)
  have a1 : k / (ns.length : Int) ≤ k := Int.ediv_le_self _ hk
  have e1 : CMulX 6553 (k / (ns.length : Int)) := mulX_of (show (6553 : Int).natAbs < 2 ^ 13 by decide) (show (k / (ns.length : Int)).natAbs < 2 ^ 20 by omega) (by decide) (by decide) (by decide)
  simp only [bF_ok, bF_exc, rb_ok, rb_exc, slO_dt, slO_fl, slO_fd, slV_dd, slV_ol, slV_od, frz_dd, frz_ol, frz_od, toDs_c, toDs_n, tD_dt, tD_fl, pk_dt, pk_fl, pk_bl, pk_kc, pk_fd, pk_bd, isB_b, gTru_b, gTru_n, bc_t, bc_f, intK_i, datV_d, unp2_t, unp3_t, ownK_ol, ownK_od, ownK_dd, retW_dt, retW_fl, gB_add, gB_sub, gC_lt, gC_le, gC_gt, gC_ge, itV_t, itV_l, itV_f, itV_b, itV_ro, itV_rs, gLen_ro, gLen_rs, gLen_dt, gLen_dl, gLen_fl, gLen_bl, gSl_t, gTup_fl, gTup_bl, gTup_dl, Bool.not_true, Bool.not_false, wB_ok', gInt_i, gm_is_int, gm_is_rule, gm_are_rules, gm_check_rule, gm_check_rules, gm_find_sides, gm_does_ring, gm_any_rings, gm_find_alarms, gm_find_still, gm_implies_rule, gm_implies, gm_history, gm_check_length, gm_go_on, gm_count_after, gm_count_quiet, gm_all_rows, gm_naive_implies, gm_naive_quiet, gm__law_drawn, gm__law_rules, gm__law_sides, gm__law_alarms, gm__law_rows, gm__law_badrules, gm__law_error, gm_law, List.length_map, divU hl (by omega), gB_mul e1]
  exact drawn_r1 hk hk2 hm
theorem gIx_sc {ns : List Int} {k : Int} (hn : ns ≠ []) : ∃ c : Int, gIxV (.dt (scD ns)) (.dt (.int (k % (ns.length : Int)))) = .ok (.dt (.int c)) := by
  have hl : 0 < ns.length := List.length_pos_iff.mpr hn
  have h0 := Int.emod_nonneg k (show (ns.length : Int) ≠ 0 by omega)
  have h1 := Int.emod_lt_of_pos k (show (0 : Int) < ns.length by omega)
  obtain ⟨i, hi⟩ := Int.eq_ofNat_of_zero_le h0
  have hi2 : i < ns.length := by omega
  refine ⟨ns[i], ?_⟩
  rw [hi]
  exact gIx_dl (by rw [atI_nat, List.getElem?_map, List.getElem?_eq_getElem hi2]; rfl)
theorem drawn_ok {ns : List Int} (S : Scr ns) {k many : Int} (hk : 0 ≤ k) (hk2 : k < 90000) (hm : 0 < many) : ∃ r : Int, 0 ≤ r ∧ r < many ∧ m__law_drawn (scD ns) (.int k) (.int many) = .ok (.dt (.int r)) := by
  have p18 : gBin .Pow (.dt (.int 10)) (.dt (.int 18)) = .ok (.dt (.int 1000000000000000000)) := by kernel_rfl
  have p64 : (2 : Nat) ^ 64 = 18446744073709551616 := by decide
  have ne0 : gCmp .NotEq (.dt (scD ns)) (.fl []) = .ok (.dt (.bool (!ns.isEmpty))) := by
    rw [gNeq (.list (ns.map .int)) (.list []) rfl rfl (fin_ints 8 ns) rfl, ev_ll, eva_nil]
    cases ns <;> rfl
  have c7 : CMulX 7 k := mulX_of (show (7 : Int).natAbs < 2 ^ 3 by decide) (show k.natAbs < 2 ^ 20 by
    have p20 : (2 : Nat) ^ 20 = 1048576 := by decide
    omega) (by decide) (by decide) (by decide)
  unfold m__law_drawn
  cases hn : ns with
  | nil =>
    subst hn
    simp only [bF_ok, bF_exc, rb_ok, rb_exc, slO_dt, slO_fl, slO_fd, slV_dd, slV_ol, slV_od, frz_dd, frz_ol, frz_od, toDs_c, toDs_n, tD_dt, tD_fl, pk_dt, pk_fl, pk_bl, pk_kc, pk_fd, pk_bd, isB_b, gTru_b, gTru_n, bc_t, bc_f, intK_i, datV_d, unp2_t, unp3_t, ownK_ol, ownK_od, ownK_dd, retW_dt, retW_fl, gB_add, gB_sub, gC_lt, gC_le, gC_gt, gC_ge, itV_t, itV_l, itV_f, itV_b, itV_ro, itV_rs, gLen_ro, gLen_rs, gLen_dt, gLen_dl, gLen_fl, gLen_bl, gSl_t, gTup_fl, gTup_bl, gTup_dl, Bool.not_true, Bool.not_false, wB_ok', gInt_i, gm_is_int, gm_is_rule, gm_are_rules, gm_check_rule, gm_check_rules, gm_find_sides, gm_does_ring, gm_any_rings, gm_find_alarms, gm_find_still, gm_implies_rule, gm_implies, gm_history, gm_check_length, gm_go_on, gm_count_after, gm_count_quiet, gm_all_rows, gm_naive_implies, gm_naive_quiet, gm__law_drawn, gm__law_rules, gm__law_sides, gm__law_alarms, gm__law_rows, gm__law_badrules, gm__law_error, gm_law, gB_mul c7, ne0, List.isEmpty_nil]
    exact drawn_r1 hk (by omega) hm
  | cons a l =>
    rw [← hn]
    have hne : ns ≠ [] := by rw [hn]; exact fun z => by cases z
    have hl : (0 : Int) < (ns.length : Int) := by rw [hn, List.length_cons]; omega
    have hl2 := S.len
    have ie : ns.isEmpty = false := by rw [hn]; rfl
    obtain ⟨c, ec⟩ := gIx_sc (k := k) hne
    simp only [bF_ok, bF_exc, rb_ok, rb_exc, slO_dt, slO_fl, slO_fd, slV_dd, slV_ol, slV_od, frz_dd, frz_ol, frz_od, toDs_c, toDs_n, tD_dt, tD_fl, pk_dt, pk_fl, pk_bl, pk_kc, pk_fd, pk_bd, isB_b, gTru_b, gTru_n, bc_t, bc_f, intK_i, datV_d, unp2_t, unp3_t, ownK_ol, ownK_od, ownK_dd, retW_dt, retW_fl, gB_add, gB_sub, gC_lt, gC_le, gC_gt, gC_ge, itV_t, itV_l, itV_f, itV_b, itV_ro, itV_rs, gLen_ro, gLen_rs, gLen_dt, gLen_dl, gLen_fl, gLen_bl, gSl_t, gTup_fl, gTup_bl, gTup_dl, Bool.not_true, Bool.not_false, wB_ok', gInt_i, gm_is_int, gm_is_rule, gm_are_rules, gm_check_rule, gm_check_rules, gm_find_sides, gm_does_ring, gm_any_rings, gm_find_alarms, gm_find_still, gm_implies_rule, gm_implies, gm_history, gm_check_length, gm_go_on, gm_count_after, gm_count_quiet, gm_all_rows, gm_naive_implies, gm_naive_quiet, gm__law_drawn, gm__law_rules, gm__law_sides, gm__law_alarms, gm__law_rows, gm__law_badrules, gm__law_error, gm_law, gB_mul c7, ne0, ie, List.length_map, modU hl, ec, divU hl (by omega)]
    rw [m__law_drawn_r2_ok]
    unfold m__law_drawn_r2
    have t0 : 0 ≤ k / (ns.length : Int) := Int.ediv_nonneg hk (by omega)
    have t1 : k / (ns.length : Int) ≤ k := Int.ediv_le_self _ hk
    generalize k / (ns.length : Int) = tn at t0 t1
    by_cases h1 : (1000000000000000000 : Int) ≤ c
    · by_cases h2 : tn < 60
      · simp only [bF_ok, bF_exc, rb_ok, rb_exc, slO_dt, slO_fl, slO_fd, slV_dd, slV_ol, slV_od, frz_dd, frz_ol, frz_od, toDs_c, toDs_n, tD_dt, tD_fl, pk_dt, pk_fl, pk_bl, pk_kc, pk_fd, pk_bd, isB_b, gTru_b, gTru_n, bc_t, bc_f, intK_i, datV_d, unp2_t, unp3_t, ownK_ol, ownK_od, ownK_dd, retW_dt, retW_fl, gB_add, gB_sub, gC_lt, gC_le, gC_gt, gC_ge, itV_t, itV_l, itV_f, itV_b, itV_ro, itV_rs, gLen_ro, gLen_rs, gLen_dt, gLen_dl, gLen_fl, gLen_bl, gSl_t, gTup_fl, gTup_bl, gTup_dl, Bool.not_true, Bool.not_false, wB_ok', gInt_i, gm_is_int, gm_is_rule, gm_are_rules, gm_check_rule, gm_check_rules, gm_find_sides, gm_does_ring, gm_any_rings, gm_find_alarms, gm_find_still, gm_implies_rule, gm_implies, gm_history, gm_check_length, gm_go_on, gm_count_after, gm_count_quiet, gm_all_rows, gm_naive_implies, gm_naive_quiet, gm__law_drawn, gm__law_rules, gm__law_sides, gm__law_alarms, gm__law_rows, gm__law_badrules, gm__law_error, gm_law, p18, decide_eq_true h1, decide_eq_true h2, divU (show (0 : Int) < 1000000000000000000 by decide) (by decide)]
        obtain ⟨m', ρ', ⟨rest', tn', e', _⟩, ew⟩ := whileC_inv (t := _law_drawn_w1t) (f := _law_drawn_w1b) (kn := _law_drawn_r4 (_law_drawn_r3 (_law_drawn_r1 (fun _ => .ok (.dt .none)))))
          (fun m ρ => ∃ rest tn : Int, ρ = [.dd (scD ns), .dd (.int k), .dd (.int many), .dd (.int c), .dd (.int tn), .dd (.int rest)] ∧ tn.toNat = m) (by
            rintro m ρ ⟨rest, tn, rfl, hag⟩
            by_cases h1 : 0 < rest
            · by_cases h2 : 0 < tn
              · refine .inr ⟨fun k => ?_, tn.toNat - 1, _, by omega, ⟨rest / 1000000, tn - 1, rfl, by omega⟩, fun k => ?_⟩
                · rw [m__law_drawn_w1t_ok]
                  unfold m__law_drawn_w1t
                  simp only [bF_ok, bF_exc, rb_ok, rb_exc, slO_dt, slO_fl, slO_fd, slV_dd, slV_ol, slV_od, frz_dd, frz_ol, frz_od, toDs_c, toDs_n, tD_dt, tD_fl, pk_dt, pk_fl, pk_bl, pk_kc, pk_fd, pk_bd, isB_b, gTru_b, gTru_n, bc_t, bc_f, intK_i, datV_d, unp2_t, unp3_t, ownK_ol, ownK_od, ownK_dd, retW_dt, retW_fl, gB_add, gB_sub, gC_lt, gC_le, gC_gt, gC_ge, itV_t, itV_l, itV_f, itV_b, itV_ro, itV_rs, gLen_ro, gLen_rs, gLen_dt, gLen_dl, gLen_fl, gLen_bl, gSl_t, gTup_fl, gTup_bl, gTup_dl, Bool.not_true, Bool.not_false, wB_ok', gInt_i, gm_is_int, gm_is_rule, gm_are_rules, gm_check_rule, gm_check_rules, gm_find_sides, gm_does_ring, gm_any_rings, gm_find_alarms, gm_find_still, gm_implies_rule, gm_implies, gm_history, gm_check_length, gm_go_on, gm_count_after, gm_count_quiet, gm_all_rows, gm_naive_implies, gm_naive_quiet, gm__law_drawn, gm__law_rules, gm__law_sides, gm__law_alarms, gm__law_rows, gm__law_badrules, gm__law_error, gm_law, decide_eq_true h1, decide_eq_true h2]
                · rw [m__law_drawn_w1b_ok]
                  unfold m__law_drawn_w1b
                  simp only [bF_ok, bF_exc, rb_ok, rb_exc, slO_dt, slO_fl, slO_fd, slV_dd, slV_ol, slV_od, frz_dd, frz_ol, frz_od, toDs_c, toDs_n, tD_dt, tD_fl, pk_dt, pk_fl, pk_bl, pk_kc, pk_fd, pk_bd, isB_b, gTru_b, gTru_n, bc_t, bc_f, intK_i, datV_d, unp2_t, unp3_t, ownK_ol, ownK_od, ownK_dd, retW_dt, retW_fl, gB_add, gB_sub, gC_lt, gC_le, gC_gt, gC_ge, itV_t, itV_l, itV_f, itV_b, itV_ro, itV_rs, gLen_ro, gLen_rs, gLen_dt, gLen_dl, gLen_fl, gLen_bl, gSl_t, gTup_fl, gTup_bl, gTup_dl, Bool.not_true, Bool.not_false, wB_ok', gInt_i, gm_is_int, gm_is_rule, gm_are_rules, gm_check_rule, gm_check_rules, gm_find_sides, gm_does_ring, gm_any_rings, gm_find_alarms, gm_find_still, gm_implies_rule, gm_implies, gm_history, gm_check_length, gm_go_on, gm_count_after, gm_count_quiet, gm_all_rows, gm_naive_implies, gm_naive_quiet, gm__law_drawn, gm__law_rules, gm__law_sides, gm__law_alarms, gm__law_rows, gm__law_badrules, gm__law_error, gm_law, divU (show (0 : Int) < 1000000 by decide) (by decide)]
              · refine .inl fun k => ?_
                rw [m__law_drawn_w1t_ok]
                unfold m__law_drawn_w1t
                simp only [bF_ok, bF_exc, rb_ok, rb_exc, slO_dt, slO_fl, slO_fd, slV_dd, slV_ol, slV_od, frz_dd, frz_ol, frz_od, toDs_c, toDs_n, tD_dt, tD_fl, pk_dt, pk_fl, pk_bl, pk_kc, pk_fd, pk_bd, isB_b, gTru_b, gTru_n, bc_t, bc_f, intK_i, datV_d, unp2_t, unp3_t, ownK_ol, ownK_od, ownK_dd, retW_dt, retW_fl, gB_add, gB_sub, gC_lt, gC_le, gC_gt, gC_ge, itV_t, itV_l, itV_f, itV_b, itV_ro, itV_rs, gLen_ro, gLen_rs, gLen_dt, gLen_dl, gLen_fl, gLen_bl, gSl_t, gTup_fl, gTup_bl, gTup_dl, Bool.not_true, Bool.not_false, wB_ok', gInt_i, gm_is_int, gm_is_rule, gm_are_rules, gm_check_rule, gm_check_rules, gm_find_sides, gm_does_ring, gm_any_rings, gm_find_alarms, gm_find_still, gm_implies_rule, gm_implies, gm_history, gm_check_length, gm_go_on, gm_count_after, gm_count_quiet, gm_all_rows, gm_naive_implies, gm_naive_quiet, gm__law_drawn, gm__law_rules, gm__law_sides, gm__law_alarms, gm__law_rows, gm__law_badrules, gm__law_error, gm_law, decide_eq_true h1, decide_eq_false h2]
            · refine .inl fun k => ?_
              rw [m__law_drawn_w1t_ok]
              unfold m__law_drawn_w1t
              simp only [bF_ok, bF_exc, rb_ok, rb_exc, slO_dt, slO_fl, slO_fd, slV_dd, slV_ol, slV_od, frz_dd, frz_ol, frz_od, toDs_c, toDs_n, tD_dt, tD_fl, pk_dt, pk_fl, pk_bl, pk_kc, pk_fd, pk_bd, isB_b, gTru_b, gTru_n, bc_t, bc_f, intK_i, datV_d, unp2_t, unp3_t, ownK_ol, ownK_od, ownK_dd, retW_dt, retW_fl, gB_add, gB_sub, gC_lt, gC_le, gC_gt, gC_ge, itV_t, itV_l, itV_f, itV_b, itV_ro, itV_rs, gLen_ro, gLen_rs, gLen_dt, gLen_dl, gLen_fl, gLen_bl, gSl_t, gTup_fl, gTup_bl, gTup_dl, Bool.not_true, Bool.not_false, wB_ok', gInt_i, gm_is_int, gm_is_rule, gm_are_rules, gm_check_rule, gm_check_rules, gm_find_sides, gm_does_ring, gm_any_rings, gm_find_alarms, gm_find_still, gm_implies_rule, gm_implies, gm_history, gm_check_length, gm_go_on, gm_count_after, gm_count_quiet, gm_all_rows, gm_naive_implies, gm_naive_quiet, gm__law_drawn, gm__law_rules, gm__law_sides, gm__law_alarms, gm__law_rows, gm__law_badrules, gm__law_error, gm_law, decide_eq_false h1]) tn.toNat wFuel [.dd (scD ns), .dd (.int k), .dd (.int many), .dd (.int c), .dd (.int tn), .dd (.int (c / 1000000000000000000))] ⟨_, _, rfl, rfl⟩ (by have := wFuel_eq; omega)
        rw [ew, e', m__law_drawn_r4_ok]
        unfold m__law_drawn_r4
        by_cases h3 : 0 < rest'
        · simp only [bF_ok, bF_exc, rb_ok, rb_exc, slO_dt, slO_fl, slO_fd, slV_dd, slV_ol, slV_od, frz_dd, frz_ol, frz_od, toDs_c, toDs_n, tD_dt, tD_fl, pk_dt, pk_fl, pk_bl, pk_kc, pk_fd, pk_bd, isB_b, gTru_b, gTru_n, bc_t, bc_f, intK_i, datV_d, unp2_t, unp3_t, ownK_ol, ownK_od, ownK_dd, retW_dt, retW_fl, gB_add, gB_sub, gC_lt, gC_le, gC_gt, gC_ge, itV_t, itV_l, itV_f, itV_b, itV_ro, itV_rs, gLen_ro, gLen_rs, gLen_dt, gLen_dl, gLen_fl, gLen_bl, gSl_t, gTup_fl, gTup_bl, gTup_dl, Bool.not_true, Bool.not_false, wB_ok', gInt_i, gm_is_int, gm_is_rule, gm_are_rules, gm_check_rule, gm_check_rules, gm_find_sides, gm_does_ring, gm_any_rings, gm_find_alarms, gm_find_still, gm_implies_rule, gm_implies, gm_history, gm_check_length, gm_go_on, gm_count_after, gm_count_quiet, gm_all_rows, gm_naive_implies, gm_naive_quiet, gm__law_drawn, gm__law_rules, gm__law_sides, gm__law_alarms, gm__law_rows, gm__law_badrules, gm__law_error, gm_law, decide_eq_true h3, modU (show (0 : Int) < 1000000 by decide), modU hm]
          exact ⟨_, Int.emod_nonneg _ (by omega), Int.emod_lt_of_pos _ hm, rfl⟩
        · simp only [bF_ok, bF_exc, rb_ok, rb_exc, slO_dt, slO_fl, slO_fd, slV_dd, slV_ol, slV_od, frz_dd, frz_ol, frz_od, toDs_c, toDs_n, tD_dt, tD_fl, pk_dt, pk_fl, pk_bl, pk_kc, pk_fd, pk_bd, isB_b, gTru_b, gTru_n, bc_t, bc_f, intK_i, datV_d, unp2_t, unp3_t, ownK_ol, ownK_od, ownK_dd, retW_dt, retW_fl, gB_add, gB_sub, gC_lt, gC_le, gC_gt, gC_ge, itV_t, itV_l, itV_f, itV_b, itV_ro, itV_rs, gLen_ro, gLen_rs, gLen_dt, gLen_dl, gLen_fl, gLen_bl, gSl_t, gTup_fl, gTup_bl, gTup_dl, Bool.not_true, Bool.not_false, wB_ok', gInt_i, gm_is_int, gm_is_rule, gm_are_rules, gm_check_rule, gm_check_rules, gm_find_sides, gm_does_ring, gm_any_rings, gm_find_alarms, gm_find_still, gm_implies_rule, gm_implies, gm_history, gm_check_length, gm_go_on, gm_count_after, gm_count_quiet, gm_all_rows, gm_naive_implies, gm_naive_quiet, gm__law_drawn, gm__law_rules, gm__law_sides, gm__law_alarms, gm__law_rows, gm__law_badrules, gm__law_error, gm_law, decide_eq_false h3]
          exact drawn_r3 hl hl2 hk (by omega) hm
      · simp only [bF_ok, bF_exc, rb_ok, rb_exc, slO_dt, slO_fl, slO_fd, slV_dd, slV_ol, slV_od, frz_dd, frz_ol, frz_od, toDs_c, toDs_n, tD_dt, tD_fl, pk_dt, pk_fl, pk_bl, pk_kc, pk_fd, pk_bd, isB_b, gTru_b, gTru_n, bc_t, bc_f, intK_i, datV_d, unp2_t, unp3_t, ownK_ol, ownK_od, ownK_dd, retW_dt, retW_fl, gB_add, gB_sub, gC_lt, gC_le, gC_gt, gC_ge, itV_t, itV_l, itV_f, itV_b, itV_ro, itV_rs, gLen_ro, gLen_rs, gLen_dt, gLen_dl, gLen_fl, gLen_bl, gSl_t, gTup_fl, gTup_bl, gTup_dl, Bool.not_true, Bool.not_false, wB_ok', gInt_i, gm_is_int, gm_is_rule, gm_are_rules, gm_check_rule, gm_check_rules, gm_find_sides, gm_does_ring, gm_any_rings, gm_find_alarms, gm_find_still, gm_implies_rule, gm_implies, gm_history, gm_check_length, gm_go_on, gm_count_after, gm_count_quiet, gm_all_rows, gm_naive_implies, gm_naive_quiet, gm__law_drawn, gm__law_rules, gm__law_sides, gm__law_alarms, gm__law_rows, gm__law_badrules, gm__law_error, gm_law, p18, decide_eq_true h1, decide_eq_false h2]
        exact drawn_r3 hl hl2 hk (by omega) hm
    · simp only [bF_ok, bF_exc, rb_ok, rb_exc, slO_dt, slO_fl, slO_fd, slV_dd, slV_ol, slV_od, frz_dd, frz_ol, frz_od, toDs_c, toDs_n, tD_dt, tD_fl, pk_dt, pk_fl, pk_bl, pk_kc, pk_fd, pk_bd, isB_b, gTru_b, gTru_n, bc_t, bc_f, intK_i, datV_d, unp2_t, unp3_t, ownK_ol, ownK_od, ownK_dd, retW_dt, retW_fl, gB_add, gB_sub, gC_lt, gC_le, gC_gt, gC_ge, itV_t, itV_l, itV_f, itV_b, itV_ro, itV_rs, gLen_ro, gLen_rs, gLen_dt, gLen_dl, gLen_fl, gLen_bl, gSl_t, gTup_fl, gTup_bl, gTup_dl, Bool.not_true, Bool.not_false, wB_ok', gInt_i, gm_is_int, gm_is_rule, gm_are_rules, gm_check_rule, gm_check_rules, gm_find_sides, gm_does_ring, gm_any_rings, gm_find_alarms, gm_find_still, gm_implies_rule, gm_implies, gm_history, gm_check_length, gm_go_on, gm_count_after, gm_count_quiet, gm_all_rows, gm_naive_implies, gm_naive_quiet, gm__law_drawn, gm__law_rules, gm__law_sides, gm__law_alarms, gm__law_rows, gm__law_badrules, gm__law_error, gm_law, p18, decide_eq_false h1]
      exact drawn_r3 hl hl2 hk (by omega) hm
theorem lawrules_ok {ns : List Int} (S : Scr ns) {a most wide : Int} (h0 : 0 ≤ a) (h1 : a < 70000) (hm : 1 ≤ most) (hm2 : most ≤ 4) (hw : 1 ≤ wide) (hw2 : wide ≤ 4) : ∃ rs, Rs rs ∧ (rs.length : Int) ≤ most ∧ (∀ q ∈ rs, q.2.1 ≤ wide) ∧ m__law_rules (scD ns) (.int a) (.int most) (.int wide) = .ok (.dt (rsD rs)) := by
  obtain ⟨n, n0, n1, en⟩ := drawn_ok S h0 (by omega) (show (0 : Int) < most by omega)
  obtain ⟨n, rfl⟩ := Int.eq_ofNat_of_zero_le n0
  have c1 : (1 : Int) + (n : Int) = ((n + 1 : Nat) : Int) := by omega
  unfold m__law_rules
  simp only [bF_ok, bF_exc, rb_ok, rb_exc, slO_dt, slO_fl, slO_fd, slV_dd, slV_ol, slV_od, frz_dd, frz_ol, frz_od, toDs_c, toDs_n, tD_dt, tD_fl, pk_dt, pk_fl, pk_bl, pk_kc, pk_fd, pk_bd, isB_b, gTru_b, gTru_n, bc_t, bc_f, intK_i, datV_d, unp2_t, unp3_t, ownK_ol, ownK_od, ownK_dd, retW_dt, retW_fl, gB_add, gB_sub, gC_lt, gC_le, gC_gt, gC_ge, itV_t, itV_l, itV_f, itV_b, itV_ro, itV_rs, gLen_ro, gLen_rs, gLen_dt, gLen_dl, gLen_fl, gLen_bl, gSl_t, gTup_fl, gTup_bl, gTup_dl, Bool.not_true, Bool.not_false, wB_ok', gInt_i, gm_is_int, gm_is_rule, gm_are_rules, gm_check_rule, gm_check_rules, gm_find_sides, gm_does_ring, gm_any_rings, gm_find_alarms, gm_find_still, gm_implies_rule, gm_implies, gm_history, gm_check_length, gm_go_on, gm_count_after, gm_count_quiet, gm_all_rows, gm_naive_implies, gm_naive_quiet, gm__law_drawn, gm__law_rules, gm__law_sides, gm__law_alarms, gm__law_rows, gm__law_badrules, gm__law_error, gm_law, en]
  rw [c1, rng1_i (by omega) (by omega), rgD_map]
  obtain ⟨ρ', ⟨ks, s1, s2, s3, rfl, hk, hkw, hl⟩, e⟩ := forC_ix (fun i : Nat => PyData.int (i : Int)) (fun i ρ => ∃ ks s1 s2 s3, ρ = [.dd (scD ns), .dd (.int a), .dd (.int most), .dd (.int wide), .ol (ks.map ruD), s1, s2, s3] ∧ (∀ q ∈ ks, Ru q) ∧ (∀ q ∈ ks, q.2.1 ≤ wide) ∧ ks.length = i) (f := _law_rules_b1) (List.range (n + 1)) 0
    [.dd (scD ns), .dd (.int a), .dd (.int most), .dd (.int wide), .ol [], .em, .em, .em] ⟨[], _, _, _, rfl, fun _ h => (nomatch h), fun _ h => (nomatch h), rfl⟩ (by
      rintro j i hj ρ ⟨ks, s1, s2, s3, rfl, hk, hkw, hl⟩
      obtain ⟨hjn, rfl⟩ := ix_range hj
      have c3 : gBin .Mult (.dt (.int 3)) (.dt (.int (i : Int))) = .ok (.dt (.int (3 * (i : Int)))) := gMul_n (by decide) (show i ≤ 4 by omega) (by decide)
      obtain ⟨w, w0, w1, ew⟩ := drawn_ok S (k := a + 1 + 3 * (i : Int)) (many := wide) (by omega) (by omega) (by omega)
      obtain ⟨m, m0, m1, em⟩ := drawn_ok S (k := a + 2 + 3 * (i : Int)) (many := 1 + w) (by omega) (by omega) (by omega)
      obtain ⟨b, b0, b1, eb⟩ := drawn_ok S (k := a + 3 + 3 * (i : Int)) (many := 3) (by omega) (by omega) (by decide)
      refine ⟨_, ⟨ks ++ [(1 + m, 1 + w, 1 + b)], .dd (.int (i : Int)), .dd (.int (1 + w)), .dd (.int (1 + m)), rfl, ?_, ?_, by rw [List.length_append, hl]; rfl⟩, fun k => ?_⟩
      · intro q hq
        rcases List.mem_append.mp hq with z | z
        · exact hk q z
        · rw [List.mem_singleton.mp z]
          exact ⟨by dsimp only; omega, by dsimp only; omega, by dsimp only; omega, by dsimp only; omega, by dsimp only; omega, by dsimp only; omega⟩
      · intro q hq
        rcases List.mem_append.mp hq with z | z
        · exact hkw q z
        · rw [List.mem_singleton.mp z]
          dsimp only; omega
      · rw [m__law_rules_b1_ok]
        unfold m__law_rules_b1
        simp only [bF_ok, bF_exc, rb_ok, rb_exc, slO_dt, slO_fl, slO_fd, slV_dd, slV_ol, slV_od, frz_dd, frz_ol, frz_od, toDs_c, toDs_n, tD_dt, tD_fl, pk_dt, pk_fl, pk_bl, pk_kc, pk_fd, pk_bd, isB_b, gTru_b, gTru_n, bc_t, bc_f, intK_i, datV_d, unp2_t, unp3_t, ownK_ol, ownK_od, ownK_dd, retW_dt, retW_fl, gB_add, gB_sub, gC_lt, gC_le, gC_gt, gC_ge, itV_t, itV_l, itV_f, itV_b, itV_ro, itV_rs, gLen_ro, gLen_rs, gLen_dt, gLen_dl, gLen_fl, gLen_bl, gSl_t, gTup_fl, gTup_bl, gTup_dl, Bool.not_true, Bool.not_false, wB_ok', gInt_i, gm_is_int, gm_is_rule, gm_are_rules, gm_check_rule, gm_check_rules, gm_find_sides, gm_does_ring, gm_any_rings, gm_find_alarms, gm_find_still, gm_implies_rule, gm_implies, gm_history, gm_check_length, gm_go_on, gm_count_after, gm_count_quiet, gm_all_rows, gm_naive_implies, gm_naive_quiet, gm__law_drawn, gm__law_rules, gm__law_sides, gm__law_alarms, gm__law_rows, gm__law_badrules, gm__law_error, gm_law, c3, ew, em, eb]
        rw [if_pos (by rw [List.length_map]; omega), List.map_append]
        rfl)
  rw [List.length_range, Nat.zero_add] at hl
  obtain ⟨rs, hr, es, hi⟩ := gSS_rules (w := .bl (ks.map ruD)) rfl hk (fun z => by rw [z] at hl; cases hl) (by omega)
  have hlen : rs.length ≤ ks.length := nodup_len hr.nodup fun q hq => (hi q).mp hq
  refine ⟨rs, hr, by omega, fun q hq => hkw q ((hi q).mp hq), ?_⟩
  rw [e, m__law_rules_r1_ok]
  unfold m__law_rules_r1
  simp only [bF_ok, bF_exc, rb_ok, rb_exc, slO_dt, slO_fl, slO_fd, slV_dd, slV_ol, slV_od, frz_dd, frz_ol, frz_od, toDs_c, toDs_n, tD_dt, tD_fl, pk_dt, pk_fl, pk_bl, pk_kc, pk_fd, pk_bd, isB_b, gTru_b, gTru_n, bc_t, bc_f, intK_i, datV_d, unp2_t, unp3_t, ownK_ol, ownK_od, ownK_dd, retW_dt, retW_fl, gB_add, gB_sub, gC_lt, gC_le, gC_gt, gC_ge, itV_t, itV_l, itV_f, itV_b, itV_ro, itV_rs, gLen_ro, gLen_rs, gLen_dt, gLen_dl, gLen_fl, gLen_bl, gSl_t, gTup_fl, gTup_bl, gTup_dl, Bool.not_true, Bool.not_false, wB_ok', gInt_i, gm_is_int, gm_is_rule, gm_are_rules, gm_check_rule, gm_check_rules, gm_find_sides, gm_does_ring, gm_any_rings, gm_find_alarms, gm_find_still, gm_implies_rule, gm_implies, gm_history, gm_check_length, gm_go_on, gm_count_after, gm_count_quiet, gm_all_rows, gm_naive_implies, gm_naive_quiet, gm__law_drawn, gm__law_rules, gm__law_sides, gm__law_alarms, gm__law_rows, gm__law_badrules, gm__law_error, gm_law, es]
  rfl
/-! ### the program's judging functions -/
theorem is_int_i (v a b : Int) : m_is_int (.int v) (.int a) (.int b) = .ok (.dt (.bool (decide (a ≤ v) && decide (v ≤ b)))) := by
  unfold m_is_int
  by_cases h : a ≤ v <;> simp [gm_is_int, gm_is_rule, gm_are_rules, gm_check_rule, gm_check_rules, gm_find_sides, gm_does_ring, gm_any_rings, gm_find_alarms, gm_find_still, gm_implies_rule, gm_implies, gm_history, gm_check_length, gm_go_on, gm_count_after, gm_count_quiet, gm_all_rows, gm_naive_implies, gm_naive_quiet, gm__law_drawn, gm__law_rules, gm__law_sides, gm__law_alarms, gm__law_rows, gm__law_badrules, gm__law_error, gm_law, h]
theorem is_int_g (v a b : Int) : g_is_int [.int v, .int a, .int b] = .ok (.dt (.bool (decide (a ≤ v) && decide (v ≤ b)))) := (gm_is_int _ _ _).trans (is_int_i v a b)
theorem is_rule_ok {q : RuT} (h : Ru q) : m_is_rule (ruD q) = .ok (.dt (.bool true)) := by
  obtain ⟨h1, h2, h3, h4, h5, h6⟩ := h
  unfold m_is_rule ruD
  simp [gm_is_int, gm_is_rule, gm_are_rules, gm_check_rule, gm_check_rules, gm_find_sides, gm_does_ring, gm_any_rings, gm_find_alarms, gm_find_still, gm_implies_rule, gm_implies, gm_history, gm_check_length, gm_go_on, gm_count_after, gm_count_quiet, gm_all_rows, gm_naive_implies, gm_naive_quiet, gm__law_drawn, gm__law_rules, gm__law_sides, gm__law_alarms, gm__law_rows, gm__law_badrules, gm__law_error, gm_law, gC_ne, is_int_i, h1, h2, h3, h4, h5, h6]
theorem check_rule_ok {q : RuT} (h : Ru q) : m_check_rule (ruD q) = .ok (.dt .none) := by
  unfold m_check_rule
  simp [gm_is_int, gm_is_rule, gm_are_rules, gm_check_rule, gm_check_rules, gm_find_sides, gm_does_ring, gm_any_rings, gm_find_alarms, gm_find_still, gm_implies_rule, gm_implies, gm_history, gm_check_length, gm_go_on, gm_count_after, gm_count_quiet, gm_all_rows, gm_naive_implies, gm_naive_quiet, gm__law_drawn, gm__law_rules, gm__law_sides, gm__law_alarms, gm__law_rows, gm__law_badrules, gm__law_error, gm_law, is_rule_ok h]
theorem find_sides_ok {q : RuT} {r : List Int} (hw : 0 ≤ q.2.1) (hl : r.length ≤ 1000) : m_find_sides (ruD q) (roD r) = .ok (.dt (.tuple [.bool (abv q r), .bool (blw q r)])) := by
  unfold m_find_sides ruD roD
  simp only [gm_is_int, gm_is_rule, gm_are_rules, gm_check_rule, gm_check_rules, gm_find_sides, gm_does_ring, gm_any_rings, gm_find_alarms, gm_find_still, gm_implies_rule, gm_implies, gm_history, gm_check_length, gm_go_on, gm_count_after, gm_count_quiet, gm_all_rows, gm_naive_implies, gm_naive_quiet, gm__law_drawn, gm__law_rules, gm__law_sides, gm__law_alarms, gm__law_rows, gm__law_badrules, gm__law_error, gm_law, unp3_t, gLen_dt, bF_ok, rb_ok, gB_sub, gMM_i, if_true, pk_dt, intK_i, gSl_t, slO_dt, slV_dd, List.length_map, itV_t]
  rw [cut_from _ (by omega)]
  have e : (r.map PyData.int).drop (max 0 ((r.length : Int) - q.2.1)).toNat = (lst q.2.1 r).map .int := by
    unfold lst
    rw [List.map_drop]
    congr 1
    omega
  have hll : (lst q.2.1 r).length ≤ r.length := by unfold lst; rw [List.length_drop]; omega
  rw [e]
  rw [lcL_filter .int (fun v => decide (q.2.2 ≤ v)) .int (lst q.2.1 r) fun v hv => by by_cases h : q.2.2 ≤ v <;> simp [gm_is_int, gm_is_rule, gm_are_rules, gm_check_rule, gm_check_rules, gm_find_sides, gm_does_ring, gm_any_rings, gm_find_alarms, gm_find_still, gm_implies_rule, gm_implies, gm_history, gm_check_length, gm_go_on, gm_count_after, gm_count_quiet, gm_all_rows, gm_naive_implies, gm_naive_quiet, gm__law_drawn, gm__law_rules, gm__law_sides, gm__law_alarms, gm__law_rows, gm__law_badrules, gm__law_error, gm_law, h]]
  rw [lcL_filter .int (fun v => decide (v ≤ 0 - q.2.2)) .int (lst q.2.1 r) fun v hv => by by_cases h : v ≤ 0 - q.2.2 <;> simp [gm_is_int, gm_is_rule, gm_are_rules, gm_check_rule, gm_check_rules, gm_find_sides, gm_does_ring, gm_any_rings, gm_find_alarms, gm_find_still, gm_implies_rule, gm_implies, gm_history, gm_check_length, gm_go_on, gm_count_after, gm_count_quiet, gm_all_rows, gm_naive_implies, gm_naive_quiet, gm__law_drawn, gm__law_rules, gm__law_sides, gm__law_alarms, gm__law_rows, gm__law_badrules, gm__law_error, gm_law, h, -Int.zero_sub]]
  have f1 := List.length_filter_le (fun v => decide (q.2.2 ≤ v)) (lst q.2.1 r)
  have f2 := List.length_filter_le (fun v => decide (v ≤ 0 - q.2.2)) (lst q.2.1 r)
  simp only [gm_is_int, gm_is_rule, gm_are_rules, gm_check_rule, gm_check_rules, gm_find_sides, gm_does_ring, gm_any_rings, gm_find_alarms, gm_find_still, gm_implies_rule, gm_implies, gm_history, gm_check_length, gm_go_on, gm_count_after, gm_count_quiet, gm_all_rows, gm_naive_implies, gm_naive_quiet, gm__law_drawn, gm__law_rules, gm__law_sides, gm__law_alarms, gm__law_rows, gm__law_badrules, gm__law_error, gm_law, bF_ok, rb_ok, List.length_map]
  rw [if_pos (by omega)]
  simp only [gm_is_int, gm_is_rule, gm_are_rules, gm_check_rule, gm_check_rules, gm_find_sides, gm_does_ring, gm_any_rings, gm_find_alarms, gm_find_still, gm_implies_rule, gm_implies, gm_history, gm_check_length, gm_go_on, gm_count_after, gm_count_quiet, gm_all_rows, gm_naive_implies, gm_naive_quiet, gm__law_drawn, gm__law_rules, gm__law_sides, gm__law_alarms, gm__law_rows, gm__law_badrules, gm__law_error, gm_law, gLen_fl, bF_ok, rb_ok, slO_dt, List.length_map]
  rw [if_pos (by omega)]
  simp only [gm_is_int, gm_is_rule, gm_are_rules, gm_check_rule, gm_check_rules, gm_find_sides, gm_does_ring, gm_any_rings, gm_find_alarms, gm_find_still, gm_implies_rule, gm_implies, gm_history, gm_check_length, gm_go_on, gm_count_after, gm_count_quiet, gm_all_rows, gm_naive_implies, gm_naive_quiet, gm__law_drawn, gm__law_rules, gm__law_sides, gm__law_alarms, gm__law_rows, gm__law_badrules, gm__law_error, gm_law, gLen_fl, bF_ok, rb_ok, slO_dt, slV_dd, gC_ge, toDs_c, toDs_n, tD_dt, List.length_map, retW_dt]
  rfl
theorem does_ring_ok {q : RuT} {r : List Int} (hw : 0 ≤ q.2.1) (hl : r.length ≤ 1000) : m_does_ring (ruD q) (roD r) = .ok (.dt (.bool (rng q r))) := by
  unfold m_does_ring
  simp only [gm_is_int, gm_is_rule, gm_are_rules, gm_check_rule, gm_check_rules, gm_find_sides, gm_does_ring, gm_any_rings, gm_find_alarms, gm_find_still, gm_implies_rule, gm_implies, gm_history, gm_check_length, gm_go_on, gm_count_after, gm_count_quiet, gm_all_rows, gm_naive_implies, gm_naive_quiet, gm__law_drawn, gm__law_rules, gm__law_sides, gm__law_alarms, gm__law_rows, gm__law_badrules, gm__law_error, gm_law, find_sides_ok hw hl, bF_ok, rb_ok, datV_d, unp2_t, pk_dt, isB_b]
  unfold rng
  cases abv q r <;> simp
def sidI (a b : Bool) : Int := if a && b then 2 else if a then 1 else if b then -1 else 0
theorem are_rules_ok {rs : List RuT} (h : Rs rs) : m_are_rules (rsD rs) = .ok (.dt (.bool true)) := by
  have h1 := h.n1
  have h4 := h.n4
  have a1 : (1 : Int) ≤ (rs.length : Int) := by omega
  have a4 : (rs.length : Int) ≤ 4 := by omega
  unfold m_are_rules rsD
  simp only [gm_is_int, gm_is_rule, gm_are_rules, gm_check_rule, gm_check_rules, gm_find_sides, gm_does_ring, gm_any_rings, gm_find_alarms, gm_find_still, gm_implies_rule, gm_implies, gm_history, gm_check_length, gm_go_on, gm_count_after, gm_count_quiet, gm_all_rows, gm_naive_implies, gm_naive_quiet, gm__law_drawn, gm__law_rules, gm__law_sides, gm__law_alarms, gm__law_rows, gm__law_badrules, gm__law_error, gm_law, gIsi_tup_t, bF_ok, rb_ok, pk_dt, gTru_b, Bool.not_true, bc_f, gLen_dt, List.length_map, gC_le, isB_b, decide_eq_true a1, decide_eq_true a4, bc_t, itV_t]
  rw [lcL_map ruD (fun _ => .bool true) rs fun q hq => by simp [gm_is_int, gm_is_rule, gm_are_rules, gm_check_rule, gm_check_rules, gm_find_sides, gm_does_ring, gm_any_rings, gm_find_alarms, gm_find_still, gm_implies_rule, gm_implies, gm_history, gm_check_length, gm_go_on, gm_count_after, gm_count_quiet, gm_all_rows, gm_naive_implies, gm_naive_quiet, gm__law_drawn, gm__law_rules, gm__law_sides, gm__law_alarms, gm__law_rows, gm__law_badrules, gm__law_error, gm_law, is_rule_ok (h.ok q hq)]]
  simp only [gm_is_int, gm_is_rule, gm_are_rules, gm_check_rule, gm_check_rules, gm_find_sides, gm_does_ring, gm_any_rings, gm_find_alarms, gm_find_still, gm_implies_rule, gm_implies, gm_history, gm_check_length, gm_go_on, gm_count_after, gm_count_quiet, gm_all_rows, gm_naive_implies, gm_naive_quiet, gm__law_drawn, gm__law_rules, gm__law_sides, gm__law_alarms, gm__law_rows, gm__law_badrules, gm__law_error, gm_law, bF_ok, rb_ok, List.length_map]
  rw [if_pos (by omega), gAll_fl (bs := rs.map fun _ => true) (by rw [List.map_map]; rfl)]
  have tr : (rs.map fun _ => true).all id = true := by simp
  simp only [gm_is_int, gm_is_rule, gm_are_rules, gm_check_rule, gm_check_rules, gm_find_sides, gm_does_ring, gm_any_rings, gm_find_alarms, gm_find_still, gm_implies_rule, gm_implies, gm_history, gm_check_length, gm_go_on, gm_count_after, gm_count_quiet, gm_all_rows, gm_naive_implies, gm_naive_quiet, gm__law_drawn, gm__law_rules, gm__law_sides, gm__law_alarms, gm__law_rows, gm__law_badrules, gm__law_error, gm_law, bF_ok, rb_ok, tr, pk_dt, gTru_b, Bool.not_true, bc_f, intK_i, gSl_t, zpE_t]
  rw [cut_from _ (by decide), show (rs.map ruD).drop (1 : Int).toNat = (rs.drop 1).map ruD from by rw [List.map_drop]; rfl, zipD_ru]
  rw [lcL_map (fun p : RuT × RuT => PyData.tuple [ruD p.1, ruD p.2]) (fun _ => .bool true) (rs.zip (rs.drop 1)) fun p hp => by
    simp [gm_is_int, gm_is_rule, gm_are_rules, gm_check_rule, gm_check_rules, gm_find_sides, gm_does_ring, gm_any_rings, gm_find_alarms, gm_find_still, gm_implies_rule, gm_implies, gm_history, gm_check_length, gm_go_on, gm_count_after, gm_count_quiet, gm_all_rows, gm_naive_implies, gm_naive_quiet, gm__law_drawn, gm__law_rules, gm__law_sides, gm__law_alarms, gm__law_rows, gm__law_badrules, gm__law_error, gm_law, gC_lt_ru, pair_next h.srt p hp]]
  simp only [gm_is_int, gm_is_rule, gm_are_rules, gm_check_rule, gm_check_rules, gm_find_sides, gm_does_ring, gm_any_rings, gm_find_alarms, gm_find_still, gm_implies_rule, gm_implies, gm_history, gm_check_length, gm_go_on, gm_count_after, gm_count_quiet, gm_all_rows, gm_naive_implies, gm_naive_quiet, gm__law_drawn, gm__law_rules, gm__law_sides, gm__law_alarms, gm__law_rows, gm__law_badrules, gm__law_error, gm_law, bF_ok, rb_ok, List.length_map]
  have hz : (rs.zip (rs.drop 1)).length ≤ rs.length := by rw [List.length_zip]; omega
  rw [if_pos (by omega), gAll_fl (bs := (rs.zip (rs.drop 1)).map fun _ => true) (by rw [List.map_map]; rfl)]
  simp
theorem check_rules_ok {rs : List RuT} (h : Rs rs) : m_check_rules (rsD rs) = .ok (.dt .none) := by
  unfold m_check_rules
  simp [gm_is_int, gm_is_rule, gm_are_rules, gm_check_rule, gm_check_rules, gm_find_sides, gm_does_ring, gm_any_rings, gm_find_alarms, gm_find_still, gm_implies_rule, gm_implies, gm_history, gm_check_length, gm_go_on, gm_count_after, gm_count_quiet, gm_all_rows, gm_naive_implies, gm_naive_quiet, gm__law_drawn, gm__law_rules, gm__law_sides, gm__law_alarms, gm__law_rows, gm__law_badrules, gm__law_error, gm_law, are_rules_ok h]
theorem any_rings_ok {rs : List RuT} {r : List Int} (h : ∀ q ∈ rs, 0 ≤ q.2.1) (hn : rs.length ≤ 1000) (hr : r.length ≤ 1000) : m_any_rings (rsD rs) (roD r) = .ok (.dt (.bool (anyR rs r))) := by
  unfold m_any_rings
  simp only [gm_is_int, gm_is_rule, gm_are_rules, gm_check_rule, gm_check_rules, gm_find_sides, gm_does_ring, gm_any_rings, gm_find_alarms, gm_find_still, gm_implies_rule, gm_implies, gm_history, gm_check_length, gm_go_on, gm_count_after, gm_count_quiet, gm_all_rows, gm_naive_implies, gm_naive_quiet, gm__law_drawn, gm__law_rules, gm__law_sides, gm__law_alarms, gm__law_rows, gm__law_badrules, gm__law_error, gm_law, itV_rs, bF_ok, rb_ok]
  rw [lcL_map ruD (fun q => .bool (rng q r)) rs fun q hq => by simp [gm_is_int, gm_is_rule, gm_are_rules, gm_check_rule, gm_check_rules, gm_find_sides, gm_does_ring, gm_any_rings, gm_find_alarms, gm_find_still, gm_implies_rule, gm_implies, gm_history, gm_check_length, gm_go_on, gm_count_after, gm_count_quiet, gm_all_rows, gm_naive_implies, gm_naive_quiet, gm__law_drawn, gm__law_rules, gm__law_sides, gm__law_alarms, gm__law_rows, gm__law_badrules, gm__law_error, gm_law, does_ring_ok (h q hq) hr]]
  simp only [gm_is_int, gm_is_rule, gm_are_rules, gm_check_rule, gm_check_rules, gm_find_sides, gm_does_ring, gm_any_rings, gm_find_alarms, gm_find_still, gm_implies_rule, gm_implies, gm_history, gm_check_length, gm_go_on, gm_count_after, gm_count_quiet, gm_all_rows, gm_naive_implies, gm_naive_quiet, gm__law_drawn, gm__law_rules, gm__law_sides, gm__law_alarms, gm__law_rows, gm__law_badrules, gm__law_error, gm_law, bF_ok, rb_ok, List.length_map]
  rw [if_pos (by omega), gAny_fl (bs := rs.map fun q => rng q r) (by rw [List.map_map]; rfl)]
  simp [gm_is_int, gm_is_rule, gm_are_rules, gm_check_rule, gm_check_rules, gm_find_sides, gm_does_ring, gm_any_rings, gm_find_alarms, gm_find_still, gm_implies_rule, gm_implies, gm_history, gm_check_length, gm_go_on, gm_count_after, gm_count_quiet, gm_all_rows, gm_naive_implies, gm_naive_quiet, gm__law_drawn, gm__law_rules, gm__law_sides, gm__law_alarms, gm__law_rows, gm__law_badrules, gm__law_error, gm_law, anyR, List.any_map, Function.comp_def]
theorem any_rings_rs {rs : List RuT} {r : List Int} (h : Rs rs) (hr : r.length ≤ 1000) : m_any_rings (rsD rs) (roD r) = .ok (.dt (.bool (anyR rs r))) :=
  any_rings_ok (fun q hq => by have := (h.ok q hq).w1; omega) (by have := h.n4; omega) hr
theorem find_alarms_ok {rs : List RuT} {r : List Int} (h : Rs rs) (hr : r.length ≤ 1000) : m_find_alarms (rsD rs) (roD r) = .ok (.fl (nD (almN rs r))) := by
  unfold m_find_alarms
  rw [gLen_ro, bF_ok, pk_dt]
  rw [rng1_i (by omega) (by omega), rgD_map]
  rw [lcL_filter (fun i : Nat => PyData.int (i : Int)) (fun p => anyR rs (r.take (p + 1))) (fun p => PyData.int (p : Int)) (List.range r.length) fun p hp => by
    have e : cutL (r.map PyData.int) none (some ((p : Int) + 1)) = (r.take (p + 1)).map .int := by
      rw [cut_to _ (by omega), List.map_take, show ((p : Int) + 1).toNat = p + 1 from by omega]
    have hl : (r.take (p + 1)).length ≤ 1000 := by rw [List.length_take]; omega
    have eg : m_any_rings (rsD rs) (.tuple ((r.take (p + 1)).map .int)) = .ok (.dt (.bool (anyR rs (r.take (p + 1))))) := any_rings_rs h hl
    have es : gSl (.dt (roD r)) none (some ((p : Int) + 1)) = .ok (.dt (.tuple ((r.take (p + 1)).map .int))) := by
      unfold roD
      rw [gSl_t, e]
    simp only [gm_is_int, gm_is_rule, gm_are_rules, gm_check_rule, gm_check_rules, gm_find_sides, gm_does_ring, gm_any_rings, gm_find_alarms, gm_find_still, gm_implies_rule, gm_implies, gm_history, gm_check_length, gm_go_on, gm_count_after, gm_count_quiet, gm_all_rows, gm_naive_implies, gm_naive_quiet, gm__law_drawn, gm__law_rules, gm__law_sides, gm__law_alarms, gm__law_rows, gm__law_badrules, gm__law_error, gm_law, gB_add, bF_ok, rb_ok, pk_dt, intK_i, es, toDs_c, toDs_n, tD_dt, eg, gTru_b]
    cases anyR rs (r.take (p + 1)) <;> rfl]
  have f := List.length_filter_le (fun p => anyR rs (r.take (p + 1))) (List.range r.length)
  rw [List.length_range] at f
  simp only [gm_is_int, gm_is_rule, gm_are_rules, gm_check_rule, gm_check_rules, gm_find_sides, gm_does_ring, gm_any_rings, gm_find_alarms, gm_find_still, gm_implies_rule, gm_implies, gm_history, gm_check_length, gm_go_on, gm_count_after, gm_count_quiet, gm_all_rows, gm_naive_implies, gm_naive_quiet, gm__law_drawn, gm__law_rules, gm__law_sides, gm__law_alarms, gm__law_rows, gm__law_badrules, gm__law_error, gm_law, bF_ok, rb_ok, List.length_map]
  rw [if_pos (by omega)]
  unfold nD almN
  exact rfl
theorem find_still_ok {rs : List RuT} {r : List Int} (h : Rs rs) (hr : r.length ≤ 900) : m_find_still (rsD rs) (roD r) = .ok (.fl ((stillN rs r).map .int)) := by
  unfold m_find_still
  rw [show itV false (.kc (.tuple [.int (-3), .int (-2), .int (-1), .int (0), .int (1), .int (2), .int (3)])) = .ok (([-3, -2, -1, 0, 1, 2, 3] : List Int).map .int) from rfl]
  simp only [gm_is_int, gm_is_rule, gm_are_rules, gm_check_rule, gm_check_rules, gm_find_sides, gm_does_ring, gm_any_rings, gm_find_alarms, gm_find_still, gm_implies_rule, gm_implies, gm_history, gm_check_length, gm_go_on, gm_count_after, gm_count_quiet, gm_all_rows, gm_naive_implies, gm_naive_quiet, gm__law_drawn, gm__law_rules, gm__law_sides, gm__law_alarms, gm__law_rows, gm__law_badrules, gm__law_error, gm_law, bF_ok, rb_ok]
  rw [lcL_filter .int (fun v => !anyR rs (r ++ [v])) .int ([-3, -2, -1, 0, 1, 2, 3] : List Int) fun v hv => by
    have eg : m_any_rings (rsD rs) (roD (r ++ [v])) = .ok (.dt (.bool (anyR rs (r ++ [v])))) := any_rings_rs h (by rw [List.length_append, List.length_singleton]; omega)
    simp only [gm_is_int, gm_is_rule, gm_are_rules, gm_check_rule, gm_check_rules, gm_find_sides, gm_does_ring, gm_any_rings, gm_find_alarms, gm_find_still, gm_implies_rule, gm_implies, gm_history, gm_check_length, gm_go_on, gm_count_after, gm_count_quiet, gm_all_rows, gm_naive_implies, gm_naive_quiet, gm__law_drawn, gm__law_rules, gm__law_sides, gm__law_alarms, gm__law_rows, gm__law_badrules, gm__law_error, gm_law, add_ro r v (by omega), bF_ok, rb_ok, toDs_c, toDs_n, tD_dt, eg, pk_dt, gTru_b]
    cases anyR rs (r ++ [v]) <;> rfl]
  have f := List.length_filter_le (fun v => !anyR rs (r ++ [v])) ([-3, -2, -1, 0, 1, 2, 3] : List Int)
  have f7 : ([-3, -2, -1, 0, 1, 2, 3] : List Int).length = 7 := rfl
  simp only [gm_is_int, gm_is_rule, gm_are_rules, gm_check_rule, gm_check_rules, gm_find_sides, gm_does_ring, gm_any_rings, gm_find_alarms, gm_find_still, gm_implies_rule, gm_implies, gm_history, gm_check_length, gm_go_on, gm_count_after, gm_count_quiet, gm_all_rows, gm_naive_implies, gm_naive_quiet, gm__law_drawn, gm__law_rules, gm__law_sides, gm__law_alarms, gm__law_rows, gm__law_badrules, gm__law_error, gm_law, bF_ok, rb_ok, List.length_map]
  rw [if_pos (by omega)]
  rfl
/-! ### values of other forms -/
theorem isi_t_n : gIsi "tuple" .none = .ok (.dt (.bool false)) := by kernel_rfl
theorem isi_t_l (xs : List PyData) : gIsi "tuple" (.list xs) = .ok (.dt (.bool false)) := by kernel_rfl
theorem isi_t_i (i : Int) : gIsi "tuple" (.int i) = .ok (.dt (.bool false)) := by kernel_rfl
theorem isi_t_s (z : Str) : gIsi "tuple" (.str z) = .ok (.dt (.bool false)) := by kernel_rfl
theorem isi_i_n : gIsi "int" .none = .ok (.dt (.bool false)) := by kernel_rfl
theorem isi_i_b (b : Bool) : gIsi "int" (.bool b) = .ok (.dt (.bool true)) := by kernel_rfl
theorem isi_b_b (b : Bool) : gIsi "bool" (.bool b) = .ok (.dt (.bool true)) := by kernel_rfl
theorem isi_i_s (z : Str) : gIsi "int" (.str z) = .ok (.dt (.bool false)) := by kernel_rfl
theorem isi_i_t (xs : List PyData) : gIsi "int" (.tuple xs) = .ok (.dt (.bool false)) := by kernel_rfl
theorem is_int_no {d : PyData} (h : gIsi "int" d = .ok (.dt (.bool false))) (a b : PyData) : m_is_int d a b = .ok (.dt (.bool false)) := by
  unfold m_is_int
  simp only [bF_ok, bF_exc, rb_ok, rb_exc, slO_dt, slO_fl, slO_fd, slV_dd, slV_ol, slV_od, frz_dd, frz_ol, frz_od, toDs_c, toDs_n, tD_dt, tD_fl, pk_dt, pk_fl, pk_bl, pk_kc, pk_fd, pk_bd, isB_b, gTru_b, gTru_n, bc_t, bc_f, intK_i, datV_d, unp2_t, unp3_t, ownK_ol, ownK_od, ownK_dd, retW_dt, retW_fl, gB_add, gB_sub, gC_lt, gC_le, gC_gt, gC_ge, itV_t, itV_l, itV_f, itV_b, itV_ro, itV_rs, gLen_ro, gLen_rs, gLen_dt, gLen_dl, gLen_fl, gLen_bl, gSl_t, gTup_fl, gTup_bl, gTup_dl, Bool.not_true, Bool.not_false, wB_ok', gInt_i, gm_is_int, gm_is_rule, gm_are_rules, gm_check_rule, gm_check_rules, gm_find_sides, gm_does_ring, gm_any_rings, gm_find_alarms, gm_find_still, gm_implies_rule, gm_implies, gm_history, gm_check_length, gm_go_on, gm_count_after, gm_count_quiet, gm_all_rows, gm_naive_implies, gm_naive_quiet, gm__law_drawn, gm__law_rules, gm__law_sides, gm__law_alarms, gm__law_rows, gm__law_badrules, gm__law_error, gm_law, h]
theorem is_int_b (t : Bool) (a b : PyData) : m_is_int (.bool t) a b = .ok (.dt (.bool false)) := by
  unfold m_is_int
  simp only [bF_ok, bF_exc, rb_ok, rb_exc, slO_dt, slO_fl, slO_fd, slV_dd, slV_ol, slV_od, frz_dd, frz_ol, frz_od, toDs_c, toDs_n, tD_dt, tD_fl, pk_dt, pk_fl, pk_bl, pk_kc, pk_fd, pk_bd, isB_b, gTru_b, gTru_n, bc_t, bc_f, intK_i, datV_d, unp2_t, unp3_t, ownK_ol, ownK_od, ownK_dd, retW_dt, retW_fl, gB_add, gB_sub, gC_lt, gC_le, gC_gt, gC_ge, itV_t, itV_l, itV_f, itV_b, itV_ro, itV_rs, gLen_ro, gLen_rs, gLen_dt, gLen_dl, gLen_fl, gLen_bl, gSl_t, gTup_fl, gTup_bl, gTup_dl, Bool.not_true, Bool.not_false, wB_ok', gInt_i, gm_is_int, gm_is_rule, gm_are_rules, gm_check_rule, gm_check_rules, gm_find_sides, gm_does_ring, gm_any_rings, gm_find_alarms, gm_find_still, gm_implies_rule, gm_implies, gm_history, gm_check_length, gm_go_on, gm_count_after, gm_count_quiet, gm_all_rows, gm_naive_implies, gm_naive_quiet, gm__law_drawn, gm__law_rules, gm__law_sides, gm__law_alarms, gm__law_rows, gm__law_badrules, gm__law_error, gm_law, isi_i_b, isi_b_b]
def ruB (q : RuT) : Bool := (decide (1 ≤ q.2.1) && decide (q.2.1 ≤ 4)) && ((decide (1 ≤ q.1) && decide (q.1 ≤ q.2.1)) && (decide (1 ≤ q.2.2) && decide (q.2.2 ≤ 3)))
theorem is_rule_gen (q : RuT) : m_is_rule (ruD q) = .ok (.dt (.bool (ruB q))) := by
  obtain ⟨a, b, c⟩ := q
  unfold m_is_rule ruD ruB
  have c3 : ∀ x y z : PyData, gCmp .NotEq (.dt (.int ((([x, y, z] : List PyData).length : Nat) : Int))) (.dt (.int 3)) = .ok (.dt (.bool false)) := fun _ _ _ => by rw [ne_ii]; rfl
  simp only [bF_ok, bF_exc, rb_ok, rb_exc, slO_dt, slO_fl, slO_fd, slV_dd, slV_ol, slV_od, frz_dd, frz_ol, frz_od, toDs_c, toDs_n, tD_dt, tD_fl, pk_dt, pk_fl, pk_bl, pk_kc, pk_fd, pk_bd, isB_b, gTru_b, gTru_n, bc_t, bc_f, intK_i, datV_d, unp2_t, unp3_t, ownK_ol, ownK_od, ownK_dd, retW_dt, retW_fl, gB_add, gB_sub, gC_lt, gC_le, gC_gt, gC_ge, itV_t, itV_l, itV_f, itV_b, itV_ro, itV_rs, gLen_ro, gLen_rs, gLen_dt, gLen_dl, gLen_fl, gLen_bl, gSl_t, gTup_fl, gTup_bl, gTup_dl, Bool.not_true, Bool.not_false, wB_ok', gInt_i, gm_is_int, gm_is_rule, gm_are_rules, gm_check_rule, gm_check_rules, gm_find_sides, gm_does_ring, gm_any_rings, gm_find_alarms, gm_find_still, gm_implies_rule, gm_implies, gm_history, gm_check_length, gm_go_on, gm_count_after, gm_count_quiet, gm_all_rows, gm_naive_implies, gm_naive_quiet, gm__law_drawn, gm__law_rules, gm__law_sides, gm__law_alarms, gm__law_rows, gm__law_badrules, gm__law_error, gm_law, gIsi_tup_t, c3, gIx3_0, gIx3_1, gIx3_2, is_int_i]
  cases (decide (1 ≤ b) && decide (b ≤ 4)) <;> cases (decide (1 ≤ a) && decide (a ≤ b)) <;> cases (decide (1 ≤ c) && decide (c ≤ 3)) <;> rfl
theorem is_rule_no {d : PyData} (h : gIsi "tuple" d = .ok (.dt (.bool false))) : m_is_rule d = .ok (.dt (.bool false)) := by
  unfold m_is_rule
  simp only [bF_ok, bF_exc, rb_ok, rb_exc, slO_dt, slO_fl, slO_fd, slV_dd, slV_ol, slV_od, frz_dd, frz_ol, frz_od, toDs_c, toDs_n, tD_dt, tD_fl, pk_dt, pk_fl, pk_bl, pk_kc, pk_fd, pk_bd, isB_b, gTru_b, gTru_n, bc_t, bc_f, intK_i, datV_d, unp2_t, unp3_t, ownK_ol, ownK_od, ownK_dd, retW_dt, retW_fl, gB_add, gB_sub, gC_lt, gC_le, gC_gt, gC_ge, itV_t, itV_l, itV_f, itV_b, itV_ro, itV_rs, gLen_ro, gLen_rs, gLen_dt, gLen_dl, gLen_fl, gLen_bl, gSl_t, gTup_fl, gTup_bl, gTup_dl, Bool.not_true, Bool.not_false, wB_ok', gInt_i, gm_is_int, gm_is_rule, gm_are_rules, gm_check_rule, gm_check_rules, gm_find_sides, gm_does_ring, gm_any_rings, gm_find_alarms, gm_find_still, gm_implies_rule, gm_implies, gm_history, gm_check_length, gm_go_on, gm_count_after, gm_count_quiet, gm_all_rows, gm_naive_implies, gm_naive_quiet, gm__law_drawn, gm__law_rules, gm__law_sides, gm__law_alarms, gm__law_rows, gm__law_badrules, gm__law_error, gm_law, h]
theorem is_rule_two (a b : PyData) : m_is_rule (.tuple [a, b]) = .ok (.dt (.bool false)) := by
  unfold m_is_rule
  have c3 : ∀ x y : PyData, gCmp .NotEq (.dt (.int ((([x, y] : List PyData).length : Nat) : Int))) (.dt (.int 3)) = .ok (.dt (.bool true)) := fun _ _ => by rw [ne_ii]; rfl
  simp only [bF_ok, bF_exc, rb_ok, rb_exc, slO_dt, slO_fl, slO_fd, slV_dd, slV_ol, slV_od, frz_dd, frz_ol, frz_od, toDs_c, toDs_n, tD_dt, tD_fl, pk_dt, pk_fl, pk_bl, pk_kc, pk_fd, pk_bd, isB_b, gTru_b, gTru_n, bc_t, bc_f, intK_i, datV_d, unp2_t, unp3_t, ownK_ol, ownK_od, ownK_dd, retW_dt, retW_fl, gB_add, gB_sub, gC_lt, gC_le, gC_gt, gC_ge, itV_t, itV_l, itV_f, itV_b, itV_ro, itV_rs, gLen_ro, gLen_rs, gLen_dt, gLen_dl, gLen_fl, gLen_bl, gSl_t, gTup_fl, gTup_bl, gTup_dl, Bool.not_true, Bool.not_false, wB_ok', gInt_i, gm_is_int, gm_is_rule, gm_are_rules, gm_check_rule, gm_check_rules, gm_find_sides, gm_does_ring, gm_any_rings, gm_find_alarms, gm_find_still, gm_implies_rule, gm_implies, gm_history, gm_check_length, gm_go_on, gm_count_after, gm_count_quiet, gm_all_rows, gm_naive_implies, gm_naive_quiet, gm__law_drawn, gm__law_rules, gm__law_sides, gm__law_alarms, gm__law_rows, gm__law_badrules, gm__law_error, gm_law, gIsi_tup_t, c3]
theorem is_rule_b (t : Bool) : m_is_rule (.tuple [.int 1, .int 1, .bool t]) = .ok (.dt (.bool false)) ∧ m_is_rule (.tuple [.bool t, .int 1, .int 1]) = .ok (.dt (.bool false)) := by
  have c3 : ∀ x y z : PyData, gCmp .NotEq (.dt (.int ((([x, y, z] : List PyData).length : Nat) : Int))) (.dt (.int 3)) = .ok (.dt (.bool false)) := fun _ _ _ => by rw [ne_ii]; rfl
  constructor
  · unfold m_is_rule
    simp only [bF_ok, bF_exc, rb_ok, rb_exc, slO_dt, slO_fl, slO_fd, slV_dd, slV_ol, slV_od, frz_dd, frz_ol, frz_od, toDs_c, toDs_n, tD_dt, tD_fl, pk_dt, pk_fl, pk_bl, pk_kc, pk_fd, pk_bd, isB_b, gTru_b, gTru_n, bc_t, bc_f, intK_i, datV_d, unp2_t, unp3_t, ownK_ol, ownK_od, ownK_dd, retW_dt, retW_fl, gB_add, gB_sub, gC_lt, gC_le, gC_gt, gC_ge, itV_t, itV_l, itV_f, itV_b, itV_ro, itV_rs, gLen_ro, gLen_rs, gLen_dt, gLen_dl, gLen_fl, gLen_bl, gSl_t, gTup_fl, gTup_bl, gTup_dl, Bool.not_true, Bool.not_false, wB_ok', gInt_i, gm_is_int, gm_is_rule, gm_are_rules, gm_check_rule, gm_check_rules, gm_find_sides, gm_does_ring, gm_any_rings, gm_find_alarms, gm_find_still, gm_implies_rule, gm_implies, gm_history, gm_check_length, gm_go_on, gm_count_after, gm_count_quiet, gm_all_rows, gm_naive_implies, gm_naive_quiet, gm__law_drawn, gm__law_rules, gm__law_sides, gm__law_alarms, gm__law_rows, gm__law_badrules, gm__law_error, gm_law, gIsi_tup_t, c3, gIx3_0, gIx3_1, gIx3_2, is_int_i, is_int_b]
    rfl
  · unfold m_is_rule
    simp only [bF_ok, bF_exc, rb_ok, rb_exc, slO_dt, slO_fl, slO_fd, slV_dd, slV_ol, slV_od, frz_dd, frz_ol, frz_od, toDs_c, toDs_n, tD_dt, tD_fl, pk_dt, pk_fl, pk_bl, pk_kc, pk_fd, pk_bd, isB_b, gTru_b, gTru_n, bc_t, bc_f, intK_i, datV_d, unp2_t, unp3_t, ownK_ol, ownK_od, ownK_dd, retW_dt, retW_fl, gB_add, gB_sub, gC_lt, gC_le, gC_gt, gC_ge, itV_t, itV_l, itV_f, itV_b, itV_ro, itV_rs, gLen_ro, gLen_rs, gLen_dt, gLen_dl, gLen_fl, gLen_bl, gSl_t, gTup_fl, gTup_bl, gTup_dl, Bool.not_true, Bool.not_false, wB_ok', gInt_i, gm_is_int, gm_is_rule, gm_are_rules, gm_check_rule, gm_check_rules, gm_find_sides, gm_does_ring, gm_any_rings, gm_find_alarms, gm_find_still, gm_implies_rule, gm_implies, gm_history, gm_check_length, gm_go_on, gm_count_after, gm_count_quiet, gm_all_rows, gm_naive_implies, gm_naive_quiet, gm__law_drawn, gm__law_rules, gm__law_sides, gm__law_alarms, gm__law_rows, gm__law_badrules, gm__law_error, gm_law, gIsi_tup_t, c3, gIx3_0, gIx3_1, gIx3_2, is_int_i, is_int_b]
    rfl
def rsB (qs : List RuT) : Bool := (decide (1 ≤ qs.length) && decide (qs.length ≤ 4)) && (qs.all ruB && (qs.zip (qs.drop 1)).all fun p => HT.lexLt (l3 p.1) (l3 p.2))
theorem are_rules_gen (qs : List RuT) (hq : qs.length ≤ 1000) : m_are_rules (rsD qs) = .ok (.dt (.bool (rsB qs))) := by
  unfold m_are_rules
  have tp : gIsi "tuple" (rsD qs) = .ok (.dt (.bool true)) := gIsi_tup_t _
  simp only [bF_ok, bF_exc, rb_ok, rb_exc, slO_dt, slO_fl, slO_fd, slV_dd, slV_ol, slV_od, frz_dd, frz_ol, frz_od, toDs_c, toDs_n, tD_dt, tD_fl, pk_dt, pk_fl, pk_bl, pk_kc, pk_fd, pk_bd, isB_b, gTru_b, gTru_n, bc_t, bc_f, intK_i, datV_d, unp2_t, unp3_t, ownK_ol, ownK_od, ownK_dd, retW_dt, retW_fl, gB_add, gB_sub, gC_lt, gC_le, gC_gt, gC_ge, itV_t, itV_l, itV_f, itV_b, itV_ro, itV_rs, gLen_ro, gLen_rs, gLen_dt, gLen_dl, gLen_fl, gLen_bl, gSl_t, gTup_fl, gTup_bl, gTup_dl, Bool.not_true, Bool.not_false, wB_ok', gInt_i, gm_is_int, gm_is_rule, gm_are_rules, gm_check_rule, gm_check_rules, gm_find_sides, gm_does_ring, gm_any_rings, gm_find_alarms, gm_find_still, gm_implies_rule, gm_implies, gm_history, gm_check_length, gm_go_on, gm_count_after, gm_count_quiet, gm_all_rows, gm_naive_implies, gm_naive_quiet, gm__law_drawn, gm__law_rules, gm__law_sides, gm__law_alarms, gm__law_rows, gm__law_badrules, gm__law_error, gm_law, tp]
  unfold rsB
  by_cases a : (1 : Int) ≤ (qs.length : Int)
  · by_cases b : (qs.length : Int) ≤ 4
    · simp only [bF_ok, bF_exc, rb_ok, rb_exc, slO_dt, slO_fl, slO_fd, slV_dd, slV_ol, slV_od, frz_dd, frz_ol, frz_od, toDs_c, toDs_n, tD_dt, tD_fl, pk_dt, pk_fl, pk_bl, pk_kc, pk_fd, pk_bd, isB_b, gTru_b, gTru_n, bc_t, bc_f, intK_i, datV_d, unp2_t, unp3_t, ownK_ol, ownK_od, ownK_dd, retW_dt, retW_fl, gB_add, gB_sub, gC_lt, gC_le, gC_gt, gC_ge, itV_t, itV_l, itV_f, itV_b, itV_ro, itV_rs, gLen_ro, gLen_rs, gLen_dt, gLen_dl, gLen_fl, gLen_bl, gSl_t, gTup_fl, gTup_bl, gTup_dl, Bool.not_true, Bool.not_false, wB_ok', gInt_i, gm_is_int, gm_is_rule, gm_are_rules, gm_check_rule, gm_check_rules, gm_find_sides, gm_does_ring, gm_any_rings, gm_find_alarms, gm_find_still, gm_implies_rule, gm_implies, gm_history, gm_check_length, gm_go_on, gm_count_after, gm_count_quiet, gm_all_rows, gm_naive_implies, gm_naive_quiet, gm__law_drawn, gm__law_rules, gm__law_sides, gm__law_alarms, gm__law_rows, gm__law_badrules, gm__law_error, gm_law, decide_eq_true a, decide_eq_true b, Bool.not_true]
      rw [lcL_map ruD (fun q => .bool (ruB q)) qs fun q hq => by simp only [bF_ok, bF_exc, rb_ok, rb_exc, slO_dt, slO_fl, slO_fd, slV_dd, slV_ol, slV_od, frz_dd, frz_ol, frz_od, toDs_c, toDs_n, tD_dt, tD_fl, pk_dt, pk_fl, pk_bl, pk_kc, pk_fd, pk_bd, isB_b, gTru_b, gTru_n, bc_t, bc_f, intK_i, datV_d, unp2_t, unp3_t, ownK_ol, ownK_od, ownK_dd, retW_dt, retW_fl, gB_add, gB_sub, gC_lt, gC_le, gC_gt, gC_ge, itV_t, itV_l, itV_f, itV_b, itV_ro, itV_rs, gLen_ro, gLen_rs, gLen_dt, gLen_dl, gLen_fl, gLen_bl, gSl_t, gTup_fl, gTup_bl, gTup_dl, Bool.not_true, Bool.not_false, wB_ok', gInt_i, gm_is_int, gm_is_rule, gm_are_rules, gm_check_rule, gm_check_rules, gm_find_sides, gm_does_ring, gm_any_rings, gm_find_alarms, gm_find_still, gm_implies_rule, gm_implies, gm_history, gm_check_length, gm_go_on, gm_count_after, gm_count_quiet, gm_all_rows, gm_naive_implies, gm_naive_quiet, gm__law_drawn, gm__law_rules, gm__law_sides, gm__law_alarms, gm__law_rows, gm__law_badrules, gm__law_error, gm_law, is_rule_gen]]
      simp only [bF_ok, bF_exc, rb_ok, rb_exc, slO_dt, slO_fl, slO_fd, slV_dd, slV_ol, slV_od, frz_dd, frz_ol, frz_od, toDs_c, toDs_n, tD_dt, tD_fl, pk_dt, pk_fl, pk_bl, pk_kc, pk_fd, pk_bd, isB_b, gTru_b, gTru_n, bc_t, bc_f, intK_i, datV_d, unp2_t, unp3_t, ownK_ol, ownK_od, ownK_dd, retW_dt, retW_fl, gB_add, gB_sub, gC_lt, gC_le, gC_gt, gC_ge, itV_t, itV_l, itV_f, itV_b, itV_ro, itV_rs, gLen_ro, gLen_rs, gLen_dt, gLen_dl, gLen_fl, gLen_bl, gSl_t, gTup_fl, gTup_bl, gTup_dl, Bool.not_true, Bool.not_false, wB_ok', gInt_i, gm_is_int, gm_is_rule, gm_are_rules, gm_check_rule, gm_check_rules, gm_find_sides, gm_does_ring, gm_any_rings, gm_find_alarms, gm_find_still, gm_implies_rule, gm_implies, gm_history, gm_check_length, gm_go_on, gm_count_after, gm_count_quiet, gm_all_rows, gm_naive_implies, gm_naive_quiet, gm__law_drawn, gm__law_rules, gm__law_sides, gm__law_alarms, gm__law_rows, gm__law_badrules, gm__law_error, gm_law, List.length_map]
      rw [if_pos (by omega), gAll_fl (bs := qs.map ruB) (by rw [List.map_map]; rfl)]
      have n1 : decide (1 ≤ qs.length) = true := decide_eq_true (by omega)
      have n4 : decide (qs.length ≤ 4) = true := decide_eq_true (by omega)
      have e : (qs.map ruB).all id = qs.all ruB := by rw [List.all_map]; rfl
      have s1 : gSl (.dt (rsD qs)) (some 1) none = .ok (.dt (.tuple ((qs.drop 1).map ruD))) := by
        unfold rsD
        rw [gSl_t, cut_from _ (by decide), List.map_drop]
        rfl
      have z1 : zpE false (.dt (rsD qs)) (.dt (.tuple ((qs.drop 1).map ruD))) = .ok ((qs.zip (qs.drop 1)).map fun p => PyData.tuple [ruD p.1, ruD p.2]) := by
        unfold rsD
        rw [zpE_t, zipD_ru]
      simp only [bF_ok, bF_exc, rb_ok, rb_exc, slO_dt, slO_fl, slO_fd, slV_dd, slV_ol, slV_od, frz_dd, frz_ol, frz_od, toDs_c, toDs_n, tD_dt, tD_fl, pk_dt, pk_fl, pk_bl, pk_kc, pk_fd, pk_bd, isB_b, gTru_b, gTru_n, bc_t, bc_f, intK_i, datV_d, unp2_t, unp3_t, ownK_ol, ownK_od, ownK_dd, retW_dt, retW_fl, gB_add, gB_sub, gC_lt, gC_le, gC_gt, gC_ge, itV_t, itV_l, itV_f, itV_b, itV_ro, itV_rs, gLen_ro, gLen_rs, gLen_dt, gLen_dl, gLen_fl, gLen_bl, gSl_t, gTup_fl, gTup_bl, gTup_dl, Bool.not_true, Bool.not_false, wB_ok', gInt_i, gm_is_int, gm_is_rule, gm_are_rules, gm_check_rule, gm_check_rules, gm_find_sides, gm_does_ring, gm_any_rings, gm_find_alarms, gm_find_still, gm_implies_rule, gm_implies, gm_history, gm_check_length, gm_go_on, gm_count_after, gm_count_quiet, gm_all_rows, gm_naive_implies, gm_naive_quiet, gm__law_drawn, gm__law_rules, gm__law_sides, gm__law_alarms, gm__law_rows, gm__law_badrules, gm__law_error, gm_law, e, gTru_b, n1, n4, s1, z1]
      cases qs.all ruB with
      | false => rfl
      | true =>
        simp only [bF_ok, bF_exc, rb_ok, rb_exc, slO_dt, slO_fl, slO_fd, slV_dd, slV_ol, slV_od, frz_dd, frz_ol, frz_od, toDs_c, toDs_n, tD_dt, tD_fl, pk_dt, pk_fl, pk_bl, pk_kc, pk_fd, pk_bd, isB_b, gTru_b, gTru_n, bc_t, bc_f, intK_i, datV_d, unp2_t, unp3_t, ownK_ol, ownK_od, ownK_dd, retW_dt, retW_fl, gB_add, gB_sub, gC_lt, gC_le, gC_gt, gC_ge, itV_t, itV_l, itV_f, itV_b, itV_ro, itV_rs, gLen_ro, gLen_rs, gLen_dt, gLen_dl, gLen_fl, gLen_bl, gSl_t, gTup_fl, gTup_bl, gTup_dl, Bool.not_true, Bool.not_false, wB_ok', gInt_i, gm_is_int, gm_is_rule, gm_are_rules, gm_check_rule, gm_check_rules, gm_find_sides, gm_does_ring, gm_any_rings, gm_find_alarms, gm_find_still, gm_implies_rule, gm_implies, gm_history, gm_check_length, gm_go_on, gm_count_after, gm_count_quiet, gm_all_rows, gm_naive_implies, gm_naive_quiet, gm__law_drawn, gm__law_rules, gm__law_sides, gm__law_alarms, gm__law_rows, gm__law_badrules, gm__law_error, gm_law, Bool.not_true, Bool.true_and]
        rw [lcL_map (fun p : RuT × RuT => PyData.tuple [ruD p.1, ruD p.2]) (fun p => .bool (HT.lexLt (l3 p.1) (l3 p.2))) (qs.zip (qs.drop 1)) fun p hp => by simp only [bF_ok, bF_exc, rb_ok, rb_exc, slO_dt, slO_fl, slO_fd, slV_dd, slV_ol, slV_od, frz_dd, frz_ol, frz_od, toDs_c, toDs_n, tD_dt, tD_fl, pk_dt, pk_fl, pk_bl, pk_kc, pk_fd, pk_bd, isB_b, gTru_b, gTru_n, bc_t, bc_f, intK_i, datV_d, unp2_t, unp3_t, ownK_ol, ownK_od, ownK_dd, retW_dt, retW_fl, gB_add, gB_sub, gC_lt, gC_le, gC_gt, gC_ge, itV_t, itV_l, itV_f, itV_b, itV_ro, itV_rs, gLen_ro, gLen_rs, gLen_dt, gLen_dl, gLen_fl, gLen_bl, gSl_t, gTup_fl, gTup_bl, gTup_dl, Bool.not_true, Bool.not_false, wB_ok', gInt_i, gm_is_int, gm_is_rule, gm_are_rules, gm_check_rule, gm_check_rules, gm_find_sides, gm_does_ring, gm_any_rings, gm_find_alarms, gm_find_still, gm_implies_rule, gm_implies, gm_history, gm_check_length, gm_go_on, gm_count_after, gm_count_quiet, gm_all_rows, gm_naive_implies, gm_naive_quiet, gm__law_drawn, gm__law_rules, gm__law_sides, gm__law_alarms, gm__law_rows, gm__law_badrules, gm__law_error, gm_law, gC_lt_ru]]
        have hz : (qs.zip (qs.drop 1)).length ≤ qs.length := by rw [List.length_zip]; omega
        simp only [bF_ok, bF_exc, rb_ok, rb_exc, slO_dt, slO_fl, slO_fd, slV_dd, slV_ol, slV_od, frz_dd, frz_ol, frz_od, toDs_c, toDs_n, tD_dt, tD_fl, pk_dt, pk_fl, pk_bl, pk_kc, pk_fd, pk_bd, isB_b, gTru_b, gTru_n, bc_t, bc_f, intK_i, datV_d, unp2_t, unp3_t, ownK_ol, ownK_od, ownK_dd, retW_dt, retW_fl, gB_add, gB_sub, gC_lt, gC_le, gC_gt, gC_ge, itV_t, itV_l, itV_f, itV_b, itV_ro, itV_rs, gLen_ro, gLen_rs, gLen_dt, gLen_dl, gLen_fl, gLen_bl, gSl_t, gTup_fl, gTup_bl, gTup_dl, Bool.not_true, Bool.not_false, wB_ok', gInt_i, gm_is_int, gm_is_rule, gm_are_rules, gm_check_rule, gm_check_rules, gm_find_sides, gm_does_ring, gm_any_rings, gm_find_alarms, gm_find_still, gm_implies_rule, gm_implies, gm_history, gm_check_length, gm_go_on, gm_count_after, gm_count_quiet, gm_all_rows, gm_naive_implies, gm_naive_quiet, gm__law_drawn, gm__law_rules, gm__law_sides, gm__law_alarms, gm__law_rows, gm__law_badrules, gm__law_error, gm_law, List.length_map]
        rw [if_pos (by omega), gAll_fl (bs := (qs.zip (qs.drop 1)).map fun p => HT.lexLt (l3 p.1) (l3 p.2)) (by rw [List.map_map]; rfl)]
        simp only [bF_ok, bF_exc, rb_ok, rb_exc, slO_dt, slO_fl, slO_fd, slV_dd, slV_ol, slV_od, frz_dd, frz_ol, frz_od, toDs_c, toDs_n, tD_dt, tD_fl, pk_dt, pk_fl, pk_bl, pk_kc, pk_fd, pk_bd, isB_b, gTru_b, gTru_n, bc_t, bc_f, intK_i, datV_d, unp2_t, unp3_t, ownK_ol, ownK_od, ownK_dd, retW_dt, retW_fl, gB_add, gB_sub, gC_lt, gC_le, gC_gt, gC_ge, itV_t, itV_l, itV_f, itV_b, itV_ro, itV_rs, gLen_ro, gLen_rs, gLen_dt, gLen_dl, gLen_fl, gLen_bl, gSl_t, gTup_fl, gTup_bl, gTup_dl, Bool.not_true, Bool.not_false, wB_ok', gInt_i, gm_is_int, gm_is_rule, gm_are_rules, gm_check_rule, gm_check_rules, gm_find_sides, gm_does_ring, gm_any_rings, gm_find_alarms, gm_find_still, gm_implies_rule, gm_implies, gm_history, gm_check_length, gm_go_on, gm_count_after, gm_count_quiet, gm_all_rows, gm_naive_implies, gm_naive_quiet, gm__law_drawn, gm__law_rules, gm__law_sides, gm__law_alarms, gm__law_rows, gm__law_badrules, gm__law_error, gm_law, List.all_map]
        rfl
    · have n4 : decide (qs.length ≤ 4) = false := decide_eq_false (by omega)
      simp only [bF_ok, bF_exc, rb_ok, rb_exc, slO_dt, slO_fl, slO_fd, slV_dd, slV_ol, slV_od, frz_dd, frz_ol, frz_od, toDs_c, toDs_n, tD_dt, tD_fl, pk_dt, pk_fl, pk_bl, pk_kc, pk_fd, pk_bd, isB_b, gTru_b, gTru_n, bc_t, bc_f, intK_i, datV_d, unp2_t, unp3_t, ownK_ol, ownK_od, ownK_dd, retW_dt, retW_fl, gB_add, gB_sub, gC_lt, gC_le, gC_gt, gC_ge, itV_t, itV_l, itV_f, itV_b, itV_ro, itV_rs, gLen_ro, gLen_rs, gLen_dt, gLen_dl, gLen_fl, gLen_bl, gSl_t, gTup_fl, gTup_bl, gTup_dl, Bool.not_true, Bool.not_false, wB_ok', gInt_i, gm_is_int, gm_is_rule, gm_are_rules, gm_check_rule, gm_check_rules, gm_find_sides, gm_does_ring, gm_any_rings, gm_find_alarms, gm_find_still, gm_implies_rule, gm_implies, gm_history, gm_check_length, gm_go_on, gm_count_after, gm_count_quiet, gm_all_rows, gm_naive_implies, gm_naive_quiet, gm__law_drawn, gm__law_rules, gm__law_sides, gm__law_alarms, gm__law_rows, gm__law_badrules, gm__law_error, gm_law, decide_eq_true a, decide_eq_false b, n4]
      simp
  · have n1 : decide (1 ≤ qs.length) = false := decide_eq_false (by omega)
    simp only [bF_ok, bF_exc, rb_ok, rb_exc, slO_dt, slO_fl, slO_fd, slV_dd, slV_ol, slV_od, frz_dd, frz_ol, frz_od, toDs_c, toDs_n, tD_dt, tD_fl, pk_dt, pk_fl, pk_bl, pk_kc, pk_fd, pk_bd, isB_b, gTru_b, gTru_n, bc_t, bc_f, intK_i, datV_d, unp2_t, unp3_t, ownK_ol, ownK_od, ownK_dd, retW_dt, retW_fl, gB_add, gB_sub, gC_lt, gC_le, gC_gt, gC_ge, itV_t, itV_l, itV_f, itV_b, itV_ro, itV_rs, gLen_ro, gLen_rs, gLen_dt, gLen_dl, gLen_fl, gLen_bl, gSl_t, gTup_fl, gTup_bl, gTup_dl, Bool.not_true, Bool.not_false, wB_ok', gInt_i, gm_is_int, gm_is_rule, gm_are_rules, gm_check_rule, gm_check_rules, gm_find_sides, gm_does_ring, gm_any_rings, gm_find_alarms, gm_find_still, gm_implies_rule, gm_implies, gm_history, gm_check_length, gm_go_on, gm_count_after, gm_count_quiet, gm_all_rows, gm_naive_implies, gm_naive_quiet, gm__law_drawn, gm__law_rules, gm__law_sides, gm__law_alarms, gm__law_rows, gm__law_badrules, gm__law_error, gm_law, decide_eq_false a, n1]
    simp
theorem are_rules_no {d : PyData} (h : gIsi "tuple" d = .ok (.dt (.bool false))) : m_are_rules d = .ok (.dt (.bool false)) := by
  unfold m_are_rules
  simp only [bF_ok, bF_exc, rb_ok, rb_exc, slO_dt, slO_fl, slO_fd, slV_dd, slV_ol, slV_od, frz_dd, frz_ol, frz_od, toDs_c, toDs_n, tD_dt, tD_fl, pk_dt, pk_fl, pk_bl, pk_kc, pk_fd, pk_bd, isB_b, gTru_b, gTru_n, bc_t, bc_f, intK_i, datV_d, unp2_t, unp3_t, ownK_ol, ownK_od, ownK_dd, retW_dt, retW_fl, gB_add, gB_sub, gC_lt, gC_le, gC_gt, gC_ge, itV_t, itV_l, itV_f, itV_b, itV_ro, itV_rs, gLen_ro, gLen_rs, gLen_dt, gLen_dl, gLen_fl, gLen_bl, gSl_t, gTup_fl, gTup_bl, gTup_dl, Bool.not_true, Bool.not_false, wB_ok', gInt_i, gm_is_int, gm_is_rule, gm_are_rules, gm_check_rule, gm_check_rules, gm_find_sides, gm_does_ring, gm_any_rings, gm_find_alarms, gm_find_still, gm_implies_rule, gm_implies, gm_history, gm_check_length, gm_go_on, gm_count_after, gm_count_quiet, gm_all_rows, gm_naive_implies, gm_naive_quiet, gm__law_drawn, gm__law_rules, gm__law_sides, gm__law_alarms, gm__law_rows, gm__law_badrules, gm__law_error, gm_law, h]
theorem are_rules_all (xs : List PyData) (h1 : 1 ≤ xs.length) (h4 : xs.length ≤ 4) (h : ∀ d ∈ xs, m_is_rule d = .ok (.dt (.bool false))) : m_are_rules (.tuple xs) = .ok (.dt (.bool false)) := by
  unfold m_are_rules
  simp only [bF_ok, bF_exc, rb_ok, rb_exc, slO_dt, slO_fl, slO_fd, slV_dd, slV_ol, slV_od, frz_dd, frz_ol, frz_od, toDs_c, toDs_n, tD_dt, tD_fl, pk_dt, pk_fl, pk_bl, pk_kc, pk_fd, pk_bd, isB_b, gTru_b, gTru_n, bc_t, bc_f, intK_i, datV_d, unp2_t, unp3_t, ownK_ol, ownK_od, ownK_dd, retW_dt, retW_fl, gB_add, gB_sub, gC_lt, gC_le, gC_gt, gC_ge, itV_t, itV_l, itV_f, itV_b, itV_ro, itV_rs, gLen_ro, gLen_rs, gLen_dt, gLen_dl, gLen_fl, gLen_bl, gSl_t, gTup_fl, gTup_bl, gTup_dl, Bool.not_true, Bool.not_false, wB_ok', gInt_i, gm_is_int, gm_is_rule, gm_are_rules, gm_check_rule, gm_check_rules, gm_find_sides, gm_does_ring, gm_any_rings, gm_find_alarms, gm_find_still, gm_implies_rule, gm_implies, gm_history, gm_check_length, gm_go_on, gm_count_after, gm_count_quiet, gm_all_rows, gm_naive_implies, gm_naive_quiet, gm__law_drawn, gm__law_rules, gm__law_sides, gm__law_alarms, gm__law_rows, gm__law_badrules, gm__law_error, gm_law, gIsi_tup_t, decide_eq_true (show (1 : Int) ≤ (xs.length : Int) by omega), decide_eq_true (show (xs.length : Int) ≤ 4 by omega), Bool.not_true]
  have e := lcL_map (f := fun x1 => wB ((m_is_rule x1).bF fun w5 => w5.toD.bF fun d1 => .ok (some d1))) (fun d : PyData => d) (fun _ => .bool false) xs fun d hd => by simp only [bF_ok, bF_exc, rb_ok, rb_exc, slO_dt, slO_fl, slO_fd, slV_dd, slV_ol, slV_od, frz_dd, frz_ol, frz_od, toDs_c, toDs_n, tD_dt, tD_fl, pk_dt, pk_fl, pk_bl, pk_kc, pk_fd, pk_bd, isB_b, gTru_b, gTru_n, bc_t, bc_f, intK_i, datV_d, unp2_t, unp3_t, ownK_ol, ownK_od, ownK_dd, retW_dt, retW_fl, gB_add, gB_sub, gC_lt, gC_le, gC_gt, gC_ge, itV_t, itV_l, itV_f, itV_b, itV_ro, itV_rs, gLen_ro, gLen_rs, gLen_dt, gLen_dl, gLen_fl, gLen_bl, gSl_t, gTup_fl, gTup_bl, gTup_dl, Bool.not_true, Bool.not_false, wB_ok', gInt_i, gm_is_int, gm_is_rule, gm_are_rules, gm_check_rule, gm_check_rules, gm_find_sides, gm_does_ring, gm_any_rings, gm_find_alarms, gm_find_still, gm_implies_rule, gm_implies, gm_history, gm_check_length, gm_go_on, gm_count_after, gm_count_quiet, gm_all_rows, gm_naive_implies, gm_naive_quiet, gm__law_drawn, gm__law_rules, gm__law_sides, gm__law_alarms, gm__law_rows, gm__law_badrules, gm__law_error, gm_law, h d hd]
  rw [List.map_id'] at e
  rw [e]
  simp only [bF_ok, bF_exc, rb_ok, rb_exc, slO_dt, slO_fl, slO_fd, slV_dd, slV_ol, slV_od, frz_dd, frz_ol, frz_od, toDs_c, toDs_n, tD_dt, tD_fl, pk_dt, pk_fl, pk_bl, pk_kc, pk_fd, pk_bd, isB_b, gTru_b, gTru_n, bc_t, bc_f, intK_i, datV_d, unp2_t, unp3_t, ownK_ol, ownK_od, ownK_dd, retW_dt, retW_fl, gB_add, gB_sub, gC_lt, gC_le, gC_gt, gC_ge, itV_t, itV_l, itV_f, itV_b, itV_ro, itV_rs, gLen_ro, gLen_rs, gLen_dt, gLen_dl, gLen_fl, gLen_bl, gSl_t, gTup_fl, gTup_bl, gTup_dl, Bool.not_true, Bool.not_false, wB_ok', gInt_i, gm_is_int, gm_is_rule, gm_are_rules, gm_check_rule, gm_check_rules, gm_find_sides, gm_does_ring, gm_any_rings, gm_find_alarms, gm_find_still, gm_implies_rule, gm_implies, gm_history, gm_check_length, gm_go_on, gm_count_after, gm_count_quiet, gm_all_rows, gm_naive_implies, gm_naive_quiet, gm__law_drawn, gm__law_rules, gm__law_sides, gm__law_alarms, gm__law_rows, gm__law_badrules, gm__law_error, gm_law, List.length_map]
  rw [if_pos (by omega), gAll_fl (bs := xs.map fun _ => false) (by rw [List.map_map]; rfl)]
  have : (xs.map fun _ => false).all id = false := by
    cases xs with
    | nil => cases h1
    | cons a l => rfl
  simp only [bF_ok, bF_exc, rb_ok, rb_exc, slO_dt, slO_fl, slO_fd, slV_dd, slV_ol, slV_od, frz_dd, frz_ol, frz_od, toDs_c, toDs_n, tD_dt, tD_fl, pk_dt, pk_fl, pk_bl, pk_kc, pk_fd, pk_bd, isB_b, gTru_b, gTru_n, bc_t, bc_f, intK_i, datV_d, unp2_t, unp3_t, ownK_ol, ownK_od, ownK_dd, retW_dt, retW_fl, gB_add, gB_sub, gC_lt, gC_le, gC_gt, gC_ge, itV_t, itV_l, itV_f, itV_b, itV_ro, itV_rs, gLen_ro, gLen_rs, gLen_dt, gLen_dl, gLen_fl, gLen_bl, gSl_t, gTup_fl, gTup_bl, gTup_dl, Bool.not_true, Bool.not_false, wB_ok', gInt_i, gm_is_int, gm_is_rule, gm_are_rules, gm_check_rule, gm_check_rules, gm_find_sides, gm_does_ring, gm_any_rings, gm_find_alarms, gm_find_still, gm_implies_rule, gm_implies, gm_history, gm_check_length, gm_go_on, gm_count_after, gm_count_quiet, gm_all_rows, gm_naive_implies, gm_naive_quiet, gm__law_drawn, gm__law_rules, gm__law_sides, gm__law_alarms, gm__law_rows, gm__law_badrules, gm__law_error, gm_law, this]
def badL : List PyData := [.none, rsD [], .tuple ([1, 1, 3].map .int), .list [ruD (1, 1, 3)], rsD [(2, 1, 3)], rsD [(1, 5, 3)], rsD [(1, 1, 4)], rsD [(0, 1, 3)], rsD [(2, 3, 2), (1, 1, 3)], rsD [(1, 1, 3), (1, 1, 3)], .tuple [.tuple [.int 1, .int 1, .bool true]],
  rsD [(1, 1, 1), (1, 1, 2), (1, 1, 3), (1, 2, 1), (1, 2, 2)], .tuple [.tuple [.int 1, .int 1]]]
theorem check_rules_bad {d : PyData} (h : d ∈ badL) : m_check_rules d = .exc "InvalidRules" := by
  have key : m_are_rules d = .ok (.dt (.bool false)) := by
    unfold badL at h
    simp only [gm_is_int, gm_is_rule, gm_are_rules, gm_check_rule, gm_check_rules, gm_find_sides, gm_does_ring, gm_any_rings, gm_find_alarms, gm_find_still, gm_implies_rule, gm_implies, gm_history, gm_check_length, gm_go_on, gm_count_after, gm_count_quiet, gm_all_rows, gm_naive_implies, gm_naive_quiet, gm__law_drawn, gm__law_rules, gm__law_sides, gm__law_alarms, gm__law_rows, gm__law_badrules, gm__law_error, gm_law, List.mem_cons, List.not_mem_nil, or_false] at h
    rcases h with h | h | h | h | h | h | h | h | h | h | h | h | h <;> subst h
    · exact are_rules_no isi_t_n
    · exact are_rules_gen [] (by decide)
    · exact are_rules_all _ (by decide) (by decide) fun d hd => by
        obtain ⟨i, _, rfl⟩ := List.mem_map.mp hd
        exact is_rule_no (isi_t_i i)
    · exact are_rules_no (isi_t_l _)
    · rw [are_rules_gen _ (by decide), show rsB [(2, 1, 3)] = false from by decide]
    · rw [are_rules_gen _ (by decide), show rsB [(1, 5, 3)] = false from by decide]
    · rw [are_rules_gen _ (by decide), show rsB [(1, 1, 4)] = false from by decide]
    · rw [are_rules_gen _ (by decide), show rsB [(0, 1, 3)] = false from by decide]
    · rw [are_rules_gen _ (by decide), show rsB [(2, 3, 2), (1, 1, 3)] = false from by decide]
    · rw [are_rules_gen _ (by decide), show rsB [(1, 1, 3), (1, 1, 3)] = false from by decide]
    · exact are_rules_all _ (by decide) (by decide) fun d hd => by
        rw [List.mem_singleton.mp hd]
        exact (is_rule_b true).1
    · rw [are_rules_gen _ (by decide), show rsB [(1, 1, 1), (1, 1, 2), (1, 1, 3), (1, 2, 1), (1, 2, 2)] = false from by decide]
    · exact are_rules_all _ (by decide) (by decide) fun d hd => by
        rw [List.mem_singleton.mp hd]
        exact is_rule_two _ _
  unfold m_check_rules
  simp only [bF_ok, bF_exc, rb_ok, rb_exc, slO_dt, slO_fl, slO_fd, slV_dd, slV_ol, slV_od, frz_dd, frz_ol, frz_od, toDs_c, toDs_n, tD_dt, tD_fl, pk_dt, pk_fl, pk_bl, pk_kc, pk_fd, pk_bd, isB_b, gTru_b, gTru_n, bc_t, bc_f, intK_i, datV_d, unp2_t, unp3_t, ownK_ol, ownK_od, ownK_dd, retW_dt, retW_fl, gB_add, gB_sub, gC_lt, gC_le, gC_gt, gC_ge, itV_t, itV_l, itV_f, itV_b, itV_ro, itV_rs, gLen_ro, gLen_rs, gLen_dt, gLen_dl, gLen_fl, gLen_bl, gSl_t, gTup_fl, gTup_bl, gTup_dl, Bool.not_true, Bool.not_false, wB_ok', gInt_i, gm_is_int, gm_is_rule, gm_are_rules, gm_check_rule, gm_check_rules, gm_find_sides, gm_does_ring, gm_any_rings, gm_find_alarms, gm_find_still, gm_implies_rule, gm_implies, gm_history, gm_check_length, gm_go_on, gm_count_after, gm_count_quiet, gm_all_rows, gm_naive_implies, gm_naive_quiet, gm__law_drawn, gm__law_rules, gm__law_sides, gm__law_alarms, gm__law_rows, gm__law_badrules, gm__law_error, gm_law, key]
theorem badrules_ok {ns : List Int} (S : Scr ns) {a : Int} (h0 : 0 ≤ a) (h1 : a < 90000) : ∃ d ∈ badL, m__law_badrules (scD ns) (.int a) = .ok (.dt d) := by
  obtain ⟨j, j0, j1, ej⟩ := drawn_ok S h0 h1 (show (0 : Int) < 13 by decide)
  obtain ⟨j, rfl⟩ := Int.eq_ofNat_of_zero_le j0
  have hj : j < badL.length := by
    have : badL.length = 13 := rfl
    omega
  have ei : gIxV (.bl badL) (.dt (.int (j : Int))) = .ok (.dt badL[j]) := gIx_bl (by rw [atI_nat]; exact List.getElem?_eq_getElem hj)
  refine ⟨badL[j], List.getElem_mem hj, ?_⟩
  unfold m__law_badrules
  have a1 : ∀ xs ys : List PyData, xs.length ≤ 100 → ys.length ≤ 100 → gBin .Add (.bl xs) (.fl ys) = .ok (.fl (xs ++ ys)) := fun xs ys hx hy => by
    show (if _ then R.ok (Vw.fl (xs ++ ys)) else .stk) = _
    rw [if_pos (by omega)]
  rw [a1 _ _ (by decide) (by decide)]
  simp only [bF_ok, bF_exc, rb_ok, rb_exc, slO_dt, slO_fl, slO_fd, slV_dd, slV_ol, slV_od, frz_dd, frz_ol, frz_od, toDs_c, toDs_n, tD_dt, tD_fl, pk_dt, pk_fl, pk_bl, pk_kc, pk_fd, pk_bd, isB_b, gTru_b, gTru_n, bc_t, bc_f, intK_i, datV_d, unp2_t, unp3_t, ownK_ol, ownK_od, ownK_dd, retW_dt, retW_fl, gB_add, gB_sub, gC_lt, gC_le, gC_gt, gC_ge, itV_t, itV_l, itV_f, itV_b, itV_ro, itV_rs, gLen_ro, gLen_rs, gLen_dt, gLen_dl, gLen_fl, gLen_bl, gSl_t, gTup_fl, gTup_bl, gTup_dl, Bool.not_true, Bool.not_false, wB_ok', gInt_i, gm_is_int, gm_is_rule, gm_are_rules, gm_check_rule, gm_check_rules, gm_find_sides, gm_does_ring, gm_any_rings, gm_find_alarms, gm_find_still, gm_implies_rule, gm_implies, gm_history, gm_check_length, gm_go_on, gm_count_after, gm_count_quiet, gm_all_rows, gm_naive_implies, gm_naive_quiet, gm__law_drawn, gm__law_rules, gm__law_sides, gm__law_alarms, gm__law_rows, gm__law_badrules, gm__law_error, gm_law, bF_ok]
  rw [a1 _ _ (by decide) (by decide)]
  simp only [bF_ok, bF_exc, rb_ok, rb_exc, slO_dt, slO_fl, slO_fd, slV_dd, slV_ol, slV_od, frz_dd, frz_ol, frz_od, toDs_c, toDs_n, tD_dt, tD_fl, pk_dt, pk_fl, pk_bl, pk_kc, pk_fd, pk_bd, isB_b, gTru_b, gTru_n, bc_t, bc_f, intK_i, datV_d, unp2_t, unp3_t, ownK_ol, ownK_od, ownK_dd, retW_dt, retW_fl, gB_add, gB_sub, gC_lt, gC_le, gC_gt, gC_ge, itV_t, itV_l, itV_f, itV_b, itV_ro, itV_rs, gLen_ro, gLen_rs, gLen_dt, gLen_dl, gLen_fl, gLen_bl, gSl_t, gTup_fl, gTup_bl, gTup_dl, Bool.not_true, Bool.not_false, wB_ok', gInt_i, gm_is_int, gm_is_rule, gm_are_rules, gm_check_rule, gm_check_rules, gm_find_sides, gm_does_ring, gm_any_rings, gm_find_alarms, gm_find_still, gm_implies_rule, gm_implies, gm_history, gm_check_length, gm_go_on, gm_count_after, gm_count_quiet, gm_all_rows, gm_naive_implies, gm_naive_quiet, gm__law_drawn, gm__law_rules, gm__law_sides, gm__law_alarms, gm__law_rows, gm__law_badrules, gm__law_error, gm_law, bF_ok]
  rw [a1 _ _ (by decide) (by decide)]
  simp only [bF_ok, bF_exc, rb_ok, rb_exc, slO_dt, slO_fl, slO_fd, slV_dd, slV_ol, slV_od, frz_dd, frz_ol, frz_od, toDs_c, toDs_n, tD_dt, tD_fl, pk_dt, pk_fl, pk_bl, pk_kc, pk_fd, pk_bd, isB_b, gTru_b, gTru_n, bc_t, bc_f, intK_i, datV_d, unp2_t, unp3_t, ownK_ol, ownK_od, ownK_dd, retW_dt, retW_fl, gB_add, gB_sub, gC_lt, gC_le, gC_gt, gC_ge, itV_t, itV_l, itV_f, itV_b, itV_ro, itV_rs, gLen_ro, gLen_rs, gLen_dt, gLen_dl, gLen_fl, gLen_bl, gSl_t, gTup_fl, gTup_bl, gTup_dl, Bool.not_true, Bool.not_false, wB_ok', gInt_i, gm_is_int, gm_is_rule, gm_are_rules, gm_check_rule, gm_check_rules, gm_find_sides, gm_does_ring, gm_any_rings, gm_find_alarms, gm_find_still, gm_implies_rule, gm_implies, gm_history, gm_check_length, gm_go_on, gm_count_after, gm_count_quiet, gm_all_rows, gm_naive_implies, gm_naive_quiet, gm__law_drawn, gm__law_rules, gm__law_sides, gm__law_alarms, gm__law_rows, gm__law_badrules, gm__law_error, gm_law, ej]
  show ((gIxV (.bl badL) (.dt (.int (j : Int)))).bF fun w8 => retW w8) = _
  rw [ei]
  rfl
def badN : List PyData := [.none, .int (-1), .int 31, .bool true, .str "5"]
theorem check_length_bad {d : PyData} (h : d ∈ badN) : m_check_length d = .exc "InvalidLength" := by
  have key : m_is_int d (.int 0) (.int 30) = .ok (.dt (.bool false)) := by
    unfold badN at h
    simp only [gm_is_int, gm_is_rule, gm_are_rules, gm_check_rule, gm_check_rules, gm_find_sides, gm_does_ring, gm_any_rings, gm_find_alarms, gm_find_still, gm_implies_rule, gm_implies, gm_history, gm_check_length, gm_go_on, gm_count_after, gm_count_quiet, gm_all_rows, gm_naive_implies, gm_naive_quiet, gm__law_drawn, gm__law_rules, gm__law_sides, gm__law_alarms, gm__law_rows, gm__law_badrules, gm__law_error, gm_law, List.mem_cons, List.not_mem_nil, or_false] at h
    rcases h with h | h | h | h | h <;> subst h
    · exact is_int_no isi_i_n _ _
    · rw [is_int_i]; rfl
    · rw [is_int_i]; rfl
    · exact is_int_b true _ _
    · exact is_int_no (isi_i_s _) _ _
  unfold m_check_length
  simp only [bF_ok, bF_exc, rb_ok, rb_exc, slO_dt, slO_fl, slO_fd, slV_dd, slV_ol, slV_od, frz_dd, frz_ol, frz_od, toDs_c, toDs_n, tD_dt, tD_fl, pk_dt, pk_fl, pk_bl, pk_kc, pk_fd, pk_bd, isB_b, gTru_b, gTru_n, bc_t, bc_f, intK_i, datV_d, unp2_t, unp3_t, ownK_ol, ownK_od, ownK_dd, retW_dt, retW_fl, gB_add, gB_sub, gC_lt, gC_le, gC_gt, gC_ge, itV_t, itV_l, itV_f, itV_b, itV_ro, itV_rs, gLen_ro, gLen_rs, gLen_dt, gLen_dl, gLen_fl, gLen_bl, gSl_t, gTup_fl, gTup_bl, gTup_dl, Bool.not_true, Bool.not_false, wB_ok', gInt_i, gm_is_int, gm_is_rule, gm_are_rules, gm_check_rule, gm_check_rules, gm_find_sides, gm_does_ring, gm_any_rings, gm_find_alarms, gm_find_still, gm_implies_rule, gm_implies, gm_history, gm_check_length, gm_go_on, gm_count_after, gm_count_quiet, gm_all_rows, gm_naive_implies, gm_naive_quiet, gm__law_drawn, gm__law_rules, gm__law_sides, gm__law_alarms, gm__law_rows, gm__law_badrules, gm__law_error, gm_law, key]
theorem badlen_ok {ns : List Int} (S : Scr ns) {a : Int} (h0 : 0 ≤ a) (h1 : a < 90000) : ∃ d ∈ badN, ∃ j : Int, m__law_drawn (scD ns) (.int a) (.int 5) = .ok (.dt (.int j)) ∧ gIxV (.fl badN) (.dt (.int j)) = .ok (.dt d) := by
  obtain ⟨j, j0, j1, ej⟩ := drawn_ok S h0 h1 (show (0 : Int) < 5 by decide)
  obtain ⟨j, rfl⟩ := Int.eq_ofNat_of_zero_le j0
  have hj : j < badN.length := by
    have : badN.length = 5 := rfl
    omega
  exact ⟨badN[j], List.getElem_mem hj, (j : Int), ej, gIx_fl (by rw [atI_nat]; exact List.getElem?_eq_getElem hj)⟩
/-! ### going on -/
theorem history_ok {r : List Int} (h : r.length ≤ 1000) : m_history (roD r) = .ok (.dt (roD (hist r))) := by
  unfold m_history
  simp only [bF_ok, bF_exc, rb_ok, rb_exc, slO_dt, slO_fl, slO_fd, slV_dd, slV_ol, slV_od, frz_dd, frz_ol, frz_od, toDs_c, toDs_n, tD_dt, tD_fl, pk_dt, pk_fl, pk_bl, pk_kc, pk_fd, pk_bd, isB_b, gTru_b, gTru_n, bc_t, bc_f, intK_i, datV_d, unp2_t, unp3_t, ownK_ol, ownK_od, ownK_dd, retW_dt, retW_fl, gB_add, gB_sub, gC_lt, gC_le, gC_gt, gC_ge, itV_t, itV_l, itV_f, itV_b, itV_ro, itV_rs, gLen_ro, gLen_rs, gLen_dt, gLen_dl, gLen_fl, gLen_bl, gSl_t, gTup_fl, gTup_bl, gTup_dl, Bool.not_true, Bool.not_false, wB_ok', gInt_i, gm_is_int, gm_is_rule, gm_are_rules, gm_check_rule, gm_check_rules, gm_find_sides, gm_does_ring, gm_any_rings, gm_find_alarms, gm_find_still, gm_implies_rule, gm_implies, gm_history, gm_check_length, gm_go_on, gm_count_after, gm_count_quiet, gm_all_rows, gm_naive_implies, gm_naive_quiet, gm__law_drawn, gm__law_rules, gm__law_sides, gm__law_alarms, gm__law_rows, gm__law_badrules, gm__law_error, gm_law, gMM_i, if_true]
  show (gSl (.dt (.tuple (r.map .int))) _ none).bF _ = _
  simp only [bF_ok, bF_exc, rb_ok, rb_exc, slO_dt, slO_fl, slO_fd, slV_dd, slV_ol, slV_od, frz_dd, frz_ol, frz_od, toDs_c, toDs_n, tD_dt, tD_fl, pk_dt, pk_fl, pk_bl, pk_kc, pk_fd, pk_bd, isB_b, gTru_b, gTru_n, bc_t, bc_f, intK_i, datV_d, unp2_t, unp3_t, ownK_ol, ownK_od, ownK_dd, retW_dt, retW_fl, gB_add, gB_sub, gC_lt, gC_le, gC_gt, gC_ge, itV_t, itV_l, itV_f, itV_b, itV_ro, itV_rs, gLen_ro, gLen_rs, gLen_dt, gLen_dl, gLen_fl, gLen_bl, gSl_t, gTup_fl, gTup_bl, gTup_dl, Bool.not_true, Bool.not_false, wB_ok', gInt_i, gm_is_int, gm_is_rule, gm_are_rules, gm_check_rule, gm_check_rules, gm_find_sides, gm_does_ring, gm_any_rings, gm_find_alarms, gm_find_still, gm_implies_rule, gm_implies, gm_history, gm_check_length, gm_go_on, gm_count_after, gm_count_quiet, gm_all_rows, gm_naive_implies, gm_naive_quiet, gm__law_drawn, gm__law_rules, gm__law_sides, gm__law_alarms, gm__law_rows, gm__law_badrules, gm__law_error, gm_law, bF_ok]
  rw [cut_from _ (by omega)]
  have e : (r.map PyData.int).drop (max 0 ((r.length : Int) - 4 + 1)).toNat = (hist r).map .int := by
    unfold hist
    rw [List.map_drop]
    congr 1
    omega
  rw [e]
  rfl
theorem check_length_ok {n : Int} (h0 : 0 ≤ n) (h1 : n ≤ 30) : m_check_length (.int n) = .ok (.dt .none) := by
  unfold m_check_length
  simp only [bF_ok, bF_exc, rb_ok, rb_exc, slO_dt, slO_fl, slO_fd, slV_dd, slV_ol, slV_od, frz_dd, frz_ol, frz_od, toDs_c, toDs_n, tD_dt, tD_fl, pk_dt, pk_fl, pk_bl, pk_kc, pk_fd, pk_bd, isB_b, gTru_b, gTru_n, bc_t, bc_f, intK_i, datV_d, unp2_t, unp3_t, ownK_ol, ownK_od, ownK_dd, retW_dt, retW_fl, gB_add, gB_sub, gC_lt, gC_le, gC_gt, gC_ge, itV_t, itV_l, itV_f, itV_b, itV_ro, itV_rs, gLen_ro, gLen_rs, gLen_dt, gLen_dl, gLen_fl, gLen_bl, gSl_t, gTup_fl, gTup_bl, gTup_dl, Bool.not_true, Bool.not_false, wB_ok', gInt_i, gm_is_int, gm_is_rule, gm_are_rules, gm_check_rule, gm_check_rules, gm_find_sides, gm_does_ring, gm_any_rings, gm_find_alarms, gm_find_still, gm_implies_rule, gm_implies, gm_history, gm_check_length, gm_go_on, gm_count_after, gm_count_quiet, gm_all_rows, gm_naive_implies, gm_naive_quiet, gm__law_drawn, gm__law_rules, gm__law_sides, gm__law_alarms, gm__law_rows, gm__law_badrules, gm__law_error, gm_law, is_int_i]
  rw [decide_eq_true h0, decide_eq_true h1]
  rfl
structure GoI (rs : List RuT) (start : List Int) (keys pend : List (List Int)) : Prop where
  nd : keys.Nodup
  hi : ∀ h ∈ keys, Hi h
  hp : ∀ h ∈ pend, Hi h
  st : start ∈ keys ∨ start ∈ pend
  cl : ∀ h ∈ keys, ∀ p ∈ nexts rs h, p.2 ∈ keys ∨ p.2 ∈ pend
theorem go_on_turn {rs : List RuT} {start : List Int} (hr : Rs rs) {h : List Int} (hh : Hi h) {keys lat lev : List (List Int)} (I : GoI rs start keys (h :: lev ++ lat)) (hl : lat.length ≤ 7 * keys.length) (s1 : Sl) (st lv : PyData) :
    ∃ keys' lat', (keys' = keys ∧ lat' = lat ∨ keys.length < keys'.length) ∧ keys.length ≤ keys'.length ∧ GoI rs start keys' (lev ++ lat') ∧ lat'.length ≤ 7 * keys'.length ∧
    ∀ k, m_go_on_b2 (roD h) (rsD rs) st (.od (goE rs keys)) (.dd lv) (.ol (lat.map roD)) s1 k = k [.dd (rsD rs), .dd st, .od (goE rs keys'), .dd lv, .ol (lat'.map roD), .dd (roD h), .em, .em] := by
  have k400 := keys_few I.nd I.hi
  by_cases hk : h ∈ keys
  · refine ⟨keys, lat, .inl ⟨rfl, rfl⟩, Nat.le_refl _, ⟨I.nd, I.hi, fun x hx => I.hp x (List.mem_cons_of_mem _ hx), ?_, ?_⟩, hl, fun k => ?_⟩
    · rcases I.st with q | q
      · exact .inl q
      · rcases List.mem_cons.mp q with e | e
        · exact .inl (e ▸ hk)
        · exact .inr e
    · intro x hx p hp
      rcases I.cl x hx p hp with q | q
      · exact .inl q
      · rcases List.mem_cons.mp q with e | e
        · exact .inl (e ▸ hk)
        · exact .inr e
    · unfold m_go_on_b2
      simp only [bF_ok, bF_exc, rb_ok, rb_exc, slO_dt, slO_fl, slO_fd, slV_dd, slV_ol, slV_od, frz_dd, frz_ol, frz_od, toDs_c, toDs_n, tD_dt, tD_fl, pk_dt, pk_fl, pk_bl, pk_kc, pk_fd, pk_bd, isB_b, gTru_b, gTru_n, bc_t, bc_f, intK_i, datV_d, unp2_t, unp3_t, ownK_ol, ownK_od, ownK_dd, retW_dt, retW_fl, gB_add, gB_sub, gC_lt, gC_le, gC_gt, gC_ge, itV_t, itV_l, itV_f, itV_b, itV_ro, itV_rs, gLen_ro, gLen_rs, gLen_dt, gLen_dl, gLen_fl, gLen_bl, gSl_t, gTup_fl, gTup_bl, gTup_dl, Bool.not_true, Bool.not_false, wB_ok', gInt_i, gm_is_int, gm_is_rule, gm_are_rules, gm_check_rule, gm_check_rules, gm_find_sides, gm_does_ring, gm_any_rings, gm_find_alarms, gm_find_still, gm_implies_rule, gm_implies, gm_history, gm_check_length, gm_go_on, gm_count_after, gm_count_quiet, gm_all_rows, gm_naive_implies, gm_naive_quiet, gm__law_drawn, gm__law_rules, gm__law_sides, gm__law_alarms, gm__law_rows, gm__law_badrules, gm__law_error, gm_law, gNin_bd, goE_get, if_pos hk, Option.isSome_some]
  · have nk : (keys ++ [h]).Nodup := by
      rw [List.nodup_append]
      exact ⟨I.nd, by simp, fun a ha b hb e => hk (by rw [← List.mem_singleton.mp hb, ← e]; exact ha)⟩
    refine ⟨keys ++ [h], lat ++ (nexts rs h).map (·.2), .inr (by rw [List.length_append, List.length_singleton]; omega), by rw [List.length_append]; omega, ⟨nk, ?_, ?_, ?_, ?_⟩, ?_, fun k => ?_⟩
    · intro x hx
      rcases List.mem_append.mp hx with q | q
      · exact I.hi x q
      · rw [List.mem_singleton.mp q]; exact hh
    · intro x hx
      rcases List.mem_append.mp hx with q | q
      · exact I.hp x (List.mem_cons_of_mem _ (List.mem_append_left _ q))
      · rcases List.mem_append.mp q with q | q
        · exact I.hp x (List.mem_cons_of_mem _ (List.mem_append_right _ q))
        · obtain ⟨p, hp, rfl⟩ := List.mem_map.mp q
          exact nexts_hi hh hp
    · rcases I.st with q | q
      · exact .inl (List.mem_append_left _ q)
      · rcases List.mem_cons.mp q with e | e
        · exact .inl (List.mem_append_right _ (by rw [e]; simp))
        · rcases List.mem_append.mp e with q | q
          · exact .inr (List.mem_append_left _ q)
          · exact .inr (List.mem_append_right _ (List.mem_append_left _ q))
    · intro x hx p hp
      rcases List.mem_append.mp hx with q | q
      · rcases I.cl x q p hp with z | z
        · exact .inl (List.mem_append_left _ z)
        · rcases List.mem_cons.mp z with e | e
          · exact .inl (List.mem_append_right _ (by rw [e]; simp))
          · rcases List.mem_append.mp e with q | q
            · exact .inr (List.mem_append_left _ q)
            · exact .inr (List.mem_append_right _ (List.mem_append_left _ q))
      · have e := List.mem_singleton.mp q
        subst e
        exact .inr (List.mem_append_right _ (List.mem_append_right _ (List.mem_map.mpr ⟨p, hp, rfl⟩)))
    · have := nexts_len rs h
      rw [List.length_append, List.length_map, List.length_append, List.length_singleton]
      omega
    · unfold m_go_on_b2
      simp only [bF_ok, bF_exc, rb_ok, rb_exc, slO_dt, slO_fl, slO_fd, slV_dd, slV_ol, slV_od, frz_dd, frz_ol, frz_od, toDs_c, toDs_n, tD_dt, tD_fl, pk_dt, pk_fl, pk_bl, pk_kc, pk_fd, pk_bd, isB_b, gTru_b, gTru_n, bc_t, bc_f, intK_i, datV_d, unp2_t, unp3_t, ownK_ol, ownK_od, ownK_dd, retW_dt, retW_fl, gB_add, gB_sub, gC_lt, gC_le, gC_gt, gC_ge, itV_t, itV_l, itV_f, itV_b, itV_ro, itV_rs, gLen_ro, gLen_rs, gLen_dt, gLen_dl, gLen_fl, gLen_bl, gSl_t, gTup_fl, gTup_bl, gTup_dl, Bool.not_true, Bool.not_false, wB_ok', gInt_i, gm_is_int, gm_is_rule, gm_are_rules, gm_check_rule, gm_check_rules, gm_find_sides, gm_does_ring, gm_any_rings, gm_find_alarms, gm_find_still, gm_implies_rule, gm_implies, gm_history, gm_check_length, gm_go_on, gm_count_after, gm_count_quiet, gm_all_rows, gm_naive_implies, gm_naive_quiet, gm__law_drawn, gm__law_rules, gm__law_sides, gm__law_alarms, gm__law_rows, gm__law_badrules, gm__law_error, gm_law, gNin_bd, goE_get, if_neg hk, Option.isSome_none, find_still_ok (rs := rs) (r := h) hr (by have := hh.len; omega)]
      rw [lcL_map .int (fun v => pairD (v, hist (h ++ [v]))) (stillN rs h) fun v hv => by
        simp only [bF_ok, bF_exc, rb_ok, rb_exc, slO_dt, slO_fl, slO_fd, slV_dd, slV_ol, slV_od, frz_dd, frz_ol, frz_od, toDs_c, toDs_n, tD_dt, tD_fl, pk_dt, pk_fl, pk_bl, pk_kc, pk_fd, pk_bd, isB_b, gTru_b, gTru_n, bc_t, bc_f, intK_i, datV_d, unp2_t, unp3_t, ownK_ol, ownK_od, ownK_dd, retW_dt, retW_fl, gB_add, gB_sub, gC_lt, gC_le, gC_gt, gC_ge, itV_t, itV_l, itV_f, itV_b, itV_ro, itV_rs, gLen_ro, gLen_rs, gLen_dt, gLen_dl, gLen_fl, gLen_bl, gSl_t, gTup_fl, gTup_bl, gTup_dl, Bool.not_true, Bool.not_false, wB_ok', gInt_i, gm_is_int, gm_is_rule, gm_are_rules, gm_check_rule, gm_check_rules, gm_find_sides, gm_does_ring, gm_any_rings, gm_find_alarms, gm_find_still, gm_implies_rule, gm_implies, gm_history, gm_check_length, gm_go_on, gm_count_after, gm_count_quiet, gm_all_rows, gm_naive_implies, gm_naive_quiet, gm__law_drawn, gm__law_rules, gm__law_sides, gm__law_alarms, gm__law_rows, gm__law_badrules, gm__law_error, gm_law, add_ro h v (by have := hh.len; omega), history_ok (r := h ++ [v]) (by have := hh.len; rw [List.length_append, List.length_singleton]; omega)]
        rfl]
      have l7 : (stillN rs h).length ≤ 7 := List.length_filter_le _ _
      have eN : (stillN rs h).map (fun v => pairD (v, hist (h ++ [v]))) = (nexts rs h).map pairD := by
        unfold nexts
        rw [List.map_map]
        rfl
      simp only [bF_ok, bF_exc, rb_ok, rb_exc, slO_dt, slO_fl, slO_fd, slV_dd, slV_ol, slV_od, frz_dd, frz_ol, frz_od, toDs_c, toDs_n, tD_dt, tD_fl, pk_dt, pk_fl, pk_bl, pk_kc, pk_fd, pk_bd, isB_b, gTru_b, gTru_n, bc_t, bc_f, intK_i, datV_d, unp2_t, unp3_t, ownK_ol, ownK_od, ownK_dd, retW_dt, retW_fl, gB_add, gB_sub, gC_lt, gC_le, gC_gt, gC_ge, itV_t, itV_l, itV_f, itV_b, itV_ro, itV_rs, gLen_ro, gLen_rs, gLen_dt, gLen_dl, gLen_fl, gLen_bl, gSl_t, gTup_fl, gTup_bl, gTup_dl, Bool.not_true, Bool.not_false, wB_ok', gInt_i, gm_is_int, gm_is_rule, gm_are_rules, gm_check_rule, gm_check_rules, gm_find_sides, gm_does_ring, gm_any_rings, gm_find_alarms, gm_find_still, gm_implies_rule, gm_implies, gm_history, gm_check_length, gm_go_on, gm_count_after, gm_count_quiet, gm_all_rows, gm_naive_implies, gm_naive_quiet, gm__law_drawn, gm__law_rules, gm__law_sides, gm__law_alarms, gm__law_rows, gm__law_badrules, gm__law_error, gm_law, bF_ok]
      rw [if_pos (by rw [List.length_map]; omega), dpK_ro _ _ _ _ (by unfold goE; rw [List.length_map]; omega), eN, show PyData.list ((nexts rs h).map pairD) = stD rs h from rfl, goE_put hk, m_go_on_r1_ok]
      unfold m_go_on_r1
      simp only [bF_ok, bF_exc, rb_ok, rb_exc, slO_dt, slO_fl, slO_fd, slV_dd, slV_ol, slV_od, frz_dd, frz_ol, frz_od, toDs_c, toDs_n, tD_dt, tD_fl, pk_dt, pk_fl, pk_bl, pk_kc, pk_fd, pk_bd, isB_b, gTru_b, gTru_n, bc_t, bc_f, intK_i, datV_d, unp2_t, unp3_t, ownK_ol, ownK_od, ownK_dd, retW_dt, retW_fl, gB_add, gB_sub, gC_lt, gC_le, gC_gt, gC_ge, itV_t, itV_l, itV_f, itV_b, itV_ro, itV_rs, gLen_ro, gLen_rs, gLen_dt, gLen_dl, gLen_fl, gLen_bl, gSl_t, gTup_fl, gTup_bl, gTup_dl, Bool.not_true, Bool.not_false, wB_ok', gInt_i, gm_is_int, gm_is_rule, gm_are_rules, gm_check_rule, gm_check_rules, gm_find_sides, gm_does_ring, gm_any_rings, gm_find_alarms, gm_find_still, gm_implies_rule, gm_implies, gm_history, gm_check_length, gm_go_on, gm_count_after, gm_count_quiet, gm_all_rows, gm_naive_implies, gm_naive_quiet, gm__law_drawn, gm__law_rules, gm__law_sides, gm__law_alarms, gm__law_rows, gm__law_badrules, gm__law_error, gm_law, bF_ok]
      rw [gIx_bd (d := stD rs h) (by rw [goE_get, if_pos (by simp)])]
      simp only [bF_ok, bF_exc, rb_ok, rb_exc, slO_dt, slO_fl, slO_fd, slV_dd, slV_ol, slV_od, frz_dd, frz_ol, frz_od, toDs_c, toDs_n, tD_dt, tD_fl, pk_dt, pk_fl, pk_bl, pk_kc, pk_fd, pk_bd, isB_b, gTru_b, gTru_n, bc_t, bc_f, intK_i, datV_d, unp2_t, unp3_t, ownK_ol, ownK_od, ownK_dd, retW_dt, retW_fl, gB_add, gB_sub, gC_lt, gC_le, gC_gt, gC_ge, itV_t, itV_l, itV_f, itV_b, itV_ro, itV_rs, gLen_ro, gLen_rs, gLen_dt, gLen_dl, gLen_fl, gLen_bl, gSl_t, gTup_fl, gTup_bl, gTup_dl, Bool.not_true, Bool.not_false, wB_ok', gInt_i, gm_is_int, gm_is_rule, gm_are_rules, gm_check_rule, gm_check_rules, gm_find_sides, gm_does_ring, gm_any_rings, gm_find_alarms, gm_find_still, gm_implies_rule, gm_implies, gm_history, gm_check_length, gm_go_on, gm_count_after, gm_count_quiet, gm_all_rows, gm_naive_implies, gm_naive_quiet, gm__law_drawn, gm__law_rules, gm__law_sides, gm__law_alarms, gm__law_rows, gm__law_badrules, gm__law_error, gm_law, show itV false (.dt (stD rs h)) = .ok ((nexts rs h).map pairD) from rfl]
      rw [lcL_map pairD (fun p => roD p.2) (nexts rs h) fun p hp => by
        unfold pairD
        simp only [bF_ok, bF_exc, rb_ok, rb_exc, slO_dt, slO_fl, slO_fd, slV_dd, slV_ol, slV_od, frz_dd, frz_ol, frz_od, toDs_c, toDs_n, tD_dt, tD_fl, pk_dt, pk_fl, pk_bl, pk_kc, pk_fd, pk_bd, isB_b, gTru_b, gTru_n, bc_t, bc_f, intK_i, datV_d, unp2_t, unp3_t, ownK_ol, ownK_od, ownK_dd, retW_dt, retW_fl, gB_add, gB_sub, gC_lt, gC_le, gC_gt, gC_ge, itV_t, itV_l, itV_f, itV_b, itV_ro, itV_rs, gLen_ro, gLen_rs, gLen_dt, gLen_dl, gLen_fl, gLen_bl, gSl_t, gTup_fl, gTup_bl, gTup_dl, Bool.not_true, Bool.not_false, wB_ok', gInt_i, gm_is_int, gm_is_rule, gm_are_rules, gm_check_rule, gm_check_rules, gm_find_sides, gm_does_ring, gm_any_rings, gm_find_alarms, gm_find_still, gm_implies_rule, gm_implies, gm_history, gm_check_length, gm_go_on, gm_count_after, gm_count_quiet, gm_all_rows, gm_naive_implies, gm_naive_quiet, gm__law_drawn, gm__law_rules, gm__law_sides, gm__law_alarms, gm__law_rows, gm__law_badrules, gm__law_error, gm_law, bF_ok]]
      have n7 := nexts_len rs h
      simp only [bF_ok, bF_exc, rb_ok, rb_exc, slO_dt, slO_fl, slO_fd, slV_dd, slV_ol, slV_od, frz_dd, frz_ol, frz_od, toDs_c, toDs_n, tD_dt, tD_fl, pk_dt, pk_fl, pk_bl, pk_kc, pk_fd, pk_bd, isB_b, gTru_b, gTru_n, bc_t, bc_f, intK_i, datV_d, unp2_t, unp3_t, ownK_ol, ownK_od, ownK_dd, retW_dt, retW_fl, gB_add, gB_sub, gC_lt, gC_le, gC_gt, gC_ge, itV_t, itV_l, itV_f, itV_b, itV_ro, itV_rs, gLen_ro, gLen_rs, gLen_dt, gLen_dl, gLen_fl, gLen_bl, gSl_t, gTup_fl, gTup_bl, gTup_dl, Bool.not_true, Bool.not_false, wB_ok', gInt_i, gm_is_int, gm_is_rule, gm_are_rules, gm_check_rule, gm_check_rules, gm_find_sides, gm_does_ring, gm_any_rings, gm_find_alarms, gm_find_still, gm_implies_rule, gm_implies, gm_history, gm_check_length, gm_go_on, gm_count_after, gm_count_quiet, gm_all_rows, gm_naive_implies, gm_naive_quiet, gm__law_drawn, gm__law_rules, gm__law_sides, gm__law_alarms, gm__law_rows, gm__law_badrules, gm__law_error, gm_law, bF_ok]
      rw [if_pos (by rw [List.length_map]; omega), if_pos (by rw [List.length_map, List.length_map]; omega), List.map_append, List.map_map]
      rfl
theorem go_on_level {rs : List RuT} {start : List Int} (hr : Rs rs) (st lv : PyData) : ∀ (lev : List (List Int)) (keys lat : List (List Int)) (s1 : Sl), GoI rs start keys (lev ++ lat) → lat.length ≤ 7 * keys.length →
    ∃ keys' lat' s', (keys' = keys ∧ lat' = lat ∨ keys.length < keys'.length) ∧ keys.length ≤ keys'.length ∧ GoI rs start keys' lat' ∧ lat'.length ≤ 7 * keys'.length ∧
    ∀ k, forC go_on_b2 (lev.map roD) [.dd (rsD rs), .dd st, .od (goE rs keys), .dd lv, .ol (lat.map roD), s1, .em, .em] k = k [.dd (rsD rs), .dd st, .od (goE rs keys'), .dd lv, .ol (lat'.map roD), s', .em, .em]
  | [], keys, lat, s1, I, hl => ⟨keys, lat, s1, .inl ⟨rfl, rfl⟩, Nat.le_refl _, I, hl, fun k => rfl⟩
  | h :: lev, keys, lat, s1, I, hl => by
    obtain ⟨k1, l1, c1, n1, I1, hl1, e1⟩ := go_on_turn hr (I.hp h List.mem_cons_self) I hl s1 st lv
    obtain ⟨k2, l2, s2, c2, n2, I2, hl2, e2⟩ := go_on_level hr st lv lev k1 l1 (.dd (roD h)) I1 hl1
    refine ⟨k2, l2, s2, ?_, by omega, I2, hl2, fun k => ?_⟩
    · rcases c1 with ⟨a, b⟩ | a
      · rcases c2 with ⟨c, d⟩ | c
        · exact .inl ⟨c.trans a, d.trans b⟩
        · right; rw [a] at c; exact c
      · right; omega
    · rw [List.map_cons]
      unfold forC
      rw [m_go_on_b2_ok, e1, e2]
theorem ne_lev (lev : List (List Int)) (w : Vw) (hw : w.peek = .list (lev.map roD)) : gCmp .NotEq w (.fl []) = .ok (.dt (.bool (!lev.isEmpty))) := by
  rw [gNeq (.list (lev.map roD)) (.list []) hw rfl (fin_map roD 8 (fun r => fin_ro 7 r) lev) rfl, ev_ll, eva_nil]
  cases lev <;> rfl
theorem go_on_ok {rs : List RuT} {start : List Int} (hr : Rs rs) (hs : Hi start) : ∃ keys, m_go_on (rsD rs) (roD start) = .ok (.fd (goE rs keys)) ∧ keys.Nodup ∧ (∀ h ∈ keys, Hi h) ∧ start ∈ keys ∧ ∀ h ∈ keys, ∀ p ∈ nexts rs h, p.2 ∈ keys := by
  unfold m_go_on
  have g0 : GoI rs start [] [start] := ⟨List.nodup_nil, fun _ h => (nomatch h), fun x hx => by rw [List.mem_singleton.mp hx]; exact hs, .inr (by simp), fun _ h => (nomatch h)⟩
  obtain ⟨ρ', ⟨keys, sl, a, b, rfl, I⟩, ew⟩ := whileC_end (t := go_on_w1t) (f := go_on_w1b)
    (fun m ρ => ∃ keys lev sl a b, ρ = [.dd (rsD rs), .dd (roD start), .od (goE rs keys), sl, a, b, .em, .em] ∧ (sl = .ol (lev.map roD) ∨ sl = .dd (.list (lev.map roD))) ∧ GoI rs start keys lev ∧ (400 - keys.length) * 2 + (if lev = [] then 0 else 1) ≤ m)
    (fun ρ => ∃ keys sl a b, ρ = [.dd (rsD rs), .dd (roD start), .od (goE rs keys), sl, a, b, .em, .em] ∧ GoI rs start keys []) (by
      rintro m ρ ⟨keys, lev, sl, a, b, rfl, hsl, I, hm⟩
      have test : ∀ k, go_on_w1t [.dd (rsD rs), .dd (roD start), .od (goE rs keys), sl, a, b, .em, .em] k = k (!lev.isEmpty) := fun k => by
        rw [m_go_on_w1t_ok]
        unfold m_go_on_w1t
        rcases hsl with e | e <;> subst e
        · simp only [bF_ok, bF_exc, rb_ok, rb_exc, slO_dt, slO_fl, slO_fd, slV_dd, slV_ol, slV_od, frz_dd, frz_ol, frz_od, toDs_c, toDs_n, tD_dt, tD_fl, pk_dt, pk_fl, pk_bl, pk_kc, pk_fd, pk_bd, isB_b, gTru_b, gTru_n, bc_t, bc_f, intK_i, datV_d, unp2_t, unp3_t, ownK_ol, ownK_od, ownK_dd, retW_dt, retW_fl, gB_add, gB_sub, gC_lt, gC_le, gC_gt, gC_ge, itV_t, itV_l, itV_f, itV_b, itV_ro, itV_rs, gLen_ro, gLen_rs, gLen_dt, gLen_dl, gLen_fl, gLen_bl, gSl_t, gTup_fl, gTup_bl, gTup_dl, Bool.not_true, Bool.not_false, wB_ok', gInt_i, gm_is_int, gm_is_rule, gm_are_rules, gm_check_rule, gm_check_rules, gm_find_sides, gm_does_ring, gm_any_rings, gm_find_alarms, gm_find_still, gm_implies_rule, gm_implies, gm_history, gm_check_length, gm_go_on, gm_count_after, gm_count_quiet, gm_all_rows, gm_naive_implies, gm_naive_quiet, gm__law_drawn, gm__law_rules, gm__law_sides, gm__law_alarms, gm__law_rows, gm__law_badrules, gm__law_error, gm_law, ne_lev lev (.bl (lev.map roD)) rfl]
        · simp only [bF_ok, bF_exc, rb_ok, rb_exc, slO_dt, slO_fl, slO_fd, slV_dd, slV_ol, slV_od, frz_dd, frz_ol, frz_od, toDs_c, toDs_n, tD_dt, tD_fl, pk_dt, pk_fl, pk_bl, pk_kc, pk_fd, pk_bd, isB_b, gTru_b, gTru_n, bc_t, bc_f, intK_i, datV_d, unp2_t, unp3_t, ownK_ol, ownK_od, ownK_dd, retW_dt, retW_fl, gB_add, gB_sub, gC_lt, gC_le, gC_gt, gC_ge, itV_t, itV_l, itV_f, itV_b, itV_ro, itV_rs, gLen_ro, gLen_rs, gLen_dt, gLen_dl, gLen_fl, gLen_bl, gSl_t, gTup_fl, gTup_bl, gTup_dl, Bool.not_true, Bool.not_false, wB_ok', gInt_i, gm_is_int, gm_is_rule, gm_are_rules, gm_check_rule, gm_check_rules, gm_find_sides, gm_does_ring, gm_any_rings, gm_find_alarms, gm_find_still, gm_implies_rule, gm_implies, gm_history, gm_check_length, gm_go_on, gm_count_after, gm_count_quiet, gm_all_rows, gm_naive_implies, gm_naive_quiet, gm__law_drawn, gm__law_rules, gm__law_sides, gm__law_alarms, gm__law_rows, gm__law_badrules, gm__law_error, gm_law, ne_lev lev (.dt (.list (lev.map roD))) rfl]
      cases lev with
      | nil => exact .inl ⟨fun k => by rw [test]; rfl, keys, sl, a, b, rfl, I⟩
      | cons h t =>
        rw [if_neg (fun z => by cases z)] at hm
        have k400 := keys_few I.nd I.hi
        obtain ⟨k2, l2, s2, c2, n2, I2, hl2, e2⟩ := go_on_level hr (roD start) (.list ((h :: t).map roD)) (h :: t) keys [] b (by rw [List.append_nil]; exact I) (Nat.zero_le _)
        have k400' := keys_few I2.nd I2.hi
        refine .inr ⟨fun k => by rw [test]; rfl, m - 1, _, by omega, ⟨k2, l2, .dd (.list (l2.map roD)), .dd (.list (l2.map roD)), s2, rfl, .inr rfl, I2, ?_⟩, fun k => ?_⟩
        · rcases c2 with ⟨a1, a2⟩ | a1
          · rw [a1, a2, if_pos rfl]; omega
          · split <;> omega
        · rw [m_go_on_w1b_ok]
          unfold m_go_on_w1b
          have fz : frzS sl = .dd (.list ((h :: t).map roD)) := by rcases hsl with e | e <;> subst e <;> rfl
          rw [fz]
          simp only [bF_ok, bF_exc, rb_ok, rb_exc, slO_dt, slO_fl, slO_fd, slV_dd, slV_ol, slV_od, frz_dd, frz_ol, frz_od, toDs_c, toDs_n, tD_dt, tD_fl, pk_dt, pk_fl, pk_bl, pk_kc, pk_fd, pk_bd, isB_b, gTru_b, gTru_n, bc_t, bc_f, intK_i, datV_d, unp2_t, unp3_t, ownK_ol, ownK_od, ownK_dd, retW_dt, retW_fl, gB_add, gB_sub, gC_lt, gC_le, gC_gt, gC_ge, itV_t, itV_l, itV_f, itV_b, itV_ro, itV_rs, gLen_ro, gLen_rs, gLen_dt, gLen_dl, gLen_fl, gLen_bl, gSl_t, gTup_fl, gTup_bl, gTup_dl, Bool.not_true, Bool.not_false, wB_ok', gInt_i, gm_is_int, gm_is_rule, gm_are_rules, gm_check_rule, gm_check_rules, gm_find_sides, gm_does_ring, gm_any_rings, gm_find_alarms, gm_find_still, gm_implies_rule, gm_implies, gm_history, gm_check_length, gm_go_on, gm_count_after, gm_count_quiet, gm_all_rows, gm_naive_implies, gm_naive_quiet, gm__law_drawn, gm__law_rules, gm__law_sides, gm__law_alarms, gm__law_rows, gm__law_badrules, gm__law_error, gm_law, bF_ok]
          have e2' := e2 (go_on_r2 k)
          rw [List.map_nil] at e2'
          rw [e2', m_go_on_r2_ok]
          unfold m_go_on_r2
          simp only [bF_ok, bF_exc, rb_ok, rb_exc, slO_dt, slO_fl, slO_fd, slV_dd, slV_ol, slV_od, frz_dd, frz_ol, frz_od, toDs_c, toDs_n, tD_dt, tD_fl, pk_dt, pk_fl, pk_bl, pk_kc, pk_fd, pk_bd, isB_b, gTru_b, gTru_n, bc_t, bc_f, intK_i, datV_d, unp2_t, unp3_t, ownK_ol, ownK_od, ownK_dd, retW_dt, retW_fl, gB_add, gB_sub, gC_lt, gC_le, gC_gt, gC_ge, itV_t, itV_l, itV_f, itV_b, itV_ro, itV_rs, gLen_ro, gLen_rs, gLen_dt, gLen_dl, gLen_fl, gLen_bl, gSl_t, gTup_fl, gTup_bl, gTup_dl, Bool.not_true, Bool.not_false, wB_ok', gInt_i, gm_is_int, gm_is_rule, gm_are_rules, gm_check_rule, gm_check_rules, gm_find_sides, gm_does_ring, gm_any_rings, gm_find_alarms, gm_find_still, gm_implies_rule, gm_implies, gm_history, gm_check_length, gm_go_on, gm_count_after, gm_count_quiet, gm_all_rows, gm_naive_implies, gm_naive_quiet, gm__law_drawn, gm__law_rules, gm__law_sides, gm__law_alarms, gm__law_rows, gm__law_badrules, gm__law_error, gm_law, bF_ok]) 801 wFuel [.dd (rsD rs), .dd (roD start), .od [], .ol [roD start], .em, .em, .em, .em] ⟨[], [start], _, _, _, rfl, .inl rfl, g0, by simp⟩ (by have := wFuel_eq; omega)
  rw [ew, m_go_on_r3_ok]
  unfold m_go_on_r3
  simp only [bF_ok, bF_exc, rb_ok, rb_exc, slO_dt, slO_fl, slO_fd, slV_dd, slV_ol, slV_od, frz_dd, frz_ol, frz_od, toDs_c, toDs_n, tD_dt, tD_fl, pk_dt, pk_fl, pk_bl, pk_kc, pk_fd, pk_bd, isB_b, gTru_b, gTru_n, bc_t, bc_f, intK_i, datV_d, unp2_t, unp3_t, ownK_ol, ownK_od, ownK_dd, retW_dt, retW_fl, gB_add, gB_sub, gC_lt, gC_le, gC_gt, gC_ge, itV_t, itV_l, itV_f, itV_b, itV_ro, itV_rs, gLen_ro, gLen_rs, gLen_dt, gLen_dl, gLen_fl, gLen_bl, gSl_t, gTup_fl, gTup_bl, gTup_dl, Bool.not_true, Bool.not_false, wB_ok', gInt_i, gm_is_int, gm_is_rule, gm_are_rules, gm_check_rule, gm_check_rules, gm_find_sides, gm_does_ring, gm_any_rings, gm_find_alarms, gm_find_still, gm_implies_rule, gm_implies, gm_history, gm_check_length, gm_go_on, gm_count_after, gm_count_quiet, gm_all_rows, gm_naive_implies, gm_naive_quiet, gm__law_drawn, gm__law_rules, gm__law_sides, gm__law_alarms, gm__law_rows, gm__law_badrules, gm__law_error, gm_law, bF_ok]
  refine ⟨keys, rfl, I.nd, I.hi, ?_, fun h hh p hp => ?_⟩
  · rcases I.st with q | q
    · exact q
    · cases q
  · rcases I.cl h hh p hp with q | q
    · exact q
    · cases q
structure CnI (keys : List (List Int)) (f : Cn) : Prop where
  nd : (f.map (·.1)).Nodup
  sub : ∀ k ∈ f.map (·.1), k ∈ keys
theorem CnI.len {keys : List (List Int)} {f : Cn} (I : CnI keys f) : f.length ≤ keys.length := by
  have := nodup_len I.nd I.sub
  rwa [List.length_map] at this
theorem CnI.put {keys : List (List Int)} {f : Cn} (I : CnI keys f) {k : List Int} (hk : k ∈ keys) (c : Int) : CnI keys (putC f k c) :=
  ⟨putC_nodup I.nd, fun j hj => (putC_mem hj).elim (fun e => e ▸ hk) (I.sub j)⟩
theorem count_pair {keys : List (List Int)} (hk : keys.length ≤ 400) {f lat : Cn} (If : CnI keys f) (Il : CnI keys lat) {q : List Int × Int} (hq : q ∈ f) (p : Int × List Int) (v1 v2 v3 tn : PyData) (s1 : Sl) (x y : Sl) (k : Env → R Vw) :
    m_count_after_b3 (pairD p) v1 v2 v3 s1 (.dd (dicD (cnE f))) tn (.od (cnE lat)) (roD q.1) x y k = k [.dd v1, .dd v2, .dd v3, s1, .dd (dicD (cnE f)), .dd tn, .od (cnE (putC lat p.2 (getC lat p.2 + q.2))), .dd (roD q.1), .dd (.int p.1), .dd (roD p.2)] := by
  have l1 := Il.len
  unfold m_count_after_b3 pairD
  simp only [bF_ok, bF_exc, rb_ok, rb_exc, slO_dt, slO_fl, slO_fd, slV_dd, slV_ol, slV_od, frz_dd, frz_ol, frz_od, toDs_c, toDs_n, tD_dt, tD_fl, pk_dt, pk_fl, pk_bl, pk_kc, pk_fd, pk_bd, isB_b, gTru_b, gTru_n, bc_t, bc_f, intK_i, datV_d, unp2_t, unp3_t, ownK_ol, ownK_od, ownK_dd, retW_dt, retW_fl, gB_add, gB_sub, gC_lt, gC_le, gC_gt, gC_ge, itV_t, itV_l, itV_f, itV_b, itV_ro, itV_rs, gLen_ro, gLen_rs, gLen_dt, gLen_dl, gLen_fl, gLen_bl, gSl_t, gTup_fl, gTup_bl, gTup_dl, Bool.not_true, Bool.not_false, wB_ok', gInt_i, gm_is_int, gm_is_rule, gm_are_rules, gm_check_rule, gm_check_rules, gm_find_sides, gm_does_ring, gm_any_rings, gm_find_alarms, gm_find_still, gm_implies_rule, gm_implies, gm_history, gm_check_length, gm_go_on, gm_count_after, gm_count_quiet, gm_all_rows, gm_naive_implies, gm_naive_quiet, gm__law_drawn, gm__law_rules, gm__law_sides, gm__law_alarms, gm__law_rows, gm__law_badrules, gm__law_error, gm_law, dctV_bd, gGet_ro, cnE_get]
  rw [gIx_dd (cnE_at If.nd hq)]
  simp only [bF_ok, bF_exc, rb_ok, rb_exc, slO_dt, slO_fl, slO_fd, slV_dd, slV_ol, slV_od, frz_dd, frz_ol, frz_od, toDs_c, toDs_n, tD_dt, tD_fl, pk_dt, pk_fl, pk_bl, pk_kc, pk_fd, pk_bd, isB_b, gTru_b, gTru_n, bc_t, bc_f, intK_i, datV_d, unp2_t, unp3_t, ownK_ol, ownK_od, ownK_dd, retW_dt, retW_fl, gB_add, gB_sub, gC_lt, gC_le, gC_gt, gC_ge, itV_t, itV_l, itV_f, itV_b, itV_ro, itV_rs, gLen_ro, gLen_rs, gLen_dt, gLen_dl, gLen_fl, gLen_bl, gSl_t, gTup_fl, gTup_bl, gTup_dl, Bool.not_true, Bool.not_false, wB_ok', gInt_i, gm_is_int, gm_is_rule, gm_are_rules, gm_check_rule, gm_check_rules, gm_find_sides, gm_does_ring, gm_any_rings, gm_find_alarms, gm_find_still, gm_implies_rule, gm_implies, gm_history, gm_check_length, gm_go_on, gm_count_after, gm_count_quiet, gm_all_rows, gm_naive_implies, gm_naive_quiet, gm__law_drawn, gm__law_rules, gm__law_sides, gm__law_alarms, gm__law_rows, gm__law_badrules, gm__law_error, gm_law, bF_ok]
  rw [dpK_ro _ _ _ _ (by unfold cnE; rw [List.length_map]; omega), cnE_put]
theorem count_key {rs : List RuT} {keys : List (List Int)} (hk : keys.length ≤ 400) (hc : ∀ h ∈ keys, ∀ p ∈ nexts rs h, p.2 ∈ keys) {f : Cn} (If : CnI keys f) {q : List Int × Int} (hq : q ∈ f) (n : Nat) (v1 v2 v3 tn : PyData) {lat : Cn} (Il : CnI keys lat) (s1 x y : Sl) :
    ∃ lat' x' y', CnI keys lat' ∧ pot rs n lat' = pot rs n lat + q.2 * (ways rs (n + 1) q.1 : Int) ∧
    ∀ k, m_count_after_b2 (roD q.1) v1 v2 v3 (.od (goE rs keys)) (.dd (dicD (cnE f))) tn (.od (cnE lat)) s1 x y k = k [.dd v1, .dd v2, .dd v3, .od (goE rs keys), .dd (dicD (cnE f)), .dd tn, .od (cnE lat'), .dd (roD q.1), x', y'] := by
  have hqk : q.1 ∈ keys := If.sub _ (List.mem_map.mpr ⟨q, hq, rfl⟩)
  obtain ⟨ρ', ⟨lat', x', y', rfl, I', hp⟩, e⟩ := forC_ix pairD (fun i ρ => ∃ lat' x' y', ρ = [.dd v1, .dd v2, .dd v3, .od (goE rs keys), .dd (dicD (cnE f)), .dd tn, .od (cnE lat'), .dd (roD q.1), x', y'] ∧ CnI keys lat' ∧
      pot rs n lat' = pot rs n lat + q.2 * ((((nexts rs q.1).take i).map fun p => ways rs n p.2).sum : Nat)) (f := count_after_b3) (nexts rs q.1) 0
    [.dd v1, .dd v2, .dd v3, .od (goE rs keys), .dd (dicD (cnE f)), .dd tn, .od (cnE lat), .dd (roD q.1), x, y] ⟨lat, x, y, rfl, Il, by simp⟩ (by
      rintro j p hj ρ ⟨lat', x', y', rfl, I', hp⟩
      have hpk := hc q.1 hqk p (List.mem_of_getElem? hj)
      refine ⟨_, ⟨putC lat' p.2 (getC lat' p.2 + q.2), .dd (.int p.1), .dd (roD p.2), rfl, I'.put hpk _, ?_⟩, fun k => ?_⟩
      · rw [pot_put I'.nd, hp, Nat.zero_add, take_map _ hj, List.sum_append, List.sum_singleton]
        have : q.2 * (((((nexts rs q.1).take j).map fun p => ways rs n p.2).sum + ways rs n p.2 : Nat) : Int) = q.2 * ((((nexts rs q.1).take j).map fun p => ways rs n p.2).sum : Nat) + q.2 * (ways rs n p.2 : Int) := by
          rw [Int.natCast_add, Int.mul_add]
        rw [this]
        omega
      · rw [m_count_after_b3_ok]
        exact count_pair hk If I' hq p _ _ _ _ _ _ _ k)
  refine ⟨lat', x', y', I', ?_, fun k => ?_⟩
  · rw [hp, Nat.zero_add, List.take_length]
    rfl
  · unfold m_count_after_b2
    simp only [bF_ok, bF_exc, rb_ok, rb_exc, slO_dt, slO_fl, slO_fd, slV_dd, slV_ol, slV_od, frz_dd, frz_ol, frz_od, toDs_c, toDs_n, tD_dt, tD_fl, pk_dt, pk_fl, pk_bl, pk_kc, pk_fd, pk_bd, isB_b, gTru_b, gTru_n, bc_t, bc_f, intK_i, datV_d, unp2_t, unp3_t, ownK_ol, ownK_od, ownK_dd, retW_dt, retW_fl, gB_add, gB_sub, gC_lt, gC_le, gC_gt, gC_ge, itV_t, itV_l, itV_f, itV_b, itV_ro, itV_rs, gLen_ro, gLen_rs, gLen_dt, gLen_dl, gLen_fl, gLen_bl, gSl_t, gTup_fl, gTup_bl, gTup_dl, Bool.not_true, Bool.not_false, wB_ok', gInt_i, gm_is_int, gm_is_rule, gm_are_rules, gm_check_rule, gm_check_rules, gm_find_sides, gm_does_ring, gm_any_rings, gm_find_alarms, gm_find_still, gm_implies_rule, gm_implies, gm_history, gm_check_length, gm_go_on, gm_count_after, gm_count_quiet, gm_all_rows, gm_naive_implies, gm_naive_quiet, gm__law_drawn, gm__law_rules, gm__law_sides, gm__law_alarms, gm__law_rows, gm__law_badrules, gm__law_error, gm_law, bF_ok]
    rw [gIx_bd (d := stD rs q.1) (by rw [goE_get, if_pos hqk])]
    simp only [bF_ok, bF_exc, rb_ok, rb_exc, slO_dt, slO_fl, slO_fd, slV_dd, slV_ol, slV_od, frz_dd, frz_ol, frz_od, toDs_c, toDs_n, tD_dt, tD_fl, pk_dt, pk_fl, pk_bl, pk_kc, pk_fd, pk_bd, isB_b, gTru_b, gTru_n, bc_t, bc_f, intK_i, datV_d, unp2_t, unp3_t, ownK_ol, ownK_od, ownK_dd, retW_dt, retW_fl, gB_add, gB_sub, gC_lt, gC_le, gC_gt, gC_ge, itV_t, itV_l, itV_f, itV_b, itV_ro, itV_rs, gLen_ro, gLen_rs, gLen_dt, gLen_dl, gLen_fl, gLen_bl, gSl_t, gTup_fl, gTup_bl, gTup_dl, Bool.not_true, Bool.not_false, wB_ok', gInt_i, gm_is_int, gm_is_rule, gm_are_rules, gm_check_rule, gm_check_rules, gm_find_sides, gm_does_ring, gm_any_rings, gm_find_alarms, gm_find_still, gm_implies_rule, gm_implies, gm_history, gm_check_length, gm_go_on, gm_count_after, gm_count_quiet, gm_all_rows, gm_naive_implies, gm_naive_quiet, gm__law_drawn, gm__law_rules, gm__law_sides, gm__law_alarms, gm__law_rows, gm__law_badrules, gm__law_error, gm_law, show itV true (.dt (stD rs q.1)) = .ok ((nexts rs q.1).map pairD) from rfl]
    rw [e, m_count_after_r1_ok]
    rfl
theorem count_turn {rs : List RuT} {keys : List (List Int)} (hk : keys.length ≤ 400) (hc : ∀ h ∈ keys, ∀ p ∈ nexts rs h, p.2 ∈ keys) {f : Cn} (If : CnI keys f) (n : Nat) (v1 v2 v3 tn : PyData) (s2 s3 s4 s5 s1 sf : Sl) (hf : frzS sf = .dd (dicD (cnE f))) :
    ∃ lat a b c d, CnI keys lat ∧ pot rs n lat = pot rs (n + 1) f ∧ ∀ k, m_count_after_b1 tn v1 v2 v3 (.od (goE rs keys)) sf s1 s2 s3 s4 s5 k = k [.dd v1, .dd v2, .dd v3, .od (goE rs keys), .dd (dicD (cnE lat)), .dd tn, a, b, c, d] := by
  obtain ⟨ρ', ⟨lat, a, b, c, rfl, I', hp⟩, e⟩ := forC_ix (fun q : List Int × Int => roD q.1) (fun i ρ => ∃ lat a b c, ρ = [.dd v1, .dd v2, .dd v3, .od (goE rs keys), .dd (dicD (cnE f)), .dd tn, .od (cnE lat), a, b, c] ∧ CnI keys lat ∧
      pot rs n lat = pot rs (n + 1) (f.take i)) (f := count_after_b2) f 0
    [.dd v1, .dd v2, .dd v3, .od (goE rs keys), .dd (dicD (cnE f)), .dd tn, .od [], s3, s4, s5] ⟨[], s3, s4, s5, rfl, ⟨List.nodup_nil, fun _ h => (nomatch h)⟩, rfl⟩ (by
      rintro j q hj ρ ⟨lat, a, b, c, rfl, I', hp⟩
      obtain ⟨lat', x', y', I2, hp2, e2⟩ := count_key hk hc If (List.mem_of_getElem? hj) n v1 v2 v3 tn I' a b c
      refine ⟨_, ⟨lat', .dd (roD q.1), x', y', rfl, I2, ?_⟩, fun k => ?_⟩
      · rw [hp2, hp, Nat.zero_add]
        unfold pot
        rw [take_map _ hj, List.sum_append, List.sum_singleton]
      · rw [m_count_after_b2_ok]
        exact e2 k)
  rw [Nat.zero_add, List.take_length] at hp
  refine ⟨lat, .dd (dicD (cnE lat)), a, b, c, I', hp, fun k => ?_⟩
  unfold m_count_after_b1
  rw [hf]
  simp only [bF_ok, bF_exc, rb_ok, rb_exc, slO_dt, slO_fl, slO_fd, slV_dd, slV_ol, slV_od, frz_dd, frz_ol, frz_od, toDs_c, toDs_n, tD_dt, tD_fl, pk_dt, pk_fl, pk_bl, pk_kc, pk_fd, pk_bd, isB_b, gTru_b, gTru_n, bc_t, bc_f, intK_i, datV_d, unp2_t, unp3_t, ownK_ol, ownK_od, ownK_dd, retW_dt, retW_fl, gB_add, gB_sub, gC_lt, gC_le, gC_gt, gC_ge, itV_t, itV_l, itV_f, itV_b, itV_ro, itV_rs, gLen_ro, gLen_rs, gLen_dt, gLen_dl, gLen_fl, gLen_bl, gSl_t, gTup_fl, gTup_bl, gTup_dl, Bool.not_true, Bool.not_false, wB_ok', gInt_i, gm_is_int, gm_is_rule, gm_are_rules, gm_check_rule, gm_check_rules, gm_find_sides, gm_does_ring, gm_any_rings, gm_find_alarms, gm_find_still, gm_implies_rule, gm_implies, gm_history, gm_check_length, gm_go_on, gm_count_after, gm_count_quiet, gm_all_rows, gm_naive_implies, gm_naive_quiet, gm__law_drawn, gm__law_rules, gm__law_sides, gm__law_alarms, gm__law_rows, gm__law_badrules, gm__law_error, gm_law, itV_dic]
  have ek : (cnE f).map (fun p => roD p.1) = f.map fun q : List Int × Int => roD q.1 := by
    unfold cnE
    rw [List.map_map]
    rfl
  have e0 := e (count_after_r2 k)
  rw [ek, e0, m_count_after_r2_ok]
  unfold m_count_after_r2
  simp only [bF_ok, bF_exc, rb_ok, rb_exc, slO_dt, slO_fl, slO_fd, slV_dd, slV_ol, slV_od, frz_dd, frz_ol, frz_od, toDs_c, toDs_n, tD_dt, tD_fl, pk_dt, pk_fl, pk_bl, pk_kc, pk_fd, pk_bd, isB_b, gTru_b, gTru_n, bc_t, bc_f, intK_i, datV_d, unp2_t, unp3_t, ownK_ol, ownK_od, ownK_dd, retW_dt, retW_fl, gB_add, gB_sub, gC_lt, gC_le, gC_gt, gC_ge, itV_t, itV_l, itV_f, itV_b, itV_ro, itV_rs, gLen_ro, gLen_rs, gLen_dt, gLen_dl, gLen_fl, gLen_bl, gSl_t, gTup_fl, gTup_bl, gTup_dl, Bool.not_true, Bool.not_false, wB_ok', gInt_i, gm_is_int, gm_is_rule, gm_are_rules, gm_check_rule, gm_check_rules, gm_find_sides, gm_does_ring, gm_any_rings, gm_find_alarms, gm_find_still, gm_implies_rule, gm_implies, gm_history, gm_check_length, gm_go_on, gm_count_after, gm_count_quiet, gm_all_rows, gm_naive_implies, gm_naive_quiet, gm__law_drawn, gm__law_rules, gm__law_sides, gm__law_alarms, gm__law_rows, gm__law_badrules, gm__law_error, gm_law, bF_ok]
theorem count_after_ok {rs : List RuT} {start : List Int} (hr : Rs rs) (hs : Hi start) {n : Nat} (hn : n ≤ 30) : m_count_after (rsD rs) (roD start) (.int (n : Int)) = .ok (.dt (.int (ways rs n start : Nat))) := by
  obtain ⟨keys, e1, nd, hi, hst, hc⟩ := go_on_ok hr hs
  have k400 := keys_few nd hi
  unfold m_count_after
  simp only [bF_ok, bF_exc, rb_ok, rb_exc, slO_dt, slO_fl, slO_fd, slV_dd, slV_ol, slV_od, frz_dd, frz_ol, frz_od, toDs_c, toDs_n, tD_dt, tD_fl, pk_dt, pk_fl, pk_bl, pk_kc, pk_fd, pk_bd, isB_b, gTru_b, gTru_n, bc_t, bc_f, intK_i, datV_d, unp2_t, unp3_t, ownK_ol, ownK_od, ownK_dd, retW_dt, retW_fl, gB_add, gB_sub, gC_lt, gC_le, gC_gt, gC_ge, itV_t, itV_l, itV_f, itV_b, itV_ro, itV_rs, gLen_ro, gLen_rs, gLen_dt, gLen_dl, gLen_fl, gLen_bl, gSl_t, gTup_fl, gTup_bl, gTup_dl, Bool.not_true, Bool.not_false, wB_ok', gInt_i, gm_is_int, gm_is_rule, gm_are_rules, gm_check_rule, gm_check_rules, gm_find_sides, gm_does_ring, gm_any_rings, gm_find_alarms, gm_find_still, gm_implies_rule, gm_implies, gm_history, gm_check_length, gm_go_on, gm_count_after, gm_count_quiet, gm_all_rows, gm_naive_implies, gm_naive_quiet, gm__law_drawn, gm__law_rules, gm__law_sides, gm__law_alarms, gm__law_rows, gm__law_badrules, gm__law_error, gm_law, e1, gDisp_ro]
  rw [rng1_i (by omega) (by omega), rgD_map]
  obtain ⟨ρ', ⟨f, sf, a, b, c, d, tn, rfl, hf, If, hp⟩, e⟩ := forC_ix (fun i : Nat => PyData.int (i : Int)) (fun i ρ => ∃ f sf a b c d tn, ρ = [.dd (rsD rs), .dd (roD start), .dd (.int (n : Int)), .od (goE rs keys), sf, tn, a, b, c, d] ∧ frzS sf = .dd (dicD (cnE f)) ∧ CnI keys f ∧ pot rs (n - i) f = (ways rs n start : Int)) (f := count_after_b1) (List.range n) 0
    [.dd (rsD rs), .dd (roD start), .dd (.int (n : Int)), .od (goE rs keys), .od [(start, .int 1)], .em, .em, .em, .em, .em] ⟨[(start, 1)], .od [(start, .int 1)], .em, .em, .em, .em, .em, rfl, rfl, ⟨by simp, fun k hk => by rw [List.mem_singleton.mp hk]; exact hst⟩, by unfold pot; simp⟩ (by
      rintro j i hj ρ ⟨f, sf, a, b, c, d, tn, rfl, hf, If, hp⟩
      obtain ⟨hjn, rfl⟩ := ix_range hj
      rw [Nat.zero_add] at hp ⊢
      obtain ⟨lat, a', b', c', d', I', hp', e'⟩ := count_turn k400 hc If (n - (i + 1)) (rsD rs) (roD start) (.int (n : Int)) (.int (i : Int)) a b c d tn sf hf
      refine ⟨_, ⟨lat, .dd (dicD (cnE lat)), a', b', c', d', .dd (.int (i : Int)), rfl, rfl, I', ?_⟩, fun k => ?_⟩
      · rw [hp', show n - (i + 1) + 1 = n - i from by omega]
        exact hp
      · rw [m_count_after_b1_ok]
        exact e' k)
  rw [List.length_range, Nat.zero_add, Nat.sub_self] at hp
  rw [e, m_count_after_r3_ok]
  unfold m_count_after_r3
  rw [hf]
  simp only [bF_ok, bF_exc, rb_ok, rb_exc, slO_dt, slO_fl, slO_fd, slV_dd, slV_ol, slV_od, frz_dd, frz_ol, frz_od, toDs_c, toDs_n, tD_dt, tD_fl, pk_dt, pk_fl, pk_bl, pk_kc, pk_fd, pk_bd, isB_b, gTru_b, gTru_n, bc_t, bc_f, intK_i, datV_d, unp2_t, unp3_t, ownK_ol, ownK_od, ownK_dd, retW_dt, retW_fl, gB_add, gB_sub, gC_lt, gC_le, gC_gt, gC_ge, itV_t, itV_l, itV_f, itV_b, itV_ro, itV_rs, gLen_ro, gLen_rs, gLen_dt, gLen_dl, gLen_fl, gLen_bl, gSl_t, gTup_fl, gTup_bl, gTup_dl, Bool.not_true, Bool.not_false, wB_ok', gInt_i, gm_is_int, gm_is_rule, gm_are_rules, gm_check_rule, gm_check_rules, gm_find_sides, gm_does_ring, gm_any_rings, gm_find_alarms, gm_find_still, gm_implies_rule, gm_implies, gm_history, gm_check_length, gm_go_on, gm_count_after, gm_count_quiet, gm_all_rows, gm_naive_implies, gm_naive_quiet, gm__law_drawn, gm__law_rules, gm__law_sides, gm__law_alarms, gm__law_rows, gm__law_badrules, gm__law_error, gm_law, itV_dic]
  have ek : (cnE f).map (fun p => roD p.1) = f.map fun q : List Int × Int => roD q.1 := by
    unfold cnE
    rw [List.map_map]
    rfl
  rw [ek, lcL_map (fun q : List Int × Int => roD q.1) (fun q => .int q.2) f fun q hq => by
    rw [gIx_dd (cnE_at If.nd hq)]
    simp only [bF_ok, bF_exc, rb_ok, rb_exc, slO_dt, slO_fl, slO_fd, slV_dd, slV_ol, slV_od, frz_dd, frz_ol, frz_od, toDs_c, toDs_n, tD_dt, tD_fl, pk_dt, pk_fl, pk_bl, pk_kc, pk_fd, pk_bd, isB_b, gTru_b, gTru_n, bc_t, bc_f, intK_i, datV_d, unp2_t, unp3_t, ownK_ol, ownK_od, ownK_dd, retW_dt, retW_fl, gB_add, gB_sub, gC_lt, gC_le, gC_gt, gC_ge, itV_t, itV_l, itV_f, itV_b, itV_ro, itV_rs, gLen_ro, gLen_rs, gLen_dt, gLen_dl, gLen_fl, gLen_bl, gSl_t, gTup_fl, gTup_bl, gTup_dl, Bool.not_true, Bool.not_false, wB_ok', gInt_i, gm_is_int, gm_is_rule, gm_are_rules, gm_check_rule, gm_check_rules, gm_find_sides, gm_does_ring, gm_any_rings, gm_find_alarms, gm_find_still, gm_implies_rule, gm_implies, gm_history, gm_check_length, gm_go_on, gm_count_after, gm_count_quiet, gm_all_rows, gm_naive_implies, gm_naive_quiet, gm__law_drawn, gm__law_rules, gm__law_sides, gm__law_alarms, gm__law_rows, gm__law_badrules, gm__law_error, gm_law, bF_ok]]
  have := If.len
  simp only [bF_ok, bF_exc, rb_ok, rb_exc, slO_dt, slO_fl, slO_fd, slV_dd, slV_ol, slV_od, frz_dd, frz_ol, frz_od, toDs_c, toDs_n, tD_dt, tD_fl, pk_dt, pk_fl, pk_bl, pk_kc, pk_fd, pk_bd, isB_b, gTru_b, gTru_n, bc_t, bc_f, intK_i, datV_d, unp2_t, unp3_t, ownK_ol, ownK_od, ownK_dd, retW_dt, retW_fl, gB_add, gB_sub, gC_lt, gC_le, gC_gt, gC_ge, itV_t, itV_l, itV_f, itV_b, itV_ro, itV_rs, gLen_ro, gLen_rs, gLen_dt, gLen_dl, gLen_fl, gLen_bl, gSl_t, gTup_fl, gTup_bl, gTup_dl, Bool.not_true, Bool.not_false, wB_ok', gInt_i, gm_is_int, gm_is_rule, gm_are_rules, gm_check_rule, gm_check_rules, gm_find_sides, gm_does_ring, gm_any_rings, gm_find_alarms, gm_find_still, gm_implies_rule, gm_implies, gm_history, gm_check_length, gm_go_on, gm_count_after, gm_count_quiet, gm_all_rows, gm_naive_implies, gm_naive_quiet, gm__law_drawn, gm__law_rules, gm__law_sides, gm__law_alarms, gm__law_rows, gm__law_badrules, gm__law_error, gm_law, bF_ok]
  rw [if_pos (by rw [List.length_map]; omega), gSum_fl (ns := f.map fun q => q.2) (by rw [List.map_map]; rfl)]
  simp only [bF_ok, bF_exc, rb_ok, rb_exc, slO_dt, slO_fl, slO_fd, slV_dd, slV_ol, slV_od, frz_dd, frz_ol, frz_od, toDs_c, toDs_n, tD_dt, tD_fl, pk_dt, pk_fl, pk_bl, pk_kc, pk_fd, pk_bd, isB_b, gTru_b, gTru_n, bc_t, bc_f, intK_i, datV_d, unp2_t, unp3_t, ownK_ol, ownK_od, ownK_dd, retW_dt, retW_fl, gB_add, gB_sub, gC_lt, gC_le, gC_gt, gC_ge, itV_t, itV_l, itV_f, itV_b, itV_ro, itV_rs, gLen_ro, gLen_rs, gLen_dt, gLen_dl, gLen_fl, gLen_bl, gSl_t, gTup_fl, gTup_bl, gTup_dl, Bool.not_true, Bool.not_false, wB_ok', gInt_i, gm_is_int, gm_is_rule, gm_are_rules, gm_check_rule, gm_check_rules, gm_find_sides, gm_does_ring, gm_any_rings, gm_find_alarms, gm_find_still, gm_implies_rule, gm_implies, gm_history, gm_check_length, gm_go_on, gm_count_after, gm_count_quiet, gm_all_rows, gm_naive_implies, gm_naive_quiet, gm__law_drawn, gm__law_rules, gm__law_sides, gm__law_alarms, gm__law_rows, gm__law_badrules, gm__law_error, gm_law, bF_ok]
  have : (f.map fun q => q.2).sum = pot rs 0 f := by
    unfold pot
    congr 1
    apply List.map_congr_left
    intro q _
    show _ = q.2 * ((1 : Nat) : Int)
    omega
  rw [this, hp]
theorem count_quiet_ok {rs : List RuT} (hr : Rs rs) {n : Nat} (hn : n ≤ 30) : m_count_quiet (rsD rs) (.int (n : Int)) = .ok (.dt (.int (waysR rs n [] : Nat))) := by
  unfold m_count_quiet
  simp only [bF_ok, bF_exc, rb_ok, rb_exc, slO_dt, slO_fl, slO_fd, slV_dd, slV_ol, slV_od, frz_dd, frz_ol, frz_od, toDs_c, toDs_n, tD_dt, tD_fl, pk_dt, pk_fl, pk_bl, pk_kc, pk_fd, pk_bd, isB_b, gTru_b, gTru_n, bc_t, bc_f, intK_i, datV_d, unp2_t, unp3_t, ownK_ol, ownK_od, ownK_dd, retW_dt, retW_fl, gB_add, gB_sub, gC_lt, gC_le, gC_gt, gC_ge, itV_t, itV_l, itV_f, itV_b, itV_ro, itV_rs, gLen_ro, gLen_rs, gLen_dt, gLen_dl, gLen_fl, gLen_bl, gSl_t, gTup_fl, gTup_bl, gTup_dl, Bool.not_true, Bool.not_false, wB_ok', gInt_i, gm_is_int, gm_is_rule, gm_are_rules, gm_check_rule, gm_check_rules, gm_find_sides, gm_does_ring, gm_any_rings, gm_find_alarms, gm_find_still, gm_implies_rule, gm_implies, gm_history, gm_check_length, gm_go_on, gm_count_after, gm_count_quiet, gm_all_rows, gm_naive_implies, gm_naive_quiet, gm__law_drawn, gm__law_rules, gm__law_sides, gm__law_alarms, gm__law_rows, gm__law_badrules, gm__law_error, gm_law, check_rules_ok hr, check_length_ok (n := (n : Int)) (by omega) (by omega)]
  rw [show PyData.tuple [] = roD [] from rfl, count_after_ok (start := []) hr ⟨by decide, fun _ h => (nomatch h)⟩ hn, waysR_hist hr.ok]
  simp only [bF_ok, bF_exc, rb_ok, rb_exc, slO_dt, slO_fl, slO_fd, slV_dd, slV_ol, slV_od, frz_dd, frz_ol, frz_od, toDs_c, toDs_n, tD_dt, tD_fl, pk_dt, pk_fl, pk_bl, pk_kc, pk_fd, pk_bd, isB_b, gTru_b, gTru_n, bc_t, bc_f, intK_i, datV_d, unp2_t, unp3_t, ownK_ol, ownK_od, ownK_dd, retW_dt, retW_fl, gB_add, gB_sub, gC_lt, gC_le, gC_gt, gC_ge, itV_t, itV_l, itV_f, itV_b, itV_ro, itV_rs, gLen_ro, gLen_rs, gLen_dt, gLen_dl, gLen_fl, gLen_bl, gSl_t, gTup_fl, gTup_bl, gTup_dl, Bool.not_true, Bool.not_false, wB_ok', gInt_i, gm_is_int, gm_is_rule, gm_are_rules, gm_check_rule, gm_check_rules, gm_find_sides, gm_does_ring, gm_any_rings, gm_find_alarms, gm_find_still, gm_implies_rule, gm_implies, gm_history, gm_check_length, gm_go_on, gm_count_after, gm_count_quiet, gm_all_rows, gm_naive_implies, gm_naive_quiet, gm__law_drawn, gm__law_rules, gm__law_sides, gm__law_alarms, gm__law_rows, gm__law_badrules, gm__law_error, gm_law, bF_ok]
  rfl
/-! ### implied rules -/
theorem implies_rule_ok (q o : RuT) : m_implies_rule (ruD q) (ruD o) = .ok (.dt (.bool (implR q o))) := by
  unfold m_implies_rule ruD implR
  simp only [bF_ok, bF_exc, rb_ok, rb_exc, slO_dt, slO_fl, slO_fd, slV_dd, slV_ol, slV_od, frz_dd, frz_ol, frz_od, toDs_c, toDs_n, tD_dt, tD_fl, pk_dt, pk_fl, pk_bl, pk_kc, pk_fd, pk_bd, isB_b, gTru_b, gTru_n, bc_t, bc_f, intK_i, datV_d, unp2_t, unp3_t, ownK_ol, ownK_od, ownK_dd, retW_dt, retW_fl, gB_add, gB_sub, gC_lt, gC_le, gC_gt, gC_ge, itV_t, itV_l, itV_f, itV_b, itV_ro, itV_rs, gLen_ro, gLen_rs, gLen_dt, gLen_dl, gLen_fl, gLen_bl, gSl_t, gTup_fl, gTup_bl, gTup_dl, Bool.not_true, Bool.not_false, wB_ok', gInt_i, gm_is_int, gm_is_rule, gm_are_rules, gm_check_rule, gm_check_rules, gm_find_sides, gm_does_ring, gm_any_rings, gm_find_alarms, gm_find_still, gm_implies_rule, gm_implies, gm_history, gm_check_length, gm_go_on, gm_count_after, gm_count_quiet, gm_all_rows, gm_naive_implies, gm_naive_quiet, gm__law_drawn, gm__law_rules, gm__law_sides, gm__law_alarms, gm__law_rows, gm__law_badrules, gm__law_error, gm_law, gMM_i, if_true]
  cases decide (o.2.2 ≤ q.2.2) <;> simp only [bF_ok, bF_exc, rb_ok, rb_exc, slO_dt, slO_fl, slO_fd, slV_dd, slV_ol, slV_od, frz_dd, frz_ol, frz_od, toDs_c, toDs_n, tD_dt, tD_fl, pk_dt, pk_fl, pk_bl, pk_kc, pk_fd, pk_bd, isB_b, gTru_b, gTru_n, bc_t, bc_f, intK_i, datV_d, unp2_t, unp3_t, ownK_ol, ownK_od, ownK_dd, retW_dt, retW_fl, gB_add, gB_sub, gC_lt, gC_le, gC_gt, gC_ge, itV_t, itV_l, itV_f, itV_b, itV_ro, itV_rs, gLen_ro, gLen_rs, gLen_dt, gLen_dl, gLen_fl, gLen_bl, gSl_t, gTup_fl, gTup_bl, gTup_dl, Bool.not_true, Bool.not_false, wB_ok', gInt_i, gm_is_int, gm_is_rule, gm_are_rules, gm_check_rule, gm_check_rules, gm_find_sides, gm_does_ring, gm_any_rings, gm_find_alarms, gm_find_still, gm_implies_rule, gm_implies, gm_history, gm_check_length, gm_go_on, gm_count_after, gm_count_quiet, gm_all_rows, gm_naive_implies, gm_naive_quiet, gm__law_drawn, gm__law_rules, gm__law_sides, gm__law_alarms, gm__law_rows, gm__law_badrules, gm__law_error, gm_law, Bool.true_and, Bool.false_and]
theorem implies_ok {q o : RuT} (hq : Ru q) (ho : Ru o) : m_implies (ruD q) (ruD o) = .ok (.dt (.bool (implR q o))) := by
  unfold m_implies
  simp only [bF_ok, bF_exc, rb_ok, rb_exc, slO_dt, slO_fl, slO_fd, slV_dd, slV_ol, slV_od, frz_dd, frz_ol, frz_od, toDs_c, toDs_n, tD_dt, tD_fl, pk_dt, pk_fl, pk_bl, pk_kc, pk_fd, pk_bd, isB_b, gTru_b, gTru_n, bc_t, bc_f, intK_i, datV_d, unp2_t, unp3_t, ownK_ol, ownK_od, ownK_dd, retW_dt, retW_fl, gB_add, gB_sub, gC_lt, gC_le, gC_gt, gC_ge, itV_t, itV_l, itV_f, itV_b, itV_ro, itV_rs, gLen_ro, gLen_rs, gLen_dt, gLen_dl, gLen_fl, gLen_bl, gSl_t, gTup_fl, gTup_bl, gTup_dl, Bool.not_true, Bool.not_false, wB_ok', gInt_i, gm_is_int, gm_is_rule, gm_are_rules, gm_check_rule, gm_check_rules, gm_find_sides, gm_does_ring, gm_any_rings, gm_find_alarms, gm_find_still, gm_implies_rule, gm_implies, gm_history, gm_check_length, gm_go_on, gm_count_after, gm_count_quiet, gm_all_rows, gm_naive_implies, gm_naive_quiet, gm__law_drawn, gm__law_rules, gm__law_sides, gm__law_alarms, gm__law_rows, gm__law_badrules, gm__law_error, gm_law, check_rule_ok hq, check_rule_ok ho, implies_rule_ok]
theorem all_rows_ok {n : Nat} (hn : n ≤ 7) : m_all_rows (.int (n : Int)) = .ok (.fl ((allR n).map roD)) := by
  unfold m_all_rows
  rw [rng1_i (by omega) (by omega), rgD_map]
  obtain ⟨ρ', ⟨s, rfl⟩, e⟩ := forC_ix (fun i : Nat => PyData.int (i : Int)) (fun i ρ => ∃ s, ρ = [.dd (.int (n : Int)), .ol ((allR i).map roD), s, .em, .em]) (f := all_rows_b1) (List.range n) 0
    [.dd (.int (n : Int)), .ol [.tuple []], .em, .em, .em] ⟨_, rfl⟩ (by
      rintro j a ha ρ ⟨s, rfl⟩
      have hj : j < n := by
        have := (List.getElem?_eq_some_iff.mp ha).1
        rwa [List.length_range] at this
      refine ⟨_, ⟨.dd (.int (a : Int)), rfl⟩, fun k => ?_⟩
      rw [m_all_rows_b1_ok]
      unfold m_all_rows_b1
      simp only [bF_ok, bF_exc, rb_ok, rb_exc, slO_dt, slO_fl, slO_fd, slV_dd, slV_ol, slV_od, frz_dd, frz_ol, frz_od, toDs_c, toDs_n, tD_dt, tD_fl, pk_dt, pk_fl, pk_bl, pk_kc, pk_fd, pk_bd, isB_b, gTru_b, gTru_n, bc_t, bc_f, intK_i, datV_d, unp2_t, unp3_t, ownK_ol, ownK_od, ownK_dd, retW_dt, retW_fl, gB_add, gB_sub, gC_lt, gC_le, gC_gt, gC_ge, itV_t, itV_l, itV_f, itV_b, itV_ro, itV_rs, gLen_ro, gLen_rs, gLen_dt, gLen_dl, gLen_fl, gLen_bl, gSl_t, gTup_fl, gTup_bl, gTup_dl, Bool.not_true, Bool.not_false, wB_ok', gInt_i, gm_is_int, gm_is_rule, gm_are_rules, gm_check_rule, gm_check_rules, gm_find_sides, gm_does_ring, gm_any_rings, gm_find_alarms, gm_find_still, gm_implies_rule, gm_implies, gm_history, gm_check_length, gm_go_on, gm_count_after, gm_count_quiet, gm_all_rows, gm_naive_implies, gm_naive_quiet, gm__law_drawn, gm__law_rules, gm__law_sides, gm__law_alarms, gm__law_rows, gm__law_badrules, gm__law_error, gm_law, bF_ok]
      rw [lcM_flat roD (fun b => (V7.map fun v => b ++ [v]).map roD) (allR (0 + j)) fun b hb => by
        rw [show itV true (.kc (.tuple [.int (-3), .int (-2), .int (-1), .int (0), .int (1), .int (2), .int (3)])) = .ok (V7.map .int) from rfl]
        have hbl := (mem_allR.mp hb).1
        simp only [bF_ok, bF_exc, rb_ok, rb_exc, slO_dt, slO_fl, slO_fd, slV_dd, slV_ol, slV_od, frz_dd, frz_ol, frz_od, toDs_c, toDs_n, tD_dt, tD_fl, pk_dt, pk_fl, pk_bl, pk_kc, pk_fd, pk_bd, isB_b, gTru_b, gTru_n, bc_t, bc_f, intK_i, datV_d, unp2_t, unp3_t, ownK_ol, ownK_od, ownK_dd, retW_dt, retW_fl, gB_add, gB_sub, gC_lt, gC_le, gC_gt, gC_ge, itV_t, itV_l, itV_f, itV_b, itV_ro, itV_rs, gLen_ro, gLen_rs, gLen_dt, gLen_dl, gLen_fl, gLen_bl, gSl_t, gTup_fl, gTup_bl, gTup_dl, Bool.not_true, Bool.not_false, wB_ok', gInt_i, gm_is_int, gm_is_rule, gm_are_rules, gm_check_rule, gm_check_rules, gm_find_sides, gm_does_ring, gm_any_rings, gm_find_alarms, gm_find_still, gm_implies_rule, gm_implies, gm_history, gm_check_length, gm_go_on, gm_count_after, gm_count_quiet, gm_all_rows, gm_naive_implies, gm_naive_quiet, gm__law_drawn, gm__law_rules, gm__law_sides, gm__law_alarms, gm__law_rows, gm__law_badrules, gm__law_error, gm_law, bF_ok]
        rw [lcL_map .int (fun v => roD (b ++ [v])) V7 fun v hv => by simp only [bF_ok, bF_exc, rb_ok, rb_exc, slO_dt, slO_fl, slO_fd, slV_dd, slV_ol, slV_od, frz_dd, frz_ol, frz_od, toDs_c, toDs_n, tD_dt, tD_fl, pk_dt, pk_fl, pk_bl, pk_kc, pk_fd, pk_bd, isB_b, gTru_b, gTru_n, bc_t, bc_f, intK_i, datV_d, unp2_t, unp3_t, ownK_ol, ownK_od, ownK_dd, retW_dt, retW_fl, gB_add, gB_sub, gC_lt, gC_le, gC_gt, gC_ge, itV_t, itV_l, itV_f, itV_b, itV_ro, itV_rs, gLen_ro, gLen_rs, gLen_dt, gLen_dl, gLen_fl, gLen_bl, gSl_t, gTup_fl, gTup_bl, gTup_dl, Bool.not_true, Bool.not_false, wB_ok', gInt_i, gm_is_int, gm_is_rule, gm_are_rules, gm_check_rule, gm_check_rules, gm_find_sides, gm_does_ring, gm_any_rings, gm_find_alarms, gm_find_still, gm_implies_rule, gm_implies, gm_history, gm_check_length, gm_go_on, gm_count_after, gm_count_quiet, gm_all_rows, gm_naive_implies, gm_naive_quiet, gm__law_drawn, gm__law_rules, gm__law_sides, gm__law_alarms, gm__law_rows, gm__law_badrules, gm__law_error, gm_law, add_ro b v (by omega)], List.map_map]
        rfl]
      simp only [bF_ok, bF_exc, rb_ok, rb_exc, slO_dt, slO_fl, slO_fd, slV_dd, slV_ol, slV_od, frz_dd, frz_ol, frz_od, toDs_c, toDs_n, tD_dt, tD_fl, pk_dt, pk_fl, pk_bl, pk_kc, pk_fd, pk_bd, isB_b, gTru_b, gTru_n, bc_t, bc_f, intK_i, datV_d, unp2_t, unp3_t, ownK_ol, ownK_od, ownK_dd, retW_dt, retW_fl, gB_add, gB_sub, gC_lt, gC_le, gC_gt, gC_ge, itV_t, itV_l, itV_f, itV_b, itV_ro, itV_rs, gLen_ro, gLen_rs, gLen_dt, gLen_dl, gLen_fl, gLen_bl, gSl_t, gTup_fl, gTup_bl, gTup_dl, Bool.not_true, Bool.not_false, wB_ok', gInt_i, gm_is_int, gm_is_rule, gm_are_rules, gm_check_rule, gm_check_rules, gm_find_sides, gm_does_ring, gm_any_rings, gm_find_alarms, gm_find_still, gm_implies_rule, gm_implies, gm_history, gm_check_length, gm_go_on, gm_count_after, gm_count_quiet, gm_all_rows, gm_naive_implies, gm_naive_quiet, gm__law_drawn, gm__law_rules, gm__law_sides, gm__law_alarms, gm__law_rows, gm__law_badrules, gm__law_error, gm_law, bF_ok]
      have e : ((allR (0 + j)).flatMap fun b => (V7.map fun v => b ++ [v]).map roD) = (allR (0 + j + 1)).map roD := by
        show _ = ((allR (0 + j)).flatMap fun b => V7.map fun v => b ++ [v]).map roD
        rw [List.map_flatMap]
      rw [e, if_pos (by have := len_allR (n := 0 + j + 1) (by omega); rw [List.length_map]; omega)])
  rw [e, m_all_rows_r1_ok]
  unfold m_all_rows_r1
  simp only [bF_ok, bF_exc, rb_ok, rb_exc, slO_dt, slO_fl, slO_fd, slV_dd, slV_ol, slV_od, frz_dd, frz_ol, frz_od, toDs_c, toDs_n, tD_dt, tD_fl, pk_dt, pk_fl, pk_bl, pk_kc, pk_fd, pk_bd, isB_b, gTru_b, gTru_n, bc_t, bc_f, intK_i, datV_d, unp2_t, unp3_t, ownK_ol, ownK_od, ownK_dd, retW_dt, retW_fl, gB_add, gB_sub, gC_lt, gC_le, gC_gt, gC_ge, itV_t, itV_l, itV_f, itV_b, itV_ro, itV_rs, gLen_ro, gLen_rs, gLen_dt, gLen_dl, gLen_fl, gLen_bl, gSl_t, gTup_fl, gTup_bl, gTup_dl, Bool.not_true, Bool.not_false, wB_ok', gInt_i, gm_is_int, gm_is_rule, gm_are_rules, gm_check_rule, gm_check_rules, gm_find_sides, gm_does_ring, gm_any_rings, gm_find_alarms, gm_find_still, gm_implies_rule, gm_implies, gm_history, gm_check_length, gm_go_on, gm_count_after, gm_count_quiet, gm_all_rows, gm_naive_implies, gm_naive_quiet, gm__law_drawn, gm__law_rules, gm__law_sides, gm__law_alarms, gm__law_rows, gm__law_badrules, gm__law_error, gm_law, bF_ok]
  rw [List.length_range, Nat.zero_add]
/-! ### the law's own sides and rows -/
theorem sides_turn {q : RuT} (hq : Ru q) {r : List Int} (hr : r.length ≤ 1000) (v : PyData) (u d : Bool) (s1 s2 s3 s4 : Sl) : ∃ t1 t2 t3 t4, ∀ k, _law_sides_b1 (ruD q) [.dd v, .dd (roD r), .dd (.bool u), .dd (.bool d), s1, s2, s3, s4, .em] k =
    k [.dd v, .dd (roD r), .dd (.bool (u || abv q r)), .dd (.bool (d || blw q r)), t1, t2, t3, t4, .em] := by
  have w1 := hq.w1
  have hl : (lst q.2.1 r).length ≤ r.length := (lst_len _ _).1
  refine ⟨.dd (.int q.1), .dd (.int q.2.1), .dd (.int q.2.2), .dd (roD (lst q.2.1 r)), fun k => ?_⟩
  rw [m__law_sides_b1_ok]
  unfold m__law_sides_b1
  have e0 : (r.length : Int) - min (r.length : Int) q.2.1 = ((r.length - q.2.1.toNat : Nat) : Int) := by omega
  have s0 : gSl (.dt (roD r)) (some ((r.length - q.2.1.toNat : Nat) : Int)) none = .ok (.dt (roD (lst q.2.1 r))) := gSl_from r _
  have f1 : lcL (fun x1 => wB ((gCmp .GtE (.dt x1) (.dt (.int q.2.2))).bF fun w8 => (isB w8.peek).bF fun b2 => bc b2 (.ok (some x1)) (.ok none))) ((lst q.2.1 r).map .int) = .ok (((lst q.2.1 r).filter fun v => decide (q.2.2 ≤ v)).map .int) :=
    lcL_filter .int (fun v => decide (q.2.2 ≤ v)) .int (lst q.2.1 r) fun v hv => by
      by_cases h : q.2.2 ≤ v
      · simp only [bF_ok, bF_exc, rb_ok, rb_exc, slO_dt, slO_fl, slO_fd, slV_dd, slV_ol, slV_od, frz_dd, frz_ol, frz_od, toDs_c, toDs_n, tD_dt, tD_fl, pk_dt, pk_fl, pk_bl, pk_kc, pk_fd, pk_bd, isB_b, gTru_b, gTru_n, bc_t, bc_f, intK_i, datV_d, unp2_t, unp3_t, ownK_ol, ownK_od, ownK_dd, retW_dt, retW_fl, gB_add, gB_sub, gC_lt, gC_le, gC_gt, gC_ge, itV_t, itV_l, itV_f, itV_b, itV_ro, itV_rs, gLen_ro, gLen_rs, gLen_dt, gLen_dl, gLen_fl, gLen_bl, gSl_t, gTup_fl, gTup_bl, gTup_dl, Bool.not_true, Bool.not_false, wB_ok', gInt_i, gm_is_int, gm_is_rule, gm_are_rules, gm_check_rule, gm_check_rules, gm_find_sides, gm_does_ring, gm_any_rings, gm_find_alarms, gm_find_still, gm_implies_rule, gm_implies, gm_history, gm_check_length, gm_go_on, gm_count_after, gm_count_quiet, gm_all_rows, gm_naive_implies, gm_naive_quiet, gm__law_drawn, gm__law_rules, gm__law_sides, gm__law_alarms, gm__law_rows, gm__law_badrules, gm__law_error, gm_law, decide_eq_true h]
        rfl
      · simp only [bF_ok, bF_exc, rb_ok, rb_exc, slO_dt, slO_fl, slO_fd, slV_dd, slV_ol, slV_od, frz_dd, frz_ol, frz_od, toDs_c, toDs_n, tD_dt, tD_fl, pk_dt, pk_fl, pk_bl, pk_kc, pk_fd, pk_bd, isB_b, gTru_b, gTru_n, bc_t, bc_f, intK_i, datV_d, unp2_t, unp3_t, ownK_ol, ownK_od, ownK_dd, retW_dt, retW_fl, gB_add, gB_sub, gC_lt, gC_le, gC_gt, gC_ge, itV_t, itV_l, itV_f, itV_b, itV_ro, itV_rs, gLen_ro, gLen_rs, gLen_dt, gLen_dl, gLen_fl, gLen_bl, gSl_t, gTup_fl, gTup_bl, gTup_dl, Bool.not_true, Bool.not_false, wB_ok', gInt_i, gm_is_int, gm_is_rule, gm_are_rules, gm_check_rule, gm_check_rules, gm_find_sides, gm_does_ring, gm_any_rings, gm_find_alarms, gm_find_still, gm_implies_rule, gm_implies, gm_history, gm_check_length, gm_go_on, gm_count_after, gm_count_quiet, gm_all_rows, gm_naive_implies, gm_naive_quiet, gm__law_drawn, gm__law_rules, gm__law_sides, gm__law_alarms, gm__law_rows, gm__law_badrules, gm__law_error, gm_law, decide_eq_false h]
        rfl
  have f2 : lcL (fun x2 => wB ((gBin .Sub (.dt (.int 0)) (.dt (.int q.2.2))).bF fun w14 => (gCmp .LtE (.dt x2) w14).bF fun w15 => (isB w15.peek).bF fun b4 => bc b4 (.ok (some x2)) (.ok none))) ((lst q.2.1 r).map .int) = .ok (((lst q.2.1 r).filter fun v => decide (v ≤ 0 - q.2.2)).map .int) :=
    lcL_filter .int (fun v => decide (v ≤ 0 - q.2.2)) .int (lst q.2.1 r) fun v hv => by
      by_cases h : v ≤ 0 - q.2.2
      · simp only [bF_ok, bF_exc, rb_ok, rb_exc, slO_dt, slO_fl, slO_fd, slV_dd, slV_ol, slV_od, frz_dd, frz_ol, frz_od, toDs_c, toDs_n, tD_dt, tD_fl, pk_dt, pk_fl, pk_bl, pk_kc, pk_fd, pk_bd, isB_b, gTru_b, gTru_n, bc_t, bc_f, intK_i, datV_d, unp2_t, unp3_t, ownK_ol, ownK_od, ownK_dd, retW_dt, retW_fl, gB_add, gB_sub, gC_lt, gC_le, gC_gt, gC_ge, itV_t, itV_l, itV_f, itV_b, itV_ro, itV_rs, gLen_ro, gLen_rs, gLen_dt, gLen_dl, gLen_fl, gLen_bl, gSl_t, gTup_fl, gTup_bl, gTup_dl, Bool.not_true, Bool.not_false, wB_ok', gInt_i, gm_is_int, gm_is_rule, gm_are_rules, gm_check_rule, gm_check_rules, gm_find_sides, gm_does_ring, gm_any_rings, gm_find_alarms, gm_find_still, gm_implies_rule, gm_implies, gm_history, gm_check_length, gm_go_on, gm_count_after, gm_count_quiet, gm_all_rows, gm_naive_implies, gm_naive_quiet, gm__law_drawn, gm__law_rules, gm__law_sides, gm__law_alarms, gm__law_rows, gm__law_badrules, gm__law_error, gm_law, decide_eq_true h]
        rfl
      · simp only [bF_ok, bF_exc, rb_ok, rb_exc, slO_dt, slO_fl, slO_fd, slV_dd, slV_ol, slV_od, frz_dd, frz_ol, frz_od, toDs_c, toDs_n, tD_dt, tD_fl, pk_dt, pk_fl, pk_bl, pk_kc, pk_fd, pk_bd, isB_b, gTru_b, gTru_n, bc_t, bc_f, intK_i, datV_d, unp2_t, unp3_t, ownK_ol, ownK_od, ownK_dd, retW_dt, retW_fl, gB_add, gB_sub, gC_lt, gC_le, gC_gt, gC_ge, itV_t, itV_l, itV_f, itV_b, itV_ro, itV_rs, gLen_ro, gLen_rs, gLen_dt, gLen_dl, gLen_fl, gLen_bl, gSl_t, gTup_fl, gTup_bl, gTup_dl, Bool.not_true, Bool.not_false, wB_ok', gInt_i, gm_is_int, gm_is_rule, gm_are_rules, gm_check_rule, gm_check_rules, gm_find_sides, gm_does_ring, gm_any_rings, gm_find_alarms, gm_find_still, gm_implies_rule, gm_implies, gm_history, gm_check_length, gm_go_on, gm_count_after, gm_count_quiet, gm_all_rows, gm_naive_implies, gm_naive_quiet, gm__law_drawn, gm__law_rules, gm__law_sides, gm__law_alarms, gm__law_rows, gm__law_badrules, gm__law_error, gm_law, decide_eq_false h]
        rfl
  have f2' := f2
  simp only [bF_ok, bF_exc, rb_ok, rb_exc, slO_dt, slO_fl, slO_fd, slV_dd, slV_ol, slV_od, frz_dd, frz_ol, frz_od, toDs_c, toDs_n, tD_dt, tD_fl, pk_dt, pk_fl, pk_bl, pk_kc, pk_fd, pk_bd, isB_b, gTru_b, gTru_n, bc_t, bc_f, intK_i, datV_d, unp2_t, unp3_t, ownK_ol, ownK_od, ownK_dd, retW_dt, retW_fl, gB_add, gB_sub, gC_lt, gC_le, gC_gt, gC_ge, itV_t, itV_l, itV_f, itV_b, itV_ro, itV_rs, gLen_ro, gLen_rs, gLen_dt, gLen_dl, gLen_fl, gLen_bl, gSl_t, gTup_fl, gTup_bl, gTup_dl, Bool.not_true, Bool.not_false, wB_ok', gInt_i, gm_is_int, gm_is_rule, gm_are_rules, gm_check_rule, gm_check_rules, gm_find_sides, gm_does_ring, gm_any_rings, gm_find_alarms, gm_find_still, gm_implies_rule, gm_implies, gm_history, gm_check_length, gm_go_on, gm_count_after, gm_count_quiet, gm_all_rows, gm_naive_implies, gm_naive_quiet, gm__law_drawn, gm__law_rules, gm__law_sides, gm__law_alarms, gm__law_rows, gm__law_badrules, gm__law_error, gm_law, bF_ok] at f2'
  have l1 := List.length_filter_le (fun v => decide (q.2.2 ≤ v)) (lst q.2.1 r)
  have l2 := List.length_filter_le (fun v => decide (v ≤ 0 - q.2.2)) (lst q.2.1 r)
  have c1 : (((lst q.2.1 r).filter fun v => decide (q.2.2 ≤ v)).map PyData.int).length ≤ 16777216 := by rw [List.length_map]; omega
  have c2 : (((lst q.2.1 r).filter fun v => decide (v ≤ 0 - q.2.2)).map PyData.int).length ≤ 16777216 := by rw [List.length_map]; omega
  have A : bc u (.ok (.dt (.bool true))) (.ok (.dt (.bool (decide (q.1 ≤ ((((lst q.2.1 r).filter fun v => decide (q.2.2 ≤ v)).map PyData.int).length : Int)))))) = (.ok (.dt (.bool (u || abv q r))) : R Vw) := by
    rw [List.length_map]
    unfold abv nAb
    cases u <;> rfl
  have B : bc d (.ok (.dt (.bool true))) (.ok (.dt (.bool (decide (q.1 ≤ ((((lst q.2.1 r).filter fun v => decide (v ≤ 0 - q.2.2)).map PyData.int).length : Int)))))) = (.ok (.dt (.bool (d || blw q r))) : R Vw) := by
    rw [List.length_map]
    unfold blw nBe
    cases d <;> rfl
  show unp3 (.tuple [.int q.1, .int q.2.1, .int q.2.2]) _ = _
  simp only [bF_ok, bF_exc, rb_ok, rb_exc, slO_dt, slO_fl, slO_fd, slV_dd, slV_ol, slV_od, frz_dd, frz_ol, frz_od, toDs_c, toDs_n, tD_dt, tD_fl, pk_dt, pk_fl, pk_bl, pk_kc, pk_fd, pk_bd, isB_b, gTru_b, gTru_n, bc_t, bc_f, intK_i, datV_d, unp2_t, unp3_t, ownK_ol, ownK_od, ownK_dd, retW_dt, retW_fl, gB_add, gB_sub, gC_lt, gC_le, gC_gt, gC_ge, itV_t, itV_l, itV_f, itV_b, itV_ro, itV_rs, gLen_ro, gLen_rs, gLen_dt, gLen_dl, gLen_fl, gLen_bl, gSl_t, gTup_fl, gTup_bl, gTup_dl, Bool.not_true, Bool.not_false, wB_ok', gInt_i, gm_is_int, gm_is_rule, gm_are_rules, gm_check_rule, gm_check_rules, gm_find_sides, gm_does_ring, gm_any_rings, gm_find_alarms, gm_find_still, gm_implies_rule, gm_implies, gm_history, gm_check_length, gm_go_on, gm_count_after, gm_count_quiet, gm_all_rows, gm_naive_implies, gm_naive_quiet, gm__law_drawn, gm__law_rules, gm__law_sides, gm__law_alarms, gm__law_rows, gm__law_badrules, gm__law_error, gm_law, gMM_i, Bool.false_eq_true, if_false, e0, s0]
  rw [f1]
  simp only [bF_ok, bF_exc, rb_ok, rb_exc, slO_dt, slO_fl, slO_fd, slV_dd, slV_ol, slV_od, frz_dd, frz_ol, frz_od, toDs_c, toDs_n, tD_dt, tD_fl, pk_dt, pk_fl, pk_bl, pk_kc, pk_fd, pk_bd, isB_b, gTru_b, gTru_n, bc_t, bc_f, intK_i, datV_d, unp2_t, unp3_t, ownK_ol, ownK_od, ownK_dd, retW_dt, retW_fl, gB_add, gB_sub, gC_lt, gC_le, gC_gt, gC_ge, itV_t, itV_l, itV_f, itV_b, itV_ro, itV_rs, gLen_ro, gLen_rs, gLen_dt, gLen_dl, gLen_fl, gLen_bl, gSl_t, gTup_fl, gTup_bl, gTup_dl, Bool.not_true, Bool.not_false, wB_ok', gInt_i, gm_is_int, gm_is_rule, gm_are_rules, gm_check_rule, gm_check_rules, gm_find_sides, gm_does_ring, gm_any_rings, gm_find_alarms, gm_find_still, gm_implies_rule, gm_implies, gm_history, gm_check_length, gm_go_on, gm_count_after, gm_count_quiet, gm_all_rows, gm_naive_implies, gm_naive_quiet, gm__law_drawn, gm__law_rules, gm__law_sides, gm__law_alarms, gm__law_rows, gm__law_badrules, gm__law_error, gm_law, if_pos c1, A]
  rw [f2']
  simp only [bF_ok, bF_exc, rb_ok, rb_exc, slO_dt, slO_fl, slO_fd, slV_dd, slV_ol, slV_od, frz_dd, frz_ol, frz_od, toDs_c, toDs_n, tD_dt, tD_fl, pk_dt, pk_fl, pk_bl, pk_kc, pk_fd, pk_bd, isB_b, gTru_b, gTru_n, bc_t, bc_f, intK_i, datV_d, unp2_t, unp3_t, ownK_ol, ownK_od, ownK_dd, retW_dt, retW_fl, gB_add, gB_sub, gC_lt, gC_le, gC_gt, gC_ge, itV_t, itV_l, itV_f, itV_b, itV_ro, itV_rs, gLen_ro, gLen_rs, gLen_dt, gLen_dl, gLen_fl, gLen_bl, gSl_t, gTup_fl, gTup_bl, gTup_dl, Bool.not_true, Bool.not_false, wB_ok', gInt_i, gm_is_int, gm_is_rule, gm_are_rules, gm_check_rule, gm_check_rules, gm_find_sides, gm_does_ring, gm_any_rings, gm_find_alarms, gm_find_still, gm_implies_rule, gm_implies, gm_history, gm_check_length, gm_go_on, gm_count_after, gm_count_quiet, gm_all_rows, gm_naive_implies, gm_naive_quiet, gm__law_drawn, gm__law_rules, gm__law_sides, gm__law_alarms, gm__law_rows, gm__law_badrules, gm__law_error, gm_law, if_pos c2, B]
theorem sides_loop {r : List Int} (hr : r.length ≤ 1000) (v : PyData) : ∀ (qs : List RuT) (u d : Bool) (s1 s2 s3 s4 : Sl), (∀ q ∈ qs, Ru q) → ∃ t1 t2 t3 t4, ∀ kn, forC _law_sides_b1 (qs.map ruD) [.dd v, .dd (roD r), .dd (.bool u), .dd (.bool d), s1, s2, s3, s4, .em] kn =
    kn [.dd v, .dd (roD r), .dd (.bool (u || abvA qs r)), .dd (.bool (d || blwA qs r)), t1, t2, t3, t4, .em]
  | [], u, d, s1, s2, s3, s4, _ => ⟨s1, s2, s3, s4, fun kn => by
    rw [show (u || abvA [] r) = u from Bool.or_false u, show (d || blwA [] r) = d from Bool.or_false d]
    rfl⟩
  | q :: qs, u, d, s1, s2, s3, s4, h => by
    obtain ⟨a1, a2, a3, a4, e1⟩ := sides_turn (h q List.mem_cons_self) hr v u d s1 s2 s3 s4
    obtain ⟨b1, b2, b3, b4, e2⟩ := sides_loop hr v qs (u || abv q r) (d || blw q r) a1 a2 a3 a4 fun z hz => h z (List.mem_cons_of_mem _ hz)
    refine ⟨b1, b2, b3, b4, fun kn => ?_⟩
    rw [List.map_cons]
    unfold forC
    rw [e1, e2, Bool.or_assoc, Bool.or_assoc]
    rfl
theorem law_sides_ok {rs : List RuT} {r : List Int} (h : ∀ q ∈ rs, Ru q) (hr : r.length ≤ 1000) : m__law_sides (rsD rs) (roD r) = .ok (.dt (.tuple [.bool (abvA rs r), .bool (blwA rs r)])) := by
  obtain ⟨t1, t2, t3, t4, e⟩ := sides_loop hr (rsD rs) rs false false .em .em .em .em h
  unfold m__law_sides
  simp only [bF_ok, bF_exc, rb_ok, rb_exc, slO_dt, slO_fl, slO_fd, slV_dd, slV_ol, slV_od, frz_dd, frz_ol, frz_od, toDs_c, toDs_n, tD_dt, tD_fl, pk_dt, pk_fl, pk_bl, pk_kc, pk_fd, pk_bd, isB_b, gTru_b, gTru_n, bc_t, bc_f, intK_i, datV_d, unp2_t, unp3_t, ownK_ol, ownK_od, ownK_dd, retW_dt, retW_fl, gB_add, gB_sub, gC_lt, gC_le, gC_gt, gC_ge, itV_t, itV_l, itV_f, itV_b, itV_ro, itV_rs, gLen_ro, gLen_rs, gLen_dt, gLen_dl, gLen_fl, gLen_bl, gSl_t, gTup_fl, gTup_bl, gTup_dl, Bool.not_true, Bool.not_false, wB_ok', gInt_i, gm_is_int, gm_is_rule, gm_are_rules, gm_check_rule, gm_check_rules, gm_find_sides, gm_does_ring, gm_any_rings, gm_find_alarms, gm_find_still, gm_implies_rule, gm_implies, gm_history, gm_check_length, gm_go_on, gm_count_after, gm_count_quiet, gm_all_rows, gm_naive_implies, gm_naive_quiet, gm__law_drawn, gm__law_rules, gm__law_sides, gm__law_alarms, gm__law_rows, gm__law_badrules, gm__law_error, gm_law, bF_ok]
  rw [e, m__law_sides_r1_ok]
  unfold m__law_sides_r1
  simp only [bF_ok, bF_exc, rb_ok, rb_exc, slO_dt, slO_fl, slO_fd, slV_dd, slV_ol, slV_od, frz_dd, frz_ol, frz_od, toDs_c, toDs_n, tD_dt, tD_fl, pk_dt, pk_fl, pk_bl, pk_kc, pk_fd, pk_bd, isB_b, gTru_b, gTru_n, bc_t, bc_f, intK_i, datV_d, unp2_t, unp3_t, ownK_ol, ownK_od, ownK_dd, retW_dt, retW_fl, gB_add, gB_sub, gC_lt, gC_le, gC_gt, gC_ge, itV_t, itV_l, itV_f, itV_b, itV_ro, itV_rs, gLen_ro, gLen_rs, gLen_dt, gLen_dl, gLen_fl, gLen_bl, gSl_t, gTup_fl, gTup_bl, gTup_dl, Bool.not_true, Bool.not_false, wB_ok', gInt_i, gm_is_int, gm_is_rule, gm_are_rules, gm_check_rule, gm_check_rules, gm_find_sides, gm_does_ring, gm_any_rings, gm_find_alarms, gm_find_still, gm_implies_rule, gm_implies, gm_history, gm_check_length, gm_go_on, gm_count_after, gm_count_quiet, gm_all_rows, gm_naive_implies, gm_naive_quiet, gm__law_drawn, gm__law_rules, gm__law_sides, gm__law_alarms, gm__law_rows, gm__law_badrules, gm__law_error, gm_law, Bool.false_or]
theorem in_two (a b : Bool) : gCmp .In (.dt (.bool true)) (.dt (.tuple [.bool a, .bool b])) = .ok (.dt (.bool (a || b))) := by
  cases a <;> cases b <;> kernel_rfl
theorem law_alarms_ok {rs : List RuT} {r : List Int} (h : ∀ q ∈ rs, Ru q) (hr : r.length ≤ 1000) : m__law_alarms (rsD rs) (roD r) = .ok (.fl (nD (almN rs r))) := by
  unfold m__law_alarms
  simp only [bF_ok, bF_exc, rb_ok, rb_exc, slO_dt, slO_fl, slO_fd, slV_dd, slV_ol, slV_od, frz_dd, frz_ol, frz_od, toDs_c, toDs_n, tD_dt, tD_fl, pk_dt, pk_fl, pk_bl, pk_kc, pk_fd, pk_bd, isB_b, gTru_b, gTru_n, bc_t, bc_f, intK_i, datV_d, unp2_t, unp3_t, ownK_ol, ownK_od, ownK_dd, retW_dt, retW_fl, gB_add, gB_sub, gC_lt, gC_le, gC_gt, gC_ge, itV_t, itV_l, itV_f, itV_b, itV_ro, itV_rs, gLen_ro, gLen_rs, gLen_dt, gLen_dl, gLen_fl, gLen_bl, gSl_t, gTup_fl, gTup_bl, gTup_dl, Bool.not_true, Bool.not_false, wB_ok', gInt_i, gm_is_int, gm_is_rule, gm_are_rules, gm_check_rule, gm_check_rules, gm_find_sides, gm_does_ring, gm_any_rings, gm_find_alarms, gm_find_still, gm_implies_rule, gm_implies, gm_history, gm_check_length, gm_go_on, gm_count_after, gm_count_quiet, gm_all_rows, gm_naive_implies, gm_naive_quiet, gm__law_drawn, gm__law_rules, gm__law_sides, gm__law_alarms, gm__law_rows, gm__law_badrules, gm__law_error, gm_law, bF_ok]
  rw [rng1_i (by omega) (by omega), rgD_map]
  rw [lcL_filter (fun i : Nat => PyData.int (i : Int)) (fun p => anyR rs (r.take (p + 1))) (fun p => PyData.int (p : Int)) (List.range r.length) fun p hp => by
    have s1 : gSl (.dt (roD r)) none (some ((p : Int) + 1)) = .ok (.dt (roD (r.take (p + 1)))) := gSl_to r (p + 1)
    simp only [bF_ok, bF_exc, rb_ok, rb_exc, slO_dt, slO_fl, slO_fd, slV_dd, slV_ol, slV_od, frz_dd, frz_ol, frz_od, toDs_c, toDs_n, tD_dt, tD_fl, pk_dt, pk_fl, pk_bl, pk_kc, pk_fd, pk_bd, isB_b, gTru_b, gTru_n, bc_t, bc_f, intK_i, datV_d, unp2_t, unp3_t, ownK_ol, ownK_od, ownK_dd, retW_dt, retW_fl, gB_add, gB_sub, gC_lt, gC_le, gC_gt, gC_ge, itV_t, itV_l, itV_f, itV_b, itV_ro, itV_rs, gLen_ro, gLen_rs, gLen_dt, gLen_dl, gLen_fl, gLen_bl, gSl_t, gTup_fl, gTup_bl, gTup_dl, Bool.not_true, Bool.not_false, wB_ok', gInt_i, gm_is_int, gm_is_rule, gm_are_rules, gm_check_rule, gm_check_rules, gm_find_sides, gm_does_ring, gm_any_rings, gm_find_alarms, gm_find_still, gm_implies_rule, gm_implies, gm_history, gm_check_length, gm_go_on, gm_count_after, gm_count_quiet, gm_all_rows, gm_naive_implies, gm_naive_quiet, gm__law_drawn, gm__law_rules, gm__law_sides, gm__law_alarms, gm__law_rows, gm__law_badrules, gm__law_error, gm_law, s1, law_sides_ok (r := r.take (p + 1)) h (by rw [List.length_take]; omega), in_two]
    rw [← anyR_ab]
    cases anyR rs (r.take (p + 1)) <;> rfl]
  have f := List.length_filter_le (fun p => anyR rs (r.take (p + 1))) (List.range r.length)
  rw [List.length_range] at f
  simp only [bF_ok, bF_exc, rb_ok, rb_exc, slO_dt, slO_fl, slO_fd, slV_dd, slV_ol, slV_od, frz_dd, frz_ol, frz_od, toDs_c, toDs_n, tD_dt, tD_fl, pk_dt, pk_fl, pk_bl, pk_kc, pk_fd, pk_bd, isB_b, gTru_b, gTru_n, bc_t, bc_f, intK_i, datV_d, unp2_t, unp3_t, ownK_ol, ownK_od, ownK_dd, retW_dt, retW_fl, gB_add, gB_sub, gC_lt, gC_le, gC_gt, gC_ge, itV_t, itV_l, itV_f, itV_b, itV_ro, itV_rs, gLen_ro, gLen_rs, gLen_dt, gLen_dl, gLen_fl, gLen_bl, gSl_t, gTup_fl, gTup_bl, gTup_dl, Bool.not_true, Bool.not_false, wB_ok', gInt_i, gm_is_int, gm_is_rule, gm_are_rules, gm_check_rule, gm_check_rules, gm_find_sides, gm_does_ring, gm_any_rings, gm_find_alarms, gm_find_still, gm_implies_rule, gm_implies, gm_history, gm_check_length, gm_go_on, gm_count_after, gm_count_quiet, gm_all_rows, gm_naive_implies, gm_naive_quiet, gm__law_drawn, gm__law_rules, gm__law_sides, gm__law_alarms, gm__law_rows, gm__law_badrules, gm__law_error, gm_law, List.length_map]
  rw [if_pos (by omega)]
  rfl
theorem law_rows_ok {n : Nat} (h1 : 1 ≤ n) (hn : n ≤ 7) : m__law_rows (.int (n : Int)) = .ok (.dt (.list ((allR n).map roD))) := by
  unfold m__law_rows
  rw [rng1_i (by omega) (by omega), rgD_map]
  obtain ⟨ρ', ⟨s, t, u, v, rfl, _, hs⟩, e⟩ := forC_ix (fun i : Nat => PyData.int (i : Int)) (fun i ρ => ∃ s t u v, ρ = [.dd (.int (n : Int)), s, t, u, v, .em] ∧ frzS s = .dd (.list ((allR i).map roD)) ∧ (0 < i → s = .dd (.list ((allR i).map roD)))) (f := _law_rows_b1) (List.range n) 0
    [.dd (.int (n : Int)), .ol [.tuple []], .em, .em, .em, .em] ⟨.ol [.tuple []], .em, .em, .em, rfl, rfl, fun h => absurd h (by decide)⟩ (by
      rintro j a ha ρ ⟨s, t, u, v, rfl, hs, _⟩
      obtain ⟨hj, rfl⟩ := ix_range ha
      obtain ⟨ρ2, ⟨w, rfl⟩, e2⟩ := forC_ix roD (fun i ρ => ∃ w, ρ = [.dd (.int (n : Int)), .dd (.list ((allR a).map roD)), .dd (.int (a : Int)), .ol ((((allR a).take i).flatMap fun b => V7.map fun v => b ++ [v]).map roD), w, .em]) (f := _law_rows_b2) (allR a) 0
        [.dd (.int (n : Int)), .dd (.list ((allR a).map roD)), .dd (.int (a : Int)), .ol [], v, .em] ⟨v, rfl⟩ (by
          rintro i b hb ρ ⟨w, rfl⟩
          have hbl := (mem_allR.mp (List.mem_of_getElem? hb)).1
          have hil := ix_lt hb
          have hal := len_allR (n := a) (by omega)
          refine ⟨_, ⟨.dd (roD b), rfl⟩, fun k => ?_⟩
          rw [m__law_rows_b2_ok]
          unfold m__law_rows_b2
          simp only [bF_ok, bF_exc, rb_ok, rb_exc, slO_dt, slO_fl, slO_fd, slV_dd, slV_ol, slV_od, frz_dd, frz_ol, frz_od, toDs_c, toDs_n, tD_dt, tD_fl, pk_dt, pk_fl, pk_bl, pk_kc, pk_fd, pk_bd, isB_b, gTru_b, gTru_n, bc_t, bc_f, intK_i, datV_d, unp2_t, unp3_t, ownK_ol, ownK_od, ownK_dd, retW_dt, retW_fl, gB_add, gB_sub, gC_lt, gC_le, gC_gt, gC_ge, itV_t, itV_l, itV_f, itV_b, itV_ro, itV_rs, gLen_ro, gLen_rs, gLen_dt, gLen_dl, gLen_fl, gLen_bl, gSl_t, gTup_fl, gTup_bl, gTup_dl, Bool.not_true, Bool.not_false, wB_ok', gInt_i, gm_is_int, gm_is_rule, gm_are_rules, gm_check_rule, gm_check_rules, gm_find_sides, gm_does_ring, gm_any_rings, gm_find_alarms, gm_find_still, gm_implies_rule, gm_implies, gm_history, gm_check_length, gm_go_on, gm_count_after, gm_count_quiet, gm_all_rows, gm_naive_implies, gm_naive_quiet, gm__law_drawn, gm__law_rules, gm__law_sides, gm__law_alarms, gm__law_rows, gm__law_badrules, gm__law_error, gm_law, bF_ok]
          rw [rng2_i (by decide) (by decide) (by decide) (by decide), show rgD (-3) 4 = V7.map .int from rfl]
          rw [lcL_map .int (fun v => roD (b ++ [v])) V7 fun v hv => by simp only [bF_ok, bF_exc, rb_ok, rb_exc, slO_dt, slO_fl, slO_fd, slV_dd, slV_ol, slV_od, frz_dd, frz_ol, frz_od, toDs_c, toDs_n, tD_dt, tD_fl, pk_dt, pk_fl, pk_bl, pk_kc, pk_fd, pk_bd, isB_b, gTru_b, gTru_n, bc_t, bc_f, intK_i, datV_d, unp2_t, unp3_t, ownK_ol, ownK_od, ownK_dd, retW_dt, retW_fl, gB_add, gB_sub, gC_lt, gC_le, gC_gt, gC_ge, itV_t, itV_l, itV_f, itV_b, itV_ro, itV_rs, gLen_ro, gLen_rs, gLen_dt, gLen_dl, gLen_fl, gLen_bl, gSl_t, gTup_fl, gTup_bl, gTup_dl, Bool.not_true, Bool.not_false, wB_ok', gInt_i, gm_is_int, gm_is_rule, gm_are_rules, gm_check_rule, gm_check_rules, gm_find_sides, gm_does_ring, gm_any_rings, gm_find_alarms, gm_find_still, gm_implies_rule, gm_implies, gm_history, gm_check_length, gm_go_on, gm_count_after, gm_count_quiet, gm_all_rows, gm_naive_implies, gm_naive_quiet, gm__law_drawn, gm__law_rules, gm__law_sides, gm__law_alarms, gm__law_rows, gm__law_badrules, gm__law_error, gm_law, add_ro b v (by omega)]]
          have l1 : (V7.map fun v => roD (b ++ [v])).length = 7 := rfl
          have ad : gBin .Add (.bl ((((allR a).take (0 + i)).flatMap fun b => V7.map fun v => b ++ [v]).map roD)) (.fl (V7.map fun v => roD (b ++ [v]))) = .ok (.fl ((((allR a).take (0 + i)).flatMap fun b => V7.map fun v => b ++ [v]).map roD ++ V7.map fun v => roD (b ++ [v]))) := by
            show (if _ then R.ok (Vw.fl _) else .stk) = _
            rw [if_pos (by rw [l1, List.length_map, flat7_len, List.length_take]; omega)]
          simp only [bF_ok, bF_exc, rb_ok, rb_exc, slO_dt, slO_fl, slO_fd, slV_dd, slV_ol, slV_od, frz_dd, frz_ol, frz_od, toDs_c, toDs_n, tD_dt, tD_fl, pk_dt, pk_fl, pk_bl, pk_kc, pk_fd, pk_bd, isB_b, gTru_b, gTru_n, bc_t, bc_f, intK_i, datV_d, unp2_t, unp3_t, ownK_ol, ownK_od, ownK_dd, retW_dt, retW_fl, gB_add, gB_sub, gC_lt, gC_le, gC_gt, gC_ge, itV_t, itV_l, itV_f, itV_b, itV_ro, itV_rs, gLen_ro, gLen_rs, gLen_dt, gLen_dl, gLen_fl, gLen_bl, gSl_t, gTup_fl, gTup_bl, gTup_dl, Bool.not_true, Bool.not_false, wB_ok', gInt_i, gm_is_int, gm_is_rule, gm_are_rules, gm_check_rule, gm_check_rules, gm_find_sides, gm_does_ring, gm_any_rings, gm_find_alarms, gm_find_still, gm_implies_rule, gm_implies, gm_history, gm_check_length, gm_go_on, gm_count_after, gm_count_quiet, gm_all_rows, gm_naive_implies, gm_naive_quiet, gm__law_drawn, gm__law_rules, gm__law_sides, gm__law_alarms, gm__law_rows, gm__law_badrules, gm__law_error, gm_law, ad]
          rw [l1, if_pos (by decide), Nat.zero_add, take_flat _ hb, List.map_append, List.map_map]
          rfl)
      rw [Nat.zero_add] at hs
      refine ⟨_, ⟨.dd (.list ((allR (a + 1)).map roD)), .dd (.int (a : Int)), .dd (.list ((allR (a + 1)).map roD)), w, rfl, by rw [Nat.zero_add]; rfl, fun _ => by rw [Nat.zero_add]⟩, fun k => ?_⟩
      rw [m__law_rows_b1_ok]
      unfold m__law_rows_b1
      rw [hs]
      simp only [bF_ok, bF_exc, rb_ok, rb_exc, slO_dt, slO_fl, slO_fd, slV_dd, slV_ol, slV_od, frz_dd, frz_ol, frz_od, toDs_c, toDs_n, tD_dt, tD_fl, pk_dt, pk_fl, pk_bl, pk_kc, pk_fd, pk_bd, isB_b, gTru_b, gTru_n, bc_t, bc_f, intK_i, datV_d, unp2_t, unp3_t, ownK_ol, ownK_od, ownK_dd, retW_dt, retW_fl, gB_add, gB_sub, gC_lt, gC_le, gC_gt, gC_ge, itV_t, itV_l, itV_f, itV_b, itV_ro, itV_rs, gLen_ro, gLen_rs, gLen_dt, gLen_dl, gLen_fl, gLen_bl, gSl_t, gTup_fl, gTup_bl, gTup_dl, Bool.not_true, Bool.not_false, wB_ok', gInt_i, gm_is_int, gm_is_rule, gm_are_rules, gm_check_rule, gm_check_rules, gm_find_sides, gm_does_ring, gm_any_rings, gm_find_alarms, gm_find_still, gm_implies_rule, gm_implies, gm_history, gm_check_length, gm_go_on, gm_count_after, gm_count_quiet, gm_all_rows, gm_naive_implies, gm_naive_quiet, gm__law_drawn, gm__law_rules, gm__law_sides, gm__law_alarms, gm__law_rows, gm__law_badrules, gm__law_error, gm_law, bF_ok]
      rw [e2, m__law_rows_r1_ok]
      unfold m__law_rows_r1
      rw [Nat.zero_add, List.take_length]
      simp only [bF_ok, bF_exc, rb_ok, rb_exc, slO_dt, slO_fl, slO_fd, slV_dd, slV_ol, slV_od, frz_dd, frz_ol, frz_od, toDs_c, toDs_n, tD_dt, tD_fl, pk_dt, pk_fl, pk_bl, pk_kc, pk_fd, pk_bd, isB_b, gTru_b, gTru_n, bc_t, bc_f, intK_i, datV_d, unp2_t, unp3_t, ownK_ol, ownK_od, ownK_dd, retW_dt, retW_fl, gB_add, gB_sub, gC_lt, gC_le, gC_gt, gC_ge, itV_t, itV_l, itV_f, itV_b, itV_ro, itV_rs, gLen_ro, gLen_rs, gLen_dt, gLen_dl, gLen_fl, gLen_bl, gSl_t, gTup_fl, gTup_bl, gTup_dl, Bool.not_true, Bool.not_false, wB_ok', gInt_i, gm_is_int, gm_is_rule, gm_are_rules, gm_check_rule, gm_check_rules, gm_find_sides, gm_does_ring, gm_any_rings, gm_find_alarms, gm_find_still, gm_implies_rule, gm_implies, gm_history, gm_check_length, gm_go_on, gm_count_after, gm_count_quiet, gm_all_rows, gm_naive_implies, gm_naive_quiet, gm__law_drawn, gm__law_rules, gm__law_sides, gm__law_alarms, gm__law_rows, gm__law_badrules, gm__law_error, gm_law, bF_ok]
      rfl)
  rw [Nat.zero_add, List.length_range] at hs
  rw [e, m__law_rows_r2_ok, hs (by omega)]
  unfold m__law_rows_r2
  simp only [bF_ok, bF_exc, rb_ok, rb_exc, slO_dt, slO_fl, slO_fd, slV_dd, slV_ol, slV_od, frz_dd, frz_ol, frz_od, toDs_c, toDs_n, tD_dt, tD_fl, pk_dt, pk_fl, pk_bl, pk_kc, pk_fd, pk_bd, isB_b, gTru_b, gTru_n, bc_t, bc_f, intK_i, datV_d, unp2_t, unp3_t, ownK_ol, ownK_od, ownK_dd, retW_dt, retW_fl, gB_add, gB_sub, gC_lt, gC_le, gC_gt, gC_ge, itV_t, itV_l, itV_f, itV_b, itV_ro, itV_rs, gLen_ro, gLen_rs, gLen_dt, gLen_dl, gLen_fl, gLen_bl, gSl_t, gTup_fl, gTup_bl, gTup_dl, Bool.not_true, Bool.not_false, wB_ok', gInt_i, gm_is_int, gm_is_rule, gm_are_rules, gm_check_rule, gm_check_rules, gm_find_sides, gm_does_ring, gm_any_rings, gm_find_alarms, gm_find_still, gm_implies_rule, gm_implies, gm_history, gm_check_length, gm_go_on, gm_count_after, gm_count_quiet, gm_all_rows, gm_naive_implies, gm_naive_quiet, gm__law_drawn, gm__law_rules, gm__law_sides, gm__law_alarms, gm__law_rows, gm__law_badrules, gm__law_error, gm_law, bF_ok]
/-! ### enumerate over a list drawn from a range -/
theorem enum_range (f : Nat → PyData) (n : Nat) : enumD ((List.range n).map f) = (List.range n).map fun p : Nat => PyData.tuple [.int (p : Nat), f p] := by
  unfold enumD
  refine List.ext_getElem (by simp) fun i h1 h2 => ?_
  simp
/-! ### naive functions -/
theorem alm_snoc (rs : List RuT) (b : List Int) (v : Int) : (almN rs (b ++ [v])).isEmpty = ((almN rs b).isEmpty && !anyR rs (b ++ [v])) := by
  unfold almN
  rw [List.length_append, List.length_singleton, List.range_succ, List.filter_append]
  have e1 : (List.range b.length).filter (fun p => anyR rs ((b ++ [v]).take (p + 1))) = (List.range b.length).filter (fun p => anyR rs (b.take (p + 1))) := by
    refine List.filter_congr fun p hp => ?_
    have := List.mem_range.mp hp
    rw [List.take_append_of_le_length (by omega)]
  have e2 : ([b.length].filter fun p => anyR rs ((b ++ [v]).take (p + 1))) = if anyR rs (b ++ [v]) = true then [b.length] else [] := by
    rw [List.filter_cons, List.filter_nil, List.take_of_length_le (by rw [List.length_append, List.length_singleton]; omega)]
  rw [e1, e2]
  cases anyR rs (b ++ [v]) <;> cases (List.range b.length).filter (fun p => anyR rs (b.take (p + 1))) <;> rfl
theorem grow_all (rs : List RuT) : ∀ n : Nat, grow rs [] n = (allR n).filter fun r => (almN rs r).isEmpty
  | 0 => rfl
  | n + 1 => by
    show ((grow rs [] n).flatMap fun w => (stillN rs w).map fun v => w ++ [v]) = ((allR n).flatMap fun b => V7.map fun v => b ++ [v]).filter _
    rw [grow_all rs n, List.filter_flatMap]
    generalize allR n = xs
    induction xs with
    | nil => rfl
    | cons b xs ih =>
      rw [List.flatMap_cons, ← ih, List.filter_cons]
      have e : (V7.map fun v => b ++ [v]).filter (fun r => (almN rs r).isEmpty) = if (almN rs b).isEmpty = true then (stillN rs b).map fun v => b ++ [v] else [] := by
        rw [List.filter_map]
        have e1 : V7.filter ((fun r => (almN rs r).isEmpty) ∘ fun v => b ++ [v]) = V7.filter fun v => (almN rs b).isEmpty && !anyR rs (b ++ [v]) :=
          List.filter_congr fun v _ => alm_snoc rs b v
        rw [e1]
        cases (almN rs b).isEmpty with
        | true => simp only [gm_is_int, gm_is_rule, gm_are_rules, gm_check_rule, gm_check_rules, gm_find_sides, gm_does_ring, gm_any_rings, gm_find_alarms, gm_find_still, gm_implies_rule, gm_implies, gm_history, gm_check_length, gm_go_on, gm_count_after, gm_count_quiet, gm_all_rows, gm_naive_implies, gm_naive_quiet, gm__law_drawn, gm__law_rules, gm__law_sides, gm__law_alarms, gm__law_rows, gm__law_badrules, gm__law_error, gm_law, Bool.true_and, if_true]; rfl
        | false => simp
      rw [e]
      cases (almN rs b).isEmpty with
      | true => rw [if_pos rfl, if_pos rfl, List.flatMap_cons]
      | false => rw [if_neg (by decide), if_neg (by decide), List.nil_append]
theorem quiet_count (rs : List RuT) (n : Nat) : ((allR n).filter fun r => (almN rs r).isEmpty).length = waysR rs n [] := by
  rw [← grow_all, grow_len]
theorem eq_nil_nD (l : List Nat) : gCmp .Eq (.fl (nD l)) (.fl []) = .ok (.dt (.bool l.isEmpty)) := by
  rw [eq_nD l [] rfl rfl]
  cases l <;> rfl
theorem naive_quiet_ok {rs : List RuT} (h : Rs rs) {n : Nat} (hn : n ≤ 4) : m_naive_quiet (rsD rs) (.int (n : Int)) = .ok (.dt (.int (waysR rs n [] : Nat))) := by
  unfold m_naive_quiet
  simp only [bF_ok, bF_exc, rb_ok, rb_exc, slO_dt, slO_fl, slO_fd, slV_dd, slV_ol, slV_od, frz_dd, frz_ol, frz_od, toDs_c, toDs_n, tD_dt, tD_fl, pk_dt, pk_fl, pk_bl, pk_kc, pk_fd, pk_bd, isB_b, gTru_b, gTru_n, bc_t, bc_f, intK_i, datV_d, unp2_t, unp3_t, ownK_ol, ownK_od, ownK_dd, retW_dt, retW_fl, gB_add, gB_sub, gC_lt, gC_le, gC_gt, gC_ge, itV_t, itV_l, itV_f, itV_b, itV_ro, itV_rs, gLen_ro, gLen_rs, gLen_dt, gLen_dl, gLen_fl, gLen_bl, gSl_t, gTup_fl, gTup_bl, gTup_dl, Bool.not_true, Bool.not_false, wB_ok', gInt_i, gm_is_int, gm_is_rule, gm_are_rules, gm_check_rule, gm_check_rules, gm_find_sides, gm_does_ring, gm_any_rings, gm_find_alarms, gm_find_still, gm_implies_rule, gm_implies, gm_history, gm_check_length, gm_go_on, gm_count_after, gm_count_quiet, gm_all_rows, gm_naive_implies, gm_naive_quiet, gm__law_drawn, gm__law_rules, gm__law_sides, gm__law_alarms, gm__law_rows, gm__law_badrules, gm__law_error, gm_law, check_rules_ok h, check_length_ok (n := (n : Int)) (by omega) (by omega), decide_eq_false (show ¬ (4 : Int) < (n : Int) by omega), all_rows_ok (n := n) (by omega)]
  rw [lcL_filter roD (fun r => (almN rs r).isEmpty) roD (allR n) fun r hr => by
    have hl := (mem_allR.mp hr).1
    simp only [bF_ok, bF_exc, rb_ok, rb_exc, slO_dt, slO_fl, slO_fd, slV_dd, slV_ol, slV_od, frz_dd, frz_ol, frz_od, toDs_c, toDs_n, tD_dt, tD_fl, pk_dt, pk_fl, pk_bl, pk_kc, pk_fd, pk_bd, isB_b, gTru_b, gTru_n, bc_t, bc_f, intK_i, datV_d, unp2_t, unp3_t, ownK_ol, ownK_od, ownK_dd, retW_dt, retW_fl, gB_add, gB_sub, gC_lt, gC_le, gC_gt, gC_ge, itV_t, itV_l, itV_f, itV_b, itV_ro, itV_rs, gLen_ro, gLen_rs, gLen_dt, gLen_dl, gLen_fl, gLen_bl, gSl_t, gTup_fl, gTup_bl, gTup_dl, Bool.not_true, Bool.not_false, wB_ok', gInt_i, gm_is_int, gm_is_rule, gm_are_rules, gm_check_rule, gm_check_rules, gm_find_sides, gm_does_ring, gm_any_rings, gm_find_alarms, gm_find_still, gm_implies_rule, gm_implies, gm_history, gm_check_length, gm_go_on, gm_count_after, gm_count_quiet, gm_all_rows, gm_naive_implies, gm_naive_quiet, gm__law_drawn, gm__law_rules, gm__law_sides, gm__law_alarms, gm__law_rows, gm__law_badrules, gm__law_error, gm_law, find_alarms_ok (r := r) h (by omega), eq_nil_nD]
    cases (almN rs r).isEmpty <;> rfl]
  have f1 := List.length_filter_le (fun r => (almN rs r).isEmpty) (allR n)
  have f2 := len_allR (n := n) (by omega)
  simp only [bF_ok, bF_exc, rb_ok, rb_exc, slO_dt, slO_fl, slO_fd, slV_dd, slV_ol, slV_od, frz_dd, frz_ol, frz_od, toDs_c, toDs_n, tD_dt, tD_fl, pk_dt, pk_fl, pk_bl, pk_kc, pk_fd, pk_bd, isB_b, gTru_b, gTru_n, bc_t, bc_f, intK_i, datV_d, unp2_t, unp3_t, ownK_ol, ownK_od, ownK_dd, retW_dt, retW_fl, gB_add, gB_sub, gC_lt, gC_le, gC_gt, gC_ge, itV_t, itV_l, itV_f, itV_b, itV_ro, itV_rs, gLen_ro, gLen_rs, gLen_dt, gLen_dl, gLen_fl, gLen_bl, gSl_t, gTup_fl, gTup_bl, gTup_dl, Bool.not_true, Bool.not_false, wB_ok', gInt_i, gm_is_int, gm_is_rule, gm_are_rules, gm_check_rule, gm_check_rules, gm_find_sides, gm_does_ring, gm_any_rings, gm_find_alarms, gm_find_still, gm_implies_rule, gm_implies, gm_history, gm_check_length, gm_go_on, gm_count_after, gm_count_quiet, gm_all_rows, gm_naive_implies, gm_naive_quiet, gm__law_drawn, gm__law_rules, gm__law_sides, gm__law_alarms, gm__law_rows, gm__law_badrules, gm__law_error, gm_law, List.length_map]
  rw [if_pos (by omega)]
  simp only [bF_ok, bF_exc, rb_ok, rb_exc, slO_dt, slO_fl, slO_fd, slV_dd, slV_ol, slV_od, frz_dd, frz_ol, frz_od, toDs_c, toDs_n, tD_dt, tD_fl, pk_dt, pk_fl, pk_bl, pk_kc, pk_fd, pk_bd, isB_b, gTru_b, gTru_n, bc_t, bc_f, intK_i, datV_d, unp2_t, unp3_t, ownK_ol, ownK_od, ownK_dd, retW_dt, retW_fl, gB_add, gB_sub, gC_lt, gC_le, gC_gt, gC_ge, itV_t, itV_l, itV_f, itV_b, itV_ro, itV_rs, gLen_ro, gLen_rs, gLen_dt, gLen_dl, gLen_fl, gLen_bl, gSl_t, gTup_fl, gTup_bl, gTup_dl, Bool.not_true, Bool.not_false, wB_ok', gInt_i, gm_is_int, gm_is_rule, gm_are_rules, gm_check_rule, gm_check_rules, gm_find_sides, gm_does_ring, gm_any_rings, gm_find_alarms, gm_find_still, gm_implies_rule, gm_implies, gm_history, gm_check_length, gm_go_on, gm_count_after, gm_count_quiet, gm_all_rows, gm_naive_implies, gm_naive_quiet, gm__law_drawn, gm__law_rules, gm__law_sides, gm__law_alarms, gm__law_rows, gm__law_badrules, gm__law_error, gm_law, quiet_count]
theorem naive_quiet_big {rs : List RuT} (h : Rs rs) : m_naive_quiet (rsD rs) (.int 5) = .exc "TooLarge" := by
  unfold m_naive_quiet
  simp only [bF_ok, bF_exc, rb_ok, rb_exc, slO_dt, slO_fl, slO_fd, slV_dd, slV_ol, slV_od, frz_dd, frz_ol, frz_od, toDs_c, toDs_n, tD_dt, tD_fl, pk_dt, pk_fl, pk_bl, pk_kc, pk_fd, pk_bd, isB_b, gTru_b, gTru_n, bc_t, bc_f, intK_i, datV_d, unp2_t, unp3_t, ownK_ol, ownK_od, ownK_dd, retW_dt, retW_fl, gB_add, gB_sub, gC_lt, gC_le, gC_gt, gC_ge, itV_t, itV_l, itV_f, itV_b, itV_ro, itV_rs, gLen_ro, gLen_rs, gLen_dt, gLen_dl, gLen_fl, gLen_bl, gSl_t, gTup_fl, gTup_bl, gTup_dl, Bool.not_true, Bool.not_false, wB_ok', gInt_i, gm_is_int, gm_is_rule, gm_are_rules, gm_check_rule, gm_check_rules, gm_find_sides, gm_does_ring, gm_any_rings, gm_find_alarms, gm_find_still, gm_implies_rule, gm_implies, gm_history, gm_check_length, gm_go_on, gm_count_after, gm_count_quiet, gm_all_rows, gm_naive_implies, gm_naive_quiet, gm__law_drawn, gm__law_rules, gm__law_sides, gm__law_alarms, gm__law_rows, gm__law_badrules, gm__law_error, gm_law, check_rules_ok h, check_length_ok (n := 5) (by omega) (by omega), decide_eq_true (show (4 : Int) < 5 by decide)]
theorem naive_implies_ok {q o : RuT} (hq : Ru q) (ho : Ru o) (h1 : q.2.1 ≤ 3) (h2 : o.2.1 ≤ 3) : m_naive_implies (ruD q) (ruD o) = .ok (.dt (.bool (implR q o))) := by
  have q1 := hq.w1
  have o1 := ho.w1
  unfold m_naive_implies
  simp only [bF_ok, bF_exc, rb_ok, rb_exc, slO_dt, slO_fl, slO_fd, slV_dd, slV_ol, slV_od, frz_dd, frz_ol, frz_od, toDs_c, toDs_n, tD_dt, tD_fl, pk_dt, pk_fl, pk_bl, pk_kc, pk_fd, pk_bd, isB_b, gTru_b, gTru_n, bc_t, bc_f, intK_i, datV_d, unp2_t, unp3_t, ownK_ol, ownK_od, ownK_dd, retW_dt, retW_fl, gB_add, gB_sub, gC_lt, gC_le, gC_gt, gC_ge, itV_t, itV_l, itV_f, itV_b, itV_ro, itV_rs, gLen_ro, gLen_rs, gLen_dt, gLen_dl, gLen_fl, gLen_bl, gSl_t, gTup_fl, gTup_bl, gTup_dl, Bool.not_true, Bool.not_false, wB_ok', gInt_i, gm_is_int, gm_is_rule, gm_are_rules, gm_check_rule, gm_check_rules, gm_find_sides, gm_does_ring, gm_any_rings, gm_find_alarms, gm_find_still, gm_implies_rule, gm_implies, gm_history, gm_check_length, gm_go_on, gm_count_after, gm_count_quiet, gm_all_rows, gm_naive_implies, gm_naive_quiet, gm__law_drawn, gm__law_rules, gm__law_sides, gm__law_alarms, gm__law_rows, gm__law_badrules, gm__law_error, gm_law, check_rule_ok hq, check_rule_ok ho, gIx_ru1, gMM_i, if_true, decide_eq_false (show ¬ (3 : Int) < max q.2.1 o.2.1 by omega)]
  obtain ⟨m, hm⟩ : ∃ m : Nat, max q.2.1 o.2.1 = (m : Int) := ⟨(max q.2.1 o.2.1).toNat, by omega⟩
  rw [hm, show (m : Int) + 1 = ((m + 1 : Nat) : Int) by omega, rng1_i (by omega) (by omega), rgD_map]
  obtain ⟨ρ', ⟨s, t, rfl⟩, e⟩ := forC_first (fun i : Nat => PyData.int (i : Int)) (fun ρ => ∃ s t, ρ = [.dd (ruD q), .dd (ruD o), s, t]) (fun n => if ((allR n).any fun r => rng q r && !rng o r) = true then some (Vw.dt (.bool false)) else none) (f := naive_implies_b1) (List.range (m + 1))
    [.dd (ruD q), .dd (ruD o), .em, .em] ⟨_, _, rfl⟩ (by
      rintro n hn ρ ⟨s, t, rfl⟩
      have hn := List.mem_range.mp hn
      obtain ⟨ρ', ⟨t', rfl⟩, e⟩ := forC_first roD (fun ρ => ∃ t, ρ = [.dd (ruD q), .dd (ruD o), .dd (.int (n : Int)), t]) (fun r => if (rng q r && !rng o r) = true then some (Vw.dt (.bool false)) else none) (f := naive_implies_b2) (allR n)
        [.dd (ruD q), .dd (ruD o), .dd (.int (n : Int)), t] ⟨_, rfl⟩ (by
          rintro r hr ρ ⟨t, rfl⟩
          have hl := (mem_allR.mp hr).1
          refine ⟨_, ⟨.dd (roD r), rfl⟩, fun k => ?_⟩
          rw [m_naive_implies_b2_ok]
          unfold m_naive_implies_b2
          simp only [bF_ok, bF_exc, rb_ok, rb_exc, slO_dt, slO_fl, slO_fd, slV_dd, slV_ol, slV_od, frz_dd, frz_ol, frz_od, toDs_c, toDs_n, tD_dt, tD_fl, pk_dt, pk_fl, pk_bl, pk_kc, pk_fd, pk_bd, isB_b, gTru_b, gTru_n, bc_t, bc_f, intK_i, datV_d, unp2_t, unp3_t, ownK_ol, ownK_od, ownK_dd, retW_dt, retW_fl, gB_add, gB_sub, gC_lt, gC_le, gC_gt, gC_ge, itV_t, itV_l, itV_f, itV_b, itV_ro, itV_rs, gLen_ro, gLen_rs, gLen_dt, gLen_dl, gLen_fl, gLen_bl, gSl_t, gTup_fl, gTup_bl, gTup_dl, Bool.not_true, Bool.not_false, wB_ok', gInt_i, gm_is_int, gm_is_rule, gm_are_rules, gm_check_rule, gm_check_rules, gm_find_sides, gm_does_ring, gm_any_rings, gm_find_alarms, gm_find_still, gm_implies_rule, gm_implies, gm_history, gm_check_length, gm_go_on, gm_count_after, gm_count_quiet, gm_all_rows, gm_naive_implies, gm_naive_quiet, gm__law_drawn, gm__law_rules, gm__law_sides, gm__law_alarms, gm__law_rows, gm__law_badrules, gm__law_error, gm_law, does_ring_ok (q := q) (r := r) (by omega) (by omega), does_ring_ok (q := o) (r := r) (by omega) (by omega)]
          cases rng q r <;> cases rng o r <;> rfl)
      refine ⟨_, ⟨.dd (.int (n : Int)), t', rfl⟩, fun k => ?_⟩
      rw [m_naive_implies_b1_ok]
      unfold m_naive_implies_b1
      simp only [bF_ok, bF_exc, rb_ok, rb_exc, slO_dt, slO_fl, slO_fd, slV_dd, slV_ol, slV_od, frz_dd, frz_ol, frz_od, toDs_c, toDs_n, tD_dt, tD_fl, pk_dt, pk_fl, pk_bl, pk_kc, pk_fd, pk_bd, isB_b, gTru_b, gTru_n, bc_t, bc_f, intK_i, datV_d, unp2_t, unp3_t, ownK_ol, ownK_od, ownK_dd, retW_dt, retW_fl, gB_add, gB_sub, gC_lt, gC_le, gC_gt, gC_ge, itV_t, itV_l, itV_f, itV_b, itV_ro, itV_rs, gLen_ro, gLen_rs, gLen_dt, gLen_dl, gLen_fl, gLen_bl, gSl_t, gTup_fl, gTup_bl, gTup_dl, Bool.not_true, Bool.not_false, wB_ok', gInt_i, gm_is_int, gm_is_rule, gm_are_rules, gm_check_rule, gm_check_rules, gm_find_sides, gm_does_ring, gm_any_rings, gm_find_alarms, gm_find_still, gm_implies_rule, gm_implies, gm_history, gm_check_length, gm_go_on, gm_count_after, gm_count_quiet, gm_all_rows, gm_naive_implies, gm_naive_quiet, gm__law_drawn, gm__law_rules, gm__law_sides, gm__law_alarms, gm__law_rows, gm__law_badrules, gm__law_error, gm_law, all_rows_ok (n := n) (by omega)]
      rw [e, fs_any]
      cases (allR n).any (fun r => rng q r && !rng o r) with
      | true => rfl
      | false =>
        simp only [gm_is_int, gm_is_rule, gm_are_rules, gm_check_rule, gm_check_rules, gm_find_sides, gm_does_ring, gm_any_rings, gm_find_alarms, gm_find_still, gm_implies_rule, gm_implies, gm_history, gm_check_length, gm_go_on, gm_count_after, gm_count_quiet, gm_all_rows, gm_naive_implies, gm_naive_quiet, gm__law_drawn, gm__law_rules, gm__law_sides, gm__law_alarms, gm__law_rows, gm__law_badrules, gm__law_error, gm_law, Bool.false_eq_true, if_false]
        rw [m_naive_implies_r1_ok]
        rfl)
  rw [e, fs_any, m_naive_implies_r2_ok]
  unfold m_naive_implies_r2
  have key : ((List.range (m + 1)).any fun n => (allR n).any fun r => rng q r && !rng o r) = !implR q o := by
    cases hi : implR q o with
    | true =>
      rw [Bool.not_true, List.any_eq_false]
      intro n _ z
      obtain ⟨r, _, hr⟩ := List.any_eq_true.mp z
      rw [Bool.and_eq_true, Bool.not_eq_true'] at hr
      have := impl_rng ho hi hr.1
      rw [this] at hr
      cases hr.2
    | false =>
      rw [Bool.not_false, List.any_eq_true]
      obtain ⟨w1, w2, w3, w4⟩ := wit_all q (ru_mem hq)
      refine ⟨q.2.1.toNat, List.mem_range.mpr (by omega), List.any_eq_true.mpr ⟨witR q, mem_allR.mpr ⟨w2, fun v hv => ?_⟩, ?_⟩⟩
      · have := List.all_eq_true.mp w3 v hv
        rw [Bool.and_eq_true, decide_eq_true_eq, decide_eq_true_eq] at this
        exact this
      · rw [w1, w4 o (ru_mem ho) hi]
        rfl
  rw [key]
  cases implR q o <;> rfl
def oddL : List PyData := [.none, .tuple [.int 1, .int 1], .tuple [.int 2, .int 1, .int 3], .tuple [.int 1, .int 5, .int 1], .tuple [.int 1, .int 1, .int 4], .list [.int 1, .int 1, .int 1], .tuple [.bool true, .int 1, .int 1]]
theorem check_rule_bad {d : PyData} (h : d ∈ oddL) : m_check_rule d = .exc "InvalidRule" := by
  have e : m_is_rule d = .ok (.dt (.bool false)) := by
    unfold oddL at h
    simp only [gm_is_int, gm_is_rule, gm_are_rules, gm_check_rule, gm_check_rules, gm_find_sides, gm_does_ring, gm_any_rings, gm_find_alarms, gm_find_still, gm_implies_rule, gm_implies, gm_history, gm_check_length, gm_go_on, gm_count_after, gm_count_quiet, gm_all_rows, gm_naive_implies, gm_naive_quiet, gm__law_drawn, gm__law_rules, gm__law_sides, gm__law_alarms, gm__law_rows, gm__law_badrules, gm__law_error, gm_law, List.mem_cons, List.not_mem_nil, or_false] at h
    rcases h with rfl | rfl | rfl | rfl | rfl | rfl | rfl
    · exact is_rule_no isi_t_n
    · exact is_rule_two _ _
    · exact is_rule_gen (2, 1, 3)
    · exact is_rule_gen (1, 5, 1)
    · exact is_rule_gen (1, 1, 4)
    · exact is_rule_no (isi_t_l _)
    · exact (is_rule_b true).2
  unfold m_check_rule
  simp only [bF_ok, bF_exc, rb_ok, rb_exc, slO_dt, slO_fl, slO_fd, slV_dd, slV_ol, slV_od, frz_dd, frz_ol, frz_od, toDs_c, toDs_n, tD_dt, tD_fl, pk_dt, pk_fl, pk_bl, pk_kc, pk_fd, pk_bd, isB_b, gTru_b, gTru_n, bc_t, bc_f, intK_i, datV_d, unp2_t, unp3_t, ownK_ol, ownK_od, ownK_dd, retW_dt, retW_fl, gB_add, gB_sub, gC_lt, gC_le, gC_gt, gC_ge, itV_t, itV_l, itV_f, itV_b, itV_ro, itV_rs, gLen_ro, gLen_rs, gLen_dt, gLen_dl, gLen_fl, gLen_bl, gSl_t, gTup_fl, gTup_bl, gTup_dl, Bool.not_true, Bool.not_false, wB_ok', gInt_i, gm_is_int, gm_is_rule, gm_are_rules, gm_check_rule, gm_check_rules, gm_find_sides, gm_does_ring, gm_any_rings, gm_find_alarms, gm_find_still, gm_implies_rule, gm_implies, gm_history, gm_check_length, gm_go_on, gm_count_after, gm_count_quiet, gm_all_rows, gm_naive_implies, gm_naive_quiet, gm__law_drawn, gm__law_rules, gm__law_sides, gm__law_alarms, gm__law_rows, gm__law_badrules, gm__law_error, gm_law, e]
theorem implR_self {q : RuT} : implR q q = true := by
  unfold implR
  rw [decide_eq_true (Int.le_refl _), decide_eq_true (by omega)]
  rfl
/-! ### the law -/
theorem er_h0 : _law_error_h1 (_law_error_r1 (fun _ => .ok (.dt .none))) "InvalidRule" = .ok (.dt (.int 0)) := by kernel_rfl
theorem er_h1 : _law_error_h1 (_law_error_r1 (fun _ => .ok (.dt .none))) "InvalidRules" = .ok (.dt (.int 1)) := by kernel_rfl
theorem er_h2 : _law_error_h1 (_law_error_r1 (fun _ => .ok (.dt .none))) "InvalidLength" = .ok (.dt (.int 2)) := by kernel_rfl
theorem er_h3 : _law_error_h1 (_law_error_r1 (fun _ => .ok (.dt .none))) "TooLarge" = .ok (.dt (.int 3)) := by kernel_rfl
theorem er_imp {c : Str} {j : Int} {a b : PyData} (e : m_naive_implies a b = .exc c) (hd : ∀ em, tryC (.exc c) em (_law_error_h1 (_law_error_r1 (fun _ => .ok (.dt .none)))) = .ok (.dt (.int j))) : m__law_error (.int 0) a b = .ok (.dt (.int j)) := by
  unfold m__law_error
  show tryC ((g_naive_implies [a, b]).bF fun w2 => _) _ _ = _
  simp only [bF_ok, bF_exc, rb_ok, rb_exc, slO_dt, slO_fl, slO_fd, slV_dd, slV_ol, slV_od, frz_dd, frz_ol, frz_od, toDs_c, toDs_n, tD_dt, tD_fl, pk_dt, pk_fl, pk_bl, pk_kc, pk_fd, pk_bd, isB_b, gTru_b, gTru_n, bc_t, bc_f, intK_i, datV_d, unp2_t, unp3_t, ownK_ol, ownK_od, ownK_dd, retW_dt, retW_fl, gB_add, gB_sub, gC_lt, gC_le, gC_gt, gC_ge, itV_t, itV_l, itV_f, itV_b, itV_ro, itV_rs, gLen_ro, gLen_rs, gLen_dt, gLen_dl, gLen_fl, gLen_bl, gSl_t, gTup_fl, gTup_bl, gTup_dl, Bool.not_true, Bool.not_false, wB_ok', gInt_i, gm_is_int, gm_is_rule, gm_are_rules, gm_check_rule, gm_check_rules, gm_find_sides, gm_does_ring, gm_any_rings, gm_find_alarms, gm_find_still, gm_implies_rule, gm_implies, gm_history, gm_check_length, gm_go_on, gm_count_after, gm_count_quiet, gm_all_rows, gm_naive_implies, gm_naive_quiet, gm__law_drawn, gm__law_rules, gm__law_sides, gm__law_alarms, gm__law_rows, gm__law_badrules, gm__law_error, gm_law, e, hd]
theorem er_qui {c : Str} {j : Int} {a b : PyData} (e : m_naive_quiet a b = .exc c) (hd : ∀ em, tryC (.exc c) em (_law_error_h1 (_law_error_r1 (fun _ => .ok (.dt .none)))) = .ok (.dt (.int j))) : m__law_error (.int 1) a b = .ok (.dt (.int j)) := by
  unfold m__law_error
  show tryC ((g_naive_quiet [a, b]).bF fun w2 => _) _ _ = _
  simp only [bF_ok, bF_exc, rb_ok, rb_exc, slO_dt, slO_fl, slO_fd, slV_dd, slV_ol, slV_od, frz_dd, frz_ol, frz_od, toDs_c, toDs_n, tD_dt, tD_fl, pk_dt, pk_fl, pk_bl, pk_kc, pk_fd, pk_bd, isB_b, gTru_b, gTru_n, bc_t, bc_f, intK_i, datV_d, unp2_t, unp3_t, ownK_ol, ownK_od, ownK_dd, retW_dt, retW_fl, gB_add, gB_sub, gC_lt, gC_le, gC_gt, gC_ge, itV_t, itV_l, itV_f, itV_b, itV_ro, itV_rs, gLen_ro, gLen_rs, gLen_dt, gLen_dl, gLen_fl, gLen_bl, gSl_t, gTup_fl, gTup_bl, gTup_dl, Bool.not_true, Bool.not_false, wB_ok', gInt_i, gm_is_int, gm_is_rule, gm_are_rules, gm_check_rule, gm_check_rules, gm_find_sides, gm_does_ring, gm_any_rings, gm_find_alarms, gm_find_still, gm_implies_rule, gm_implies, gm_history, gm_check_length, gm_go_on, gm_count_after, gm_count_quiet, gm_all_rows, gm_naive_implies, gm_naive_quiet, gm__law_drawn, gm__law_rules, gm__law_sides, gm__law_alarms, gm__law_rows, gm__law_badrules, gm__law_error, gm_law, e, hd]
theorem imp_bad {d : PyData} (h : d ∈ oddL) (z : PyData) : m_naive_implies d z = .exc "InvalidRule" := by
  unfold m_naive_implies
  simp only [bF_ok, bF_exc, rb_ok, rb_exc, slO_dt, slO_fl, slO_fd, slV_dd, slV_ol, slV_od, frz_dd, frz_ol, frz_od, toDs_c, toDs_n, tD_dt, tD_fl, pk_dt, pk_fl, pk_bl, pk_kc, pk_fd, pk_bd, isB_b, gTru_b, gTru_n, bc_t, bc_f, intK_i, datV_d, unp2_t, unp3_t, ownK_ol, ownK_od, ownK_dd, retW_dt, retW_fl, gB_add, gB_sub, gC_lt, gC_le, gC_gt, gC_ge, itV_t, itV_l, itV_f, itV_b, itV_ro, itV_rs, gLen_ro, gLen_rs, gLen_dt, gLen_dl, gLen_fl, gLen_bl, gSl_t, gTup_fl, gTup_bl, gTup_dl, Bool.not_true, Bool.not_false, wB_ok', gInt_i, gm_is_int, gm_is_rule, gm_are_rules, gm_check_rule, gm_check_rules, gm_find_sides, gm_does_ring, gm_any_rings, gm_find_alarms, gm_find_still, gm_implies_rule, gm_implies, gm_history, gm_check_length, gm_go_on, gm_count_after, gm_count_quiet, gm_all_rows, gm_naive_implies, gm_naive_quiet, gm__law_drawn, gm__law_rules, gm__law_sides, gm__law_alarms, gm__law_rows, gm__law_badrules, gm__law_error, gm_law, check_rule_bad h]
theorem imp_bad2 {q : RuT} (hq : Ru q) {d : PyData} (h : d ∈ oddL) : m_naive_implies (ruD q) d = .exc "InvalidRule" := by
  unfold m_naive_implies
  simp only [bF_ok, bF_exc, rb_ok, rb_exc, slO_dt, slO_fl, slO_fd, slV_dd, slV_ol, slV_od, frz_dd, frz_ol, frz_od, toDs_c, toDs_n, tD_dt, tD_fl, pk_dt, pk_fl, pk_bl, pk_kc, pk_fd, pk_bd, isB_b, gTru_b, gTru_n, bc_t, bc_f, intK_i, datV_d, unp2_t, unp3_t, ownK_ol, ownK_od, ownK_dd, retW_dt, retW_fl, gB_add, gB_sub, gC_lt, gC_le, gC_gt, gC_ge, itV_t, itV_l, itV_f, itV_b, itV_ro, itV_rs, gLen_ro, gLen_rs, gLen_dt, gLen_dl, gLen_fl, gLen_bl, gSl_t, gTup_fl, gTup_bl, gTup_dl, Bool.not_true, Bool.not_false, wB_ok', gInt_i, gm_is_int, gm_is_rule, gm_are_rules, gm_check_rule, gm_check_rules, gm_find_sides, gm_does_ring, gm_any_rings, gm_find_alarms, gm_find_still, gm_implies_rule, gm_implies, gm_history, gm_check_length, gm_go_on, gm_count_after, gm_count_quiet, gm_all_rows, gm_naive_implies, gm_naive_quiet, gm__law_drawn, gm__law_rules, gm__law_sides, gm__law_alarms, gm__law_rows, gm__law_badrules, gm__law_error, gm_law, check_rule_ok hq, check_rule_bad h]
theorem imp_big {q o : RuT} (hq : Ru q) (ho : Ru o) (h : 3 < max q.2.1 o.2.1) : m_naive_implies (ruD q) (ruD o) = .exc "TooLarge" := by
  unfold m_naive_implies
  simp only [bF_ok, bF_exc, rb_ok, rb_exc, slO_dt, slO_fl, slO_fd, slV_dd, slV_ol, slV_od, frz_dd, frz_ol, frz_od, toDs_c, toDs_n, tD_dt, tD_fl, pk_dt, pk_fl, pk_bl, pk_kc, pk_fd, pk_bd, isB_b, gTru_b, gTru_n, bc_t, bc_f, intK_i, datV_d, unp2_t, unp3_t, ownK_ol, ownK_od, ownK_dd, retW_dt, retW_fl, gB_add, gB_sub, gC_lt, gC_le, gC_gt, gC_ge, itV_t, itV_l, itV_f, itV_b, itV_ro, itV_rs, gLen_ro, gLen_rs, gLen_dt, gLen_dl, gLen_fl, gLen_bl, gSl_t, gTup_fl, gTup_bl, gTup_dl, Bool.not_true, Bool.not_false, wB_ok', gInt_i, gm_is_int, gm_is_rule, gm_are_rules, gm_check_rule, gm_check_rules, gm_find_sides, gm_does_ring, gm_any_rings, gm_find_alarms, gm_find_still, gm_implies_rule, gm_implies, gm_history, gm_check_length, gm_go_on, gm_count_after, gm_count_quiet, gm_all_rows, gm_naive_implies, gm_naive_quiet, gm__law_drawn, gm__law_rules, gm__law_sides, gm__law_alarms, gm__law_rows, gm__law_badrules, gm__law_error, gm_law, check_rule_ok hq, check_rule_ok ho, gIx_ru1, gMM_i, if_true, decide_eq_true h]
theorem qui_bad {d : PyData} (h : d ∈ badL) (z : PyData) : m_naive_quiet d z = .exc "InvalidRules" := by
  unfold m_naive_quiet
  simp only [bF_ok, bF_exc, rb_ok, rb_exc, slO_dt, slO_fl, slO_fd, slV_dd, slV_ol, slV_od, frz_dd, frz_ol, frz_od, toDs_c, toDs_n, tD_dt, tD_fl, pk_dt, pk_fl, pk_bl, pk_kc, pk_fd, pk_bd, isB_b, gTru_b, gTru_n, bc_t, bc_f, intK_i, datV_d, unp2_t, unp3_t, ownK_ol, ownK_od, ownK_dd, retW_dt, retW_fl, gB_add, gB_sub, gC_lt, gC_le, gC_gt, gC_ge, itV_t, itV_l, itV_f, itV_b, itV_ro, itV_rs, gLen_ro, gLen_rs, gLen_dt, gLen_dl, gLen_fl, gLen_bl, gSl_t, gTup_fl, gTup_bl, gTup_dl, Bool.not_true, Bool.not_false, wB_ok', gInt_i, gm_is_int, gm_is_rule, gm_are_rules, gm_check_rule, gm_check_rules, gm_find_sides, gm_does_ring, gm_any_rings, gm_find_alarms, gm_find_still, gm_implies_rule, gm_implies, gm_history, gm_check_length, gm_go_on, gm_count_after, gm_count_quiet, gm_all_rows, gm_naive_implies, gm_naive_quiet, gm__law_drawn, gm__law_rules, gm__law_sides, gm__law_alarms, gm__law_rows, gm__law_badrules, gm__law_error, gm_law, check_rules_bad h]
theorem qui_badN {rs : List RuT} (h : Rs rs) {z : PyData} (hz : z ∈ badN) : m_naive_quiet (rsD rs) z = .exc "InvalidLength" := by
  unfold m_naive_quiet
  simp only [bF_ok, bF_exc, rb_ok, rb_exc, slO_dt, slO_fl, slO_fd, slV_dd, slV_ol, slV_od, frz_dd, frz_ol, frz_od, toDs_c, toDs_n, tD_dt, tD_fl, pk_dt, pk_fl, pk_bl, pk_kc, pk_fd, pk_bd, isB_b, gTru_b, gTru_n, bc_t, bc_f, intK_i, datV_d, unp2_t, unp3_t, ownK_ol, ownK_od, ownK_dd, retW_dt, retW_fl, gB_add, gB_sub, gC_lt, gC_le, gC_gt, gC_ge, itV_t, itV_l, itV_f, itV_b, itV_ro, itV_rs, gLen_ro, gLen_rs, gLen_dt, gLen_dl, gLen_fl, gLen_bl, gSl_t, gTup_fl, gTup_bl, gTup_dl, Bool.not_true, Bool.not_false, wB_ok', gInt_i, gm_is_int, gm_is_rule, gm_are_rules, gm_check_rule, gm_check_rules, gm_find_sides, gm_does_ring, gm_any_rings, gm_find_alarms, gm_find_still, gm_implies_rule, gm_implies, gm_history, gm_check_length, gm_go_on, gm_count_after, gm_count_quiet, gm_all_rows, gm_naive_implies, gm_naive_quiet, gm__law_drawn, gm__law_rules, gm__law_sides, gm__law_alarms, gm__law_rows, gm__law_badrules, gm__law_error, gm_law, check_rules_ok h, check_length_bad hz]
theorem one_rule {rs : List RuT} (h : Rs rs) (h1 : (rs.length : Int) ≤ 1) : ∃ q, rs = [q] := by
  have := h.n1
  match rs, this, h1 with
  | [q], _, _ => exact ⟨q, rfl⟩
  | _ :: _ :: _, _, h1 => rw [List.length_cons, List.length_cons] at h1; omega
theorem law_rows_any {n : Nat} (hn : n ≤ 7) : ∃ w, m__law_rows (.int (n : Int)) = .ok w ∧ itV false w = .ok ((allR n).map roD) := by
  cases n with
  | zero =>
    refine ⟨.fl [.tuple []], ?_, rfl⟩
    unfold m__law_rows
    rw [rng1_i (by omega) (by omega), show rgD 0 ((0 : Nat) : Int) = [] from rfl]
    unfold forC
    rw [m__law_rows_r2_ok]
    rfl
  | succ n => exact ⟨_, law_rows_ok (n := n + 1) (by omega) hn, rfl⟩
theorem law_ok {ns : List Int} (S : Scr ns) : m_law (scD ns) = .ok (.dt (.bool true)) := by
  obtain ⟨qs, hqs, l1, wq, eq⟩ := lawrules_ok S (a := 10) (most := 1) (wide := 3) (by decide) (by decide) (by decide) (by decide) (by decide) (by decide)
  obtain ⟨os, hos, l2, wo, eo⟩ := lawrules_ok S (a := 20) (most := 1) (wide := 3) (by decide) (by decide) (by decide) (by decide) (by decide) (by decide)
  obtain ⟨q, rfl⟩ := one_rule hqs l1
  obtain ⟨o, rfl⟩ := one_rule hos l2
  have hq := hqs.ok q List.mem_cons_self
  have ho := hos.ok o List.mem_cons_self
  have q3 := wq q List.mem_cons_self
  have o3 := wo o List.mem_cons_self
  obtain ⟨rs, h, _, _, ers⟩ := lawrules_ok S (a := 30) (most := 3) (wide := 4) (by decide) (by decide) (by decide) (by decide) (by decide) (by decide)
  obtain ⟨n, n0, n4, en⟩ := drawn_ok S (k := 1) (many := 4) (by decide) (by decide) (by decide)
  obtain ⟨n, rfl⟩ := Int.eq_ofNat_of_zero_le n0
  obtain ⟨lr, er, ir⟩ := law_rows_any (n := n) (by omega)
  obtain ⟨j, j0, j7, ej⟩ := drawn_ok S (k := 2) (many := 7) (by decide) (by decide) (by decide)
  obtain ⟨j, rfl⟩ := Int.eq_ofNat_of_zero_le j0
  have hj : j < oddL.length := by
    have : oddL.length = 7 := rfl
    omega
  obtain ⟨od, hod, eod⟩ : ∃ d ∈ oddL, gIxV (.fl oddL) (.dt (.int (j : Int))) = .ok (.dt d) := by
    have : j = 0 ∨ j = 1 ∨ j = 2 ∨ j = 3 ∨ j = 4 ∨ j = 5 ∨ j = 6 := by omega
    rcases this with rfl | rfl | rfl | rfl | rfl | rfl | rfl <;> exact ⟨_, List.getElem_mem hj, rfl⟩
  obtain ⟨d, hd, ed⟩ := badrules_ok S (a := 3) (by decide) (by decide)
  obtain ⟨y, hy, i, ei, ey⟩ := badlen_ok S (a := 4) (by decide) (by decide)
  have ey' : gIxV (.fl [.none, .int (-1), .int 31, .bool true, .str "5"]) (.dt (.int i)) = .ok (.dt y) := ey
  have eod' : gIxV (.fl [.none, .tuple [.int 1, .int 1], .tuple [.int 2, .int 1, .int 3], .tuple [.int 1, .int 5, .int 1], .tuple [.int 1, .int 1, .int 4], .list [.int 1, .int 1, .int 1], .tuple [.bool true, .int 1, .int 1]]) (.dt (.int (j : Int))) = .ok (.dt od) := eod
  have g0 : ∀ p : RuT, gIxV (.dt (rsD [p])) (.dt (.int 0)) = .ok (.dt (ruD p)) := fun _ => rfl
  have g2 : ∀ p : RuT, gIxV (.dt (ruD p)) (.dt (.int 2)) = .ok (.dt (.int p.2.2)) := fun _ => rfl
  have due : bc (decide (o.2.2 ≤ q.2.2)) (.ok (.dt (.bool (decide (o.1 ≤ q.1 - max 0 (q.2.1 - o.2.1)))))) (.ok (.dt (.bool false))) = (.ok (.dt (.bool (implR q o))) : R Vw) := by
    unfold implR
    cases decide (o.2.2 ≤ q.2.2) <;> rfl
  have hb : Ru (2, 4, 1) := ⟨by decide, by decide, by decide, by decide, by decide, by decide⟩
  have eb : PyData.tuple [.int 2, .int 4, .int 1] = ruD (2, 4, 1) := rfl
  have x1 := er_imp (imp_bad hod od) (fun _ => er_h0)
  have x2 := er_imp (imp_bad2 hq hod) (fun _ => er_h0)
  have x3 := er_imp (imp_big hq hb (show 3 < max q.2.1 4 by omega)) (fun _ => er_h3)
  have x4 := er_imp (imp_big hb hq (show 3 < max 4 q.2.1 by omega)) (fun _ => er_h3)
  have x5 := er_qui (qui_bad hd y) (fun _ => er_h1)
  have x6 := er_qui (qui_badN h hy) (fun _ => er_h2)
  have x7 := er_qui (naive_quiet_big h) (fun _ => er_h3)
  have f1 := List.length_filter_le (fun r => (almN rs r).isEmpty) (allR n)
  have f2 := len_allR (n := n) (by omega)
  have isn : gCmp .IsNot (.dt (.bool true)) (.dt (.bool true)) = .ok (.dt (.bool false)) := rfl
  have a1 : gBin .Add (.bl [.int 0, .int 0, .int 3]) (.fl [.int 3]) = .ok (.fl [.int 0, .int 0, .int 3, .int 3]) := by kernel_rfl
  unfold m_law
  simp only [bF_ok, bF_exc, rb_ok, rb_exc, slO_dt, slO_fl, slO_fd, slV_dd, slV_ol, slV_od, frz_dd, frz_ol, frz_od, toDs_c, toDs_n, tD_dt, tD_fl, pk_dt, pk_fl, pk_bl, pk_kc, pk_fd, pk_bd, isB_b, gTru_b, gTru_n, bc_t, bc_f, intK_i, datV_d, unp2_t, unp3_t, ownK_ol, ownK_od, ownK_dd, retW_dt, retW_fl, gB_add, gB_sub, gC_lt, gC_le, gC_gt, gC_ge, itV_t, itV_l, itV_f, itV_b, itV_ro, itV_rs, gLen_ro, gLen_rs, gLen_dt, gLen_dl, gLen_fl, gLen_bl, gSl_t, gTup_fl, gTup_bl, gTup_dl, Bool.not_true, Bool.not_false, wB_ok', gInt_i, gm_is_int, gm_is_rule, gm_are_rules, gm_check_rule, gm_check_rules, gm_find_sides, gm_does_ring, gm_any_rings, gm_find_alarms, gm_find_still, gm_implies_rule, gm_implies, gm_history, gm_check_length, gm_go_on, gm_count_after, gm_count_quiet, gm_all_rows, gm_naive_implies, gm_naive_quiet, gm__law_drawn, gm__law_rules, gm__law_sides, gm__law_alarms, gm__law_rows, gm__law_badrules, gm__law_error, gm_law, eq, eo, g0, gIx_ru1, gMM_i, if_true, g2, gIx_ru0, due, naive_implies_ok hq ho q3 o3, implies_ok hq ho, ne_bb, beq_self_eq_true, naive_implies_ok hq hq q3 q3, implR_self, isn, ers, en, er, ir]
  rw [lcL_filter roD (fun r => (almN rs r).isEmpty) roD (allR n) fun r hr => by
    have hl := (mem_allR.mp hr).1
    simp only [bF_ok, bF_exc, rb_ok, rb_exc, slO_dt, slO_fl, slO_fd, slV_dd, slV_ol, slV_od, frz_dd, frz_ol, frz_od, toDs_c, toDs_n, tD_dt, tD_fl, pk_dt, pk_fl, pk_bl, pk_kc, pk_fd, pk_bd, isB_b, gTru_b, gTru_n, bc_t, bc_f, intK_i, datV_d, unp2_t, unp3_t, ownK_ol, ownK_od, ownK_dd, retW_dt, retW_fl, gB_add, gB_sub, gC_lt, gC_le, gC_gt, gC_ge, itV_t, itV_l, itV_f, itV_b, itV_ro, itV_rs, gLen_ro, gLen_rs, gLen_dt, gLen_dl, gLen_fl, gLen_bl, gSl_t, gTup_fl, gTup_bl, gTup_dl, Bool.not_true, Bool.not_false, wB_ok', gInt_i, gm_is_int, gm_is_rule, gm_are_rules, gm_check_rule, gm_check_rules, gm_find_sides, gm_does_ring, gm_any_rings, gm_find_alarms, gm_find_still, gm_implies_rule, gm_implies, gm_history, gm_check_length, gm_go_on, gm_count_after, gm_count_quiet, gm_all_rows, gm_naive_implies, gm_naive_quiet, gm__law_drawn, gm__law_rules, gm__law_sides, gm__law_alarms, gm__law_rows, gm__law_badrules, gm__law_error, gm_law, law_alarms_ok (r := r) h.ok (by omega), eq_nil_nD]
    cases (almN rs r).isEmpty <;> rfl]
  simp only [bF_ok, bF_exc, rb_ok, rb_exc, slO_dt, slO_fl, slO_fd, slV_dd, slV_ol, slV_od, frz_dd, frz_ol, frz_od, toDs_c, toDs_n, tD_dt, tD_fl, pk_dt, pk_fl, pk_bl, pk_kc, pk_fd, pk_bd, isB_b, gTru_b, gTru_n, bc_t, bc_f, intK_i, datV_d, unp2_t, unp3_t, ownK_ol, ownK_od, ownK_dd, retW_dt, retW_fl, gB_add, gB_sub, gC_lt, gC_le, gC_gt, gC_ge, itV_t, itV_l, itV_f, itV_b, itV_ro, itV_rs, gLen_ro, gLen_rs, gLen_dt, gLen_dl, gLen_fl, gLen_bl, gSl_t, gTup_fl, gTup_bl, gTup_dl, Bool.not_true, Bool.not_false, wB_ok', gInt_i, gm_is_int, gm_is_rule, gm_are_rules, gm_check_rule, gm_check_rules, gm_find_sides, gm_does_ring, gm_any_rings, gm_find_alarms, gm_find_still, gm_implies_rule, gm_implies, gm_history, gm_check_length, gm_go_on, gm_count_after, gm_count_quiet, gm_all_rows, gm_naive_implies, gm_naive_quiet, gm__law_drawn, gm__law_rules, gm__law_sides, gm__law_alarms, gm__law_rows, gm__law_badrules, gm__law_error, gm_law, List.length_map]
  rw [if_pos (by omega)]
  simp only [bF_ok, bF_exc, rb_ok, rb_exc, slO_dt, slO_fl, slO_fd, slV_dd, slV_ol, slV_od, frz_dd, frz_ol, frz_od, toDs_c, toDs_n, tD_dt, tD_fl, pk_dt, pk_fl, pk_bl, pk_kc, pk_fd, pk_bd, isB_b, gTru_b, gTru_n, bc_t, bc_f, intK_i, datV_d, unp2_t, unp3_t, ownK_ol, ownK_od, ownK_dd, retW_dt, retW_fl, gB_add, gB_sub, gC_lt, gC_le, gC_gt, gC_ge, itV_t, itV_l, itV_f, itV_b, itV_ro, itV_rs, gLen_ro, gLen_rs, gLen_dt, gLen_dl, gLen_fl, gLen_bl, gSl_t, gTup_fl, gTup_bl, gTup_dl, Bool.not_true, Bool.not_false, wB_ok', gInt_i, gm_is_int, gm_is_rule, gm_are_rules, gm_check_rule, gm_check_rules, gm_find_sides, gm_does_ring, gm_any_rings, gm_find_alarms, gm_find_still, gm_implies_rule, gm_implies, gm_history, gm_check_length, gm_go_on, gm_count_after, gm_count_quiet, gm_all_rows, gm_naive_implies, gm_naive_quiet, gm__law_drawn, gm__law_rules, gm__law_sides, gm__law_alarms, gm__law_rows, gm__law_badrules, gm__law_error, gm_law, List.length_map, quiet_count, naive_quiet_ok h (n := n) (by omega), count_quiet_ok h (n := n) (by omega), ne_ii, beq_self_eq_true, ej, eod', ed, ei, ey', eb, x1, x2, x3, x4, a1, x5, x6, x7]
  kernel_rfl
end BR.k70
namespace BR.k70
open PySem PySem.Spec PyProof.Rows L2
def ds_is_int : He.DefD := ⟨("is_int", none), "is_int", "is_int", defArgs (top 12), defBody (top 12), defScope (top 12), [], []⟩
def ds_is_rule : He.DefD := ⟨("is_rule", none), "is_rule", "is_rule", defArgs (top 13), defBody (top 13), defScope (top 13), [], []⟩
def ds_are_rules : He.DefD := ⟨("are_rules", none), "are_rules", "are_rules", defArgs (top 14), defBody (top 14), defScope (top 14), [], []⟩
def ds_check_rule : He.DefD := ⟨("check_rule", none), "check_rule", "check_rule", defArgs (top 15), defBody (top 15), defScope (top 15), [], []⟩
def ds_check_rules : He.DefD := ⟨("check_rules", none), "check_rules", "check_rules", defArgs (top 16), defBody (top 16), defScope (top 16), [], []⟩
def ds_find_sides : He.DefD := ⟨("find_sides", none), "find_sides", "find_sides", defArgs (top 17), defBody (top 17), defScope (top 17), [], []⟩
def ds_does_ring : He.DefD := ⟨("does_ring", none), "does_ring", "does_ring", defArgs (top 18), defBody (top 18), defScope (top 18), [], []⟩
def ds_any_rings : He.DefD := ⟨("any_rings", none), "any_rings", "any_rings", defArgs (top 19), defBody (top 19), defScope (top 19), [], []⟩
def ds_find_alarms : He.DefD := ⟨("find_alarms", none), "find_alarms", "find_alarms", defArgs (top 21), defBody (top 21), defScope (top 21), [], []⟩
def ds_find_still : He.DefD := ⟨("find_still", none), "find_still", "find_still", defArgs (top 22), defBody (top 22), defScope (top 22), [], []⟩
def ds_implies_rule : He.DefD := ⟨("implies_rule", none), "implies_rule", "implies_rule", defArgs (top 24), defBody (top 24), defScope (top 24), [], []⟩
def ds_implies : He.DefD := ⟨("implies", none), "implies", "implies", defArgs (top 25), defBody (top 25), defScope (top 25), [], []⟩
def ds_history : He.DefD := ⟨("history", none), "history", "history", defArgs (top 27), defBody (top 27), defScope (top 27), [], []⟩
def ds_check_length : He.DefD := ⟨("check_length", none), "check_length", "check_length", defArgs (top 29), defBody (top 29), defScope (top 29), [], []⟩
def ds_go_on : He.DefD := ⟨("go_on", none), "go_on", "go_on", defArgs (top 30), defBody (top 30), defScope (top 30), [], []⟩
def ds_count_after : He.DefD := ⟨("count_after", none), "count_after", "count_after", defArgs (top 31), defBody (top 31), defScope (top 31), [], []⟩
def ds_count_quiet : He.DefD := ⟨("count_quiet", none), "count_quiet", "count_quiet", defArgs (top 32), defBody (top 32), defScope (top 32), [], []⟩
def ds_all_rows : He.DefD := ⟨("all_rows", none), "all_rows", "all_rows", defArgs (top 36), defBody (top 36), defScope (top 36), [], []⟩
def ds_naive_implies : He.DefD := ⟨("naive_implies", none), "naive_implies", "naive_implies", defArgs (top 37), defBody (top 37), defScope (top 37), [], []⟩
def ds_naive_quiet : He.DefD := ⟨("naive_quiet", none), "naive_quiet", "naive_quiet", defArgs (top 38), defBody (top 38), defScope (top 38), [], []⟩
def ds__law_drawn : He.DefD := ⟨("_law_drawn", none), "_law_drawn", "_law_drawn", defArgs (top 40), defBody (top 40), defScope (top 40), [], []⟩
def ds__law_rules : He.DefD := ⟨("_law_rules", none), "_law_rules", "_law_rules", defArgs (top 41), defBody (top 41), defScope (top 41), [], []⟩
def ds__law_sides : He.DefD := ⟨("_law_sides", none), "_law_sides", "_law_sides", defArgs (top 42), defBody (top 42), defScope (top 42), [], []⟩
def ds__law_alarms : He.DefD := ⟨("_law_alarms", none), "_law_alarms", "_law_alarms", defArgs (top 43), defBody (top 43), defScope (top 43), [], []⟩
def ds__law_rows : He.DefD := ⟨("_law_rows", none), "_law_rows", "_law_rows", defArgs (top 44), defBody (top 44), defScope (top 44), [], []⟩
def ds__law_badrules : He.DefD := ⟨("_law_badrules", none), "_law_badrules", "_law_badrules", defArgs (top 45), defBody (top 45), defScope (top 45), [], []⟩
def ds__law_error : He.DefD := ⟨("_law_error", none), "_law_error", "_law_error", defArgs (top 46), defBody (top 46), defScope (top 46), [], []⟩
def ds_law : He.DefD := ⟨("law", none), "law", "law", defArgs (top 47), defBody (top 47), defScope (top 47), [], []⟩
def fnL : List He.DefD := [ds_is_int, ds_is_rule, ds_are_rules, ds_check_rule, ds_check_rules, ds_find_sides, ds_does_ring, ds_any_rings, ds_find_alarms, ds_find_still, ds_implies_rule, ds_implies, ds_history, ds_check_length, ds_go_on, ds_count_after, ds_count_quiet, ds_all_rows, ds_naive_implies, ds_naive_quiet, ds__law_drawn, ds__law_rules, ds__law_sides, ds__law_alarms, ds__law_rows, ds__law_badrules, ds__law_error, ds_law]
def faL : List He.Fa := [.int "MAX_VALUE" 3, .int "MAX_ROW" 30, .int "MAX_WINDOW" 4, .int "MAX_RULES" 4, .glo "VALUES", .int "MAX_TRIED" 3, .int "MAX_LENGTH" 4, .glo "BandError", .exc "BandError", .glo "InvalidRule", .exc "InvalidRule", .glo "InvalidRules", .exc "InvalidRules", .glo "TooLarge", .exc "TooLarge", .glo "InvalidLength", .exc "InvalidLength", .free "all", .free "any", .free "bool", .free "int", .free "isinstance", .free "len", .free "max", .free "min", .free "range", .free "set", .free "sorted", .free "sum", .free "tuple", .free "zip", .glo "is_int", .glo "is_rule", .glo "are_rules", .glo "check_rule", .glo "check_rules", .glo "find_sides", .glo "does_ring", .glo "any_rings", .glo "find_alarms", .glo "find_still", .glo "implies_rule", .glo "implies", .glo "history", .glo "check_length", .glo "go_on", .glo "count_after", .glo "count_quiet", .glo "all_rows", .glo "naive_implies", .glo "naive_quiet", .glo "_law_drawn", .glo "_law_rules", .glo "_law_sides", .glo "_law_alarms", .glo "_law_rows", .glo "_law_badrules", .glo "_law_error", .glo "law"]
def relL : RelT := [("BandError", [("BandError", true), ("InvalidRule", false), ("InvalidRules", false), ("TooLarge", false), ("InvalidLength", false)]), ("InvalidRule", [("BandError", true), ("InvalidRule", true), ("InvalidRules", false), ("TooLarge", false), ("InvalidLength", false)]), ("InvalidRules", [("BandError", true), ("InvalidRule", false), ("InvalidRules", true), ("TooLarge", false), ("InvalidLength", false)]), ("TooLarge", [("BandError", true), ("InvalidRule", false), ("InvalidRules", false), ("TooLarge", true), ("InvalidLength", false)]), ("InvalidLength", [("BandError", true), ("InvalidRule", false), ("InvalidRules", false), ("TooLarge", false), ("InvalidLength", true)])]
def exL (K : PySem.W.Frag) : Bool := (He.tupB K "VALUES" [.int (-3), .int (-2), .int (-1), .int (0), .int (1), .int (2), .int (3)] && clsB K relL)
abbrev Rw : PySem.W.OpenRow := PySem.W.OpenLaw.row PySem.Challenge.rw_bandrules_k70_whole_naive
abbrev hkL : PySem.W.Hook := He.hookX 4 faL fnL [] [] exL
def obL (s : PySem.W.SharedT) : He.AlX := He.obsX 4 faL fnL [] [] exL (HandSHeadRun.getT s)
theorem obL_eq (s : PySem.W.SharedT) : obL s = hkL.obs s.abs := He.obsX_eq (HandSHeadRun.getT_eq s)
def loose0 : List Str := ["MAX_VALUE", "MAX_ROW", "MAX_WINDOW", "MAX_RULES", "VALUES", "MAX_TRIED", "MAX_LENGTH", "BandError", "InvalidRule", "InvalidRules", "TooLarge", "InvalidLength", "is_int", "is_rule", "are_rules", "check_rule", "check_rules", "find_sides", "does_ring", "any_rings", "find_alarms", "find_still", "implies_rule", "implies", "history", "check_length", "go_on", "count_after", "count_quiet", "all_rows"]
def loose1 : List Str := ["naive_implies", "naive_quiet", "_law_drawn", "_law_rules", "_law_sides", "_law_alarms", "_law_rows", "_law_badrules", "_law_error"]
abbrev looseL : List Str := loose0 ++ loose1
theorem runL (w : World) : HandSHeadRun.RunEq Rw (PySem.W.view Rw.prog [47]) hkL obL 4000 looseL w := by
  intro os
  kernel_rfl
section
variable {P : Program} {w : World} {K : PySem.W.Frag} {mg : Str → Option Value} {base h : Heap}
theorem t0 (X : K.In h) (G : h.Ns mainGlobals mg) (c : He.SaysX faL fnL [] [] exL w h K) : TOk T0 0 P w K mg base := 
  .cons (gok_int X G (c.t.d.fact 0 rfl)) <|
  .cons (gok_int X G (c.t.d.fact 1 rfl)) <|
  .cons (gok_int X G (c.t.d.fact 2 rfl)) <|
  .cons (gok_int X G (c.t.d.fact 3 rfl)) <|
  .cons (gok_tup (ns := [-3, -2, -1, 0, 1, 2, 3]) X G (c.t.d.fact 4 rfl) (Bool.and_eq_true_iff.mp c.more).1) <|
  .cons (gok_int X G (c.t.d.fact 5 rfl)) <|
  .cons (gok_int X G (c.t.d.fact 6 rfl)) <|
  .cons (gok_cls X G (c.t.d.fact 7 rfl) (c.t.d.fact 8 rfl) (clsB_at (p := ("BandError", [("BandError", true), ("InvalidRule", false), ("InvalidRules", false), ("TooLarge", false), ("InvalidLength", false)])) (Bool.and_eq_true_iff.mp c.more).2 0 rfl)) <|
  .cons (gok_cls X G (c.t.d.fact 9 rfl) (c.t.d.fact 10 rfl) (clsB_at (p := ("InvalidRule", [("BandError", true), ("InvalidRule", true), ("InvalidRules", false), ("TooLarge", false), ("InvalidLength", false)])) (Bool.and_eq_true_iff.mp c.more).2 1 rfl)) <|
  .cons (gok_cls X G (c.t.d.fact 11 rfl) (c.t.d.fact 12 rfl) (clsB_at (p := ("InvalidRules", [("BandError", true), ("InvalidRule", false), ("InvalidRules", true), ("TooLarge", false), ("InvalidLength", false)])) (Bool.and_eq_true_iff.mp c.more).2 2 rfl)) <|
  .cons (gok_cls X G (c.t.d.fact 13 rfl) (c.t.d.fact 14 rfl) (clsB_at (p := ("TooLarge", [("BandError", true), ("InvalidRule", false), ("InvalidRules", false), ("TooLarge", true), ("InvalidLength", false)])) (Bool.and_eq_true_iff.mp c.more).2 3 rfl)) <|
  .cons (gok_cls X G (c.t.d.fact 15 rfl) (c.t.d.fact 16 rfl) (clsB_at (p := ("InvalidLength", [("BandError", true), ("InvalidRule", false), ("InvalidRules", false), ("TooLarge", false), ("InvalidLength", true)])) (Bool.and_eq_true_iff.mp c.more).2 4 rfl)) <|
  .cons (gok_blt X G (c.t.d.fact 17 rfl)) <|
  .cons (gok_blt X G (c.t.d.fact 18 rfl)) <|
  .cons (gok_blt X G (c.t.d.fact 19 rfl)) <|
  .cons (gok_blt X G (c.t.d.fact 20 rfl)) <|
  .cons (gok_blt X G (c.t.d.fact 21 rfl)) <|
  .cons (gok_blt X G (c.t.d.fact 22 rfl)) <|
  .cons (gok_blt X G (c.t.d.fact 23 rfl)) <|
  .cons (gok_blt X G (c.t.d.fact 24 rfl)) <|
  .cons (gok_blt X G (c.t.d.fact 25 rfl)) <|
  .cons (gok_blt X G (c.t.d.fact 26 rfl)) <|
  .cons (gok_blt X G (c.t.d.fact 27 rfl)) <|
  .cons (gok_blt X G (c.t.d.fact 28 rfl)) <|
  .cons (gok_blt X G (c.t.d.fact 29 rfl)) <|
  .cons (gok_blt X G (c.t.d.fact 30 rfl)) <|
  TOk.nil
theorem hg_is_int : ∀ ds : List D, ds.length = (["value", "least", "most"] : List Str).length → cFn T0 fz_is_int N_is_int sc_is_int body_is_int 30 ds = g_is_int ds := fun ds hl => match ds, hl with | [a0, a1, a2], _ => (m_is_int_ok a0 a1 a2).trans (gm_is_int a0 a1 a2).symm
theorem S_is_int : C8.scC N_is_int ["value", "least", "most"] sc_is_int = true := by decide +kernel
theorem t_is_int (X : K.In h) (G : h.Ns mainGlobals mg) (c : He.SaysX faL fnL [] [] exL w h K) : TOk T_is_int 1 P w K mg base := by
  obtain ⟨fd, F⟩ := (show ∃ fd, FunD K "is_int" "is_int" (defArgs (top 12)) body_is_int sc_is_int [] [] (He.ga K "is_int") fd from c.t.d.def_ 0 (d := ds_is_int) rfl)
  exact (t0 X G c).fn F (He.glo_ok X G (c.t.d.fact 31 rfl)) fz_is_int 30 S_is_int (fun _ _ _ _ _ _ us hl => match us, hl with | [_, _, _], _ => rfl) hg_is_int
theorem hg_is_rule : ∀ ds : List D, ds.length = (["candidate"] : List Str).length → cFn T_is_int fz_is_rule N_is_rule sc_is_rule body_is_rule 30 ds = g_is_rule ds := fun ds hl => match ds, hl with | [a0], _ => (m_is_rule_ok a0).trans (gm_is_rule a0).symm
theorem S_is_rule : C8.scC N_is_rule ["candidate"] sc_is_rule = true := by decide +kernel
theorem t_is_rule (X : K.In h) (G : h.Ns mainGlobals mg) (c : He.SaysX faL fnL [] [] exL w h K) : TOk T_is_rule 2 P w K mg base := by
  obtain ⟨fd, F⟩ := (show ∃ fd, FunD K "is_rule" "is_rule" (defArgs (top 13)) body_is_rule sc_is_rule [] [] (He.ga K "is_rule") fd from c.t.d.def_ 1 (d := ds_is_rule) rfl)
  exact (t_is_int X G c).fn F (He.glo_ok X G (c.t.d.fact 32 rfl)) fz_is_rule 30 S_is_rule (fun _ _ _ _ _ _ us hl => match us, hl with | [_], _ => rfl) hg_is_rule
theorem hg_are_rules : ∀ ds : List D, ds.length = (["candidate"] : List Str).length → cFn T_is_rule fz_are_rules N_are_rules sc_are_rules body_are_rules 30 ds = g_are_rules ds := fun ds hl => match ds, hl with | [a0], _ => (m_are_rules_ok a0).trans (gm_are_rules a0).symm
theorem S_are_rules : C8.scC N_are_rules ["candidate"] sc_are_rules = true := by decide +kernel
theorem t_are_rules (X : K.In h) (G : h.Ns mainGlobals mg) (c : He.SaysX faL fnL [] [] exL w h K) : TOk T_are_rules 3 P w K mg base := by
  obtain ⟨fd, F⟩ := (show ∃ fd, FunD K "are_rules" "are_rules" (defArgs (top 14)) body_are_rules sc_are_rules [] [] (He.ga K "are_rules") fd from c.t.d.def_ 2 (d := ds_are_rules) rfl)
  exact (t_is_rule X G c).fn F (He.glo_ok X G (c.t.d.fact 33 rfl)) fz_are_rules 30 S_are_rules (fun _ _ _ _ _ _ us hl => match us, hl with | [_], _ => rfl) hg_are_rules
theorem hg_check_rule : ∀ ds : List D, ds.length = (["value"] : List Str).length → cFn T_are_rules fz_check_rule N_check_rule sc_check_rule body_check_rule 30 ds = g_check_rule ds := fun ds hl => match ds, hl with | [a0], _ => (m_check_rule_ok a0).trans (gm_check_rule a0).symm
theorem S_check_rule : C8.scC N_check_rule ["value"] sc_check_rule = true := by decide +kernel
theorem t_check_rule (X : K.In h) (G : h.Ns mainGlobals mg) (c : He.SaysX faL fnL [] [] exL w h K) : TOk T_check_rule 4 P w K mg base := by
  obtain ⟨fd, F⟩ := (show ∃ fd, FunD K "check_rule" "check_rule" (defArgs (top 15)) body_check_rule sc_check_rule [] [] (He.ga K "check_rule") fd from c.t.d.def_ 3 (d := ds_check_rule) rfl)
  exact (t_are_rules X G c).fn F (He.glo_ok X G (c.t.d.fact 34 rfl)) fz_check_rule 30 S_check_rule (fun _ _ _ _ _ _ us hl => match us, hl with | [_], _ => rfl) hg_check_rule
theorem hg_check_rules : ∀ ds : List D, ds.length = (["value"] : List Str).length → cFn T_check_rule fz_check_rules N_check_rules sc_check_rules body_check_rules 30 ds = g_check_rules ds := fun ds hl => match ds, hl with | [a0], _ => (m_check_rules_ok a0).trans (gm_check_rules a0).symm
theorem S_check_rules : C8.scC N_check_rules ["value"] sc_check_rules = true := by decide +kernel
theorem t_check_rules (X : K.In h) (G : h.Ns mainGlobals mg) (c : He.SaysX faL fnL [] [] exL w h K) : TOk T_check_rules 5 P w K mg base := by
  obtain ⟨fd, F⟩ := (show ∃ fd, FunD K "check_rules" "check_rules" (defArgs (top 16)) body_check_rules sc_check_rules [] [] (He.ga K "check_rules") fd from c.t.d.def_ 4 (d := ds_check_rules) rfl)
  exact (t_check_rule X G c).fn F (He.glo_ok X G (c.t.d.fact 35 rfl)) fz_check_rules 30 S_check_rules (fun _ _ _ _ _ _ us hl => match us, hl with | [_], _ => rfl) hg_check_rules
theorem hg_find_sides : ∀ ds : List D, ds.length = (["rule", "row"] : List Str).length → cFn T_check_rules fz_find_sides N_find_sides sc_find_sides body_find_sides 30 ds = g_find_sides ds := fun ds hl => match ds, hl with | [a0, a1], _ => (m_find_sides_ok a0 a1).trans (gm_find_sides a0 a1).symm
theorem S_find_sides : C8.scC N_find_sides ["rule", "row"] sc_find_sides = true := by decide +kernel
theorem t_find_sides (X : K.In h) (G : h.Ns mainGlobals mg) (c : He.SaysX faL fnL [] [] exL w h K) : TOk T_find_sides 6 P w K mg base := by
  obtain ⟨fd, F⟩ := (show ∃ fd, FunD K "find_sides" "find_sides" (defArgs (top 17)) body_find_sides sc_find_sides [] [] (He.ga K "find_sides") fd from c.t.d.def_ 5 (d := ds_find_sides) rfl)
  exact (t_check_rules X G c).fn F (He.glo_ok X G (c.t.d.fact 36 rfl)) fz_find_sides 30 S_find_sides (fun _ _ _ _ _ _ us hl => match us, hl with | [_, _], _ => rfl) hg_find_sides
theorem hg_does_ring : ∀ ds : List D, ds.length = (["rule", "row"] : List Str).length → cFn T_find_sides fz_does_ring N_does_ring sc_does_ring body_does_ring 30 ds = g_does_ring ds := fun ds hl => match ds, hl with | [a0, a1], _ => (m_does_ring_ok a0 a1).trans (gm_does_ring a0 a1).symm
theorem S_does_ring : C8.scC N_does_ring ["rule", "row"] sc_does_ring = true := by decide +kernel
theorem t_does_ring (X : K.In h) (G : h.Ns mainGlobals mg) (c : He.SaysX faL fnL [] [] exL w h K) : TOk T_does_ring 7 P w K mg base := by
  obtain ⟨fd, F⟩ := (show ∃ fd, FunD K "does_ring" "does_ring" (defArgs (top 18)) body_does_ring sc_does_ring [] [] (He.ga K "does_ring") fd from c.t.d.def_ 6 (d := ds_does_ring) rfl)
  exact (t_find_sides X G c).fn F (He.glo_ok X G (c.t.d.fact 37 rfl)) fz_does_ring 30 S_does_ring (fun _ _ _ _ _ _ us hl => match us, hl with | [_, _], _ => rfl) hg_does_ring
theorem hg_any_rings : ∀ ds : List D, ds.length = (["rules", "row"] : List Str).length → cFn T_does_ring fz_any_rings N_any_rings sc_any_rings body_any_rings 30 ds = g_any_rings ds := fun ds hl => match ds, hl with | [a0, a1], _ => (m_any_rings_ok a0 a1).trans (gm_any_rings a0 a1).symm
theorem S_any_rings : C8.scC N_any_rings ["rules", "row"] sc_any_rings = true := by decide +kernel
theorem t_any_rings (X : K.In h) (G : h.Ns mainGlobals mg) (c : He.SaysX faL fnL [] [] exL w h K) : TOk T_any_rings 8 P w K mg base := by
  obtain ⟨fd, F⟩ := (show ∃ fd, FunD K "any_rings" "any_rings" (defArgs (top 19)) body_any_rings sc_any_rings [] [] (He.ga K "any_rings") fd from c.t.d.def_ 7 (d := ds_any_rings) rfl)
  exact (t_does_ring X G c).fn F (He.glo_ok X G (c.t.d.fact 38 rfl)) fz_any_rings 30 S_any_rings (fun _ _ _ _ _ _ us hl => match us, hl with | [_, _], _ => rfl) hg_any_rings
theorem hg_find_alarms : ∀ ds : List D, ds.length = (["rules", "row"] : List Str).length → cFn T_any_rings fz_find_alarms N_find_alarms sc_find_alarms body_find_alarms 30 ds = g_find_alarms ds := fun ds hl => match ds, hl with | [a0, a1], _ => (m_find_alarms_ok a0 a1).trans (gm_find_alarms a0 a1).symm
theorem S_find_alarms : C8.scC N_find_alarms ["rules", "row"] sc_find_alarms = true := by decide +kernel
theorem t_find_alarms (X : K.In h) (G : h.Ns mainGlobals mg) (c : He.SaysX faL fnL [] [] exL w h K) : TOk T_find_alarms 9 P w K mg base := by
  obtain ⟨fd, F⟩ := (show ∃ fd, FunD K "find_alarms" "find_alarms" (defArgs (top 21)) body_find_alarms sc_find_alarms [] [] (He.ga K "find_alarms") fd from c.t.d.def_ 8 (d := ds_find_alarms) rfl)
  exact (t_any_rings X G c).fn F (He.glo_ok X G (c.t.d.fact 39 rfl)) fz_find_alarms 30 S_find_alarms (fun _ _ _ _ _ _ us hl => match us, hl with | [_, _], _ => rfl) hg_find_alarms
theorem hg_find_still : ∀ ds : List D, ds.length = (["rules", "row"] : List Str).length → cFn T_find_alarms fz_find_still N_find_still sc_find_still body_find_still 30 ds = g_find_still ds := fun ds hl => match ds, hl with | [a0, a1], _ => (m_find_still_ok a0 a1).trans (gm_find_still a0 a1).symm
theorem S_find_still : C8.scC N_find_still ["rules", "row"] sc_find_still = true := by decide +kernel
theorem t_find_still (X : K.In h) (G : h.Ns mainGlobals mg) (c : He.SaysX faL fnL [] [] exL w h K) : TOk T_find_still 10 P w K mg base := by
  obtain ⟨fd, F⟩ := (show ∃ fd, FunD K "find_still" "find_still" (defArgs (top 22)) body_find_still sc_find_still [] [] (He.ga K "find_still") fd from c.t.d.def_ 9 (d := ds_find_still) rfl)
  exact (t_find_alarms X G c).fn F (He.glo_ok X G (c.t.d.fact 40 rfl)) fz_find_still 30 S_find_still (fun _ _ _ _ _ _ us hl => match us, hl with | [_, _], _ => rfl) hg_find_still
theorem hg_implies_rule : ∀ ds : List D, ds.length = (["one", "other"] : List Str).length → cFn T_find_still fz_implies_rule N_implies_rule sc_implies_rule body_implies_rule 30 ds = g_implies_rule ds := fun ds hl => match ds, hl with | [a0, a1], _ => (m_implies_rule_ok a0 a1).trans (gm_implies_rule a0 a1).symm
theorem S_implies_rule : C8.scC N_implies_rule ["one", "other"] sc_implies_rule = true := by decide +kernel
theorem t_implies_rule (X : K.In h) (G : h.Ns mainGlobals mg) (c : He.SaysX faL fnL [] [] exL w h K) : TOk T_implies_rule 11 P w K mg base := by
  obtain ⟨fd, F⟩ := (show ∃ fd, FunD K "implies_rule" "implies_rule" (defArgs (top 24)) body_implies_rule sc_implies_rule [] [] (He.ga K "implies_rule") fd from c.t.d.def_ 10 (d := ds_implies_rule) rfl)
  exact (t_find_still X G c).fn F (He.glo_ok X G (c.t.d.fact 41 rfl)) fz_implies_rule 30 S_implies_rule (fun _ _ _ _ _ _ us hl => match us, hl with | [_, _], _ => rfl) hg_implies_rule
theorem hg_implies : ∀ ds : List D, ds.length = (["one", "other"] : List Str).length → cFn T_implies_rule fz_implies N_implies sc_implies body_implies 30 ds = g_implies ds := fun ds hl => match ds, hl with | [a0, a1], _ => (m_implies_ok a0 a1).trans (gm_implies a0 a1).symm
theorem S_implies : C8.scC N_implies ["one", "other"] sc_implies = true := by decide +kernel
theorem t_implies (X : K.In h) (G : h.Ns mainGlobals mg) (c : He.SaysX faL fnL [] [] exL w h K) : TOk T_implies 12 P w K mg base := by
  obtain ⟨fd, F⟩ := (show ∃ fd, FunD K "implies" "implies" (defArgs (top 25)) body_implies sc_implies [] [] (He.ga K "implies") fd from c.t.d.def_ 11 (d := ds_implies) rfl)
  exact (t_implies_rule X G c).fn F (He.glo_ok X G (c.t.d.fact 42 rfl)) fz_implies 30 S_implies (fun _ _ _ _ _ _ us hl => match us, hl with | [_, _], _ => rfl) hg_implies
theorem hg_history : ∀ ds : List D, ds.length = (["row"] : List Str).length → cFn T_implies fz_history N_history sc_history body_history 30 ds = g_history ds := fun ds hl => match ds, hl with | [a0], _ => (m_history_ok a0).trans (gm_history a0).symm
theorem S_history : C8.scC N_history ["row"] sc_history = true := by decide +kernel
theorem t_history (X : K.In h) (G : h.Ns mainGlobals mg) (c : He.SaysX faL fnL [] [] exL w h K) : TOk T_history 13 P w K mg base := by
  obtain ⟨fd, F⟩ := (show ∃ fd, FunD K "history" "history" (defArgs (top 27)) body_history sc_history [] [] (He.ga K "history") fd from c.t.d.def_ 12 (d := ds_history) rfl)
  exact (t_implies X G c).fn F (He.glo_ok X G (c.t.d.fact 43 rfl)) fz_history 30 S_history (fun _ _ _ _ _ _ us hl => match us, hl with | [_], _ => rfl) hg_history
theorem hg_check_length : ∀ ds : List D, ds.length = (["value"] : List Str).length → cFn T_history fz_check_length N_check_length sc_check_length body_check_length 30 ds = g_check_length ds := fun ds hl => match ds, hl with | [a0], _ => (m_check_length_ok a0).trans (gm_check_length a0).symm
theorem S_check_length : C8.scC N_check_length ["value"] sc_check_length = true := by decide +kernel
theorem t_check_length (X : K.In h) (G : h.Ns mainGlobals mg) (c : He.SaysX faL fnL [] [] exL w h K) : TOk T_check_length 14 P w K mg base := by
  obtain ⟨fd, F⟩ := (show ∃ fd, FunD K "check_length" "check_length" (defArgs (top 29)) body_check_length sc_check_length [] [] (He.ga K "check_length") fd from c.t.d.def_ 13 (d := ds_check_length) rfl)
  exact (t_history X G c).fn F (He.glo_ok X G (c.t.d.fact 44 rfl)) fz_check_length 30 S_check_length (fun _ _ _ _ _ _ us hl => match us, hl with | [_], _ => rfl) hg_check_length
theorem hg_go_on : ∀ ds : List D, ds.length = (["rules", "start"] : List Str).length → cFn T_check_length fz_go_on N_go_on sc_go_on body_go_on 30 ds = g_go_on ds := fun ds hl => match ds, hl with | [a0, a1], _ => (m_go_on_ok a0 a1).trans (gm_go_on a0 a1).symm
theorem S_go_on : C8.scC N_go_on ["rules", "start"] sc_go_on = true := by decide +kernel
theorem t_go_on (X : K.In h) (G : h.Ns mainGlobals mg) (c : He.SaysX faL fnL [] [] exL w h K) : TOk T_go_on 15 P w K mg base := by
  obtain ⟨fd, F⟩ := (show ∃ fd, FunD K "go_on" "go_on" (defArgs (top 30)) body_go_on sc_go_on [] [] (He.ga K "go_on") fd from c.t.d.def_ 14 (d := ds_go_on) rfl)
  exact (t_check_length X G c).fn F (He.glo_ok X G (c.t.d.fact 45 rfl)) fz_go_on 30 S_go_on (fun _ _ _ _ _ _ us hl => match us, hl with | [_, _], _ => rfl) hg_go_on
theorem hg_count_after : ∀ ds : List D, ds.length = (["rules", "last", "length"] : List Str).length → cFn T_go_on fz_count_after N_count_after sc_count_after body_count_after 30 ds = g_count_after ds := fun ds hl => match ds, hl with | [a0, a1, a2], _ => (m_count_after_ok a0 a1 a2).trans (gm_count_after a0 a1 a2).symm
theorem S_count_after : C8.scC N_count_after ["rules", "last", "length"] sc_count_after = true := by decide +kernel
theorem t_count_after (X : K.In h) (G : h.Ns mainGlobals mg) (c : He.SaysX faL fnL [] [] exL w h K) : TOk T_count_after 16 P w K mg base := by
  obtain ⟨fd, F⟩ := (show ∃ fd, FunD K "count_after" "count_after" (defArgs (top 31)) body_count_after sc_count_after [] [] (He.ga K "count_after") fd from c.t.d.def_ 15 (d := ds_count_after) rfl)
  exact (t_go_on X G c).fn F (He.glo_ok X G (c.t.d.fact 46 rfl)) fz_count_after 30 S_count_after (fun _ _ _ _ _ _ us hl => match us, hl with | [_, _, _], _ => rfl) hg_count_after
theorem hg_count_quiet : ∀ ds : List D, ds.length = (["rules", "length"] : List Str).length → cFn T_count_after fz_count_quiet N_count_quiet sc_count_quiet body_count_quiet 30 ds = g_count_quiet ds := fun ds hl => match ds, hl with | [a0, a1], _ => (m_count_quiet_ok a0 a1).trans (gm_count_quiet a0 a1).symm
theorem S_count_quiet : C8.scC N_count_quiet ["rules", "length"] sc_count_quiet = true := by decide +kernel
theorem t_count_quiet (X : K.In h) (G : h.Ns mainGlobals mg) (c : He.SaysX faL fnL [] [] exL w h K) : TOk T_count_quiet 17 P w K mg base := by
  obtain ⟨fd, F⟩ := (show ∃ fd, FunD K "count_quiet" "count_quiet" (defArgs (top 32)) body_count_quiet sc_count_quiet [] [] (He.ga K "count_quiet") fd from c.t.d.def_ 16 (d := ds_count_quiet) rfl)
  exact (t_count_after X G c).fn F (He.glo_ok X G (c.t.d.fact 47 rfl)) fz_count_quiet 30 S_count_quiet (fun _ _ _ _ _ _ us hl => match us, hl with | [_, _], _ => rfl) hg_count_quiet
theorem hg_all_rows : ∀ ds : List D, ds.length = (["length"] : List Str).length → cFn T_count_quiet fz_all_rows N_all_rows sc_all_rows body_all_rows 30 ds = g_all_rows ds := fun ds hl => match ds, hl with | [a0], _ => (m_all_rows_ok a0).trans (gm_all_rows a0).symm
theorem S_all_rows : C8.scC N_all_rows ["length"] sc_all_rows = true := by decide +kernel
theorem t_all_rows (X : K.In h) (G : h.Ns mainGlobals mg) (c : He.SaysX faL fnL [] [] exL w h K) : TOk T_all_rows 18 P w K mg base := by
  obtain ⟨fd, F⟩ := (show ∃ fd, FunD K "all_rows" "all_rows" (defArgs (top 36)) body_all_rows sc_all_rows [] [] (He.ga K "all_rows") fd from c.t.d.def_ 17 (d := ds_all_rows) rfl)
  exact (t_count_quiet X G c).fn F (He.glo_ok X G (c.t.d.fact 48 rfl)) fz_all_rows 30 S_all_rows (fun _ _ _ _ _ _ us hl => match us, hl with | [_], _ => rfl) hg_all_rows
theorem hg_naive_implies : ∀ ds : List D, ds.length = (["one", "other"] : List Str).length → cFn T_all_rows fz_naive_implies N_naive_implies sc_naive_implies body_naive_implies 30 ds = g_naive_implies ds := fun ds hl => match ds, hl with | [a0, a1], _ => (m_naive_implies_ok a0 a1).trans (gm_naive_implies a0 a1).symm
theorem S_naive_implies : C8.scC N_naive_implies ["one", "other"] sc_naive_implies = true := by decide +kernel
theorem t_naive_implies (X : K.In h) (G : h.Ns mainGlobals mg) (c : He.SaysX faL fnL [] [] exL w h K) : TOk T_naive_implies 19 P w K mg base := by
  obtain ⟨fd, F⟩ := (show ∃ fd, FunD K "naive_implies" "naive_implies" (defArgs (top 37)) body_naive_implies sc_naive_implies [] [] (He.ga K "naive_implies") fd from c.t.d.def_ 18 (d := ds_naive_implies) rfl)
  exact (t_all_rows X G c).fn F (He.glo_ok X G (c.t.d.fact 49 rfl)) fz_naive_implies 30 S_naive_implies (fun _ _ _ _ _ _ us hl => match us, hl with | [_, _], _ => rfl) hg_naive_implies
theorem hg_naive_quiet : ∀ ds : List D, ds.length = (["rules", "length"] : List Str).length → cFn T_naive_implies fz_naive_quiet N_naive_quiet sc_naive_quiet body_naive_quiet 30 ds = g_naive_quiet ds := fun ds hl => match ds, hl with | [a0, a1], _ => (m_naive_quiet_ok a0 a1).trans (gm_naive_quiet a0 a1).symm
theorem S_naive_quiet : C8.scC N_naive_quiet ["rules", "length"] sc_naive_quiet = true := by decide +kernel
theorem t_naive_quiet (X : K.In h) (G : h.Ns mainGlobals mg) (c : He.SaysX faL fnL [] [] exL w h K) : TOk T_naive_quiet 20 P w K mg base := by
  obtain ⟨fd, F⟩ := (show ∃ fd, FunD K "naive_quiet" "naive_quiet" (defArgs (top 38)) body_naive_quiet sc_naive_quiet [] [] (He.ga K "naive_quiet") fd from c.t.d.def_ 19 (d := ds_naive_quiet) rfl)
  exact (t_naive_implies X G c).fn F (He.glo_ok X G (c.t.d.fact 50 rfl)) fz_naive_quiet 30 S_naive_quiet (fun _ _ _ _ _ _ us hl => match us, hl with | [_, _], _ => rfl) hg_naive_quiet
theorem hg__law_drawn : ∀ ds : List D, ds.length = (["_law_script", "_law_k", "_law_many"] : List Str).length → cFn T_naive_quiet fz__law_drawn N__law_drawn sc__law_drawn body__law_drawn 30 ds = g__law_drawn ds := fun ds hl => match ds, hl with | [a0, a1, a2], _ => (m__law_drawn_ok a0 a1 a2).trans (gm__law_drawn a0 a1 a2).symm
theorem S__law_drawn : C8.scC N__law_drawn ["_law_script", "_law_k", "_law_many"] sc__law_drawn = true := by decide +kernel
theorem t__law_drawn (X : K.In h) (G : h.Ns mainGlobals mg) (c : He.SaysX faL fnL [] [] exL w h K) : TOk T__law_drawn 21 P w K mg base := by
  obtain ⟨fd, F⟩ := (show ∃ fd, FunD K "_law_drawn" "_law_drawn" (defArgs (top 40)) body__law_drawn sc__law_drawn [] [] (He.ga K "_law_drawn") fd from c.t.d.def_ 20 (d := ds__law_drawn) rfl)
  exact (t_naive_quiet X G c).fn F (He.glo_ok X G (c.t.d.fact 51 rfl)) fz__law_drawn 30 S__law_drawn (fun _ _ _ _ _ _ us hl => match us, hl with | [_, _, _], _ => rfl) hg__law_drawn
theorem hg__law_rules : ∀ ds : List D, ds.length = (["_law_script", "_law_at", "_law_most", "_law_wide"] : List Str).length → cFn T__law_drawn fz__law_rules N__law_rules sc__law_rules body__law_rules 30 ds = g__law_rules ds := fun ds hl => match ds, hl with | [a0, a1, a2, a3], _ => (m__law_rules_ok a0 a1 a2 a3).trans (gm__law_rules a0 a1 a2 a3).symm
theorem S__law_rules : C8.scC N__law_rules ["_law_script", "_law_at", "_law_most", "_law_wide"] sc__law_rules = true := by decide +kernel
theorem t__law_rules (X : K.In h) (G : h.Ns mainGlobals mg) (c : He.SaysX faL fnL [] [] exL w h K) : TOk T__law_rules 22 P w K mg base := by
  obtain ⟨fd, F⟩ := (show ∃ fd, FunD K "_law_rules" "_law_rules" (defArgs (top 41)) body__law_rules sc__law_rules [] [] (He.ga K "_law_rules") fd from c.t.d.def_ 21 (d := ds__law_rules) rfl)
  exact (t__law_drawn X G c).fn F (He.glo_ok X G (c.t.d.fact 52 rfl)) fz__law_rules 30 S__law_rules (fun _ _ _ _ _ _ us hl => match us, hl with | [_, _, _, _], _ => rfl) hg__law_rules
theorem hg__law_sides : ∀ ds : List D, ds.length = (["_law_rules_here", "_law_row"] : List Str).length → cFn T__law_rules fz__law_sides N__law_sides sc__law_sides body__law_sides 30 ds = g__law_sides ds := fun ds hl => match ds, hl with | [a0, a1], _ => (m__law_sides_ok a0 a1).trans (gm__law_sides a0 a1).symm
theorem S__law_sides : C8.scC N__law_sides ["_law_rules_here", "_law_row"] sc__law_sides = true := by decide +kernel
theorem t__law_sides (X : K.In h) (G : h.Ns mainGlobals mg) (c : He.SaysX faL fnL [] [] exL w h K) : TOk T__law_sides 23 P w K mg base := by
  obtain ⟨fd, F⟩ := (show ∃ fd, FunD K "_law_sides" "_law_sides" (defArgs (top 42)) body__law_sides sc__law_sides [] [] (He.ga K "_law_sides") fd from c.t.d.def_ 22 (d := ds__law_sides) rfl)
  exact (t__law_rules X G c).fn F (He.glo_ok X G (c.t.d.fact 53 rfl)) fz__law_sides 30 S__law_sides (fun _ _ _ _ _ _ us hl => match us, hl with | [_, _], _ => rfl) hg__law_sides
theorem hg__law_alarms : ∀ ds : List D, ds.length = (["_law_rules_here", "_law_row"] : List Str).length → cFn T__law_sides fz__law_alarms N__law_alarms sc__law_alarms body__law_alarms 30 ds = g__law_alarms ds := fun ds hl => match ds, hl with | [a0, a1], _ => (m__law_alarms_ok a0 a1).trans (gm__law_alarms a0 a1).symm
theorem S__law_alarms : C8.scC N__law_alarms ["_law_rules_here", "_law_row"] sc__law_alarms = true := by decide +kernel
theorem t__law_alarms (X : K.In h) (G : h.Ns mainGlobals mg) (c : He.SaysX faL fnL [] [] exL w h K) : TOk T__law_alarms 24 P w K mg base := by
  obtain ⟨fd, F⟩ := (show ∃ fd, FunD K "_law_alarms" "_law_alarms" (defArgs (top 43)) body__law_alarms sc__law_alarms [] [] (He.ga K "_law_alarms") fd from c.t.d.def_ 23 (d := ds__law_alarms) rfl)
  exact (t__law_sides X G c).fn F (He.glo_ok X G (c.t.d.fact 54 rfl)) fz__law_alarms 30 S__law_alarms (fun _ _ _ _ _ _ us hl => match us, hl with | [_, _], _ => rfl) hg__law_alarms
theorem hg__law_rows : ∀ ds : List D, ds.length = (["_law_length"] : List Str).length → cFn T__law_alarms fz__law_rows N__law_rows sc__law_rows body__law_rows 30 ds = g__law_rows ds := fun ds hl => match ds, hl with | [a0], _ => (m__law_rows_ok a0).trans (gm__law_rows a0).symm
theorem S__law_rows : C8.scC N__law_rows ["_law_length"] sc__law_rows = true := by decide +kernel
theorem t__law_rows (X : K.In h) (G : h.Ns mainGlobals mg) (c : He.SaysX faL fnL [] [] exL w h K) : TOk T__law_rows 25 P w K mg base := by
  obtain ⟨fd, F⟩ := (show ∃ fd, FunD K "_law_rows" "_law_rows" (defArgs (top 44)) body__law_rows sc__law_rows [] [] (He.ga K "_law_rows") fd from c.t.d.def_ 24 (d := ds__law_rows) rfl)
  exact (t__law_alarms X G c).fn F (He.glo_ok X G (c.t.d.fact 55 rfl)) fz__law_rows 30 S__law_rows (fun _ _ _ _ _ _ us hl => match us, hl with | [_], _ => rfl) hg__law_rows
theorem hg__law_badrules : ∀ ds : List D, ds.length = (["_law_script", "_law_at"] : List Str).length → cFn T__law_rows fz__law_badrules N__law_badrules sc__law_badrules body__law_badrules 30 ds = g__law_badrules ds := fun ds hl => match ds, hl with | [a0, a1], _ => (m__law_badrules_ok a0 a1).trans (gm__law_badrules a0 a1).symm
theorem S__law_badrules : C8.scC N__law_badrules ["_law_script", "_law_at"] sc__law_badrules = true := by decide +kernel
theorem t__law_badrules (X : K.In h) (G : h.Ns mainGlobals mg) (c : He.SaysX faL fnL [] [] exL w h K) : TOk T__law_badrules 26 P w K mg base := by
  obtain ⟨fd, F⟩ := (show ∃ fd, FunD K "_law_badrules" "_law_badrules" (defArgs (top 45)) body__law_badrules sc__law_badrules [] [] (He.ga K "_law_badrules") fd from c.t.d.def_ 25 (d := ds__law_badrules) rfl)
  exact (t__law_rows X G c).fn F (He.glo_ok X G (c.t.d.fact 56 rfl)) fz__law_badrules 30 S__law_badrules (fun _ _ _ _ _ _ us hl => match us, hl with | [_, _], _ => rfl) hg__law_badrules
theorem hg__law_error : ∀ ds : List D, ds.length = (["_law_way", "_law_one", "_law_two"] : List Str).length → cFn T__law_badrules fz__law_error N__law_error sc__law_error body__law_error 30 ds = g__law_error ds := fun ds hl => match ds, hl with | [a0, a1, a2], _ => (m__law_error_ok a0 a1 a2).trans (gm__law_error a0 a1 a2).symm
theorem S__law_error : C8.scC N__law_error ["_law_way", "_law_one", "_law_two"] sc__law_error = true := by decide +kernel
theorem t__law_error (X : K.In h) (G : h.Ns mainGlobals mg) (c : He.SaysX faL fnL [] [] exL w h K) : TOk T__law_error 27 P w K mg base := by
  obtain ⟨fd, F⟩ := (show ∃ fd, FunD K "_law_error" "_law_error" (defArgs (top 46)) body__law_error sc__law_error [] [] (He.ga K "_law_error") fd from c.t.d.def_ 26 (d := ds__law_error) rfl)
  exact (t__law_badrules X G c).fn F (He.glo_ok X G (c.t.d.fact 57 rfl)) fz__law_error 30 S__law_error (fun _ _ _ _ _ _ us hl => match us, hl with | [_, _, _], _ => rfl) hg__law_error
theorem hg_law : ∀ ds : List D, ds.length = (["_law_script"] : List Str).length → cFn T__law_error fz_law N_law sc_law body_law 30 ds = g_law ds := fun ds hl => match ds, hl with | [a0], _ => (m_law_ok a0).trans (gm_law a0).symm
theorem S_law : C8.scC N_law ["_law_script"] sc_law = true := by decide +kernel
theorem t_law (X : K.In h) (G : h.Ns mainGlobals mg) (c : He.SaysX faL fnL [] [] exL w h K) : ∃ fd : FuncData, (∀ (s : Shared) (u : Value), BindsTo s fd ⟨[u], []⟩ [("_law_script", u)]) ∧ ∀ base : Heap, FnOk P w K mg base (L2.CX P w) 28 (He.ga K "law") fd ["_law_script"] (spOf K mg 1 g_law) := by
  obtain ⟨fd, F⟩ := (show ∃ fd, FunD K "law" "law" (defArgs (top 47)) body_law sc_law [] [] (He.ga K "law") fd from c.t.d.def_ 27 (d := ds_law) rfl)
  exact ⟨fd, fun s u => FunD.bindsA (ps := ["_law_script"]) F (fun _ _ _ _ _ _ us hl => match us, hl with | [_], _ => rfl) s [u] rfl, fun base => fn_ok fz_law 30 F (C8.fnScope_by S_law) (t__law_error X G c) hg_law⟩
end
end BR.k70
open PySem PySem.W PySem.Calls PyProof.Rows
theorem PySem.Challenge.cw_bandrules_k70_whole_naive_holds : PySem.Challenge.rw_bandrules_k70_whole_naive.Holds := by
  w_on; o_law
  refine HandSHeadRun.head_any (r := OpenLaw.row PySem.Challenge.rw_bandrules_k70_whole_naive) (q := view (OpenLaw.row PySem.Challenge.rw_bandrules_k70_whole_naive).prog [47]) (H := BR.k70.hkL) (ob := BR.k70.obL) (M := 4000) (loose := BR.k70.looseL) (d := HandSHeadRun.topDef (OpenLaw.row PySem.Challenge.rw_bandrules_k70_whole_naive).prog 47) (kwd := []) BR.k70.obL_eq
    (by kernel_rfl) (fun s => by kernel_rfl) BR.k70.runL (by kernel_rfl) (by kernel_rfl) (by kernel_rfl) (by rfl) (by first | assumption | decide +kernel) (by decide +kernel) ⟨rfl, rfl, rfl, rfl, rfl, by decide +kernel⟩ ?hw ?hc
  case hw => w_witness2
  case hc =>
    refine BR.law_end (l := PySem.Challenge.rw_bandrules_k70_whole_naive) (k := 28) (x := "_law_script") rfl (by kernel_rfl) ⟨rfl, by decide, by decide⟩ ?F
    intro w mg fa h Y G hmg0
    obtain ⟨K, KX, c⟩ := Y
    have hmg : mg ("law" : PySem.Str) = some (.ref fa) := by
      have e : (HandSHeadRun.topDef (OpenLaw.row PySem.Challenge.rw_bandrules_k70_whole_naive).prog 47).name = ("law" : PySem.Str) := by kernel_rfl
      rw [← e]
      exact hmg0
    obtain ⟨fd, hb, hF⟩ := BR.k70.t_law (P := (PySem.Challenge.rw_bandrules_k70_whole_naive).prog) (w := w) KX G c
    have e := hmg.symm.trans (He.glo_ok KX G (c.t.d.fact 58 (f := .glo "law") rfl))
    cases e
    exact ⟨K, fd, BR.k70.g_law, KX, hb, fun ns hl hbits => (BR.k70.gm_law _).trans (BR.k70.law_ok ⟨hl, hbits⟩), fun base _ _ => hF base⟩
