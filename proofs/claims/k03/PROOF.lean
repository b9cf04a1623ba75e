import PyProof.Rows.All
import HandS.ForMost
import HandS.ForExc
import HandS.Zip
import HandS.TupAny
import HandS.TupMul
import HandS.Wide
import HandS.Flow
import HandS.Style
import HandS.IsInst
import HandS.Deep
import HandS.Text
import HandS.SortInts
import KE.KDictPairs
import HandS.Small
import HandS.Defaults
import HandS.HeadEnd
import HandS.HeadHook2
import HandS.Head0
import HandS.Head1
import HandS.Head2
import HandS.HeadHook1
import PySem.Challenge.RW_openfrozen_k03_paths_and_what_they_lead
set_option Elab.async false
set_option linter.all false
set_option maxRecDepth 100000
set_option maxHeartbeats 0
set_option exponentiation.threshold 2000
/-! Dv0: tuples that are known to their object, and dict() of a tuple of pairs. -/
namespace Dv
open PySem PySem.Spec PyProof.Rows L2

/-- the new tuple: its object is known, and has no dict of its own -/
def NewT (H : Hp) (xs : List V) (Q : VK) : Prop := ∀ (p : Addr) (ob : Obj), H p = none → ob.dict = none → Q (.ref p) (upd H p (.frz ob (.tup xs)))
section
variable {X : Cx}
/-- a pushed tuple -/
theorem laidT {pins : List (Addr × Obj)} {σ : L2.St} {H : Hp} {s : Shared} {Q : VK} {xs : List V} {us : List Value} (I : Inv X pins σ H s) (r : Vals xs us) (z : xs.length ≤ sizeLine) (q : NewT H xs Q) :
    EP X pins σ Q (.ref s.heap.objs.size) { s with heap := s.heap.push { cls := .type "tuple", data := .seq us.toArray } } := by
  have new : ObjOk X.prog X.w (upd H s.heap.objs.size (.frz { cls := .type "tuple", data := .seq us.toArray } (.tup xs))) (s.heap.push { cls := .type "tuple", data := .seq us.toArray }) s.heap.objs.size (.frz { cls := .type "tuple", data := .seq us.toArray } (.tup xs)) :=
    ⟨Heap.get?_push_size _ rfl, z, us, r, IsTup.new _ _⟩
  exact ⟨.ref s.heap.objs.size, _, I.laid (t' := s.toks) (fun _ _ e => Heap.get?_push_of_some _ e) (Nat.le_refl _) new, rfl, q _ _ (I.hok.fresh (Nat.le_refl _)) rfl⟩
theorem pe_tupF {es : List Expr} {t : TA} {k : Nat} {pos : Pos} (h : PA X es t) : PE X (.Tuple es k pos) (fun σ H Q => t σ H fun xs H1 => xs.length ≤ sizeLine ∧ NewT H1 xs Q) := by
  constructor
  intro pins s σ H Q I hq
  apply wpAny_Tuple_spliced
  refine thn (h.run pos pins s σ H _ I hq) ?_
  rintro us s1 ⟨xs, H1, I1, r, z, q⟩
  exact ⟨Nat.le_trans (Nat.le_of_eq r.length.symm) z, laidT I1 r z q⟩
/-- t + u -/
theorem op_catF : OpR X (binaryOp .Add) (fun x y H Q => ∃ a b xs ys, x = .ref a ∧ y = .ref b ∧ SqT X.K H a xs ∧ SqT X.K H b ys ∧ xs.length + ys.length ≤ sizeLine ∧
    (xs = [] → Q (.ref b) H) ∧ (xs ≠ [] → ys = [] → Q (.ref a) H) ∧ (xs ≠ [] → ys ≠ [] → NewT H (xs ++ ys) Q)) := by
  intro pins s σ H x y v u Q I rx ry h
  obtain ⟨a, b, xs, ys, rfl, rfl, ha, hb, hz, q0, q1, q2⟩ := h
  cases rx
  cases ry
  obtain ⟨its, r1, p1, _⟩ := I.tuple ha
  obtain ⟨its2, r2, p2, _⟩ := I.tuple hb
  by_cases hx : xs = []
  · subst hx
    cases r1
    exact cat_tup0 p1 p2 ⟨.ref b, H, I, rfl, q0 rfl⟩
  · have hx' : its ≠ [] := fun z => hx (r1.nil_iff.mp z)
    apply HT.cat_tup p1 p2 hx'
    · intro z
      exact ⟨.ref a, H, I, rfl, q1 hx (r2.nil_iff.mp z)⟩
    · intro z
      exact laidT I (r1.append r2) (by rw [List.length_append]; exact hz) (q2 hx fun w => z (r2.nil_iff.mpr w))
    · have e1 := r1.length
      have e2 := r2.length
      omega
/-- t[lo:hi] -/
theorem sl_tupF : SlR X (fun x lo hi H Q => ∃ a xs, x = .ref a ∧ SqT X.K H a xs ∧ ((HT.sIx xs.length 0 lo = 0 ∧ HT.sIx xs.length xs.length hi = xs.length) → Q (.ref a) H) ∧
    (¬ (HT.sIx xs.length 0 lo = 0 ∧ HT.sIx xs.length xs.length hi = xs.length) → NewT H (cutV xs lo hi) Q)) := by
  intro pins s σ H x v vl vu lo hi sl Q I rx hs pl pu h
  obtain ⟨a, xs, rfl, hx, q1, q2⟩ := h
  cases rx
  obtain ⟨its, r, ht, hz⟩ := I.tuple hx
  have hlen : its.toArray.size = xs.length := by rw [List.size_toArray]; exact r.length.symm
  refine ⟨"tuple", _, PyProof.Rows.slot_tuple_getitem.lookup, ht.typeIs, ?_⟩
  by_cases hw : HT.sIx xs.length 0 lo = 0 ∧ HT.sIx xs.length xs.length hi = xs.length
  · exact getItem_tuple_whole ht hs pl pu (by rw [hlen]; exact hw) ⟨.ref a, H, I, rfl, q1 hw⟩
  · apply HT.getItem_tuple_cut ht hs pl pu (by rw [hlen]; exact hw) _ (by rw [hlen]; exact hz)
    rw [hlen]
    exact laidT I ((r.drop _).take _) (Nat.le_trans (cutV_length xs lo hi) hz) (q2 hw)
/-- tuple(xs) of a list, tuple(t) -/
theorem call_tupF : CallR X (.type "tuple") (fun xs H Q => ∃ p ys, xs = [.ref p] ∧ ((SqL X.K H p ys ∧ NewT H ys Q) ∨ (SqT X.K H p ys ∧ Q (.ref p) H))) := by
  intro pins s σ H xs us Q I r h
  obtain ⟨p, ys, rfl, h⟩ := h
  obtain ⟨u, rfl, rx⟩ := vals1 r
  cases rx
  rcases h with ⟨hq, q⟩ | ⟨hq, q⟩
  · obtain ⟨its, r', pl, hz⟩ := I.list hq
    have hlen := r'.length
    apply call_tuple_list pl.isList
    · intro h' kp
      exact laidT (I.kept (t' := s.toks) kp) r' hz q
  · obtain ⟨its, r', pl, hz⟩ := I.tuple hq
    exact call_tuple_same pl ⟨.ref p, H, I, rfl, q⟩
/-- t * k -/
theorem op_repF : OpR X (binaryOp .Mult) (fun x y H Q => ∃ l k xs, x = .ref l ∧ y = .int k ∧ SqT X.K H l xs ∧ xs ≠ [] ∧ 2 ≤ k ∧ k ≤ 1000 ∧ xs.length ≤ 1000 ∧ NewT H (List.replicate k.toNat xs).flatten Q) := by
  intro pins s σ H x y v u Q I rx ry h
  obtain ⟨l, k, xs, rfl, rfl, hT, hne, h1, h2, hz, q⟩ := h
  cases rx
  obtain ⟨t, rfl⟩ := ry
  obtain ⟨its, r, ⟨⟨cls, dd, data, sl⟩, ho, hc, n, hd⟩, hs⟩ := I.tuple hT
  simp only at hc hd
  subst hc hd
  have hle := r.length
  have hn : its ≠ [] := fun e => hne (by subst e; cases r; rfl)
  have hi : its.toArray.isEmpty = false := by cases its with | nil => exact absurd rfl hn | cons a b => rfl
  have hpos : 0 < xs.length := by cases xs with | nil => exact absurd rfl hne | cons a b => simp
  have len : (List.replicate k.toNat its).flatten.length ≤ 1000000 := by
    rw [PyProof.Rows.lm_len_rep_flat, ← hle]
    exact Nat.le_trans (Nat.mul_le_mul (show k.toNat ≤ 1000 by omega) hz) (by decide)
  have hm : ((its.toArray.size : Nat) : Int) * k ≤ 1000000 := by
    rw [List.size_toArray, ← hle]
    have a1 : ((xs.length : Nat) : Int) * k ≤ 1000 * k := Int.mul_le_mul_of_nonneg_right (by omega) (by omega)
    omega
  have hm2 : ((its.length : Nat) : Int) * k ≤ 1000000 := by rw [List.size_toArray] at hm; exact hm
  have key := tuple_mulW l its.toArray n dd sl k t (by simp; omega) (by rw [hi]; simp; omega) (by rw [hi]; simp; omega) (by omega) (by unfold Builtin.Tuple.tupleTooMany; rw [sizeLine_eq]; exact decide_eq_false (by omega))
    (by rw [size_rep, List.size_toArray, sizeLine_eq]; omega)
  apply wpAny_binaryOp_repeat_ref (a := .ref l) (n := .int k t) (T := "tuple") (U := "int") (by decide) ⟨_, ho, rfl⟩ (fun s' => typeIs_int s' k t) noFill_tuple_mul F.fills_int_mul F.slot_int_rmul repeat_tuple F.slot_int_index.lookup
  apply call_meets F.slot_int_rmul (typeIs_int s k t) F.entry_int_rmul (F.args_int_rmul_2 _ _) (int_rmul_tuple k t l its.toArray n dd sl)
  refine ⟨ho, rfl, ⟨_, ho, rfl⟩, call_meets F.slot_tuple_mul ⟨_, ho, rfl⟩ F.entry_tuple_mul (F.args_tuple_mul_2 _ _) key ⟨ho, ?_⟩⟩
  rw [size_rep]
  exact laidT I (r.rep k.toNat) (by have := (r.rep k.toNat).length; rw [this, sizeLine_eq]; omega) q

/-- dict(t), t a tuple of pairs -/
theorem call_dictT (hcalm : X.calm = true) : CallR X (.type "dict") (fun xs H Q => ∃ (a : Addr) (ob : Obj) (ps : List Addr) (kvs : List (Key × V)), xs = [.ref a] ∧ H a = some (.frz ob (.tup (ps.map V.ref))) ∧ ob.dict = none ∧ Paired (fun p kv => SqT X.K H p [kV kv.1, kv.2]) ps kvs ∧
    ∀ p, H p = none → Q (.ref p) (upd H p (.dK (mergeK [] kvs)))) := by
  intro pins s σ H xs us Q I r q
  obtain ⟨a, ob, ps, kvs, rfl, ha, hdn, hp, q⟩ := q
  obtain ⟨u, rfl, rx⟩ := vals1 r
  cases rx
  obtain ⟨ho, hz, its, rv, p1⟩ := (show ObjOk X.prog X.w H s.heap a (.frz ob (.tup (ps.map V.ref))) from I.hok a _ ha)
  obtain ⟨o', ho', hc, n, hd⟩ := id p1
  rw [ho] at ho'
  cases ho'
  have ei := refs_at rv
  subst ei
  rw [List.length_map] at hz
  obtain ⟨prs, rel, hl, hpr⟩ := pairs_of I hp
  -- the pairs' places and values
  have key : ∀ j (q' : Key × Value), prs[j]? = some q' → ∃ (b : Addr) (u : Value), ps[j]? = some b ∧ IsTup s.heap b #[u, q'.2] ∧ keyIs q'.1 u = true := hpr
  have val : ∀ (l : List (Key × Value)) (as : List Addr), l.length = as.length → (∀ (j : Nat) (q' : Key × Value), l[j]? = some q' → ∃ (b : Addr) (u : Value), as[j]? = some b ∧ IsTup s.heap b #[u, q'.2] ∧ keyIs q'.1 u = true) →
      ∃ vs : List (Value × Value), vs.length = l.length ∧ ∀ (j : Nat) (k v : Value), vs[j]? = some (k, v) → ∃ (b : Addr) (q' : Key × Value), as[j]? = some b ∧ l[j]? = some q' ∧ IsTup s.heap b #[k, v] ∧ q'.2 = v ∧ keyIs q'.1 k = true := by
    intro l
    induction l with
    | nil => intro as _ _; exact ⟨[], rfl, fun j k v h => by simp at h⟩
    | cons q' r ih =>
      intro as hlen hk
      cases as with
      | nil => simp at hlen
      | cons b bs =>
        obtain ⟨vs, e1, e2⟩ := ih bs (by simpa using hlen) (fun j q'' e => hk (j + 1) q'' e)
        obtain ⟨b', u, f1, f2, f3⟩ := hk 0 q' rfl
        cases f1
        refine ⟨(u, q'.2) :: vs, by simp [e1], fun j k v e => ?_⟩
        cases j with
        | zero =>
          cases e
          exact ⟨b, q', rfl, rfl, f2, rfl, f3⟩
        | succ j => exact e2 j k v e
  obtain ⟨vs, hvl, hvs⟩ := val prs ps hl key
  have P := PairArg.tuple (prog := X.prog) (w := X.w) a (ps.map Value.ref).toArray (fun j => ps.getD j 0) vs
  refine PySem.call_dict_pairs (knd := mixKind X.prog X.w) (kvs := prs) P (I.ok.hd hcalm) ⟨⟨ob, n, ho, hc, hdn, hd⟩, by rw [List.size_toArray, List.length_map, hvl, hl], fun j k v e => ?_⟩ ⟨hvl.symm, fun i k v e => ?_⟩ (by rw [hvl, hl]; exact hz) fun h' tk hd' kk => ?_
  · obtain ⟨b, q', f1, _, f3, _⟩ := hvs j k v e
    refine ⟨by simp [f1], .inl ?_⟩
    simp only [List.getD_eq_getElem?_getD, f1, Option.getD_some]
    exact f3
  · obtain ⟨b, q', _, f2, _, f4, f5⟩ := hvs i k v e
    exact ⟨q'.1, by rw [f2, ← f4], f5⟩
  · have hm : (s.heap.objs.size == sysModules) = false := beq_eq_false_iff_ne.mpr (Nat.ne_of_gt I.big)
    have hlen : (mergeK [] kvs).length ≤ sizeLine := by
      have := length_mergeK kvs []
      rw [List.length_nil, Nat.zero_add, rel.length, hl] at this
      exact Nat.le_trans this hz
    exact ⟨.ref s.heap.objs.size, _, I.laid (t' := tk) (fun b o e => kk b o (by simp) e) (Nat.le_refl _) (show ObjOk X.prog X.w _ _ _ (.dK (mergeK [] kvs)) from ⟨hlen, hm, merged [] prs, KV.merge rel .nil, hd'⟩), rfl, q _ (I.hok.fresh (Nat.le_refl _))⟩
end
end Dv

/-! Dv1: data, stores, what they stand for in the layer's heap. -/
namespace Dv
open PySem PySem.Spec PyProof.Rows L2

/-- a value: data (a tree that nobody changes), or the n-th object of the store -/
inductive W where
  | dat (d : PyData)
  | ref (n : Nat)
  | scr (ns : List Int)
/-- an object of the store -/
inductive Ob where
  | lst (ds : List PyData)
  | dct (kvs : List (PyData × PyData))
  | gone
abbrev Store := List Ob
abbrev Env := List (Option W)

/-- a key as data -/
def kD : Key → PyData
  | .inl i => .int i
  | .inr x => .str x

abbrev Phi := List (Option Addr)
mutual
/-- v stands for the tree d, off the objects at φ -/
inductive Fz (φ : Phi) (H : Hp) : V → PyData → Prop
  | non : Fz φ H .non .none
  | bl (b : Bool) : Fz φ H (.bl b) (.bool b)
  | int (i : Int) : Fz φ H (.int i) (.int i)
  | str (x : Str) : Fz φ H (.str x) (.str x)
  | lst {a : Addr} {xs : List V} {ds : List PyData} : H a = some (.lst xs) → some a ∉ φ → xs.length ≤ sizeLine → FzAll φ H xs ds → Fz φ H (.ref a) (.list ds)
  | tup {a : Addr} {ob : Obj} {xs : List V} {ds : List PyData} : H a = some (.frz ob (.tup xs)) → ob.dict = none → some a ∉ φ → xs.length ≤ sizeLine → FzAll φ H xs ds → Fz φ H (.ref a) (.tuple ds)
  | dct {a : Addr} {kvs : List (Key × V)} {kds : List (PyData × PyData)} : Rd H a (.dK kvs) → some a ∉ φ → kvs.length ≤ sizeLine → FzKv φ H kvs kds → Fz φ H (.ref a) (.dict kds)
inductive FzAll (φ : Phi) (H : Hp) : List V → List PyData → Prop
  | nil : FzAll φ H [] []
  | cons {v : V} {vs : List V} {d : PyData} {ds : List PyData} : Fz φ H v d → FzAll φ H vs ds → FzAll φ H (v :: vs) (d :: ds)
inductive FzKv (φ : Phi) (H : Hp) : List (Key × V) → List (PyData × PyData) → Prop
  | nil : FzKv φ H [] []
  | cons {k : Key} {v : V} {kvs : List (Key × V)} {d : PyData} {kds : List (PyData × PyData)} : Fz φ H v d → FzKv φ H kvs kds → FzKv φ H ((k, v) :: kvs) ((kD k, d) :: kds)
end

/-- one step of the store: nothing but the live objects changes, new ones are new -/
structure Ext (φ : Phi) (H : Hp) (φ' : Phi) (H' : Hp) : Prop where
  le : φ.length ≤ φ'.length
  old : ∀ (n : Nat) (a : Addr), n < φ.length → φ'[n]? = some (some a) → φ[n]? = some (some a)
  new : ∀ (n : Nat) (a : Addr), φ.length ≤ n → φ'[n]? = some (some a) → H a = none
  keep : ∀ (a : Addr) (o : HO), H a = some o → some a ∉ φ → H' a = some o
  all : ∀ a, H' a = none → H a = none

theorem Ext.out {φ φ' : Phi} {H H' : Hp} (e : Ext φ H φ' H') {a : Addr} {o : HO} (h : H a = some o) (n : some a ∉ φ) : some a ∉ φ' := fun m => by
  obtain ⟨i, hi, hx⟩ := List.mem_iff_getElem.mp m
  have q : φ'[i]? = some (some a) := by rw [List.getElem?_eq_getElem hi, hx]
  by_cases l : i < φ.length
  · exact n (List.mem_of_getElem? (e.old i a l q))
  · have := e.new i a (Nat.le_of_not_lt l) q
    rw [h] at this; cases this
theorem Ext.rd {φ φ' : Phi} {H H' : Hp} (e : Ext φ H φ' H') {a : Addr} {o : HO} (h : Rd H a o) (n : some a ∉ φ) : Rd H' a o ∧ some a ∉ φ' := by
  rcases h with h | ⟨ob, h⟩
  · exact ⟨.inl (e.keep a o h n), e.out h n⟩
  · exact ⟨.inr ⟨ob, e.keep a _ h n⟩, e.out h n⟩

mutual
theorem Ext.fz {φ φ' : Phi} {H H' : Hp} (e : Ext φ H φ' H') : ∀ {v : V} {d : PyData}, Fz φ H v d → Fz φ' H' v d
  | _, _, .non => .non
  | _, _, .bl b => .bl b
  | _, _, .int i => .int i
  | _, _, .str x => .str x
  | _, _, .lst h n z f => .lst (e.keep _ _ h n) (e.out h n) z (e.fzAll f)
  | _, _, .tup h d n z f => .tup (e.keep _ _ h n) d (e.out h n) z (e.fzAll f)
  | _, _, .dct h n z f => .dct (e.rd h n).1 (e.rd h n).2 z (e.fzKv f)
theorem Ext.fzAll {φ φ' : Phi} {H H' : Hp} (e : Ext φ H φ' H') : ∀ {vs : List V} {ds : List PyData}, FzAll φ H vs ds → FzAll φ' H' vs ds
  | _, _, .nil => .nil
  | _, _, .cons h t => .cons (e.fz h) (e.fzAll t)
theorem Ext.fzKv {φ φ' : Phi} {H H' : Hp} (e : Ext φ H φ' H') : ∀ {vs : List (Key × V)} {ds : List (PyData × PyData)}, FzKv φ H vs ds → FzKv φ' H' vs ds
  | _, _, .nil => .nil
  | _, _, .cons h t => .cons (e.fz h) (e.fzKv t)
end

theorem Ext.refl {φ : Phi} {H : Hp} : Ext φ H φ H where
  le := Nat.le_refl _
  old := fun _ _ _ h => h
  new := fun n a l h => by
    have := (List.getElem?_eq_some_iff.mp h).1
    omega
  keep := fun _ _ h _ => h
  all := fun _ h => h
theorem Ext.trans {φ φ1 φ2 : Phi} {H H1 H2 : Hp} (a : Ext φ H φ1 H1) (b : Ext φ1 H1 φ2 H2) : Ext φ H φ2 H2 where
  le := Nat.le_trans a.le b.le
  old := fun n x l h => a.old n x l (b.old n x (Nat.lt_of_lt_of_le l a.le) h)
  new := fun n x l h => by
    by_cases q : n < φ1.length
    · exact a.new n x l (b.old n x q h)
    · exact a.all x (b.new n x (Nat.le_of_not_lt q) h)
  keep := fun x o h n => b.keep x o (a.keep x o h n) (a.out h n)
  all := fun x h => a.all x (b.all x h)

/-- v stands for w -/
def RpW (K : PySem.W.Frag) (φ : Phi) (H : Hp) : W → V → Prop
  | .dat d, v => Fz φ H v d
  | .ref n, v => n < φ.length ∧ ∀ a, φ[n]? = some (some a) → v = .ref a
  | .scr ns, v => ∃ a, v = .ref a ∧ SqL K H a (ns.map V.int) ∧ (some a ∉ φ ∨ ∀ H', SqL K H' a (ns.map V.int))
inductive RpAll (K : PySem.W.Frag) (φ : Phi) (H : Hp) : List W → List V → Prop
  | nil : RpAll K φ H [] []
  | cons {w : W} {v : V} {ws : List W} {vs : List V} : RpW K φ H w v → RpAll K φ H ws vs → RpAll K φ H (w :: ws) (v :: vs)
/-- the object at a -/
def ObR (φ : Phi) (H : Hp) (a : Addr) : Ob → Prop
  | .lst ds => ∃ xs, H a = some (.lst xs) ∧ xs.length ≤ sizeLine ∧ FzAll φ H xs ds
  | .dct kds => ∃ kvs, H a = some (.dK kvs) ∧ kvs.length ≤ sizeLine ∧ FzKv φ H kvs kds
  | .gone => False
structure StoR (φ : Phi) (μ : Store) (H : Hp) : Prop where
  len : φ.length = μ.length
  nd : ∀ (i j : Nat) (a : Addr), φ[i]? = some (some a) → φ[j]? = some (some a) → i = j
  live : ∀ (n : Nat) (o : Ob), μ[n]? = some o → (∃ a, φ[n]? = some (some a) ∧ ObR φ H a o) ∨ o = .gone
  trk : ∀ a, some a ∈ φ → H a ≠ none
structure EnvR (K : PySem.W.Frag) (φ : Phi) (H : Hp) (ρ : Env) (σ : L2.St) : Prop where
  len : ρ.length = σ.length
  at_ : ∀ (i : Nat) (w : W), ρ[i]? = some (some w) → ∃ v, σ[i]? = some (some v) ∧ RpW K φ H w v

section
variable {K : PySem.W.Frag} {φ φ' : Phi} {μ : Store} {H H' : Hp} {w : W} {v : V} {p a : Addr} {n : Nat} {o o' : HO}
theorem Ext.rp (e : Ext φ H φ' H') (h : RpW K φ H w v) : RpW K φ' H' w v := by
  cases w with
  | dat d => exact e.fz h
  | ref n => exact ⟨Nat.lt_of_lt_of_le h.1 e.le, fun a q => h.2 a (e.old n a h.1 q)⟩
  | scr ns =>
    obtain ⟨a, rfl, q, k⟩ := h
    rcases q with (q | ⟨ob, q⟩) | q
    · rcases k with k | k
      · exact ⟨a, rfl, .inl (.inl (e.keep a _ q k)), .inl (e.out q k)⟩
      · exact ⟨a, rfl, k H', .inr k⟩
    · rcases k with k | k
      · exact ⟨a, rfl, .inl (.inr ⟨ob, e.keep a _ q k⟩), .inl (e.out q k)⟩
      · exact ⟨a, rfl, k H', .inr k⟩
    · exact ⟨a, rfl, .inr q, .inr fun _ => .inr q⟩
theorem Ext.rpAll (e : Ext φ H φ' H') : ∀ {ws : List W} {vs : List V}, RpAll K φ H ws vs → RpAll K φ' H' ws vs
  | _, _, .nil => .nil
  | _, _, .cons h t => .cons (e.rp h) (e.rpAll t)
theorem Ext.env (e : Ext φ H φ' H') {ρ : Env} {σ : L2.St} (h : EnvR K φ H ρ σ) : EnvR K φ' H' ρ σ :=
  ⟨h.len, fun i w q => let ⟨v, h1, h2⟩ := h.at_ i w q; ⟨v, h1, e.rp h2⟩⟩
theorem EnvR.set {ρ : Env} {σ : L2.St} (h : EnvR K φ H ρ σ) (r : RpW K φ H w v) (i : Nat) : EnvR K φ H (ρ.set i (some w)) (σ.set i (some v)) := by
  refine ⟨by simp [h.len], fun j w' q => ?_⟩
  by_cases e : i = j
  · subst e
    by_cases l : i < ρ.length
    · rw [List.getElem?_set_self l] at q
      cases q
      exact ⟨v, by rw [List.getElem?_set_self (by rw [← h.len]; exact l)], r⟩
    · rw [List.getElem?_eq_none (by simpa using l)] at q; cases q
  · rw [List.getElem?_set_ne e] at q ⊢
    exact h.at_ j w' q
/-- a new object, off the store -/
theorem Ext.laid (hp : H p = none) : Ext φ H φ (upd H p o) where
  le := Nat.le_refl _
  old := fun _ _ _ h => h
  new := fun n a l h => by
    have := (List.getElem?_eq_some_iff.mp h).1
    omega
  keep := fun a o' h _ => by rw [upd_ne (ne_of_none h hp)]; exact h
  all := fun a h => by
    by_cases e : a = p
    · subst e; exact hp
    · rw [upd_ne e] at h; exact h
theorem StoR.notmem (s : StoR φ μ H) (hp : H p = none) : some p ∉ φ := fun m => s.trk p m hp
theorem StoR.laid (s : StoR φ μ H) (hp : H p = none) : StoR φ μ (upd H p o) := by
  have e : Ext φ H φ (upd H p o) := Ext.laid hp
  refine ⟨s.len, s.nd, fun n ob q => ?_, fun a m q => s.trk a m (e.all a q)⟩
  rcases s.live n ob q with ⟨a, h1, h2⟩ | h
  · refine .inl ⟨a, h1, ?_⟩
    have ne : a ≠ p := fun z => by subst z; exact s.notmem hp (List.mem_of_getElem? h1)
    cases ob with
    | lst ds => obtain ⟨xs, h3, h4, h5⟩ := h2; exact ⟨xs, by rw [upd_ne ne]; exact h3, h4, e.fzAll h5⟩
    | dct ds => obtain ⟨xs, h3, h4, h5⟩ := h2; exact ⟨xs, by rw [upd_ne ne]; exact h3, h4, e.fzKv h5⟩
    | gone => exact h2.elim
  · exact .inr h
/-- a new object of the store -/
theorem Ext.push (s : StoR φ μ H) (hp : H p = none) : Ext φ H (φ ++ [some p]) (upd H p o) where
  le := by simp
  old := fun n a l h => by rw [List.getElem?_append_left l] at h; exact h
  new := fun n a l h => by
    rw [List.getElem?_append_right l] at h
    have : a = p := by
      cases q : n - φ.length with
      | zero => rw [q] at h; simpa using h.symm
      | succ k => rw [q] at h; simp at h
    rw [this]; exact hp
  keep := fun a o' h _ => by rw [upd_ne (ne_of_none h hp)]; exact h
  all := (Ext.laid (φ := φ) hp).all
theorem StoR.push {ob : Ob} (s : StoR φ μ H) (hp : H p = none) (ho : ObR (φ ++ [some p]) (upd H p o) p ob) : StoR (φ ++ [some p]) (μ ++ [ob]) (upd H p o) := by
  have e : Ext φ H (φ ++ [some p]) (upd H p o) := Ext.push s hp
  have pl : (φ ++ [some p])[φ.length]? = some (some p) := by simp
  have cut : ∀ (i : Nat) (a : Addr), (φ ++ [some p])[i]? = some (some a) → φ[i]? = some (some a) ∨ (i = φ.length ∧ a = p) := fun i a h => by
    by_cases l : i < φ.length
    · exact .inl (e.old i a l h)
    · have l2 : i < φ.length + 1 := by
        have := (List.getElem?_eq_some_iff.mp h).1
        simpa using this
      have : i = φ.length := by omega
      subst this
      rw [pl] at h
      cases h
      exact .inr ⟨rfl, rfl⟩
  have np := s.notmem hp
  refine ⟨by simp [s.len], fun i j a h1 h2 => ?_, fun n ob' q => ?_, fun a m q => ?_⟩
  · rcases cut i a h1 with k1 | ⟨k1, k1'⟩
    · rcases cut j a h2 with k2 | ⟨k2, k2'⟩
      · exact s.nd i j a k1 k2
      · rw [k2'] at k1; exact absurd (List.mem_of_getElem? k1) np
    · rcases cut j a h2 with k2 | ⟨k2, k2'⟩
      · rw [k1'] at k2; exact absurd (List.mem_of_getElem? k2) np
      · omega
  · by_cases l : n < μ.length
    · rw [List.getElem?_append_left l] at q
      rcases s.live n ob' q with ⟨a, h1, h2⟩ | h
      · refine .inl ⟨a, by rw [List.getElem?_append_left (by rw [s.len]; exact l)]; exact h1, ?_⟩
        have ne : a ≠ p := fun z => by subst z; exact np (List.mem_of_getElem? h1)
        cases ob' with
        | lst ds => obtain ⟨xs, h3, h4, h5⟩ := h2; exact ⟨xs, by rw [upd_ne ne]; exact h3, h4, e.fzAll h5⟩
        | dct ds => obtain ⟨xs, h3, h4, h5⟩ := h2; exact ⟨xs, by rw [upd_ne ne]; exact h3, h4, e.fzKv h5⟩
        | gone => exact h2.elim
      · exact .inr h
    · have l2 : n < μ.length + 1 := by
        have := (List.getElem?_eq_some_iff.mp q).1
        simpa using this
      have : n = μ.length := by omega
      subst this
      simp at q
      subst q
      exact .inl ⟨p, by rw [← s.len]; exact pl, ho⟩
  · rcases List.mem_append.mp m with m | m
    · exact s.trk a m (e.all a q)
    · have : a = p := by simpa using m
      subst this
      rw [upd_same] at q; cases q
/-- an object of the store is written -/
theorem Ext.set (s : StoR φ μ H) (hn : φ[n]? = some (some a)) : Ext φ H φ (upd H a o) where
  le := Nat.le_refl _
  old := fun _ _ _ h => h
  new := fun n a l h => by
    have := (List.getElem?_eq_some_iff.mp h).1
    omega
  keep := fun b o' h m => by
    rw [upd_ne (fun z => m (by rw [z]; exact List.mem_of_getElem? hn))]; exact h
  all := fun b h => by
    by_cases e : b = a
    · subst e; rw [upd_same] at h; cases h
    · rw [upd_ne e] at h; exact h
theorem StoR.set {ob : Ob} (s : StoR φ μ H) (hn : φ[n]? = some (some a)) (ho : ObR φ (upd H a o) a ob) : StoR φ (μ.set n ob) (upd H a o) := by
  have e : Ext φ H φ (upd H a o) := Ext.set s hn
  refine ⟨by simp [s.len], s.nd, fun m ob' q => ?_, fun b m q => s.trk b m (e.all b q)⟩
  by_cases l : n = m
  · subst l
    have ln : n < μ.length := by rw [← s.len]; exact (List.getElem?_eq_some_iff.mp hn).1
    rw [List.getElem?_set_self ln] at q
    cases q
    exact .inl ⟨a, hn, ho⟩
  · rw [List.getElem?_set_ne l] at q
    rcases s.live m ob' q with ⟨b, h1, h2⟩ | h
    · refine .inl ⟨b, h1, ?_⟩
      have ne : b ≠ a := fun z => by subst z; exact l (s.nd n m b hn h1)
      cases ob' with
      | lst ds => obtain ⟨xs, h3, h4, h5⟩ := h2; exact ⟨xs, by rw [upd_ne ne]; exact h3, h4, e.fzAll h5⟩
      | dct ds => obtain ⟨xs, h3, h4, h5⟩ := h2; exact ⟨xs, by rw [upd_ne ne]; exact h3, h4, e.fzKv h5⟩
      | gone => exact h2.elim
    · exact .inr h
/-- an object is let go: from now on it is data -/
theorem mem_set_none {a : Addr} (h : some a ∈ φ.set n none) : ∃ i, i ≠ n ∧ φ[i]? = some (some a) := by
  obtain ⟨i, hi⟩ := List.mem_iff_getElem?.mp h
  by_cases e : n = i
  · subst e
    by_cases l : n < φ.length
    · rw [List.getElem?_set_self l] at hi; cases hi
    · rw [List.getElem?_eq_none (by simpa using l)] at hi; cases hi
  · rw [List.getElem?_set_ne e] at hi
    exact ⟨i, fun z => e z.symm, hi⟩
theorem Ext.free : Ext φ H (φ.set n none) H where
  le := by simp
  old := fun m a l h => by
    obtain ⟨i, hi, q⟩ : ∃ i, i ≠ n ∧ φ[i]? = some (some a) ∧ i = m := by
      by_cases e : n = m
      · subst e; rw [List.getElem?_set_self l] at h; cases h
      · rw [List.getElem?_set_ne e] at h; exact ⟨m, fun z => e z.symm, h, rfl⟩
    rw [← q.2]; exact q.1
  new := fun m a l h => by
    have := (List.getElem?_eq_some_iff.mp h).1
    rw [List.length_set] at this
    omega
  keep := fun _ _ h _ => h
  all := fun _ h => h
theorem StoR.free (s : StoR φ μ H) : StoR (φ.set n none) (μ.set n .gone) H := by
  have e : Ext φ H (φ.set n none) H := Ext.free
  have back : ∀ (i : Nat) (a : Addr), (φ.set n none)[i]? = some (some a) → φ[i]? = some (some a) := fun i a h => by
    have l := (List.getElem?_eq_some_iff.mp h).1
    rw [List.length_set] at l
    exact e.old i a l h
  refine ⟨by simp [s.len], fun i j a h1 h2 => s.nd i j a (back i a h1) (back j a h2), fun m ob q => ?_, fun b m => ?_⟩
  · by_cases l : n = m
    · subst l
      by_cases ln : n < μ.length
      · rw [List.getElem?_set_self ln] at q
        cases q
        exact .inr rfl
      · rw [List.getElem?_eq_none (by simpa using ln)] at q; cases q
    · rw [List.getElem?_set_ne l] at q
      rcases s.live m ob q with ⟨b, h1, h2⟩ | h
      · refine .inl ⟨b, by rw [List.getElem?_set_ne l]; exact h1, ?_⟩
        cases ob with
        | lst ds => obtain ⟨xs, h3, h4, h5⟩ := h2; exact ⟨xs, h3, h4, e.fzAll h5⟩
        | dct ds => obtain ⟨xs, h3, h4, h5⟩ := h2; exact ⟨xs, h3, h4, e.fzKv h5⟩
        | gone => exact h2.elim
      · exact .inr h
  · obtain ⟨i, _, h⟩ := mem_set_none m
    exact s.trk b (List.mem_of_getElem? h)
/-- reading -/
def rd (μ : Store) : W → Option PyData
  | .dat d => some d
  | .ref n => match μ[n]? with
    | some (.lst ds) => some (.list ds)
    | some (.dct kds) => some (.dict kds)
    | _ => none
  | .scr _ => none
/-- reading, the script too -/
def rdw (μ : Store) : W → Option PyData
  | .scr ns => some (.list (ns.map .int))
  | w => rd μ w
/-- what stands at v now (as rd tells it): a tree whose root may be live -/
def Now (φ : Phi) (H : Hp) (v : V) (d : PyData) : Prop :=
  Fz φ H v d ∨ (∃ a xs ds, v = .ref a ∧ d = .list ds ∧ H a = some (.lst xs) ∧ xs.length ≤ sizeLine ∧ FzAll φ H xs ds) ∨
    ∃ a kvs kds, v = .ref a ∧ d = .dict kds ∧ H a = some (.dK kvs) ∧ kvs.length ≤ sizeLine ∧ FzKv φ H kvs kds
theorem StoR.rd (s : StoR φ μ H) (r : RpW K φ H w v) {d : PyData} (h : rd μ w = some d) : Now φ H v d := by
  cases w with
  | dat d' => cases h; exact .inl r
  | ref n =>
    unfold Dv.rd at h
    cases q : μ[n]? with
    | none => simp [q] at h
    | some ob =>
      simp only [q] at h
      rcases s.live n ob q with ⟨a, h1, h2⟩ | z
      · cases ob with
        | lst ds => cases h; obtain ⟨xs, h3, h4, h5⟩ := h2; exact .inr (.inl ⟨a, xs, ds, r.2 a h1, rfl, h3, h4, h5⟩)
        | dct ds => cases h; obtain ⟨xs, h3, h4, h5⟩ := h2; exact .inr (.inr ⟨a, xs, ds, r.2 a h1, rfl, h3, h4, h5⟩)
        | gone => exact h2.elim
      · subst z; cases h
  | scr ns => cases h
theorem Now.list {ds : List PyData} (h : Now φ H v (.list ds)) : ∃ a xs, v = .ref a ∧ H a = some (.lst xs) ∧ xs.length ≤ sizeLine ∧ FzAll φ H xs ds := by
  rcases h with h | ⟨a, xs, ds', rfl, e, h1, h2, h3⟩ | ⟨_, _, _, _, e, _⟩
  · cases h with
    | lst h1 _ h2 h3 => exact ⟨_, _, rfl, h1, h2, h3⟩
  · cases e; exact ⟨a, xs, rfl, h1, h2, h3⟩
  · cases e
theorem Now.tuple {ds : List PyData} (h : Now φ H v (.tuple ds)) : ∃ a ob xs, v = .ref a ∧ H a = some (.frz ob (.tup xs)) ∧ ob.dict = none ∧ some a ∉ φ ∧ xs.length ≤ sizeLine ∧ FzAll φ H xs ds := by
  rcases h with h | ⟨a, xs, ds', rfl, e, h1, h2, h3⟩ | ⟨_, _, _, _, e, _⟩
  · cases h with
    | tup h1 hd hn h2 h3 => exact ⟨_, _, _, rfl, h1, hd, hn, h2, h3⟩
  · cases e
  · cases e
theorem SqT.frz {K : PySem.W.Frag} {ob : Obj} {xs : List V} (h : H a = some (.frz ob (.tup xs))) : SqT K H a xs := .inl (.inr ⟨ob, h⟩)
theorem Now.dict {ds : List (PyData × PyData)} (h : Now φ H v (.dict ds)) : ∃ a kvs, v = .ref a ∧ Rd H a (.dK kvs) ∧ kvs.length ≤ sizeLine ∧ FzKv φ H kvs ds := by
  rcases h with h | ⟨a, xs, ds', rfl, e, h1, h2, h3⟩ | ⟨a, kvs, kds, rfl, e, h1, h2, h3⟩
  · cases h with
    | dct h1 _ h2 h3 => exact ⟨_, _, rfl, h1, h2, h3⟩
  · cases e
  · cases e; exact ⟨a, kvs, rfl, .inl h1, h2, h3⟩
theorem Now.int {i : Int} (h : Now φ H v (.int i)) : v = .int i := by
  rcases h with h | ⟨a, xs, ds', rfl, e, h1, h2, h3⟩ | ⟨a, kvs, kds, rfl, e, h1, h2, h3⟩
  · cases h; rfl
  · cases e
  · cases e
theorem Now.bl {b : Bool} (h : Now φ H v (.bool b)) : v = .bl b := by
  rcases h with h | ⟨a, xs, ds', rfl, e, h1, h2, h3⟩ | ⟨a, kvs, kds, rfl, e, h1, h2, h3⟩
  · cases h; rfl
  · cases e
  · cases e
theorem Now.str {x : Str} (h : Now φ H v (.str x)) : v = .str x := by
  rcases h with h | ⟨a, xs, ds', rfl, e, h1, h2, h3⟩ | ⟨a, kvs, kds, rfl, e, h1, h2, h3⟩
  · cases h; rfl
  · cases e
  · cases e
theorem Now.non (h : Now φ H v .none) : v = .non := by
  rcases h with h | ⟨a, xs, ds', rfl, e, h1, h2, h3⟩ | ⟨a, kvs, kds, rfl, e, h1, h2, h3⟩
  · cases h; rfl
  · cases e
  · cases e
theorem FzAll.length : ∀ {vs : List V} {ds : List PyData}, FzAll φ H vs ds → vs.length = ds.length
  | _, _, .nil => rfl
  | _, _, .cons _ t => by simp [FzAll.length t]
theorem FzAll.get : ∀ {vs : List V} {ds : List PyData} {i : Nat} {d : PyData}, FzAll φ H vs ds → ds[i]? = some d → ∃ v, vs[i]? = some v ∧ Fz φ H v d
  | _, _, _, _, .nil, e => by simp at e
  | _, _, 0, _, .cons r _, e => by simp at e; subst e; exact ⟨_, rfl, r⟩
  | _, _, i + 1, _, .cons _ t, e => by
    obtain ⟨u, h1, h2⟩ := FzAll.get (i := i) t (by simpa using e)
    exact ⟨u, by simpa using h1, h2⟩
theorem FzAll.getV : ∀ {vs : List V} {ds : List PyData} {i : Nat} {v : V}, FzAll φ H vs ds → vs[i]? = some v → ∃ d, ds[i]? = some d ∧ Fz φ H v d
  | _, _, _, _, .nil, e => by simp at e
  | _, _, 0, _, .cons r _, e => by simp at e; subst e; exact ⟨_, rfl, r⟩
  | _, _, i + 1, _, .cons _ t, e => by
    obtain ⟨u, h1, h2⟩ := FzAll.getV (i := i) t (by simpa using e)
    exact ⟨u, by simpa using h1, h2⟩
theorem FzAll.append : ∀ {vs vs' : List V} {ds ds' : List PyData}, FzAll φ H vs ds → FzAll φ H vs' ds' → FzAll φ H (vs ++ vs') (ds ++ ds')
  | _, _, _, _, .nil, h => h
  | _, _, _, _, .cons r t, h => .cons r (FzAll.append t h)
theorem FzAll.take : ∀ {vs : List V} {ds : List PyData} (n : Nat), FzAll φ H vs ds → FzAll φ H (vs.take n) (ds.take n)
  | _, _, 0, _ => .nil
  | _, _, _ + 1, .nil => .nil
  | _, _, n + 1, .cons r t => .cons r (FzAll.take n t)
theorem FzAll.drop : ∀ {vs : List V} {ds : List PyData} (n : Nat), FzAll φ H vs ds → FzAll φ H (vs.drop n) (ds.drop n)
  | _, _, 0, h => h
  | _, _, _ + 1, .nil => .nil
  | _, _, n + 1, .cons r t => FzAll.drop n t
theorem FzAll.set {v : V} {d : PyData} (h : Fz φ H v d) : ∀ {vs : List V} {ds : List PyData} (n : Nat), FzAll φ H vs ds → FzAll φ H (vs.set n v) (ds.set n d)
  | _, _, _, .nil => .nil
  | _, _, 0, .cons r t => .cons h t
  | _, _, n + 1, .cons r t => .cons r (FzAll.set h n t)
theorem FzAll.eraseIdx : ∀ {vs : List V} {ds : List PyData} (n : Nat), FzAll φ H vs ds → FzAll φ H (vs.eraseIdx n) (ds.eraseIdx n)
  | _, _, _, .nil => .nil
  | _, _, 0, .cons r t => t
  | _, _, n + 1, .cons r t => .cons r (FzAll.eraseIdx n t)
theorem FzAll.reverse {vs : List V} {ds : List PyData} (h : FzAll φ H vs ds) : FzAll φ H vs.reverse ds.reverse := by
  induction h using FzAll.rec (motive_1 := fun _ _ _ => True) (motive_3 := fun _ _ _ => True) with
  | nil => exact .nil
  | cons r t ih1 ih2 => rw [List.reverse_cons, List.reverse_cons]; exact ih2.append (.cons r .nil)
  | _ => trivial
theorem FzAll.rep {vs : List V} {ds : List PyData} (h : FzAll φ H vs ds) : ∀ k : Nat, FzAll φ H (List.replicate k vs).flatten (List.replicate k ds).flatten
  | 0 => .nil
  | k + 1 => by
    rw [List.replicate_succ, List.replicate_succ, List.flatten_cons, List.flatten_cons]
    exact h.append (FzAll.rep h k)
/-- a list made: data, or an object of the store -/
def mkL (m : Bool) (ds : List PyData) (μ : Store) : W × Store := if m then (.ref μ.length, μ ++ [.lst ds]) else (.dat (.list ds), μ)
theorem mkL_ok {xs : List V} {ds : List PyData} (s : StoR φ μ H) (hp : H p = none) (f : FzAll φ H xs ds) (z : xs.length ≤ sizeLine) (m : Bool) :
    ∃ φ', Ext φ H φ' (upd H p (.lst xs)) ∧ StoR φ' (mkL m ds μ).2 (upd H p (.lst xs)) ∧ RpW K φ' (upd H p (.lst xs)) (mkL m ds μ).1 (.ref p) := by
  cases m with
  | false => exact ⟨φ, Ext.laid hp, s.laid hp, .lst upd_same (s.notmem hp) z ((Ext.laid hp).fzAll f)⟩
  | true =>
    refine ⟨φ ++ [some p], Ext.push s hp, s.push hp ⟨xs, upd_same, z, (Ext.push s hp).fzAll f⟩, ?_⟩
    refine ⟨by simp [s.len], fun a h => ?_⟩
    rw [← s.len] at h
    simp at h
    rw [h]
def mkD (m : Bool) (ds : List (PyData × PyData)) (μ : Store) : W × Store := if m then (.ref μ.length, μ ++ [.dct ds]) else (.dat (.dict ds), μ)
theorem mkD_ok {xs : List (Key × V)} {ds : List (PyData × PyData)} (s : StoR φ μ H) (hp : H p = none) (f : FzKv φ H xs ds) (z : xs.length ≤ sizeLine) (m : Bool) :
    ∃ φ', Ext φ H φ' (upd H p (.dK xs)) ∧ StoR φ' (mkD m ds μ).2 (upd H p (.dK xs)) ∧ RpW K φ' (upd H p (.dK xs)) (mkD m ds μ).1 (.ref p) := by
  cases m with
  | false => exact ⟨φ, Ext.laid hp, s.laid hp, .dct (.inl upd_same) (s.notmem hp) z ((Ext.laid hp).fzKv f)⟩
  | true =>
    refine ⟨φ ++ [some p], Ext.push s hp, s.push hp ⟨xs, upd_same, z, (Ext.push s hp).fzKv f⟩, ?_⟩
    refine ⟨by simp [s.len], fun a h => ?_⟩
    rw [← s.len] at h
    simp at h
    rw [h]
/-- a tuple made -/
theorem mkT_ok {xs : List V} {ds : List PyData} {ob : Obj} (s : StoR φ μ H) (hp : H p = none) (hd : ob.dict = none) (f : FzAll φ H xs ds) (z : xs.length ≤ sizeLine) :
    Ext φ H φ (upd H p (.frz ob (.tup xs))) ∧ StoR φ μ (upd H p (.frz ob (.tup xs))) ∧ Fz φ (upd H p (.frz ob (.tup xs))) (.ref p) (.tuple ds) :=
  ⟨Ext.laid hp, s.laid hp, .tup upd_same hd (s.notmem hp) z ((Ext.laid hp).fzAll f)⟩
end
end Dv

/-! Dv2: the little language and what it computes. -/
namespace Dv
open PySem PySem.Spec PyProof.Rows

/-- what a computation ends in: a result, an exception (class, fields), or nothing that is told -/
inductive Out (α : Type) where
  | ok (a : α) (μ : Store)
  | ex (c : Str) (fs : List (Str × PyData)) (μ : Store)
  | no
def Out.bind {α β : Type} (x : Out α) (f : α → Store → Out β) : Out β := match x with
  | .ok a μ => f a μ
  | .ex c fs μ => .ex c fs μ
  | .no => .no
def Out.noex {α : Type} (x : Out α) : Out α := match x with
  | .ok a μ => .ok a μ
  | _ => .no
@[simp] theorem Out.bind_ok {α β : Type} (a : α) (μ : Store) (f : α → Store → Out β) : (Out.ok a μ).bind f = f a μ := rfl
@[simp] theorem Out.bind_ex {α β : Type} (c : Str) (fs : List (Str × PyData)) (μ : Store) (f : α → Store → Out β) : (Out.ex (α := α) c fs μ).bind f = .ex c fs μ := rfl
@[simp] theorem Out.bind_no {α β : Type} (f : α → Store → Out β) : (Out.no (α := α)).bind f = .no := rfl

inductive Bop where | add | sub | mul | fdiv | mod | pow
inductive Cop where | eq | ne | lt | le | gt | ge | isin | nin | is | isn
inductive Blt where | len | all | any | max2 | min2 | min1 | int | str | tuple | list | sorted | dict
inductive Mth where | append | pop0 | pop1 | get1 | get2 | index | count | join | split | partition | upper | replace
/-- a target -/
inductive Tg where
  | v (i : Nat)
  | t2 (a b : Tg)
  | t3 (a b c : Tg)
mutual
inductive E where
  | var (i : Nat)
  | con (d : PyData)
  | tup (es : Es)
  | lst (m : Bool) (es : Es)
  | bin (m : Bool) (op : Bop) (a b : E)
  | neg (a : E)
  | cmp (op : Cop) (a b : E)
  | chn (o p : Cop) (a b c : E)
  | not (a : E)
  | and (a b : E)
  | or (a b : E)
  | ite (c : C) (a b : E)
  | idx (a b : E)
  | slc (m : Bool) (a : E) (lo hi : Eo)
  | rev (m : Bool) (a : E)
  | cal (m : Bool) (f : Str) (es : Es)
  | cak (f : Str) (ps : List Nat) (es : Es)
  | blt (m : Bool) (f : Blt) (es : Es)
  | mth (m : Bool) (f : Mth) (o : E) (es : Es)
  | isi (a : E) (ts : List String)
  | lc (m : Bool) (el : E) (tg : Tg) (it : Wk) (c : Co) (own : List Nat)
inductive C where
  | not (a : C)
  | and (a b : C)
  | or (a b : C)
  | val (e : E)
inductive Co where
  | no
  | so (c : C)
inductive Es where
  | nil
  | cons (e : E) (es : Es)
inductive Eo where
  | no
  | so (e : E)
inductive Wk where
  | seq (e : E)
  | rng1 (a : E)
  | rng2 (a b : E)
  | zip (a b : E)
  | enum (a : E)
  | items (a : E)
end
inductive S where
  | expr (e : E)
  | asg (tg : Tg) (e : E)
  | par (is : List Nat) (es : Es)
  | put (o i e : E)
  | aug (i : Nat) (op : Bop) (e : E)
  | ret (e : E)
  | retn
  | ite (c : C) (a b : List S)
  | for (tg : Tg) (it : Wk) (b : List S)
  | whl (c : C) (b : List S)
  | pass
  | brk
  | cnt
  | rse (c : Str) (es : Es)

/-! ### operators over data -/
def keyOf : PyData → Option L2.Key
  | .int i => some (.inl i)
  | .str x => some (.inr x)
  | _ => none
def lookD (k : L2.Key) : List (PyData × PyData) → Option PyData
  | [] => none
  | (j, v) :: r => if keyOf j = some k then some v else lookD k r
def putD (k : L2.Key) (v : PyData) (kds : List (PyData × PyData)) : List (PyData × PyData) :=
  if (kds.any fun kv => decide (keyOf kv.1 = some k)) = true then kds.map (fun kv => if keyOf kv.1 = some k then (kv.1, v) else kv) else kds ++ [(kD k, v)]
def signs (x : Str) : List PyData := x.cps.toList.map fun c => .str ⟨#[c]⟩
def binD : Bop → PyData → PyData → Option PyData
  | .add, .int i, .int j => some (.int (i + j))
  | .add, .str x, .str y => if x.length + y.length ≤ sizeLine then some (.str (x ++ y)) else none
  | .add, .tuple xs, .tuple ys => if xs.length + ys.length ≤ sizeLine then some (.tuple (xs ++ ys)) else none
  | .add, .list xs, .list ys => if xs.length + ys.length ≤ sizeLine then some (.list (xs ++ ys)) else none
  | .sub, .int i, .int j => some (.int (i - j))
  | .mul, .int i, .int j => if i.natAbs.log2 + j.natAbs.log2 < 1000000 then some (.int (i * j)) else none
  | .mul, .tuple xs, .int k => if 2 ≤ k ∧ k ≤ 1000 ∧ xs.length ≤ 1000 ∧ xs.isEmpty = false then some (.tuple (List.replicate k.toNat xs).flatten) else none
  | .mul, .list xs, .int k => if -(2 ^ 63) ≤ k ∧ k < 2 ^ 63 ∧ xs.length * k.toNat ≤ sizeLine then some (.list (List.replicate k.toNat xs).flatten) else none
  | .fdiv, .int i, .int j => if 0 < j ∧ j.natAbs.log2 < 9000 then some (.int (i / j)) else none
  | .mod, .int i, .int j => if 0 < j then some (.int (i % j)) else none
  | .pow, .int i, .int j => if 0 ≤ j ∧ j ≤ 1000000 ∧ i.natAbs < 2 ^ 64 then some (.int (i ^ j.toNat)) else none
  | _, _, _ => none
def ltS (x y : Str) : Bool := decide (x.cps.toList < y.cps.toList)
/-- flat things, that in looks through by == -/
def flatD : PyData → Bool
  | .none | .bool _ | .int _ | .str _ => true
  | _ => false
def isinD : PyData → PyData → Option Bool
  | .str x, .str y => if x.cps.size = 1 then some (decide (x.cps.getD 0 0 ∈ y.cps.toList)) else none
  | d, .list ds => if (flatD d && ds.all flatD) = true ∨ (SeqAt.shaped d && SeqAt.shaped (.list ds)) = true then some (ds.any fun e => PyData.eqv e d) else none
  | d, .tuple ds => if (flatD d && ds.all flatD) = true then some (ds.any fun e => PyData.eqv e d) else none
  | d, .dict kvs => match keyOf d with
    | some k => some (lookD k kvs).isSome
    | none => none
  | _, _ => none
def isD : PyData → PyData → Option Bool
  | d, .none => some (match d with | .none => true | _ => false)
  | .bool a, .bool b => some (decide (a = b))
  | _, _ => none
/-- plain things that == tells apart as data does -/
def scalD : PyData → PyData → Bool
  | .bool _, .int _ => false
  | .int _, .bool _ => false
  | d, e => flatD d && flatD e
def eqOk (d e : PyData) : Bool := scalD d e || (SeqAt.shaped d && SeqAt.shaped e)
def cmpD : Cop → PyData → PyData → Option Bool
  | .eq, d, e => if eqOk d e = true then some (PyData.eqv d e) else none
  | .ne, d, e => if eqOk d e = true then some (!PyData.eqv d e) else none
  | .lt, .int i, .int j => some (decide (i < j))
  | .le, .int i, .int j => some (decide (i ≤ j))
  | .gt, .int i, .int j => some (decide (j < i))
  | .ge, .int i, .int j => some (decide (j ≤ i))
  | .lt, .str x, .str y => some (ltS x y)
  | .isin, d, e => isinD d e
  | .nin, d, e => (isinD d e).map (!·)
  | .is, d, e => isD d e
  | .isn, d, e => (isD d e).map (!·)
  | _, _, _ => none
def ixD {α : Type} (xs : List α) (i : Int) : Option α := L2.atI xs i
def idxD : PyData → PyData → Option PyData
  | .list xs, .int i => ixD xs i
  | .tuple xs, .int i => ixD xs i
  | .dict kvs, k => match keyOf k with
    | some k => lookD k kvs
    | none => none
  | _, _ => none
def cutD {α : Type} (xs : List α) (lo hi : Option Int) : List α := (xs.drop (HT.sIx xs.length 0 lo)).take (HT.sIx xs.length xs.length hi - HT.sIx xs.length 0 lo)
def slcD : PyData → Option Int → Option Int → Option PyData
  | .list xs, lo, hi => some (.list (cutD xs lo hi))
  | .tuple xs, lo, hi => some (.tuple (cutD xs lo hi))
  | _, _, _ => none
def boolsOf : List PyData → Option (List Bool)
  | [] => some []
  | .bool b :: r => (boolsOf r).map (b :: ·)
  | _ :: _ => none
def intsOf : List PyData → Option (List Int)
  | [] => some []
  | .int i :: r => (intsOf r).map (i :: ·)
  | _ :: _ => none
def pairsOf : List PyData → Option (List (L2.Key × PyData))
  | [] => some []
  | .tuple [k, v] :: r => match keyOf k, pairsOf r with
    | some k, some ps => some ((k, v) :: ps)
    | _, _ => none
  | _ :: _ => none
def dictOf (ps : List (L2.Key × PyData)) : List (PyData × PyData) := ps.foldl (fun acc kv => putD kv.1 kv.2 acc) []
def insI (i : Int) : List Int → List Int
  | [] => [i]
  | j :: r => if i ≤ j then i :: j :: r else j :: insI i r
def sortI : List Int → List Int
  | [] => []
  | i :: r => insI i (sortI r)
def minI : List Int → Option Int
  | [] => none
  | i :: r => some (r.foldl (fun a b => if b < a then b else a) i)
def shOk (d : PyData) : Bool := d.showable && !d.hasDict && decide (d.shown.length ≤ sizeLine) && decide (d.depth ≤ 60)
def strD (d : PyData) : Option Str := match d with
  | .int i => if i.natAbs.log2 < 1920 then some (Str.ofString (toString i)) else none
  | .list xs => if shOk (.list xs) = true then some (PyData.shown (.list xs)) else none
  | .tuple xs => if shOk (.tuple xs) = true then some (PyData.shown (.tuple xs)) else none
  | _ => none
def bltD : Blt → List PyData → Option PyData
  | .len, [.str x] => if x.length ≤ sizeLine then some (.int x.length) else none
  | .len, [.list xs] => some (.int xs.length)
  | .len, [.tuple xs] => some (.int xs.length)
  | .len, [.dict xs] => some (.int xs.length)
  | .all, [.list xs] => (boolsOf xs).map fun bs => .bool (bs.all id)
  | .any, [.list xs] => (boolsOf xs).map fun bs => .bool (bs.any id)
  | .max2, [.int i, .int j] => some (.int (if j > i then j else i))
  | .min2, [.int i, .int j] => some (.int (if j < i then j else i))
  | .int, [.int i] => some (.int i)
  | .int, [.bool b] => some (.int (if b then 1 else 0))
  | .str, [d] => (strD d).map .str
  | .tuple, [.list xs] => some (.tuple xs)
  | .tuple, [.tuple xs] => some (.tuple xs)
  | .list, [.list xs] => some (.list xs)
  | .list, [.tuple xs] => some (.list xs)
  | .sorted, [.list xs] => (intsOf xs).map fun ns => .list ((sortI ns).map .int)
  | .dict, [.list xs] => (pairsOf xs).map fun ps => .dict (dictOf ps)
  | .dict, [.tuple xs] => (pairsOf xs).map fun ps => .dict (dictOf ps)
  | _, _ => none
/-- a method that changes nothing -/
def mthD : Mth → PyData → List PyData → Option PyData
  | _, _, _ => none
def isiD (d : PyData) (t : String) : Option Bool := match d with
  | .none => kit "NoneType" t
  | .bool _ => kit "bool" t
  | .int _ => kit "int" t
  | .str _ => kit "str" t
  | .list _ => kit "list" t
  | .tuple _ => kit "tuple" t
  | .dict _ => kit "dict" t
where kit (a t : String) : Option Bool := L2.kitB a t
def truD : PyData → Option Bool
  | .none => some false
  | .bool b => some b
  | .int i => some (i != 0)
  | .str x => if x.length ≤ sizeLine then some (x.length != 0) else none
  | .list xs => some (!xs.isEmpty)
  | .tuple xs => some (!xs.isEmpty)
  | .dict _ => none

/-! ### values -/
def fin (m : Bool) (d : PyData) (μ : Store) : Out W := match d with
  | .list ds => .ok (mkL m ds μ).1 (mkL m ds μ).2
  | .dict ds => .ok (mkD m ds μ).1 (mkD m ds μ).2
  | d => .ok (.dat d) μ
def finO (m : Bool) (o : Option PyData) (μ : Store) : Out W := match o with
  | some d => fin m d μ
  | none => .no
def lift {α : Type} (o : Option α) (μ : Store) : Out α := match o with
  | some a => .ok a μ
  | none => .no
def rds (μ : Store) : List W → Option (List PyData)
  | [] => some []
  | w :: ws => match rd μ w, rds μ ws with
    | some d, some ds => some (d :: ds)
    | _, _ => none
/-- the values as data: an object of the store is let go -/
def dats : List W → Store → Option (List PyData × Store)
  | [], μ => some ([], μ)
  | .dat d :: ws, μ => (dats ws μ).map fun (ds, μ') => (d :: ds, μ')
  | .ref n :: ws, μ => match μ[n]? with
    | some (.lst xs) => (dats ws (μ.set n .gone)).map fun (ds, μ') => (.list xs :: ds, μ')
    | some (.dct xs) => (dats ws (μ.set n .gone)).map fun (ds, μ') => (.dict xs :: ds, μ')
    | _ => none
  | .scr _ :: _, _ => none
def truth (w : W) (μ : Store) : Out Bool := lift ((rd μ w).bind truD) μ
/-- what a method asks of its receiver, ahead of its arguments -/
def mthPre (f : Mth) (o : W) (μ : Store) : Bool := match f, rd μ o with
  | .get1, some (.dict _) | .get2, some (.dict _) => true
  | .append, some (.list _) | .pop0, some (.list _) | .pop1, some (.list _) | .index, some (.list _) | .count, some (.list _) => true
  | .join, some (.str _) | .split, some (.str _) | .partition, some (.str _) | .upper, some (.str _) | .replace, some (.str _) => true
  | _, _ => false
def mAppend (o : W) (ws : List W) (μ : Store) : Out W := match o, ws with
  | .ref n, [x] => match dats [x] μ with
    | some ([d], μ1) => match μ1[n]? with
      | some (.lst ds) => if ds.length < sizeLine then .ok (.dat .none) (μ1.set n (.lst (ds ++ [d]))) else .no
      | _ => .no
    | _ => .no
  | _, _ => .no
def mPop0 (o : W) (ws : List W) (μ : Store) : Out W := match o, ws with
  | .ref n, [] => match μ[n]? with
    | some (.lst ds) => match ds.getLast? with
      | some d => .ok (.dat d) (μ.set n (.lst ds.dropLast))
      | none => .no
    | _ => .no
  | _, _ => .no
def mPop1 (o : W) (ws : List W) (μ : Store) : Out W := match o, ws with
  | .ref n, [.dat (.int i)] => match μ[n]? with
    | some (.lst ds) => match L2.ixN ds.length i with
      | some k => match ds[k]? with
        | some d => if -(2 ^ 63) ≤ i ∧ i < 2 ^ 63 then .ok (.dat d) (μ.set n (.lst (ds.eraseIdx k))) else .no
        | none => .no
      | none => .no
    | _ => .no
  | _, _ => .no
def mGet (o k z : W) (μ : Store) : Out W := match rd μ o with
  | some (.dict kvs) => match (rd μ k).bind keyOf with
    | some k => match lookD k kvs with
      | some d => .ok (.dat d) μ
      | none => .ok z μ
    | none => .no
  | _ => .no
def mGet1 (o : W) (ws : List W) (μ : Store) : Out W := match ws with
  | [k] => mGet o k (.dat .none) μ
  | _ => .no
def mGet2 (o : W) (ws : List W) (μ : Store) : Out W := match ws with
  | [k, z] => mGet o k z μ
  | _ => .no
def mPure (m : Bool) (f : Mth) (o : W) (ws : List W) (μ : Store) : Out W := match rd μ o, rds μ ws with
  | some d, some ds => finO m (mthD f d ds) μ
  | _, _ => .no
/-- methods: those of an object of the store, and those that change nothing -/
def mthW (m : Bool) (f : Mth) (o : W) (ws : List W) (μ : Store) : Out W := match f with
  | .append => mAppend o ws μ
  | .pop0 => mPop0 o ws μ
  | .pop1 => mPop1 o ws μ
  | .get1 => mGet1 o ws μ
  | .get2 => mGet2 o ws μ
  | f => mPure m f o ws μ
def bltP (m : Bool) (f : Blt) (ws : List W) (μ : Store) : Out W := match rds μ ws with
  | some ds => finO m (bltD f ds) μ
  | none => .no
def lenW (m : Bool) (ws : List W) (μ : Store) : Out W := match ws with
  | [.scr ns] => .ok (.dat (.int ns.length)) μ
  | ws => bltP m .len ws μ
/-- a call of a built-in -/
def bltW (m : Bool) (f : Blt) (ws : List W) (μ : Store) : Out W := match f with
  | .len => lenW m ws μ
  | f => bltP m f ws μ
def asg : Tg → W → Env → Option Env
  | .v i, w, ρ => some (ρ.set i (some w))
  | .t2 a b, w, ρ => match w with
    | .dat (.tuple [x, y]) => (asg a (.dat x) ρ).bind fun ρ1 => asg b (.dat y) ρ1
    | _ => none
  | .t3 a b c, w, ρ => match w with
    | .dat (.tuple [x, y, z]) => (asg a (.dat x) ρ).bind fun ρ1 => (asg b (.dat y) ρ1).bind fun ρ2 => asg c (.dat z) ρ2
    | _ => none
def wipeE (ρ : Env) : List Nat → Env
  | [] => ρ
  | v :: vs => (wipeE ρ vs).set v none
/-- a def's name where its list is the caller's own -/
def nm (m : Bool) (f : Str) : Str := if m then f ++ Str.ofString "!" else f
abbrev Specs := Str → List W → Store → Out W
def perm (ps : List Nat) (ws : List W) : List W := ps.filterMap fun i => ws[i]?
/-- a comprehension's turns: its list is the n-th object -/
def lcL (n : Nat) (f : PyData → Store → Out (Option W)) : List PyData → Store → Out Unit
  | [], μ => .ok () μ
  | x :: xs, μ => (f x μ).bind fun o μ1 => match o with
    | none => lcL n f xs μ1
    | some w => match dats [w] μ1 with
      | some ([d], μ2) => match μ2[n]? with
        | some (.lst ds) => if ds.length < sizeLine then lcL n f xs (μ2.set n (.lst (ds ++ [d]))) else .no
        | _ => .no
      | _ => .no
def lcTurn (o : Option Env) (c : Env → Store → Out Bool) (v : Env → Store → Out W) (μ : Store) : Out (Option W) := match o with
  | none => .no
  | some ρ1 => (c ρ1 μ).bind fun k μ2 => if k = true then (v ρ1 μ2).bind fun w μ3 => .ok (some w) μ3 else .ok none μ2
/-- its end: an object of the store, or data -/
def lcEnd (m : Bool) (n : Nat) (μ : Store) : Out W := match μ[n]? with
  | some (.lst ds) => if m = true then .ok (.ref n) μ else if n + 1 = μ.length then .ok (.dat (.list ds)) (μ.take n) else .ok (.dat (.list ds)) (μ.set n .gone)
  | _ => .no
def seqD : PyData → Option (List PyData)
  | .list ds => some ds
  | .tuple ds => some ds
  | .str x => some (signs x)
  | _ => none
def datOf : W → Option PyData
  | .dat d => some d
  | _ => none

mutual
def ev (F : Specs) : E → Env → Store → Out W
  | .var i, ρ, μ => match ρ[i]? with
    | some (some w) => .ok w μ
    | _ => .no
  | .con d, _, μ => .ok (.dat d) μ
  | .tup es, ρ, μ => (evs F es ρ μ).bind fun ws μ1 => match dats ws μ1 with
    | some (ds, μ2) => if ds.length ≤ sizeLine then .ok (.dat (.tuple ds)) μ2 else .no
    | none => .no
  | .lst m es, ρ, μ => (evs F es ρ μ).bind fun ws μ1 => match dats ws μ1 with
    | some (ds, μ2) => if ds.length ≤ sizeLine then .ok (mkL m ds μ2).1 (mkL m ds μ2).2 else .no
    | none => .no
  | .bin m op a b, ρ, μ => (ev F a ρ μ).bind fun x μ1 => (ev F b ρ μ1).bind fun y μ2 => match rd μ2 x, rd μ2 y with
    | some d, some e => finO m (binD op d e) μ2
    | _, _ => .no
  | .neg a, ρ, μ => (ev F a ρ μ).bind fun x μ1 => match x with
    | .dat (.int i) => .ok (.dat (.int (-i))) μ1
    | _ => .no
  | .cmp op a b, ρ, μ => (ev F a ρ μ).bind fun x μ1 => (ev F b ρ μ1).bind fun y μ2 => match rd μ2 x, rd μ2 y with
    | some d, some e => (lift (cmpD op d e) μ2).bind fun k μ3 => .ok (.dat (.bool k)) μ3
    | _, _ => .no
  | .chn o p a b c, ρ, μ => (ev F a ρ μ).bind fun x μ1 => (ev F b ρ μ1).bind fun y μ2 => match rd μ2 x, rd μ2 y with
    | some d, some e => (lift (cmpD o d e) μ2).bind fun k μ3 => if k = true then (ev F c ρ μ3).bind fun z μ4 => match rd μ4 y, rd μ4 z with
        | some e', some g => (lift (cmpD p e' g) μ4).bind fun k' μ5 => .ok (.dat (.bool k')) μ5
        | _, _ => .no
      else .ok (.dat (.bool false)) μ3
    | _, _ => .no
  | .not a, ρ, μ => (ev F a ρ μ).bind fun x μ1 => (truth x μ1).bind fun k μ2 => .ok (.dat (.bool (!k))) μ2
  | .and a b, ρ, μ => (ev F a ρ μ).bind fun x μ1 => (truth x μ1).bind fun k μ2 => if k = true then ev F b ρ μ2 else .ok x μ2
  | .or a b, ρ, μ => (ev F a ρ μ).bind fun x μ1 => (truth x μ1).bind fun k μ2 => if k = true then .ok x μ2 else ev F b ρ μ2
  | .ite c a b, ρ, μ => (evT F c ρ μ).bind fun k μ1 => if k = true then ev F a ρ μ1 else ev F b ρ μ1
  | .idx a b, ρ, μ => (ev F a ρ μ).bind fun x μ1 => (ev F b ρ μ1).bind fun y μ2 => match rdw μ2 x, rd μ2 y with
    | some d, some e => (lift (idxD d e) μ2).bind fun r μ3 => .ok (.dat r) μ3
    | _, _ => .no
  | .slc m a lo hi, ρ, μ => (ev F a ρ μ).bind fun x μ1 => (evo F lo ρ μ1).bind fun l μ2 => (evo F hi ρ μ2).bind fun h μ3 => match rd μ3 x with
    | some d => finO m (slcD d l h) μ3
    | none => .no
  | .rev m a, ρ, μ => (ev F a ρ μ).bind fun x μ1 => match rd μ1 x with
    | some (.list ds) => .ok (mkL m ds.reverse μ1).1 (mkL m ds.reverse μ1).2
    | _ => .no
  | .cal m f es, ρ, μ => (evs F es ρ μ).bind fun ws μ1 => F (nm m f) ws μ1
  | .cak f ps es, ρ, μ => (evs F es ρ μ).bind fun ws μ1 => F f (perm ps ws) μ1
  | .blt m f es, ρ, μ => (evs F es ρ μ).bind fun ws μ1 => bltW m f ws μ1
  | .mth m f o es, ρ, μ => (ev F o ρ μ).bind fun x μ1 => if mthPre f x μ1 = true then (evs F es ρ μ1).bind fun ws μ2 => mthW m f x ws μ2 else .no
  | .isi a ts, ρ, μ => (ev F a ρ μ).bind fun x μ1 => match rd μ1 x, ts with
    | some d, [t] => (lift (isiD d t) μ1).bind fun k μ2 => .ok (.dat (.bool k)) μ2
    | _, _ => .no
  | .lc m el tg it c own, ρ, μ => (evi F it ρ μ).bind fun xs μ1 =>
    (lcL μ1.length (fun x μ => lcTurn (asg tg (.dat x) (wipeE ρ own)) (evC F c) (ev F el) μ) xs (μ1 ++ [.lst []])).noex.bind fun _ μ2 => lcEnd m μ1.length μ2
def evC (F : Specs) : Co → Env → Store → Out Bool
  | .no, _, μ => .ok true μ
  | .so c, ρ, μ => evT F c ρ μ
def evT (F : Specs) : C → Env → Store → Out Bool
  | .not a, ρ, μ => (evT F a ρ μ).bind fun k μ1 => .ok (!k) μ1
  | .and a b, ρ, μ => (evT F a ρ μ).bind fun k μ1 => if k = true then evT F b ρ μ1 else .ok false μ1
  | .or a b, ρ, μ => (evT F a ρ μ).bind fun k μ1 => if k = true then .ok true μ1 else evT F b ρ μ1
  | .val e, ρ, μ => (ev F e ρ μ).bind fun x μ1 => truth x μ1
def evs (F : Specs) : Es → Env → Store → Out (List W)
  | .nil, _, μ => .ok [] μ
  | .cons e es, ρ, μ => (ev F e ρ μ).bind fun w μ1 => (evs F es ρ μ1).bind fun ws μ2 => .ok (w :: ws) μ2
def evo (F : Specs) : Eo → Env → Store → Out (Option Int)
  | .no, _, μ => .ok none μ
  | .so e, ρ, μ => (ev F e ρ μ).bind fun w μ1 => match w with
    | .dat (.int i) => .ok (some i) μ1
    | _ => .no
/-- what is walked: data alone -/
def evi (F : Specs) : Wk → Env → Store → Out (List PyData)
  | .seq e, ρ, μ => (ev F e ρ μ).bind fun w μ1 => lift ((datOf w).bind seqD) μ1
  | .rng1 a, ρ, μ => (ev F a ρ μ).bind fun w μ1 => match w with
    | .dat (.int j) => if -(2 ^ 62) ≤ j ∧ j < 2 ^ 62 then .ok ((List.range j.toNat).map fun k => .int (0 + (k : Nat))) μ1 else .no
    | _ => .no
  | .rng2 a b, ρ, μ => (ev F a ρ μ).bind fun v μ1 => (ev F b ρ μ1).bind fun w μ2 => match v, w with
    | .dat (.int i), .dat (.int j) => if -(2 ^ 62) ≤ i ∧ i < 2 ^ 62 ∧ -(2 ^ 62) ≤ j ∧ j < 2 ^ 62 then .ok ((List.range (j - i).toNat).map fun k => .int (i + (k : Nat))) μ2 else .no
    | _, _ => .no
  | .zip a b, ρ, μ => (ev F a ρ μ).bind fun v μ1 => (ev F b ρ μ1).bind fun w μ2 => match v, w with
    | .dat (.list xs), .dat (.list ys) => .ok (List.zipWith (fun x y => .tuple [x, y]) xs ys) μ2
    | .dat (.tuple xs), .dat (.tuple ys) => .ok (List.zipWith (fun x y => .tuple [x, y]) xs ys) μ2
    | _, _ => .no
  | .enum a, ρ, μ => (ev F a ρ μ).bind fun v μ1 => match v with
    | .dat (.list xs) => .ok ((List.range xs.length).zipWith (fun (k : Nat) x => .tuple [.int k, x]) xs) μ1
    | _ => .no
  | .items a, ρ, μ => (ev F a ρ μ).bind fun v μ1 => match v with
    | _ => .no
end

/-- what a statement ends in -/
inductive Fl where
  | nx (ρ : Env) (μ : Store)
  | rt (w : W) (μ : Store)
  | bk (ρ : Env) (μ : Store)
  | ct (ρ : Env) (μ : Store)
  | ex (c : Str) (fs : List (Str × PyData)) (ρ : Env) (μ : Store)
  | no
def Out.fl {α : Type} (x : Out α) (ρ : Env) (f : α → Store → Fl) : Fl := match x with
  | .ok a μ => f a μ
  | .ex c fs μ => .ex c fs ρ μ
  | .no => .no
def Fl.seq (x : Fl) (f : Env → Store → Fl) : Fl := match x with
  | .nx ρ μ => f ρ μ
  | x => x
def forL (f : PyData → Env → Store → Fl) : List PyData → Env → Store → Fl
  | [], ρ, μ => .nx ρ μ
  | d :: ds, ρ, μ => match f d ρ μ with
    | .nx ρ1 μ1 => forL f ds ρ1 μ1
    | .ct ρ1 μ1 => forL f ds ρ1 μ1
    | .bk ρ1 μ1 => .nx ρ1 μ1
    | x => x
def whlL (c : Env → Store → Out Bool) (b : Env → Store → Fl) : Nat → Env → Store → Fl
  | 0, _, _ => .no
  | n + 1, ρ, μ => (c ρ μ).fl ρ fun k μ1 => if k = true then (match b ρ μ1 with
      | .nx ρ2 μ2 => whlL c b n ρ2 μ2
      | .ct ρ2 μ2 => whlL c b n ρ2 μ2
      | .bk ρ2 μ2 => .nx ρ2 μ2
      | x => x) else .nx ρ μ1
def oFl (o : Option Env) (μ : Store) : Fl := match o with
  | some ρ => .nx ρ μ
  | none => .no
def setsL (ρ : Env) : List Nat → List W → Env
  | i :: is, w :: ws => setsL (ρ.set i (some w)) is ws
  | _, _ => ρ
def putW (x y w : W) (ρ : Env) (μ : Store) : Fl := match x, y with
  | .ref n, .dat d => match dats [w] μ with
    | some ([v], μ4) => match μ4[n]? with
      | some (.lst ds) => match d with
        | .int i => match L2.ixN ds.length i with
          | some j => .nx ρ (μ4.set n (.lst (ds.set j v)))
          | none => .no
        | _ => .no
      | some (.dct kvs) => match keyOf d with
        | some k => if kvs.length < sizeLine then .nx ρ (μ4.set n (.dct (putD k v kvs))) else .no
        | none => .no
      | _ => .no
    | _ => .no
  | _, _ => .no
def augD : Bop → PyData → PyData → Option PyData
  | .add, .int x, .int y => some (.int (x + y))
  | .sub, .int x, .int y => some (.int (x - y))
  | _, _, _ => none
def augW (i : Nat) (op : Bop) (o w : W) (ρ : Env) (μ : Store) : Fl := match o, w with
  | .dat x, .dat y => match augD op x y with
    | some z => .nx (ρ.set i (some (.dat z))) μ
    | none => .no
  | _, _ => .no
mutual
def exec (F : Specs) (fu : Nat) : S → Env → Store → Fl
  | .expr e, ρ, μ => (ev F e ρ μ).fl ρ fun _ μ1 => .nx ρ μ1
  | .asg tg e, ρ, μ => (ev F e ρ μ).fl ρ fun w μ1 => oFl (asg tg w ρ) μ1
  | .par is es, ρ, μ => (evs F es ρ μ).fl ρ fun ws μ1 => if ws.length = is.length then .nx (setsL ρ is ws) μ1 else .no
  | .put o i e, ρ, μ => (ev F e ρ μ).fl ρ fun w μ1 => (ev F o ρ μ1).fl ρ fun x μ2 => (ev F i ρ μ2).fl ρ fun y μ3 => putW x y w ρ μ3
  | .aug i op e, ρ, μ => match ρ[i]? with
    | some (some w0) => (ev F e ρ μ).fl ρ fun w μ1 => augW i op w0 w ρ μ1
    | _ => .no
  | .ret e, ρ, μ => (ev F e ρ μ).fl ρ fun w μ1 => .rt w μ1
  | .retn, _, μ => .rt (.dat .none) μ
  | .ite c a b, ρ, μ => (evT F c ρ μ).fl ρ fun k μ1 => if k = true then execs F fu a ρ μ1 else execs F fu b ρ μ1
  | .for tg it b, ρ, μ => (evi F it ρ μ).fl ρ fun xs μ1 => forL (fun x ρ μ => (oFl (asg tg (.dat x) ρ) μ).seq fun ρ μ => execs F fu b ρ μ) xs ρ μ1
  | .whl c b, ρ, μ => whlL (evT F c) (execs F fu b) fu ρ μ
  | .pass, ρ, μ => .nx ρ μ
  | .brk, ρ, μ => .bk ρ μ
  | .cnt, ρ, μ => .ct ρ μ
  | .rse _ _, _, _ => .no
def execs (F : Specs) (fu : Nat) : List S → Env → Store → Fl
  | [], ρ, μ => .nx ρ μ
  | s :: ss, ρ, μ => (exec F fu s ρ μ).seq fun ρ μ => execs F fu ss ρ μ
end
end Dv

/-! Dv3: operators, built-ins and methods by values. -/
namespace Dv
open PySem PySem.Spec PyProof.Rows L2

/-- how a computation is held by the layer: every way it may end is wanted -/
def Goes {α β : Type} (R : Phi → Hp → α → β → Prop) (φ : Phi) (H : Hp) (o : Out α) (Q : β → Hp → Prop) (xw : Str → List (Str × PyData) → Store → Phi → Hp → Prop) : Prop := match o with
  | .ok a μ' => ∀ φ' b H', Ext φ H φ' H' → StoR φ' μ' H' → R φ' H' a b → Q b H'
  | .ex c fs μ' => ∀ φ' H', Ext φ H φ' H' → StoR φ' μ' H' → xw c fs μ' φ' H'
  | .no => False
abbrev XW := Str → List (Str × PyData) → Store → Phi → Hp → Prop

section
variable {K : PySem.W.Frag} {φ : Phi} {μ : Store} {H : Hp} {Q : V → Hp → Prop} {xw : XW} {v : V}
theorem goes_dat {d : PyData} (s : StoR φ μ H) (r : Fz φ H v d) (g : Goes (RpW K) φ H (.ok (.dat d) μ) Q xw) : Q v H := g φ v H .refl s r
theorem goes_int {m : Bool} {i : Int} (s : StoR φ μ H) (g : Goes (RpW K) φ H (fin m (.int i) μ) Q xw) : Q (.int i) H := goes_dat s (.int i) g
theorem goes_bl {m : Bool} {i : Bool} (s : StoR φ μ H) (g : Goes (RpW K) φ H (fin m (.bool i) μ) Q xw) : Q (.bl i) H := goes_dat s (.bl i) g
theorem goes_str {m : Bool} {i : Str} (s : StoR φ μ H) (g : Goes (RpW K) φ H (fin m (.str i) μ) Q xw) : Q (.str i) H := goes_dat s (.str i) g
theorem goes_non {m : Bool} (s : StoR φ μ H) (g : Goes (RpW K) φ H (fin m .none μ) Q xw) : Q .non H := goes_dat s .non g
theorem goes_tup {xs : List V} {ds : List PyData} (s : StoR φ μ H) (f : FzAll φ H xs ds) (z : xs.length ≤ sizeLine) (g : Goes (RpW K) φ H (.ok (.dat (.tuple ds)) μ) Q xw) : NewT H xs Q := fun p ob hp hd => by
  obtain ⟨e, s', r⟩ := mkT_ok s hp hd f z
  exact g φ _ _ e s' r
theorem goes_lst {m : Bool} {xs : List V} {ds : List PyData} (s : StoR φ μ H) (f : FzAll φ H xs ds) (z : xs.length ≤ sizeLine) (g : Goes (RpW K) φ H (.ok (mkL m ds μ).1 (mkL m ds μ).2) Q xw) :
    ∀ p, H p = none → Q (.ref p) (upd H p (.lst xs)) := fun p hp => by
  obtain ⟨φ', e, s', r⟩ := mkL_ok (K := K) s hp f z m
  exact g φ' _ _ e s' r
theorem goes_dct {m : Bool} {xs : List (Key × V)} {ds : List (PyData × PyData)} (s : StoR φ μ H) (f : FzKv φ H xs ds) (z : xs.length ≤ sizeLine) (g : Goes (RpW K) φ H (.ok (mkD m ds μ).1 (mkD m ds μ).2) Q xw) :
    ∀ p, H p = none → Q (.ref p) (upd H p (.dK xs)) := fun p hp => by
  obtain ⟨φ', e, s', r⟩ := mkD_ok (K := K) s hp f z m
  exact g φ' _ _ e s' r
end

mutual
theorem Fz.dp {K : PySem.W.Frag} {φ : Phi} {H : Hp} : ∀ {v : V} {d : PyData}, Fz φ H v d → d.hasDict = false → Dp K H v d
  | _, _, .non, _ => .non
  | _, _, .bl b, _ => .bl b
  | _, _, .int i, _ => .int i
  | _, _, .str x, _ => .str x
  | _, _, .lst h _ _ f, q => .lst (SqL.of h) (f.dp (by simpa [PyData.hasDict] using q))
  | _, _, .tup h _ _ _ f, q => .tup (SqT.frz h) (f.dp (by simpa [PyData.hasDict] using q))
  | _, _, .dct _ _ _ _, q => by simp [PyData.hasDict] at q
theorem FzAll.dp {K : PySem.W.Frag} {φ : Phi} {H : Hp} : ∀ {vs : List V} {ds : List PyData}, FzAll φ H vs ds → PyData.hasDictAll ds = false → DpAll K H vs ds
  | _, _, .nil, _ => .nil
  | _, _, .cons h t, q => by
    simp only [PyData.hasDictAll, Bool.or_eq_false_iff] at q
    exact .cons (h.dp q.1) (t.dp q.2)
end
theorem Now.dp {K : PySem.W.Frag} {φ : Phi} {H : Hp} {v : V} {d : PyData} (h : Now φ H v d) (q : d.hasDict = false) : Dp K H v d := by
  rcases h with h | ⟨a, xs, ds, rfl, rfl, h1, h2, h3⟩ | ⟨a, xs, ds, rfl, rfl, h1, h2, h3⟩
  · exact h.dp q
  · exact .lst (SqL.of h1) (h3.dp (by simpa [PyData.hasDict] using q))
  · simp [PyData.hasDict] at q
theorem noDict_of_shaped {d : PyData} (h : SeqAt.shaped d = true) : d.hasDict = false := PyData.hasDict_of_canLay d (SeqAt.canLay_of_shaped h)

section
variable {X : Cx}
def opOf : Bop → Operator
  | .add => .Add | .sub => .Sub | .mul => .Mult | .fdiv => .FloorDiv | .mod => .Mod | .pow => .Pow
theorem replicate_len {α : Type} (xs : List α) : ∀ k : Nat, (List.replicate k xs).flatten.length = xs.length * k
  | 0 => by simp
  | k + 1 => by rw [List.replicate_succ, List.flatten_cons, List.length_append, replicate_len xs k, Nat.mul_succ, Nat.add_comm]

theorem bin_ok (op : Bop) : ∃ r : R2, OpR X (binaryOp (opOf op)) r ∧ ∀ {φ : Phi} {μ : Store} {H : Hp} {x y : V} {d e res : PyData}, StoR φ μ H → Now φ H x d → Now φ H y e → binD op d e = some res →
    ∀ (m : Bool) (Q : VK) (xw : XW), Goes (RpW X.K) φ H (fin m res μ) Q xw → r x y H Q := by
  cases op with
  | add =>
    refine ⟨_, ((op_add (X := X)).or op_add_str).or ((op_catF (X := X)).or op_cat), fun {φ μ H x y d e res} s nx ny hb m Q xw g => ?_⟩
    cases d <;> cases e <;> first | (simp [binD] at hb; done) | skip
    case int.int i j =>
      cases hb
      exact .inl (.inl ⟨_, _, nx.int, ny.int, goes_int s g⟩)
    case str.str i j =>
      simp only [binD] at hb
      split at hb
      · rename_i hz
        cases hb
        exact .inl (.inr ⟨_, _, nx.str, ny.str, hz, goes_str s g⟩)
      · cases hb
    case tuple.tuple xs ys =>
      simp only [binD] at hb
      split at hb
      · rename_i hz
        cases hb
        obtain ⟨a, oa, us, rfl, ha, da, na, za, fa⟩ := nx.tuple
        obtain ⟨b, o2, ws, rfl, hb', db, nb, zb, fb⟩ := ny.tuple
        have la := fa.length
        have lb := fb.length
        refine .inr (.inl ⟨a, b, us, ws, rfl, rfl, SqT.frz ha, SqT.frz hb', by omega, fun q => ?_, fun _ q => ?_, fun _ _ => ?_⟩)
        · subst q
          cases fa
          exact goes_dat s (.tup hb' db nb zb fb) g
        · subst q
          cases fb
          rw [List.append_nil] at g
          exact goes_dat s (.tup ha da na za fa) g
        · exact goes_tup s (fa.append fb) (by rw [List.length_append]; omega) g
      · cases hb
    case list.list xs ys =>
      simp only [binD] at hb
      split at hb
      · rename_i hz
        cases hb
        obtain ⟨a, us, rfl, ha, za, fa⟩ := nx.list
        obtain ⟨b, ws, rfl, hb', zb, fb⟩ := ny.list
        have la := fa.length
        have lb := fb.length
        exact .inr (.inr ⟨a, b, us, ws, rfl, rfl, ha, hb', by omega, goes_lst s (fa.append fb) (by rw [List.length_append]; omega) g⟩)
      · cases hb
  | sub =>
    refine ⟨_, op_sub, fun {φ μ H x y d e res} s nx ny hb m Q xw g => ?_⟩
    cases d <;> cases e <;> first | (simp [binD] at hb; done) | skip
    case int.int i j =>
      cases hb
      exact ⟨_, _, nx.int, ny.int, goes_int s g⟩
  | mul =>
    refine ⟨_, (op_mulW (X := X)).or ((op_repF (X := X)).or op_rep), fun {φ μ H x y d e res} s nx ny hb m Q xw g => ?_⟩
    cases d <;> cases e <;> first | (simp [binD] at hb; done) | skip
    case int.int i j =>
      simp only [binD] at hb
      split at hb
      · rename_i hz
        cases hb
        exact .inl ⟨_, _, nx.int, ny.int, hz, goes_int s g⟩
      · cases hb
    case tuple.int xs k =>
      simp only [binD] at hb
      split at hb
      · rename_i hz
        cases hb
        obtain ⟨h2, h3, h4, h5⟩ := hz
        obtain ⟨a, oa, us, rfl, ha, da, na, za, fa⟩ := nx.tuple
        have la := fa.length
        have ne : us ≠ [] := fun q => by
          subst q
          cases fa
          cases h5
        have hk : us.length * k.toNat ≤ 1000 * 1000 := Nat.mul_le_mul (by omega) (by omega)
        exact .inr (.inl ⟨a, k, us, rfl, ny.int, SqT.frz ha, ne, h2, h3, by omega, goes_tup s (fa.rep k.toNat) (by rw [replicate_len, sizeLine_eq]; omega) g⟩)
      · cases hb
    case list.int xs k =>
      simp only [binD] at hb
      split at hb
      · rename_i hz
        cases hb
        obtain ⟨h2, h3, h4⟩ := hz
        obtain ⟨a, us, rfl, ha, za, fa⟩ := nx.list
        have la := fa.length
        rw [← la] at h4
        exact .inr (.inr ⟨a, k, us, rfl, ny.int, ha, h2, h3, h4, goes_lst s (fa.rep k.toNat) (by rw [replicate_len]; exact h4) g⟩)
      · cases hb
  | fdiv =>
    refine ⟨_, op_fdivW, fun {φ μ H x y d e res} s nx ny hb m Q xw g => ?_⟩
    cases d <;> cases e <;> first | (simp [binD] at hb; done) | skip
    case int.int i j =>
      simp only [binD] at hb
      split at hb
      · rename_i hz
        cases hb
        exact ⟨_, _, nx.int, ny.int, hz, goes_int s g⟩
      · cases hb
  | mod =>
    refine ⟨_, op_mod, fun {φ μ H x y d e res} s nx ny hb m Q xw g => ?_⟩
    cases d <;> cases e <;> first | (simp [binD] at hb; done) | skip
    case int.int i j =>
      simp only [binD] at hb
      split at hb
      · rename_i hz
        cases hb
        exact ⟨_, _, nx.int, ny.int, hz, goes_int s g⟩
      · cases hb
  | pow =>
    refine ⟨_, op_pow, fun {φ μ H x y d e res} s nx ny hb m Q xw g => ?_⟩
    cases d <;> cases e <;> first | (simp [binD] at hb; done) | skip
    case int.int i j =>
      simp only [binD] at hb
      split at hb
      · rename_i hz
        cases hb
        exact ⟨_, _, nx.int, ny.int, hz, goes_int s g⟩
      · cases hb

/-! ### comparisons -/
def cmpOf : Cop → CmpOp
  | .eq => .Eq | .ne => .NotEq | .lt => .Lt | .le => .LtE | .gt => .Gt | .ge => .GtE | .isin => .In | .nin => .NotIn | .is => .Is | .isn => .IsNot
/-- a flat thing's value -/
def vOf : PyData → V
  | .none => .non
  | .bool b => .bl b
  | .int i => .int i
  | .str x => .str x
  | _ => .non
theorem Now.flat {φ : Phi} {H : Hp} {v : V} {d : PyData} (h : Now φ H v d) (f : flatD d = true) : v = vOf d := by
  cases d with
  | none => exact h.non
  | bool b => exact h.bl
  | int i => exact h.int
  | str x => exact h.str
  | list => cases f
  | tuple => cases f
  | dict => cases f
theorem Fz.flat {φ : Phi} {H : Hp} {v : V} {d : PyData} (h : Fz φ H v d) (f : flatD d = true) : v = vOf d := Now.flat (.inl h) f
theorem FzAll.flat {φ : Phi} {H : Hp} : ∀ {vs : List V} {ds : List PyData}, FzAll φ H vs ds → ds.all flatD = true → vs = ds.map vOf
  | _, _, .nil, _ => rfl
  | _, _, .cons h t, q => by
    rw [List.all_cons, Bool.and_eq_true] at q
    rw [List.map_cons, ← h.flat q.1, ← t.flat q.2]
theorem flat_vOf {d : PyData} (f : flatD d = true) : flatV (vOf d) = true := by cases d <;> first | rfl | cases f
theorem eqV_vOf {d e : PyData} (f : flatD d = true) (g : flatD e = true) : eqV (vOf d) (vOf e) = PyData.eqv d e := by
  cases d <;> cases e <;> first | (cases f; done) | (cases g; done) | (simp [vOf, eqV, PyData.eqv])
theorem flat_all {ds : List PyData} (f : ds.all flatD = true) : (ds.map vOf).all flatV = true := by
  rw [List.all_eq_true] at f ⊢
  intro v hv
  obtain ⟨d, hd, rfl⟩ := List.mem_map.mp hv
  exact flat_vOf (f d hd)
theorem inV_flat {d : PyData} {ds : List PyData} (f : flatD d = true) (g : ds.all flatD = true) : inV (vOf d) (ds.map vOf) = ds.any fun e => PyData.eqv e d := by
  unfold inV
  rw [List.any_map]
  induction ds with
  | nil => rfl
  | cons e r ih =>
    rw [List.all_cons, Bool.and_eq_true] at g
    rw [List.any_cons, List.any_cons, ih g.2]
    show (eqV (vOf e) (vOf d) || _) = _
    rw [eqV_vOf g.1 f]
theorem scal_ok {φ : Phi} {H : Hp} {x y : V} {d e : PyData} (nx : Now φ H x d) (ny : Now φ H y e) (h : scalD d e = true) : scal x y = true ∧ decide (x = y) = PyData.eqv d e := by
  have f : flatD d = true ∧ flatD e = true := by
    cases d <;> cases e <;> simp_all [scalD, flatD]
  rw [nx.flat f.1, ny.flat f.2]
  cases d <;> cases e <;> first | (cases h; done) | (cases f.1; done) | (cases f.2; done) | (refine ⟨rfl, ?_⟩; simp only [vOf, PyData.eqv]; first | exact dec_int | exact dec_bl | exact dec_str | rfl | simp)
theorem valV_look {φ : Phi} {H : Hp} (k : Key) : ∀ {kvs : List (Key × V)} {kds : List (PyData × PyData)}, FzKv φ H kvs kds → (∀ d, lookD k kds = some d → ∃ v, valV kvs k = some v ∧ Fz φ H v d) ∧ (lookD k kds = none → valV kvs k = none)
  | _, _, .nil => ⟨fun d h => (by cases h), fun _ => rfl⟩
  | _, _, .cons (k := j) (v := v) (d := d) h t => by
    have ih := valV_look k t
    have kk : keyOf (kD j) = some j := by cases j <;> rfl
    unfold lookD
    rw [kk]
    by_cases e : j = k
    · subst e
      rw [if_pos rfl]
      refine ⟨fun d' h' => ?_, fun h' => by cases h'⟩
      cases h'
      exact ⟨v, valV_pos rfl, h⟩
    · rw [if_neg (fun z => e (Option.some.inj z)), valV_neg e]
      exact ih
theorem look_some {φ : Phi} {H : Hp} {k : Key} {kvs : List (Key × V)} {kds : List (PyData × PyData)} (f : FzKv φ H kvs kds) : (valV kvs k).isSome = (lookD k kds).isSome := by
  have h := valV_look k f
  cases q : lookD k kds with
  | none => rw [h.2 q]; rfl
  | some d => obtain ⟨v, e, _⟩ := h.1 d q; rw [e]; rfl
theorem key_at {φ : Phi} {H : Hp} {v : V} {d : PyData} {k : Key} (n : Now φ H v d) (h : keyOf d = some k) : v = kV k := by
  cases d <;> first | (cases h; done) | skip
  · cases h; exact n.int
  · cases h; exact n.str
theorem op_inDict (neg : Bool) (hu : X.A.units + 1 < cLine) : OpR X (compareOp (if neg then .NotIn else .In)) (fun y x H Q => ∃ a o, x = .ref a ∧ DGet H a y o ∧ Q (.bl (if neg then !o.isSome else o.isSome)) H) := by
  intro pins s σ H x y v u Q I rx ry h
  obtain ⟨a, o, rfl, g, q⟩ := h
  cases ry
  cases neg with
  | false => exact d_in hu I g rx fun s' I' => ⟨.bl _, H, I', rfl, q⟩
  | true => exact d_notIn hu I g rx fun s' I' => ⟨.bl _, H, I', rfl, q⟩
theorem Rd.dget {H : Hp} {a : Addr} {kvs : List (Key × V)} {k : Key} (e : Rd H a (.dK kvs)) : DGet H a (kV k) (valV kvs k) := .inl ⟨kvs, k, e, rfl, rfl⟩
theorem sign_eq {x : Str} (h : x.cps.size = 1) : x = ⟨#[x.cps.getD 0 0]⟩ := by
  obtain ⟨c⟩ := x
  obtain ⟨l⟩ := c
  match l, h with
  | [c], _ => rfl
/-- in, not in -/
theorem in_ok (neg : Bool) (hu : X.A.units + 65 < cLine) : ∃ r : R2, OpR X (compareOp (if neg then .NotIn else .In)) r ∧ ∀ {φ : Phi} {H : Hp} {x y : V} {d e : PyData} {k : Bool}, Now φ H x d → Now φ H y e → isinD d e = some k →
    ∀ (Q : VK), Q (.bl (if neg then !k else k)) H → r x y H Q := by
  have R1 : OpR X (compareOp (if neg then .NotIn else .In)) (fun x y H Q => ∃ (c : Nat) (z : Str), x = .str ⟨#[c]⟩ ∧ y = .str z ∧ Q (.bl (if neg then !decide (c ∈ z.cps.toList) else decide (c ∈ z.cps.toList))) H) := by
    cases neg with
    | false => exact op_in_sign
    | true => exact op_notIn_sign
  have R2 : OpR X (compareOp (if neg then .NotIn else .In)) (rIn X.K neg) := by
    cases neg with
    | false => exact op_in_seq
    | true => exact op_notIn_seq
  have R3 : OpR X (compareOp (if neg then .NotIn else .In)) (fun x y H Q => ∃ d ds, Dp X.K H x d ∧ Dp X.K H y (.list ds) ∧ SeqAt.shaped d = true ∧ SeqAt.shaped (.list ds) = true ∧ Q (.bl (if neg then !ds.any (fun z => PyData.eqv z d) else ds.any fun z => PyData.eqv z d)) H) := by
    cases neg with
    | false => exact op_inD hu
    | true => exact op_notInD hu
  refine ⟨_, (R1.or (R2.or R3)).or (op_inDict neg (by omega)), fun {φ H x y d e k} nx ny h Q q => ?_⟩
  have seqs : ∀ {p : Addr} {us : List V} {ds : List PyData}, y = .ref p → (SqL X.K H p us ∨ SqT X.K H p us) → FzAll φ H us ds → (flatD d && ds.all flatD) = true → k = (ds.any fun e => PyData.eqv e d) → rIn X.K neg x y H Q := fun {p us ds} ey hs f hf hk => by
    rw [Bool.and_eq_true] at hf
    refine ⟨p, us, ey, hs, by rw [nx.flat hf.1]; exact flat_vOf hf.1, by rw [f.flat hf.2]; exact flat_all hf.2, ?_⟩
    rw [nx.flat hf.1, f.flat hf.2, inV_flat hf.1 hf.2, ← hk]
    exact q
  have ll : ∀ {ds : List PyData}, e = .list ds → (flatD d && ds.all flatD) = true ∨ (SeqAt.shaped d && SeqAt.shaped (.list ds)) = true → k = (ds.any fun e => PyData.eqv e d) → (rIn X.K neg x y H Q ∨ (∃ d ds, Dp X.K H x d ∧ Dp X.K H y (.list ds) ∧ SeqAt.shaped d = true ∧ SeqAt.shaped (.list ds) = true ∧ Q (.bl (if neg then !ds.any (fun z => PyData.eqv z d) else ds.any fun z => PyData.eqv z d)) H)) := fun {ds} ee hz hk => by
    subst ee
    rcases hz with hz | hz
    · obtain ⟨a, us, ey, ha, _, fa⟩ := ny.list
      exact .inl (seqs ey (.inl (.of ha)) fa hz hk)
    · rw [Bool.and_eq_true] at hz
      refine .inr ⟨d, ds, nx.dp (noDict_of_shaped hz.1), ny.dp (noDict_of_shaped hz.2), hz.1, hz.2, ?_⟩
      rw [← hk]
      exact q
  have tt : ∀ {ds : List PyData}, e = .tuple ds → (flatD d && ds.all flatD) = true → k = (ds.any fun e => PyData.eqv e d) → rIn X.K neg x y H Q := fun {ds} ee hz hk => by
    subst ee
    obtain ⟨a, _, us, ey, ha, _, _, _, fa⟩ := ny.tuple
    exact seqs ey (.inr (SqT.frz ha)) fa hz hk
  have kk : ∀ {kvs : List (PyData × PyData)} {j : Key}, e = .dict kvs → keyOf d = some j → k = (lookD j kvs).isSome → ∃ a o, y = .ref a ∧ DGet H a x o ∧ Q (.bl (if neg then !o.isSome else o.isSome)) H := fun {kvs j} ee hj hk => by
    subst ee
    obtain ⟨a, ps, ey, ha, _, fa⟩ := ny.dict
    refine ⟨a, valV ps j, ey, by rw [key_at nx hj]; exact Rd.dget ha, ?_⟩
    rw [look_some fa, ← hk]
    exact q
  cases e with
  | str y' =>
    cases d <;> first | (simp [isinD] at h; done) | skip
    rename_i x'
    simp only [isinD] at h
    split at h
    · rename_i hs
      cases h
      refine .inl (.inl ⟨_, y', ?_, ny.str, q⟩)
      rw [nx.str]
      exact congrArg V.str (sign_eq hs)
    · cases h
  | list ds =>
    have h' : (if (flatD d && ds.all flatD) = true ∨ (SeqAt.shaped d && SeqAt.shaped (.list ds)) = true then some (ds.any fun e => PyData.eqv e d) else none) = some k := by
      cases d <;> exact h
    split at h'
    · rename_i hz
      exact .inl (.inr (ll rfl hz (Option.some.inj h').symm))
    · cases h'
  | tuple ds =>
    have h' : (if (flatD d && ds.all flatD) = true then some (ds.any fun e => PyData.eqv e d) else none) = some k := by
      cases d <;> exact h
    split at h'
    · rename_i hz
      exact .inl (.inr (.inl (tt rfl hz (Option.some.inj h').symm)))
    · cases h'
  | dict kvs =>
    have h' : (match keyOf d with | some k => some (lookD k kvs).isSome | none => none) = some k := by
      cases d <;> exact h
    split at h'
    · rename_i j hj
      exact .inr (kk rfl hj (Option.some.inj h').symm)
    · cases h'
  | none => cases d <;> simp [isinD] at h
  | bool b => cases d <;> simp [isinD] at h
  | int b => cases d <;> simp [isinD] at h

theorem is_ok (neg : Bool) : ∃ r : R2, OpR X (compareOp (if neg then .IsNot else .Is)) r ∧ ∀ {φ : Phi} {H : Hp} {x y : V} {d e : PyData} {k : Bool}, Now φ H x d → Now φ H y e → isD d e = some k →
    ∀ (Q : VK), Q (.bl (if neg then !k else k)) H → r x y H Q := by
  have R1 : OpR X (compareOp (if neg then .IsNot else .Is)) (fun x y H Q => y = .non ∧ Q (.bl (if neg then !decide (x = .non) else decide (x = .non))) H) := by
    cases neg with
    | false => exact op_isN
    | true => exact op_notN
  have R2 : OpR X (compareOp (if neg then .IsNot else .Is)) (fun x y H Q => ∃ a b : Bool, x = .bl a ∧ y = .bl b ∧ Q (.bl (if neg then !decide (a = b) else decide (a = b))) H) := by
    cases neg with
    | false => exact op_isBl
    | true => exact op_notBl
  refine ⟨_, R1.or R2, fun {φ H x y d e k} nx ny h Q q => ?_⟩
  cases e with
  | none =>
    refine .inl ⟨ny.non, ?_⟩
    have : decide (x = .non) = k := by
      cases d with
      | none => cases h; rw [nx.non]; rfl
      | bool b => cases h; rw [nx.bl]; rfl
      | int b => cases h; rw [nx.int]; rfl
      | str b => cases h; rw [nx.str]; rfl
      | list b => cases h; obtain ⟨a, _, rfl, _⟩ := nx.list; rfl
      | tuple b => cases h; obtain ⟨a, _, _, rfl, _⟩ := nx.tuple; rfl
      | dict b => cases h; obtain ⟨a, _, rfl, _⟩ := nx.dict; rfl
    rw [this]
    exact q
  | bool b =>
    cases d <;> first | (simp [isD] at h; done) | skip
    cases h
    exact .inr ⟨_, _, nx.bl, ny.bl, q⟩
  | int b => cases d <;> simp [isD] at h
  | str b => cases d <;> simp [isD] at h
  | list b => cases d <;> simp [isD] at h
  | tuple b => cases d <;> simp [isD] at h
  | dict b => cases d <;> simp [isD] at h

theorem cmp_ok (op : Cop) (hu : X.A.units + 65 < cLine) : ∃ r : R2, OpR X (compareOp (cmpOf op)) r ∧ ∀ {φ : Phi} {H : Hp} {x y : V} {d e : PyData} {k : Bool}, Now φ H x d → Now φ H y e → cmpD op d e = some k →
    ∀ (Q : VK), Q (.bl k) H → r x y H Q := by
  cases op with
  | eq =>
    refine ⟨_, op_eq.or (op_eqD (by omega)), fun {φ H x y d e k} nx ny h Q q => ?_⟩
    simp only [cmpD] at h
    split at h
    · rename_i hs
      cases h
      unfold eqOk at hs
      rw [Bool.or_eq_true, Bool.and_eq_true] at hs
      rcases hs with hs | hs
      · obtain ⟨h1, h2⟩ := scal_ok nx ny hs
        exact .inl ⟨h1, by rw [h2]; exact q⟩
      · exact .inr ⟨d, e, nx.dp (noDict_of_shaped hs.1), ny.dp (noDict_of_shaped hs.2), hs.1, hs.2, q⟩
    · cases h
  | ne =>
    refine ⟨_, op_ne.or (op_neD (by omega)), fun {φ H x y d e k} nx ny h Q q => ?_⟩
    simp only [cmpD] at h
    split at h
    · rename_i hs
      cases h
      unfold eqOk at hs
      rw [Bool.or_eq_true, Bool.and_eq_true] at hs
      rcases hs with hs | hs
      · obtain ⟨h1, h2⟩ := scal_ok nx ny hs
        exact .inl ⟨h1, by rw [h2]; exact q⟩
      · exact .inr ⟨d, e, nx.dp (noDict_of_shaped hs.1), ny.dp (noDict_of_shaped hs.2), hs.1, hs.2, q⟩
    · cases h
  | lt =>
    refine ⟨_, (op_lt (X := X)).or op_lt_str, fun {φ H x y d e k} nx ny h Q q => ?_⟩
    cases d <;> cases e <;> first | (simp [cmpD] at h; done) | skip
    · cases h; exact .inl ⟨_, _, nx.int, ny.int, q⟩
    · cases h; exact .inr ⟨_, _, nx.str, ny.str, q⟩
  | le =>
    refine ⟨_, op_le, fun {φ H x y d e k} nx ny h Q q => ?_⟩
    cases d <;> cases e <;> first | (simp [cmpD] at h; done) | skip
    cases h; exact ⟨_, _, nx.int, ny.int, q⟩
  | gt =>
    refine ⟨_, op_gt, fun {φ H x y d e k} nx ny h Q q => ?_⟩
    cases d <;> cases e <;> first | (simp [cmpD] at h; done) | skip
    cases h; exact ⟨_, _, nx.int, ny.int, q⟩
  | ge =>
    refine ⟨_, op_ge, fun {φ H x y d e k} nx ny h Q q => ?_⟩
    cases d <;> cases e <;> first | (simp [cmpD] at h; done) | skip
    cases h; exact ⟨_, _, nx.int, ny.int, q⟩
  | isin =>
    obtain ⟨r, h1, h2⟩ := in_ok (X := X) false hu
    exact ⟨r, h1, fun {φ H x y d e k} nx ny h Q q => h2 nx ny h Q q⟩
  | nin =>
    obtain ⟨r, h1, h2⟩ := in_ok (X := X) true hu
    refine ⟨r, h1, fun {φ H x y d e k} nx ny h Q q => ?_⟩
    obtain ⟨k', e1, e2⟩ := Option.map_eq_some_iff.mp (show (isinD d e).map (!·) = some k from h)
    exact h2 nx ny e1 Q (by rw [if_pos rfl, e2]; exact q)
  | is =>
    obtain ⟨r, h1, h2⟩ := is_ok (X := X) false
    exact ⟨r, h1, fun {φ H x y d e k} nx ny h Q q => h2 nx ny h Q q⟩
  | isn =>
    obtain ⟨r, h1, h2⟩ := is_ok (X := X) true
    refine ⟨r, h1, fun {φ H x y d e k} nx ny h Q q => ?_⟩
    obtain ⟨k', e1, e2⟩ := Option.map_eq_some_iff.mp (show (isD d e).map (!·) = some k from h)
    exact h2 nx ny e1 Q (by rw [if_pos rfl, e2]; exact q)
end
end Dv

/-! Dv3b: subscripts, slices, built-ins. -/
namespace Dv
open PySem PySem.Spec PyProof.Rows L2
section
variable {X : Cx}

/-! ### subscripts -/
theorem ix_dict (hu : X.A.units + 1 < cLine) : IxR X (fun x y H Q => ∃ a v, x = .ref a ∧ DGet H a y (some v) ∧ Q v H) := by
  intro value slice pins s σ H x y v u Q I rx ry h hs
  obtain ⟨a, z, rfl, g, q⟩ := h
  cases rx
  exact tail_any (dict_typeIs I g) PySem.F.slot_dict_getitem.lookup (d_getItem hu I g ry fun w' s' I' rw' => ⟨z, H, I', rw', q⟩) hs
theorem fz_ints {φ : Phi} {H : Hp} : ∀ ns : List Int, FzAll φ H (ns.map V.int) (ns.map PyData.int)
  | [] => .nil
  | i :: r => .cons (.int i) (fz_ints r)
theorem rdw_list {K : PySem.W.Frag} {φ : Phi} {μ : Store} {H : Hp} {w : W} {v : V} {ds : List PyData} (s : StoR φ μ H) (r : RpW K φ H w v) (h : rdw μ w = some (.list ds)) :
    ∃ a xs, v = .ref a ∧ SqL K H a xs ∧ FzAll φ H xs ds := by
  cases w with
  | dat d => obtain ⟨a, xs, h1, h2, _, h4⟩ := (s.rd (w := .dat d) r h).list; exact ⟨a, xs, h1, .of h2, h4⟩
  | ref n => obtain ⟨a, xs, h1, h2, _, h4⟩ := (s.rd (w := .ref n) r h).list; exact ⟨a, xs, h1, .of h2, h4⟩
  | scr ns =>
    cases h
    obtain ⟨a, h1, h2, _⟩ := r
    exact ⟨a, _, h1, h2, fz_ints ns⟩
theorem rdw_rd {μ : Store} {w : W} {d : PyData} (h : rdw μ w = some d) (n : ∀ ds, d ≠ .list ds) : rd μ w = some d := by
  cases w with
  | dat d' => exact h
  | ref m => exact h
  | scr ns => cases h; exact absurd rfl (n _)
theorem atI_fz {φ : Phi} {H : Hp} {vs : List V} {ds : List PyData} (f : FzAll φ H vs ds) {i : Int} {d : PyData} (h : ixD ds i = some d) : ∃ v, L2.atI vs i = some v ∧ Fz φ H v d := by
  unfold ixD L2.atI at *
  rw [f.length]
  cases q : L2.ixN ds.length i with
  | none => rw [q] at h; cases h
  | some j => rw [q] at h; exact f.get h
theorem idx_ok (hu : X.A.units + 1 < cLine) : ∃ r : R2, IxR X r ∧ ∀ {φ : Phi} {μ : Store} {H : Hp} {w u : W} {x y : V} {d e res : PyData}, StoR φ μ H → RpW X.K φ H w x → RpW X.K φ H u y → rdw μ w = some d → rd μ u = some e → idxD d e = some res →
    ∀ (Q : VK), (∀ v, Fz φ H v res → Q v H) → r x y H Q := by
  refine ⟨_, (ix_list (X := X)).or (ix_tup.or (ix_dict hu)), fun {φ μ H w u x y d e res} s rw ru hd he hr Q q => ?_⟩
  have ny := s.rd ru he
  cases d with
  | list xs =>
    cases e <;> first | (simp [idxD] at hr; done) | skip
    obtain ⟨a, us, rfl, ha, fa⟩ := rdw_list s rw hd
    obtain ⟨v, h1, h2⟩ := atI_fz fa (show ixD xs _ = some res from hr)
    exact .inl ⟨a, us, _, v, rfl, ny.int, ha, h1, q v h2⟩
  | tuple xs =>
    cases e <;> first | (simp [idxD] at hr; done) | skip
    obtain ⟨a, _, us, rfl, ha, _, _, _, fa⟩ := (s.rd rw (rdw_rd hd (fun _ z => nomatch z))).tuple
    obtain ⟨v, h1, h2⟩ := atI_fz fa (show ixD xs _ = some res from hr)
    exact .inr (.inl ⟨a, us, _, v, rfl, ny.int, SqT.frz ha, h1, q v h2⟩)
  | dict kvs =>
    obtain ⟨a, us, rfl, ha, _, fa⟩ := (s.rd rw (rdw_rd hd (fun _ z => nomatch z))).dict
    have hr' : (match keyOf e with | some k => lookD k kvs | none => none) = some res := by
      cases e <;> exact hr
    split at hr'
    · rename_i k hk
      obtain ⟨v, h1, h2⟩ := (valV_look k fa).1 res hr'
      refine .inr (.inr ⟨a, v, rfl, ?_, q v h2⟩)
      rw [key_at ny hk, ← h1]
      exact Rd.dget ha
    · cases hr'
  | none => cases e <;> simp [idxD] at hr
  | bool b => cases e <;> simp [idxD] at hr
  | int b => cases e <;> simp [idxD] at hr
  | str b => cases e <;> simp [idxD] at hr

/-! ### slices -/
theorem FzAll.cut {φ : Phi} {H : Hp} {vs : List V} {ds : List PyData} (f : FzAll φ H vs ds) (lo hi : Option Int) : FzAll φ H (cutV vs lo hi) (cutD ds lo hi) := by
  unfold cutV cutD
  rw [f.length]
  exact (f.drop _).take _
theorem cut_whole {α : Type} {xs : List α} {lo hi : Option Int} (h : HT.sIx xs.length 0 lo = 0 ∧ HT.sIx xs.length xs.length hi = xs.length) : cutD xs lo hi = xs := by
  unfold cutD
  rw [h.1, h.2]
  simp
theorem slc_ok : ∃ r, SlR X r ∧ ∀ {φ : Phi} {μ : Store} {H : Hp} {x : V} {d res : PyData} {lo hi : Option Int}, StoR φ μ H → Now φ H x d → slcD d lo hi = some res →
    ∀ (m : Bool) (Q : VK) (xw : XW), Goes (RpW X.K) φ H (fin m res μ) Q xw → r x lo hi H Q := by
  refine ⟨_, (sl_list (X := X)).or sl_tupF, fun {φ μ H x d res lo hi} s nx h m Q xw g => ?_⟩
  cases d with
  | list xs =>
    cases h
    obtain ⟨a, us, rfl, ha, za, fa⟩ := nx.list
    exact .inl ⟨a, us, rfl, .of ha, goes_lst s (fa.cut lo hi) (Nat.le_trans (cutV_length _ _ _) za) g⟩
  | tuple xs =>
    cases h
    obtain ⟨a, oa, us, rfl, ha, da, na, za, fa⟩ := nx.tuple
    refine .inr ⟨a, us, rfl, SqT.frz ha, fun hw => ?_, fun hw => goes_tup s (fa.cut lo hi) (Nat.le_trans (cutV_length _ _ _) za) g⟩
    rw [fa.length] at hw
    rw [cut_whole hw] at g
    exact goes_dat s (.tup ha da na za fa) g
  | none => cases h
  | bool b => cases h
  | int b => cases h
  | str b => cases h
  | dict b => cases h

/-! ### truth -/
theorem tru_rd {K : PySem.W.Frag} {φ : Phi} {H : Hp} {v : V} {d : PyData} {k : Bool} (n : Now φ H v d) (h : truD d = some k) : TruV K v H k := by
  cases d with
  | none => cases h; rw [n.non]; rfl
  | bool b => cases h; rw [n.bl]; rfl
  | int b => cases h; rw [n.int]; rfl
  | str b =>
    rw [n.str]
    have h : (if b.length ≤ sizeLine then some (b.length != 0) else none) = some k := h
    split at h
    · rename_i z
      have e : (b.length != 0) = k := Option.some.inj h
      refine ⟨z, ?_⟩
      rw [← e]
      by_cases q : b.length = 0
      · rw [q]; rfl
      · rw [bne_iff_ne.mpr q, bne_iff_ne.mpr (show ((b.length : Nat) : Int) ≠ 0 by omega)]
    · cases h
  | list b =>
    cases h
    obtain ⟨a, us, rfl, ha, za, fa⟩ := n.list
    exact .inl ⟨us, .of ha, by cases fa <;> rfl⟩
  | tuple b =>
    cases h
    obtain ⟨a, _, us, rfl, ha, _, _, za, fa⟩ := n.tuple
    exact .inr (.inl ⟨us, SqT.frz ha, by cases fa <;> rfl⟩)
  | dict b => cases h

/-! ### built-ins -/
theorem FzAll.bools {φ : Phi} {H : Hp} : ∀ {vs : List V} {ds : List PyData} {bs : List Bool}, FzAll φ H vs ds → boolsOf ds = some bs → vs = bs.map V.bl
  | _, _, _, .nil, h => by cases h; rfl
  | _, _, bs, .cons (d := d) r t, h => by
    cases d <;> first | (simp [boolsOf] at h; done) | skip
    obtain ⟨bs', h1, h2⟩ := Option.map_eq_some_iff.mp (show (boolsOf _).map _ = some bs from h)
    subst h2
    rw [List.map_cons, ← t.bools h1]
    cases r
    rfl
theorem FzAll.ints {φ : Phi} {H : Hp} : ∀ {vs : List V} {ds : List PyData} {bs : List Int}, FzAll φ H vs ds → intsOf ds = some bs → vs = bs.map V.int
  | _, _, _, .nil, h => by cases h; rfl
  | _, _, bs, .cons (d := d) r t, h => by
    cases d <;> first | (simp [intsOf] at h; done) | skip
    obtain ⟨bs', h1, h2⟩ := Option.map_eq_some_iff.mp (show (intsOf _).map _ = some bs from h)
    subst h2
    rw [List.map_cons, ← t.ints h1]
    cases r
    rfl
theorem insI_perm (i : Int) : ∀ l : List Int, (insI i l).Perm (i :: l)
  | [] => .refl _
  | j :: r => by
    unfold insI
    split
    · exact .refl _
    · exact (List.Perm.cons j (insI_perm i r)).trans (List.Perm.swap i j r)
theorem sortI_perm : ∀ l : List Int, (sortI l).Perm l
  | [] => .refl _
  | i :: r => (insI_perm i _).trans (List.Perm.cons i (sortI_perm r))
theorem insI_sorted (i : Int) : ∀ {l : List Int}, l.Pairwise (· ≤ ·) → (insI i l).Pairwise (· ≤ ·)
  | [], _ => by simp [insI]
  | j :: r, h => by
    unfold insI
    split
    · rename_i hij
      refine List.pairwise_cons.mpr ⟨fun a ha => ?_, h⟩
      rcases List.mem_cons.mp ha with e | ha
      · rw [e]; exact hij
      · have := (List.pairwise_cons.mp h).1 a ha
        omega
    · rename_i hij
      refine List.pairwise_cons.mpr ⟨fun a ha => ?_, insI_sorted i (List.pairwise_cons.mp h).2⟩
      have := (insI_perm i r).mem_iff.mp ha
      rcases List.mem_cons.mp this with e | ha
      · omega
      · exact (List.pairwise_cons.mp h).1 a ha
theorem sortI_sorted : ∀ l : List Int, (sortI l).Pairwise (· ≤ ·)
  | [] => .nil
  | i :: r => insI_sorted i (sortI_sorted r)
end
end Dv

/-! Dv3c: built-ins, methods. -/
namespace Dv
open PySem PySem.Spec PyProof.Rows L2

/-! ### argument lists without a star -/
def noStar : List Expr → Bool
  | [] => true
  | .Starred _ _ :: _ => false
  | _ :: es => noStar es
theorem stars_plain : ∀ {es : List Expr} (env : PySem.Env), noStar es = true → starEach es env = es.map fun e => (false, eval e env)
  | [], _, _ => rfl
  | e :: es, env, h => by
    cases e <;> first | (cases h; done) | (show _ :: starEach es env = _; rw [stars_plain (es := es) env h]; rfl)
theorem noStar_tail {e : Expr} {es : List Expr} (h : noStar (e :: es) = true) : noStar es = true := by cases e <;> first | exact h | cases h
theorem stars_cons {e : Expr} {es : List Expr} (env : PySem.Env) (h : noStar (e :: es) = true) : starEach (e :: es) env = (false, eval e env) :: starEach es env := by
  rw [stars_plain env h, stars_plain env (noStar_tail h), List.map_cons]
theorem back_plain (p : Pos) {es : List Expr} (env : PySem.Env) (h : noStar es = true) : backTo p (starEach es env) = es.map fun e => (false, eval e env) := by
  rw [stars_plain env h]
  unfold backTo
  rw [List.map_map]
  rfl
theorem back_any (p : Pos) {es : List Expr} (env : PySem.Env) (h : noStar es = true) : (backTo p (starEach es env)).any (·.1) = false := by
  rw [back_plain p env h]
  induction es with
  | nil => rfl
  | cons e r ih => rw [List.map_cons, List.any_cons, ih (noStar_tail h)]; rfl
theorem back_all (p : Pos) {es : List Expr} (env : PySem.Env) (h : noStar es = true) : (backTo p (starEach es env)).all (fun x => !x.1) = true := by
  rw [back_plain p env h]
  induction es with
  | nil => rfl
  | cons e r ih => rw [List.map_cons, List.all_cons, ih (noStar_tail h)]; rfl

section
variable {X : Cx}
/-- what must be known of a receiver -/
def TyQ (X : Cx) (T : String) (q : V → Hp → Prop) : Prop := ∀ (pins : List (Addr × Obj)) (s : Shared) (σ : L2.St) (H : Hp) (x : V) (v : Value), Inv X pins σ H s → RelV x v → q x H →
  s.TypeIs v T ∧ ∀ a, v = .ref a → ∃ ob, s.heap.get? a = some ob ∧ ob.dict = none
theorem tyq_list : TyQ X "list" (fun x H => ∃ a xs, x = .ref a ∧ SqL X.K H a xs) := fun pins s σ H x v I r h => by
  obtain ⟨a, xs, rfl, h⟩ := h
  exact tyV_is I r (.inl ⟨rfl, xs, h⟩)
theorem tyq_str : TyQ X "str" (fun x H => ∃ a, x = .str a) := fun pins s σ H x v I r h => by
  obtain ⟨a, rfl⟩ := h
  exact tyV_is I r rfl
theorem tyq_dict : TyQ X "dict" (fun x H => ∃ a kvs, x = .ref a ∧ Rd H a (.dK kvs)) := fun pins s σ H x v I r h => by
  obtain ⟨a, kvs, rfl, h⟩ := h
  cases r
  obtain ⟨h1, h2, _⟩ := isD_at I (.inl ⟨kvs, h⟩)
  exact ⟨h1, h2⟩
variable {o e : Expr} {es : List Expr} {to : TE} {t : TA} {name : Str} {apos cpos : Pos} {T id : String} {q : V → Hp → Prop} {r : V → List V → Hp → VK → Prop}
def tMt (q : V → Hp → Prop) (r : V → List V → Hp → VK → Prop) (to : TE) (t : TA) : TE := fun σ H Q => to σ H fun x H1 => q x H1 ∧ t σ H1 fun xs H2 => r x xs H2 Q
theorem pe_mt0 (pa : PlainAttrs T) (slot : Slot T name id) (hty : typeOf (.builtin id) = pure (.type "method_descriptor")) (hq : TyQ X T q) (hm : MtR X id r) (ho : PE X o to)
    (hbase : attributeBase o name X.env (eval o X.env) = eval o X.env) (hline : (apos.endLine == cpos.line) = true) : PE X (.Call (.Attribute o name apos) [] [] cpos) (tMt q r to tNil) := by
  constructor
  intro pins s σ H Q I h
  apply wpAny_Call_method0_late hbase hline
  refine thn (ho.run pins s σ H _ I h) ?_
  rintro v s1 ⟨x, H1, I1, r1, ty, q1⟩
  have tt := hq pins s1 σ H1 x v I1 r1 ty
  refine ⟨T, id, pa, slot, hty, tt.1, tt.2, ?_⟩
  exact Calls.callWith_builtin rfl (PySem.evalArgs_none (hm pins s1 σ H1 x [] v [] Q I1 r1 .nil q1))
theorem pe_mtN (pa : PlainAttrs T) (slot : Slot T name id) (hty : typeOf (.builtin id) = pure (.type "method_descriptor")) (hq : TyQ X T q) (hm : MtR X id r) (ho : PE X o to) (ha : PA X (e :: es) t)
    (hs : noStar (e :: es) = true) (hl : (e :: es).length < 20) (hbase : attributeBase o name X.env (eval o X.env) = eval o X.env) (hline : (apos.endLine == cpos.line) = true) :
    PE X (.Call (.Attribute o name apos) (e :: es) [] cpos) (tMt q r to t) := by
  constructor
  intro pins s σ H Q I h
  have few : ((backTo cpos (starEach (e :: es) X.env)).all (fun x => !x.1) && (backToKw cpos (keywordEach [] X.env)).all (fun x => x.1.isSome) && decide ((e :: es).length + ([] : List Keyword).length + (if ([] : List Keyword).isEmpty then 0 else 1) < 30)) = true := by
    rw [back_all cpos X.env hs]
    show (true && true && decide _) = true
    simp only [Bool.true_and, decide_eq_true_eq]
    show (e :: es).length + 0 + 0 < 30
    omega
  apply wpAny_Call_method_late hbase few hline rfl
  refine thn (ho.run pins s σ H _ I h) ?_
  rintro v s1 ⟨x, H1, I1, r1, ty, q1⟩
  have tt := hq pins s1 σ H1 x v I1 r1 ty
  refine ⟨T, id, pa, slot, hty, tt.1, tt.2, ?_⟩
  have hA := ha.run cpos pins s1 σ H1 _ I1 q1
  have hB := back_any cpos X.env hs
  rw [stars_cons X.env hs] at hA hB ⊢
  refine Calls.callWith_builtin hB (Calls.evalArgs_plain (thn hA ?_))
  rintro us s2 ⟨vs, H2, I2, r2, q2⟩
  exact hm pins s2 σ H2 x vs v us Q I2 r1 r2 q2
end

/-! ### built-ins -/
def bltVal : Blt → Value
  | .len => .builtin "len" | .all => .builtin "all" | .any => .builtin "any" | .max2 => .builtin "max" | .min2 => .builtin "min" | .min1 => .builtin "min" | .sorted => .builtin "sorted"
  | .int => .type "int" | .str => .type "str" | .tuple => .type "tuple" | .list => .type "list" | .dict => .type "dict"
inductive NowAll (φ : Phi) (H : Hp) : List V → List PyData → Prop
  | nil : NowAll φ H [] []
  | cons {v : V} {d : PyData} {vs : List V} {ds : List PyData} : Now φ H v d → NowAll φ H vs ds → NowAll φ H (v :: vs) (d :: ds)
theorem rds_now {K : PySem.W.Frag} {φ : Phi} {μ : Store} {H : Hp} (s : StoR φ μ H) : ∀ {ws : List W} {vs : List V} {ds : List PyData}, RpAll K φ H ws vs → rds μ ws = some ds → NowAll φ H vs ds
  | _, _, _, .nil, h => by cases h; exact .nil
  | _, _, _, .cons (w := w) (ws := ws) r t, h => by
    unfold rds at h
    split at h
    · rename_i d ds h1 h2
      cases h
      exact .cons (s.rd r h1) (rds_now s t h2)
    · cases h
section
variable {X : Cx}
theorem len_dict : CallR X (.builtin "len") (fun xs H Q => ∃ a kvs, xs = [V.ref a] ∧ Rd H a (.dK kvs) ∧ Q (.int kvs.length) H) := by
  intro pins s σ H xs us Q I r h
  obtain ⟨a, kvs, rfl, hd, q⟩ := h
  obtain ⟨u, rfl, rfl⟩ := vals1 r
  exact d_len I hd fun t s' I' => ⟨.int kvs.length, H, I', ⟨t, rfl⟩, q⟩
theorem str_data (hu : X.A.units + 100 < cLine) (hg : X.A.guards = some []) : CallR X (.type "str") (fun xs H Q => ∃ a d, xs = [V.ref a] ∧ Dp X.K H (.ref a) d ∧ d.showable = true ∧ d.hasDict = false ∧ d.depth ≤ 60 ∧ d.shown.length ≤ sizeLine ∧ Q (.str d.shown) H) := by
  intro pins s σ H xs us Q I r h
  obtain ⟨a, d, rfl, hd, h1, h2, h3, h4, q⟩ := h
  obtain ⟨u, rfl, rfl⟩ := vals1 r
  obtain ⟨as, hr⟩ := Dp.reads I d (.ref a) (.ref a) hd rfl
  refine str_of_reads hr h1 (PyData.noDict_hsm h2) hg (by omega) (fun _ _ e => e) (fun h' u tk hk => ?_) h4
  exact ⟨.str d.shown, H, I.kept (t' := tk) hk, ⟨u, rfl⟩, q⟩

theorem FzKv.pushed {φ : Phi} {H : Hp} {v : V} {d : PyData} (k : Key) (h : Fz φ H v d) : ∀ {kvs : List (Key × V)} {kds : List (PyData × PyData)}, FzKv φ H kvs kds → FzKv φ H (kvs ++ [(k, v)]) (kds ++ [(kD k, d)])
  | _, _, .nil => .cons h .nil
  | _, _, .cons r t => .cons r (FzKv.pushed k h t)
theorem keyOf_kD (k : Key) : keyOf (kD k) = some k := by cases k <;> rfl
theorem FzKv.mapped {φ : Phi} {H : Hp} {v : V} {d : PyData} (k : Key) (h : Fz φ H v d) : ∀ {kvs : List (Key × V)} {kds : List (PyData × PyData)}, FzKv φ H kvs kds →
    FzKv φ H (kvs.map fun kv => if kv.1 = k then (kv.1, v) else kv) (kds.map fun kv => if keyOf kv.1 = some k then (kv.1, d) else kv)
  | _, _, .nil => .nil
  | _, _, .cons (k := j) r t => by
    rw [List.map_cons, List.map_cons]
    simp only [keyOf_kD]
    by_cases e : j = k
    · subst e
      rw [if_pos rfl, if_pos rfl]
      exact .cons h (FzKv.mapped j h t)
    · rw [if_neg e, if_neg (fun z => e (Option.some.inj z))]
      exact .cons r (FzKv.mapped k h t)
theorem FzKv.anyK {φ : Phi} {H : Hp} (k : Key) : ∀ {kvs : List (Key × V)} {kds : List (PyData × PyData)}, FzKv φ H kvs kds → (kvs.any fun kv => decide (kv.1 = k)) = (kds.any fun kv => decide (keyOf kv.1 = some k))
  | _, _, .nil => rfl
  | _, _, .cons (k := j) r t => by
    rw [List.any_cons, List.any_cons, FzKv.anyK k t]
    simp only [keyOf_kD, Option.some.injEq]
theorem FzKv.put {φ : Phi} {H : Hp} {v : V} {d : PyData} (k : Key) (h : Fz φ H v d) {kvs : List (Key × V)} {kds : List (PyData × PyData)} (f : FzKv φ H kvs kds) : FzKv φ H (putK kvs k v) (putD k d kds) := by
  unfold putK putD
  rw [f.anyK k]
  split
  · exact f.mapped k h
  · exact f.pushed k h
theorem FzKv.length {φ : Phi} {H : Hp} : ∀ {kvs : List (Key × V)} {kds : List (PyData × PyData)}, FzKv φ H kvs kds → kvs.length = kds.length
  | _, _, .nil => rfl
  | _, _, .cons r t => by rw [List.length_cons, List.length_cons, FzKv.length t]
/-- the pairs that dict() is given -/
theorem pairs_ok {K : PySem.W.Frag} {φ : Phi} {H : Hp} : ∀ {vs : List V} {ds : List PyData} {ps : List (Key × PyData)}, FzAll φ H vs ds → pairsOf ds = some ps →
    ∃ (as : List Addr) (kvs : List (Key × V)), vs = as.map V.ref ∧ Paired (fun p kv => SqT K H p [kV kv.1, kv.2]) as kvs ∧ as.length = vs.length ∧
      ∀ acc acc', FzKv φ H acc acc' → FzKv φ H (mergeK acc kvs) (ps.foldl (fun acc kv => putD kv.1 kv.2 acc) acc')
  | _, _, _, .nil, h => by
    cases h
    exact ⟨[], [], rfl, .nil, rfl, fun _ _ f => f⟩
  | _, _, ps, .cons (v := v) (d := d) (ds := ds) r t, h => by
    cases d <;> first | (simp [pairsOf] at h; done) | skip
    rename_i xs
    match xs, h, r with
    | [kd, vd], h, r =>
      have h : (match keyOf kd, pairsOf ds with | some k, some ps => some ((k, vd) :: ps) | _, _ => none) = some ps := h
      split at h
      · rename_i k ps' hk hp
        cases h
        obtain ⟨as, kvs, e1, e2, e3, e4⟩ := pairs_ok t hp
        obtain ⟨a, _, us, rfl, ha, _, _, _, f⟩ := Now.tuple (.inl r)
        obtain ⟨kv, f1, rk⟩ := f.get (i := 0) rfl
        obtain ⟨vv, f2, rv⟩ := f.get (i := 1) rfl
        have fl := f.length
        obtain rfl : us = [kv, vv] := by
          match us, f1, f2, fl with
          | [x, y], f1, f2, _ =>
            cases f1
            cases f2
            rfl
        obtain rfl : kv = kV k := key_at (.inl rk) hk
        refine ⟨a :: as, (k, vv) :: kvs, by rw [e1]; rfl, .cons (SqT.frz ha) e2, by simp [e3], fun acc acc' fa => ?_⟩
        exact e4 _ _ (fa.put k rv)
      · cases h
    | [], h, _ => cases h
    | [_], h, _ => cases h
    | _ :: _ :: _ :: _, h, _ => cases h

/-- a call of a built-in, by values -/
def BltOk (X : Cx) (f : Blt) : Prop := ∃ r : List V → Hp → VK → Prop, CallR X (bltVal f) r ∧ ∀ {φ : Phi} {μ : Store} {H : Hp} {vs : List V} {ds : List PyData} {res : PyData}, StoR φ μ H → NowAll φ H vs ds → bltD f ds = some res →
  ∀ (m : Bool) (Q : VK) (xw : XW), Goes (RpW X.K) φ H (fin m res μ) Q xw → r vs H Q
theorem now1 {φ : Phi} {H : Hp} {vs : List V} {d : PyData} (n : NowAll φ H vs [d]) : ∃ v, vs = [v] ∧ Now φ H v d := by
  cases n with
  | cons h t => cases t; exact ⟨_, rfl, h⟩
theorem now2 {φ : Phi} {H : Hp} {vs : List V} {d e : PyData} (n : NowAll φ H vs [d, e]) : ∃ v w, vs = [v, w] ∧ Now φ H v d ∧ Now φ H w e := by
  cases n with
  | cons h t =>
    cases t with
    | cons h2 t => cases t; exact ⟨_, _, rfl, h, h2⟩
/-- one argument -/
theorem one_of {f : Blt} {ds : List PyData} {res : PyData} (h : bltD f ds = some res) (hf : ∀ d e r, bltD f (d :: e :: r) = none) (h0 : bltD f [] = none) : ∃ d, ds = [d] := by
  match ds, h with
  | [], h => rw [h0] at h; cases h
  | [d], _ => exact ⟨d, rfl⟩
  | d :: e :: r, h => rw [hf] at h; cases h
theorem blt_len : BltOk X .len := by
  refine ⟨_, ((call_len_seq (X := X)).or call_len_str).or len_dict, fun {φ μ H vs ds res} s n h m Q xw g => ?_⟩
  obtain ⟨d, rfl⟩ := one_of h (fun d e r => by cases d <;> rfl) rfl
  obtain ⟨v, rfl, nv⟩ := now1 n
  cases d with
  | str x =>
    have h : (if x.length ≤ sizeLine then some (PyData.int x.length) else none) = some res := h
    split at h
    · rename_i z
      cases h
      exact .inl (.inr ⟨x, by rw [nv.str], z, goes_int s g⟩)
    · cases h
  | list xs =>
    cases h
    obtain ⟨a, us, rfl, ha, _, fa⟩ := nv.list
    exact .inl (.inl ⟨a, us, rfl, .inl (.of ha), by rw [fa.length]; exact goes_int s g⟩)
  | tuple xs =>
    cases h
    obtain ⟨a, _, us, rfl, ha, _, _, _, fa⟩ := nv.tuple
    exact .inl (.inl ⟨a, us, rfl, .inr (SqT.frz ha), by rw [fa.length]; exact goes_int s g⟩)
  | dict xs =>
    cases h
    obtain ⟨a, us, rfl, ha, _, fa⟩ := nv.dict
    exact .inr ⟨a, us, rfl, ha, by rw [fa.length]; exact goes_int s g⟩
  | none => cases h
  | bool b => cases h
  | int b => cases h
theorem blt_all (hc : X.calm = true) : BltOk X .all := by
  refine ⟨_, cr_all hc, fun {φ μ H vs ds res} s n h m Q xw g => ?_⟩
  obtain ⟨d, rfl⟩ := one_of h (fun d e r => by cases d <;> rfl) rfl
  obtain ⟨v, rfl, nv⟩ := now1 n
  cases d <;> first | (cases h; done) | skip
  obtain ⟨bs, h1, h2⟩ := Option.map_eq_some_iff.mp (show (boolsOf _).map (fun bs => PyData.bool (bs.all id)) = some res from h)
  subst h2
  obtain ⟨a, us, rfl, ha, _, fa⟩ := nv.list
  exact ⟨a, bs, rfl, by rw [← fa.bools h1]; exact .of ha, goes_bl s g⟩
theorem blt_any (hc : X.calm = true) : BltOk X .any := by
  refine ⟨_, cr_any hc, fun {φ μ H vs ds res} s n h m Q xw g => ?_⟩
  obtain ⟨d, rfl⟩ := one_of h (fun d e r => by cases d <;> rfl) rfl
  obtain ⟨v, rfl, nv⟩ := now1 n
  cases d <;> first | (cases h; done) | skip
  obtain ⟨bs, h1, h2⟩ := Option.map_eq_some_iff.mp (show (boolsOf _).map (fun bs => PyData.bool (bs.any id)) = some res from h)
  subst h2
  obtain ⟨a, us, rfl, ha, _, fa⟩ := nv.list
  exact ⟨a, bs, rfl, by rw [← fa.bools h1]; exact .of ha, goes_bl s g⟩
theorem two_of {f : Blt} {ds : List PyData} {res : PyData} (h : bltD f ds = some res) (h0 : bltD f [] = none) (h1 : ∀ d, bltD f [d] = none) (h3 : ∀ d e g r, bltD f (d :: e :: g :: r) = none) : ∃ d e, ds = [d, e] := by
  match ds, h with
  | [], h => rw [h0] at h; cases h
  | [d], h => rw [h1] at h; cases h
  | [d, e], _ => exact ⟨d, e, rfl⟩
  | d :: e :: g :: r, h => rw [h3] at h; cases h
theorem blt_max2 (hc : X.calm = true) : BltOk X .max2 := by
  refine ⟨_, call_max2 hc, fun {φ μ H vs ds res} s n h m Q xw g => ?_⟩
  obtain ⟨d, e, rfl⟩ := two_of h rfl (fun d => by cases d <;> rfl) (fun d e g r => by cases d <;> cases e <;> rfl)
  obtain ⟨v, w, rfl, n1, n2⟩ := now2 n
  cases d <;> cases e <;> first | (cases h; done) | skip
  rename_i i j
  have h : some (PyData.int (if j > i then j else i)) = some res := h
  cases h
  exact ⟨i, j, by rw [n1.int, n2.int], goes_int s g⟩
theorem blt_min2 (hc : X.calm = true) : BltOk X .min2 := by
  refine ⟨_, call_min2 hc, fun {φ μ H vs ds res} s n h m Q xw g => ?_⟩
  obtain ⟨d, e, rfl⟩ := two_of h rfl (fun d => by cases d <;> rfl) (fun d e g r => by cases d <;> cases e <;> rfl)
  obtain ⟨v, w, rfl, n1, n2⟩ := now2 n
  cases d <;> cases e <;> first | (cases h; done) | skip
  rename_i i j
  have h : some (PyData.int (if j < i then j else i)) = some res := h
  cases h
  exact ⟨i, j, by rw [n1.int, n2.int], goes_int s g⟩
theorem blt_int : BltOk X .int := by
  refine ⟨_, call_int1, fun {φ μ H vs ds res} s n h m Q xw g => ?_⟩
  obtain ⟨d, rfl⟩ := one_of h (fun d e r => by cases d <;> rfl) rfl
  obtain ⟨v, rfl, nv⟩ := now1 n
  cases d <;> first | (cases h; done) | skip
  case bool b =>
    have h : some (PyData.int (if b then 1 else 0)) = some res := h
    cases h
    exact .inr ⟨b, by rw [nv.bl], goes_int s g⟩
  case int i =>
    cases h
    exact .inl ⟨i, by rw [nv.int], goes_int s g⟩
theorem blt_str (hu : X.A.units + 100 < cLine) (hg : X.A.guards = some []) : BltOk X .str := by
  refine ⟨_, (call_str_int (X := X)).or (str_data hu hg), fun {φ μ H vs ds res} s n h m Q xw g => ?_⟩
  obtain ⟨d, rfl⟩ := one_of h (fun d e r => by cases d <;> rfl) rfl
  obtain ⟨v, rfl, nv⟩ := now1 n
  obtain ⟨x, h1, h2⟩ := Option.map_eq_some_iff.mp (show (strD d).map PyData.str = some res from h)
  subst h2
  cases d <;> first | (cases h1; done) | skip
  case int i =>
    simp only [strD] at h1
    split at h1
    · rename_i z
      cases h1
      exact .inl ⟨i, by rw [nv.int], z, goes_str s g⟩
    · cases h1
  case list xs =>
    simp only [strD] at h1
    split at h1
    · rename_i z
      cases h1
      simp only [shOk, Bool.and_eq_true, decide_eq_true_eq, Bool.not_eq_true'] at z
      obtain ⟨⟨⟨z1, z2⟩, z3⟩, z4⟩ := z
      have hd := nv.dp (K := X.K) z2
      obtain ⟨a, us, rfl, _⟩ := nv.list
      exact .inr ⟨a, _, rfl, hd, z1, z2, z4, z3, goes_str s g⟩
    · cases h1
  case tuple xs =>
    simp only [strD] at h1
    split at h1
    · rename_i z
      cases h1
      simp only [shOk, Bool.and_eq_true, decide_eq_true_eq, Bool.not_eq_true'] at z
      obtain ⟨⟨⟨z1, z2⟩, z3⟩, z4⟩ := z
      have hd := nv.dp (K := X.K) z2
      obtain ⟨a, _, us, rfl, _⟩ := nv.tuple
      exact .inr ⟨a, _, rfl, hd, z1, z2, z4, z3, goes_str s g⟩
    · cases h1
theorem blt_tuple : BltOk X .tuple := by
  refine ⟨_, call_tupF, fun {φ μ H vs ds res} s n h m Q xw g => ?_⟩
  obtain ⟨d, rfl⟩ := one_of h (fun d e r => by cases d <;> rfl) rfl
  obtain ⟨v, rfl, nv⟩ := now1 n
  cases d <;> first | (cases h; done) | skip
  case list xs =>
    cases h
    obtain ⟨a, us, rfl, ha, za, fa⟩ := nv.list
    exact ⟨a, us, rfl, .inl ⟨.of ha, goes_tup s fa za g⟩⟩
  case tuple xs =>
    cases h
    obtain ⟨a, oa, us, rfl, ha, da, na, za, fa⟩ := nv.tuple
    exact ⟨a, us, rfl, .inr ⟨SqT.frz ha, goes_dat s (.tup ha da na za fa) g⟩⟩
theorem blt_list : BltOk X .list := by
  refine ⟨_, call_list_of, fun {φ μ H vs ds res} s n h m Q xw g => ?_⟩
  obtain ⟨d, rfl⟩ := one_of h (fun d e r => by cases d <;> rfl) rfl
  obtain ⟨v, rfl, nv⟩ := now1 n
  cases d <;> first | (cases h; done) | skip
  case list xs =>
    cases h
    obtain ⟨a, us, rfl, ha, za, fa⟩ := nv.list
    exact ⟨a, us, rfl, .inl (.of ha), goes_lst s fa za g⟩
  case tuple xs =>
    cases h
    obtain ⟨a, _, us, rfl, ha, _, na, za, fa⟩ := nv.tuple
    exact ⟨a, us, rfl, .inr (SqT.frz ha), goes_lst s fa za g⟩
theorem insI_of_le {i j : Int} {r : List Int} (h : i ≤ j) : insI i (j :: r) = i :: j :: r := by unfold insI; rw [if_pos h]
theorem sorted_uniq : ∀ {l m : List Int}, l.Perm m → l.Pairwise (· ≤ ·) → m.Pairwise (· ≤ ·) → l = m
  | [], m, p, _, _ => p.nil_eq
  | a :: l, [], p, _, _ => absurd p.symm.nil_eq (by simp)
  | a :: l, b :: m, p, hl, hm => by
    have ha : a ∈ b :: m := p.mem_iff.mp List.mem_cons_self
    have hb : b ∈ a :: l := p.mem_iff.mpr List.mem_cons_self
    have e : a = b := by
      rcases List.mem_cons.mp ha with e | ha
      · exact e
      · rcases List.mem_cons.mp hb with e | hb
        · exact e.symm
        · have h1 := (List.pairwise_cons.mp hm).1 a ha
          have h2 := (List.pairwise_cons.mp hl).1 b hb
          omega
    subst e
    rw [sorted_uniq (List.Perm.cons_inv p) (List.pairwise_cons.mp hl).2 (List.pairwise_cons.mp hm).2]
theorem blt_sorted : BltOk X .sorted := by
  refine ⟨_, cr_sortedI, fun {φ μ H vs ds res} s n h m Q xw g => ?_⟩
  obtain ⟨d, rfl⟩ := one_of h (fun d e r => by cases d <;> rfl) rfl
  obtain ⟨v, rfl, nv⟩ := now1 n
  cases d <;> first | (cases h; done) | skip
  case list xs =>
    obtain ⟨ns, h1, h2⟩ := Option.map_eq_some_iff.mp (show (intsOf xs).map (fun ns => PyData.list ((sortI ns).map .int)) = some res from h)
    subst h2
    obtain ⟨a, us, rfl, ha, za, fa⟩ := nv.list
    have e := fa.ints h1
    refine ⟨a, ns, rfl, by rw [← e]; exact .of ha, fun ns' p hp hs hn => ?_⟩
    have : ns' = sortI ns := sorted_uniq (hp.trans (sortI_perm ns).symm) hs (sortI_sorted ns)
    subst this
    refine goes_lst s (fz_ints _) ?_ g p hn
    rw [List.length_map, (sortI_perm ns).length_eq]
    rw [e, List.length_map] at za
    exact za
theorem blt_dict (hc : X.calm = true) : BltOk X .dict := by
  refine ⟨_, (call_dictP hc).or (call_dictT hc), fun {φ μ H vs ds res} s n h m Q xw g => ?_⟩
  obtain ⟨d, rfl⟩ := one_of h (fun d e r => by cases d <;> rfl) rfl
  obtain ⟨v, rfl, nv⟩ := now1 n
  have fin : ∀ {xs : List PyData} {us : List V} {as : List Addr} {kvs : List (Key × V)} {ps : List (Key × PyData)}, us.length ≤ sizeLine → as.length = us.length → Paired (fun p kv => SqT X.K H p [kV kv.1, kv.2]) as kvs →
      (∀ acc acc', FzKv φ H acc acc' → FzKv φ H (mergeK acc kvs) (ps.foldl (fun acc kv => putD kv.1 kv.2 acc) acc')) → .dict (dictOf ps) = res → ∀ p, H p = none → Q (.ref p) (upd H p (.dK (mergeK [] kvs))) := fun {xs us as kvs ps} z1 z2 pr f e => by
    subst e
    have f0 := f [] [] .nil
    refine goes_dct s f0 ?_ g
    have z3 := length_mergeK kvs []
    have z4 := Paired.length pr
    simp only [List.length_nil, Nat.zero_add] at z3
    omega
  cases d <;> first | (cases h; done) | skip
  case list xs =>
    obtain ⟨ps, h1, h2⟩ := Option.map_eq_some_iff.mp (show (pairsOf xs).map (fun ps => PyData.dict (dictOf ps)) = some res from h)
    obtain ⟨a, us, rfl, ha, za, fa⟩ := nv.list
    obtain ⟨as, kvs, e1, e2, e3, e4⟩ := pairs_ok (K := X.K) fa h1
    subst e1
    exact .inl ⟨a, as, kvs, rfl, .of ha, e2, fin (xs := xs) za e3 e2 e4 h2⟩
  case tuple xs =>
    obtain ⟨ps, h1, h2⟩ := Option.map_eq_some_iff.mp (show (pairsOf xs).map (fun ps => PyData.dict (dictOf ps)) = some res from h)
    obtain ⟨a, oa, us, rfl, ha, da, na, za, fa⟩ := nv.tuple
    obtain ⟨as, kvs, e1, e2, e3, e4⟩ := pairs_ok (K := X.K) fa h1
    subst e1
    exact .inr ⟨a, oa, as, kvs, rfl, ha, da, e2, fin (xs := xs) za e3 e2 e4 h2⟩
end
end Dv

/-! Dv3d: values let go as data, isinstance, methods. -/
namespace Dv
open PySem PySem.Spec PyProof.Rows L2

theorem set_none_out {φ : Phi} {n : Nat} {a : Addr} (nd : ∀ (i j : Nat) (a : Addr), φ[i]? = some (some a) → φ[j]? = some (some a) → i = j) (h : φ[n]? = some (some a)) : some a ∉ φ.set n none := fun m => by
  obtain ⟨i, hi, hx⟩ := mem_set_none m
  exact hi (nd i n a hx h)
theorem dats_ok {K : PySem.W.Frag} {H : Hp} : ∀ {ws : List W} {vs : List V} {φ : Phi} {μ μ' : Store} {ds : List PyData}, StoR φ μ H → RpAll K φ H ws vs → dats ws μ = some (ds, μ') → ∃ φ', Ext φ H φ' H ∧ StoR φ' μ' H ∧ FzAll φ' H vs ds
  | _, _, φ, _, _, _, s, .nil, h => by
    cases h
    exact ⟨φ, .refl, s, .nil⟩
  | _, _, φ, μ, μ', ds, s, .cons (w := w) (v := v) (ws := ws) (vs := vs) r t, h => by
    have freed : ∀ {n : Nat} {d : PyData}, w = .ref n → (∃ a, φ[n]? = some (some a) ∧ v = .ref a ∧ Fz (φ.set n none) H v d) → (dats ws (μ.set n .gone)).map (fun (p : List PyData × Store) => (d :: p.1, p.2)) = some (ds, μ') →
        ∃ φ', Ext φ H φ' H ∧ StoR φ' μ' H ∧ FzAll φ' H (v :: vs) ds := fun {n d} ew ⟨a, h1, h2, h3⟩ hm => by
      obtain ⟨p, e1, e2⟩ := Option.map_eq_some_iff.mp hm
      obtain ⟨ds', μ2⟩ := p
      cases e2
      have e : Ext φ H (φ.set n none) H := Ext.free
      obtain ⟨φ', x1, x2, x3⟩ := dats_ok (s.free (n := n)) (e.rpAll t) e1
      exact ⟨φ', e.trans x1, x2, .cons (x1.fz h3) x3⟩
    cases w with
    | dat d =>
      have h : (dats ws μ).map (fun (p : List PyData × Store) => (d :: p.1, p.2)) = some (ds, μ') := h
      obtain ⟨p, e1, e2⟩ := Option.map_eq_some_iff.mp h
      obtain ⟨ds', μ2⟩ := p
      cases e2
      obtain ⟨φ', x1, x2, x3⟩ := dats_ok s t e1
      exact ⟨φ', x1, x2, .cons (x1.fz r) x3⟩
    | ref n =>
      unfold dats at h
      split at h
      · rename_i xs hn
        rcases s.live n _ hn with ⟨a, h1, us, h2, h3, h4⟩ | z
        · have e : Ext φ H (φ.set n none) H := Ext.free
          refine freed (d := .list xs) rfl ⟨a, h1, r.2 a h1, ?_⟩ h
          rw [r.2 a h1]
          exact .lst h2 (set_none_out s.nd h1) h3 (e.fzAll h4)
        · cases z
      · rename_i xs hn
        rcases s.live n _ hn with ⟨a, h1, us, h2, h3, h4⟩ | z
        · have e : Ext φ H (φ.set n none) H := Ext.free
          refine freed (d := .dict xs) rfl ⟨a, h1, r.2 a h1, ?_⟩ h
          rw [r.2 a h1]
          exact .dct (.inl h2) (set_none_out s.nd h1) h3 (e.fzKv h4)
        · cases z
      · cases h
    | scr ns => cases h

section
variable {X : Cx}
/-! ### isinstance -/
def tyN : PyData → String
  | .none => "NoneType" | .bool _ => "bool" | .int _ => "int" | .str _ => "str" | .list _ => "list" | .tuple _ => "tuple" | .dict _ => "dict"
theorem ty_ok {K : PySem.W.Frag} {φ : Phi} {H : Hp} {v : V} {d : PyData} (n : Now φ H v d) : TyX K H v (.type (tyN d)) := by
  cases d with
  | none => rw [n.non]; exact .base .non
  | bool b => rw [n.bl]; exact .base (.bl b)
  | int b => rw [n.int]; exact .base (.int b)
  | str b => rw [n.str]; exact .base (.str b)
  | list b => obtain ⟨a, us, rfl, ha, _⟩ := n.list; exact .base (.lst ha)
  | tuple b => obtain ⟨a, ob, us, rfl, ha, _⟩ := n.tuple; exact .fTuple ha
  | dict b =>
    obtain ⟨a, us, rfl, ha, _⟩ := n.dict
    rcases ha with ha | ⟨ob, ha⟩
    · exact .base (.dK ha)
    · exact .fDict ha
theorem isi_ok {φ : Phi} {H : Hp} {v : V} {d : PyData} {t : String} {b : Bool} (n : Now φ H v d) (h : isiD d t = some b) (Q : VK) (q : Q (.bl b) H) : rIsi X.K [v, .ty t] H Q := by
  refine ⟨v, .ty t, _, _, b, rfl, .ty t, ty_ok n, kit_ty ?_, q⟩
  cases d <;> exact h

/-! ### methods -/
def mthNm : Mth → Str
  | .append => "append" | .pop0 => "pop" | .pop1 => "pop" | .get1 => "get" | .get2 => "get" | .index => "index" | .count => "count" | .join => "join" | .split => "split" | .partition => "partition" | .upper => "upper" | .replace => "replace"
def MthOk (X : Cx) (f : Mth) : Prop := ∃ (T id : String) (q : V → Hp → Prop) (r : V → List V → Hp → VK → Prop), PlainAttrs T ∧ Slot T (mthNm f) id ∧ typeOf (.builtin id) = pure (.type "method_descriptor") ∧ TyQ X T q ∧ MtR X id r ∧
  (∀ {φ : Phi} {μ : Store} {H : Hp} {w : W} {v : V}, StoR φ μ H → RpW X.K φ H w v → mthPre f w μ = true → q v H) ∧
  ∀ {φ : Phi} {μ : Store} {H : Hp} {w : W} {v : V} {ws : List W} {vs : List V}, StoR φ μ H → RpW X.K φ H w v → RpAll X.K φ H ws vs →
    ∀ (m : Bool) (Q : VK) (xw : XW), Goes (RpW X.K) φ H (mthW m f w ws μ) Q xw → r v vs H Q
theorem pre_list {f : Mth} {K : PySem.W.Frag} {φ : Phi} {μ : Store} {H : Hp} {w : W} {v : V} (s : StoR φ μ H) (r : RpW K φ H w v) (h : ∃ ds, rd μ w = some (.list ds)) : ∃ a xs, v = .ref a ∧ SqL K H a xs := by
  obtain ⟨ds, h⟩ := h
  obtain ⟨a, us, e, ha, _⟩ := (s.rd r h).list
  exact ⟨a, us, e, .of ha⟩
theorem one_rp {K : PySem.W.Frag} {φ : Phi} {H : Hp} {w : W} {vs : List V} (r : RpAll K φ H [w] vs) : ∃ v, vs = [v] ∧ RpW K φ H w v := by
  cases r with
  | cons h t => cases t; exact ⟨_, rfl, h⟩
theorem live_list {K : PySem.W.Frag} {φ : Phi} {μ : Store} {H : Hp} {n : Nat} {v : V} {ds : List PyData} (s : StoR φ μ H) (r : RpW K φ H (.ref n) v) (h : μ[n]? = some (.lst ds)) : ∃ a xs, v = .ref a ∧ φ[n]? = some (some a) ∧ H a = some (.lst xs) ∧ xs.length ≤ sizeLine ∧ FzAll φ H xs ds := by
  rcases s.live n _ h with ⟨a, h1, us, h2, h3, h4⟩ | z
  · exact ⟨a, us, r.2 a h1, h1, h2, h3, h4⟩
  · cases z
theorem mth_append : MthOk X .append := by
  refine ⟨"list", "list.append", _, _, PySem.F.plainAttrs_list, PySem.F.slot_list_append, PySem.F.type_list_append, tyq_list, mt_append, fun {φ μ H w v} s r h => ?_, fun {φ μ H w v ws vs} s r rs m Q xw g => ?_⟩
  · refine pre_list (f := .append) s r ?_
    unfold mthPre at h
    split at h <;> first | (cases h; done) | skip
    all_goals first | (rename_i e; exact ⟨_, e⟩) | (rename_i e1 e2; cases e1)
  · have g : Goes (RpW X.K) φ H (mAppend w ws μ) Q xw := g
    unfold mAppend at g
    split at g
    · rename_i n x
      split at g
      · rename_i d μ1 hd
        split at g
        · rename_i ds hn
          split at g
          · rename_i hz
            obtain ⟨y, rfl, ry⟩ := one_rp rs
            obtain ⟨φ1, e1, s1, f1⟩ := dats_ok s rs hd
            cases f1 with
            | cons fy ft =>
              obtain ⟨a, us, rfl, h1, h2, h3, h4⟩ := live_list s1 (e1.rp r) hn
              refine ⟨a, us, y, rfl, rfl, h2, by rw [h4.length]; exact hz, ?_⟩
              have e2 : Ext φ1 H φ1 (upd H a (.lst (us ++ [y]))) := Ext.set s1 h1
              refine g φ1 .non _ (e1.trans e2) (s1.set h1 ⟨_, upd_same, ?_, (e2.fzAll h4).append (.cons (e2.fz fy) .nil)⟩) .non
              rw [List.length_append, h4.length]
              show ds.length + 1 ≤ sizeLine
              omega
          · exact g.elim
        · exact g.elim
      · exact g.elim
    · exact g.elim
theorem ixN_seqI {n : Nat} {i : Int} {k : Nat} (h : ixN n i = some k) : seqIndex? i n = some k := (ixN_seq h).1
theorem FzAll.last {φ : Phi} {H : Hp} {vs : List V} {ds : List PyData} (f : FzAll φ H vs ds) {d : PyData} (h : ds.getLast? = some d) : ∃ v, vs[vs.length - 1]? = some v ∧ Fz φ H v d := by
  rw [List.getLast?_eq_getElem?] at h
  rw [f.length]
  exact f.get h
theorem FzAll.dropLast {φ : Phi} {H : Hp} {vs : List V} {ds : List PyData} (f : FzAll φ H vs ds) : FzAll φ H vs.dropLast ds.dropLast := by
  rw [List.dropLast_eq_take, List.dropLast_eq_take, f.length]
  exact f.take _
theorem mth_pop0 : MthOk X .pop0 := by
  refine ⟨"list", "list.pop", _, _, PySem.F.plainAttrs_list, PySem.F.slot_list_pop, PySem.F.type_list_pop, tyq_list, mt_pop, fun {φ μ H w v} s r h => ?_, fun {φ μ H w v ws vs} s r rs m Q xw g => ?_⟩
  · refine pre_list (f := .pop0) s r ?_
    unfold mthPre at h
    split at h <;> first | (cases h; done) | skip
    all_goals first | (rename_i e; exact ⟨_, e⟩) | (rename_i e1 e2; cases e1)
  · have g : Goes (RpW X.K) φ H (mPop0 w ws μ) Q xw := g
    unfold mPop0 at g
    split at g
    · rename_i n
      split at g
      · rename_i ds hn
        split at g
        · rename_i d hd
          cases rs
          obtain ⟨a, us, rfl, h1, h2, h3, h4⟩ := live_list s r hn
          obtain ⟨y, hy, fy⟩ := h4.last hd
          refine ⟨a, us, y, rfl, rfl, h2, hy, ?_⟩
          have e2 : Ext φ H φ (upd H a (.lst us.dropLast)) := Ext.set s h1
          refine g φ y _ e2 (s.set h1 ⟨_, upd_same, ?_, e2.fzAll h4.dropLast⟩) (e2.fz fy)
          rw [List.length_dropLast]
          omega
        · exact g.elim
      · exact g.elim
    · exact g.elim
theorem mth_pop1 : MthOk X .pop1 := by
  refine ⟨"list", "list.pop", _, _, PySem.F.plainAttrs_list, PySem.F.slot_list_pop, PySem.F.type_list_pop, tyq_list, mt_popAt, fun {φ μ H w v} s r h => ?_, fun {φ μ H w v ws vs} s r rs m Q xw g => ?_⟩
  · refine pre_list (f := .pop1) s r ?_
    unfold mthPre at h
    split at h <;> first | (cases h; done) | skip
    all_goals first | (rename_i e; exact ⟨_, e⟩) | (rename_i e1 e2; cases e1)
  · have g : Goes (RpW X.K) φ H (mPop1 w ws μ) Q xw := g
    unfold mPop1 at g
    split at g
    · rename_i n i _
      split at g
      · rename_i ds hn
        split at g
        · rename_i k hk
          split at g
          · rename_i d hd
            split at g
            · rename_i hz
              obtain ⟨y, rfl, ry⟩ := one_rp rs
              cases ry
              obtain ⟨a, us, rfl, h1, h2, h3, h4⟩ := live_list s r hn
              obtain ⟨y, hy, fy⟩ := h4.get hd
              have e2 : Ext φ H φ (upd H a (.lst (us.eraseIdx k))) := Ext.set s h1
              refine ⟨a, us, i, k, y, rfl, rfl, h2, hz.1, hz.2, by rw [h4.length]; exact ixN_seqI hk, hy, g φ y _ e2 (s.set h1 ⟨_, upd_same, ?_, e2.fzAll (h4.eraseIdx k)⟩) (e2.fz fy)⟩
              have := List.length_eraseIdx_le us k
              omega
            · exact g.elim
          · exact g.elim
        · exact g.elim
      · exact g.elim
    · exact g.elim
theorem mt_get1 (hu : X.A.units + 1 < cLine) : MtR X "dict.get" (fun x xs H Q => ∃ a y o, x = .ref a ∧ xs = [y] ∧ DGet H a y o ∧ Q (o.getD .non) H) := by
  intro pins s σ H x xs v us Q I rx rs h
  obtain ⟨a, y, o, rfl, rfl, g, q⟩ := h
  cases rx
  obtain ⟨u, rfl, ru⟩ := vals1 rs
  exact d_get1 hu I g ru fun w' s' I' r' => ⟨_, H, I', r', q⟩
theorem mt_get2 (hu : X.A.units + 1 < cLine) : MtR X "dict.get" (fun x xs H Q => ∃ a y z o, x = .ref a ∧ xs = [y, z] ∧ DGet H a y o ∧ Q (o.getD z) H) := by
  intro pins s σ H x xs v us Q I rx rs h
  obtain ⟨a, y, z, o, rfl, rfl, g, q⟩ := h
  cases rx
  obtain ⟨u1, u2, rfl, r1, r2⟩ := vals2 rs
  exact d_get2 hu I g r1 r2 fun w' s' I' r' => ⟨_, H, I', r', q⟩
theorem pre_dict {K : PySem.W.Frag} {φ : Phi} {μ : Store} {H : Hp} {w : W} {v : V} (s : StoR φ μ H) (r : RpW K φ H w v) (h : ∃ ds, rd μ w = some (.dict ds)) : ∃ a kvs, v = .ref a ∧ Rd H a (.dK kvs) := by
  obtain ⟨ds, h⟩ := h
  obtain ⟨a, us, e, ha, _⟩ := (s.rd r h).dict
  exact ⟨a, us, e, ha⟩
theorem get_at {φ : Phi} {μ : Store} {H : Hp} {w k z : W} {v y zv : V} {Q : VK} {xw : XW} (s : StoR φ μ H) (r : RpW X.K φ H w v) (ry : RpW X.K φ H k y) (rz : RpW X.K φ H z zv) (g : Goes (RpW X.K) φ H (mGet w k z μ) Q xw) :
    ∃ a o, v = .ref a ∧ DGet H a y o ∧ Q (o.getD zv) H := by
  unfold mGet at g
  split at g
  · rename_i kvs hd
    obtain ⟨a, ps, rfl, ha, _, fa⟩ := (s.rd r hd).dict
    split at g
    · rename_i j hj
      obtain ⟨d, h1, h2⟩ := Option.bind_eq_some_iff.mp hj
      have ny := s.rd ry h1
      have l := valV_look j fa
      refine ⟨a, _, rfl, by rw [key_at ny h2]; exact Rd.dget ha, ?_⟩
      split at g
      · rename_i d' q
        obtain ⟨v', e1, e2⟩ := l.1 d' q
        rw [e1]
        exact g φ v' H .refl s e2
      · rename_i q
        rw [l.2 q]
        exact g φ zv H .refl s rz
    · exact g.elim
  · exact g.elim
theorem mth_get1 (hu : X.A.units + 1 < cLine) : MthOk X .get1 := by
  refine ⟨"dict", "dict.get", _, _, PySem.F.plainAttrs_dict, PySem.F.slot_dict_get, PySem.F.type_dict_get, tyq_dict, mt_get1 hu, fun {φ μ H w v} s r h => ?_, fun {φ μ H w v ws vs} s r rs m Q xw g => ?_⟩
  · refine pre_dict s r ?_
    unfold mthPre at h
    split at h <;> first | (cases h; done) | skip
    all_goals first | (rename_i e; exact ⟨_, e⟩) | (rename_i e1 e2; cases e1)
  · have g : Goes (RpW X.K) φ H (mGet1 w ws μ) Q xw := g
    unfold mGet1 at g
    split at g
    · rename_i k
      obtain ⟨y, rfl, ry⟩ := one_rp rs
      obtain ⟨a, o, rfl, h1, h2⟩ := get_at (X := X) s r ry (z := .dat .none) (zv := .non) .non g
      exact ⟨a, y, o, rfl, rfl, h1, h2⟩
    · exact g.elim
theorem two_rp {K : PySem.W.Frag} {φ : Phi} {H : Hp} {w u : W} {vs : List V} (r : RpAll K φ H [w, u] vs) : ∃ v z, vs = [v, z] ∧ RpW K φ H w v ∧ RpW K φ H u z := by
  cases r with
  | cons h t =>
    cases t with
    | cons h2 t => cases t; exact ⟨_, _, rfl, h, h2⟩
theorem mth_get2 (hu : X.A.units + 1 < cLine) : MthOk X .get2 := by
  refine ⟨"dict", "dict.get", _, _, PySem.F.plainAttrs_dict, PySem.F.slot_dict_get, PySem.F.type_dict_get, tyq_dict, mt_get2 hu, fun {φ μ H w v} s r h => ?_, fun {φ μ H w v ws vs} s r rs m Q xw g => ?_⟩
  · refine pre_dict s r ?_
    unfold mthPre at h
    split at h <;> first | (cases h; done) | skip
    all_goals first | (rename_i e; exact ⟨_, e⟩) | (rename_i e1 e2; cases e1)
  · have g : Goes (RpW X.K) φ H (mGet2 w ws μ) Q xw := g
    unfold mGet2 at g
    split at g
    · rename_i k z
      obtain ⟨y, zv, rfl, ry, rz⟩ := two_rp rs
      obtain ⟨a, o, rfl, h1, h2⟩ := get_at (X := X) s r ry rz g
      exact ⟨a, y, zv, o, rfl, rfl, h1, h2⟩
    · exact g.elim
end
end Dv

/-! Dv4: defs called where no text is being shown (guards), their promises by specs. -/
namespace Dv
open PySem PySem.Spec PyProof.Rows L2

/-- an exception as it lies: its class by name, its fields -/
inductive FzF (φ : Phi) (H : Hp) : List (Str × V) → List (Str × PyData) → Prop
  | nil : FzF φ H [] []
  | cons {x : Str} {v : V} {d : PyData} {fv : List (Str × V)} {fs : List (Str × PyData)} : Fz φ H v d → FzF φ H fv fs → FzF φ H ((x, v) :: fv) ((x, d) :: fs)
def ExR (mg : Str → Option Value) (φ : Phi) (H : Hp) (c : Str) (fs : List (Str × PyData)) (cls : Value) (d : Option Addr) : Prop :=
  ∃ C, mg c = some (.ref C) ∧ cls = .ref C ∧ ((fs = [] ∧ d = none) ∨ ∃ dd fv, d = some dd ∧ H dd = some (.xd fv) ∧ FzF φ H fv fs)
/-- what an exception is wished to find -/
def xwE (mg : Str → Option Value) (E : XK) : XW := fun c fs μ φ H => ∀ cls d, ExR mg φ H c fs cls d → E cls d H
/-- a def's promise by its spec -/
def spOf (K : PySem.W.Frag) (mg : Str → Option Value) (F : List W → Store → Out W) (n : Nat) : Sp := fun vs H Q E => vs.length = n ∧ ∃ φ ws μ, StoR φ μ H ∧ RpAll K φ H ws vs ∧ Goes (RpW K) φ H (F ws μ) Q (xwE mg E)

/-- as FnOk, where the texts that are being shown are known to be none -/
structure FnG (P : Program) (w : World) (K : PySem.W.Frag) (mg : Str → Option Value) (base : Heap) (k : Nat) (f : Addr) (fd : FuncData) (ps : List Str) (sp : Sp) : Prop where
  len : ∀ vs H Q E, sp vs H Q E → vs.length = ps.length
  go : ∀ (A : Around) (outer : List PySem.Env) (s : Shared) (H : Hp) (args : Args) (us : List Value) (vs : List V) (Q : VK) (E : XK), Room k A → A.guards = some [] → Env0 P w K mg base A outer s H → BindsTo s fd args (ps.zip us) → Vals vs us → sp vs H Q E →
    codeAny (model P w) A (.call (.ref f) args) (CR (L2.CX P w) outer P w H s Q E) s
theorem FnG.mono {P : Program} {w : World} {K : PySem.W.Frag} {mg : Str → Option Value} {base : Heap} {j k : Nat} {f : Addr} {fd : FuncData} {ps : List Str} {sp : Sp} (F : FnG P w K mg base j f fd ps sp) (h : j ≤ k) : FnG P w K mg base k f fd ps sp :=
  ⟨F.len, fun A outer s H args us vs Q E hr => F.go A outer s H args us vs Q E (hr.mono h)⟩

section
variable {X : Cx} {k : Nat} {f : Addr} {fd : FuncData} {ps : List Str} {sp : Sp} {x : Str} {p pos : Pos} {e : Expr} {es : List Expr} {t : TA}
theorem go_fn {pins : List (Addr × Obj)} {σ : L2.St} {H : Hp} {s : Shared} {Q : VK} {E : L2.St → XK} {us : List Value} {kw : List (Str × Value)} {ws : List Value} {vs : List V} (F : FnG X.prog X.w X.K X.mg X.base k f fd ps sp) (hr : Room k X.A) (hg : X.A.guards = some [])
    (hb : BindsTo s fd ⟨us, kw⟩ (ps.zip ws)) (hx : ∀ σ, PassesAt (L2.CX X.prog X.w) X σ (E σ)) (I : Inv X pins σ H s) (r : Vals vs ws) (h : sp vs H Q (E σ)) : wpAny (model X.prog X.w) X.A (call (.ref f) us kw) (EP X pins σ Q) X.xe s := by
  apply wpAny_call
  refine codeAny_mono (F.go X.A X.stack s H ⟨us, kw⟩ ws vs Q (E σ) hr hg I.env0 hb r h) ?_
  intro r' s' hq
  match r', hq with
  | .error e', hq => exact hx σ pins H s e' s' I hq
  | .ok (.ret u), hq => exact I.after hq
  | .ok .next, hq => exact hq.elim
  | .ok .brk, hq => exact hq.elim
  | .ok .cont, hq => exact hq.elim
theorem bound_of {pins : List (Addr × Obj)} {σ : L2.St} {H : Hp} {s : Shared} {Q : VK} {E : L2.St → XK} {us : List Value} {vs : List V} (F : FnG X.prog X.w X.K X.mg X.base k f fd ps sp) (hr : Room k X.A) (hgd : X.A.guards = some [])
    (hb : Binds X.K fd ps []) (hx : ∀ σ, PassesAt (L2.CX X.prog X.w) X σ (E σ)) (I : Inv X pins σ H s) (r : Vals vs us) (q : sp vs H Q (E σ)) : wpAny (model X.prog X.w) X.A (call (.ref f) us) (EP X pins σ Q) X.xe s := by
  have hl : (us ++ []).length = ps.length := by rw [List.append_nil, ← r.length]; exact F.len _ _ _ _ q
  have b := hb s us I.kIn hl
  rw [List.append_nil] at b
  exact go_fn F hr hgd b hx I r q
theorem pe_calG {E : L2.St → XK} (F : FnG X.prog X.w X.K X.mg X.base k f fd ps sp) (hr : Room k X.A) (hgd : X.A.guards = some []) (hg : Gl X x) (hm : X.mg x = some (.ref f)) (hk : PySem.W.keepIn X.K (.ref f) = true) (hb : Binds X.K fd ps []) (hx : ∀ σ, PassesAt (L2.CX X.prog X.w) X σ (E σ))
    (ha : PA X (e :: es) t) (hs : noStar (e :: es) = true) (hdb : (x == ("__debug__" : Str)) = false) : PE X (.Call (.Name x p) (e :: es) [] pos) (fun σ H Q => t σ H fun vs H1 => sp vs H1 Q (E σ)) := by
  constructor
  intro pins s σ H Q I h
  apply wpAny_Call_Name_kw
  apply ld_glob I hg hm _ hdb
  refine PySem.W.callWith_K (h₀ := X.base) I.ok.mod.kin hk (thn (ha.run pos pins s σ H _ I h) ?_) (stars_cons X.env hs) (back_any pos X.env (noStar_tail hs))
  rintro us s1 ⟨vs, H1, I1, r, q⟩
  exact ⟨I1.kIn, bound_of F hr hgd hb hx I1 r q⟩
theorem pe_calG0 {E : L2.St → XK} (F : FnG X.prog X.w X.K X.mg X.base k f fd ps sp) (hr : Room k X.A) (hgd : X.A.guards = some []) (hg : Gl X x) (hm : X.mg x = some (.ref f)) (hk : PySem.W.keepIn X.K (.ref f) = true) (hb : Binds X.K fd ps []) (hx : ∀ σ, PassesAt (L2.CX X.prog X.w) X σ (E σ))
    (hdb : (x == ("__debug__" : Str)) = false) : PE X (.Call (.Name x p) [] [] pos) (fun σ H Q => sp [] H Q (E σ)) := by
  constructor
  intro pins s σ H Q I h
  apply wpAny_Call_Name_kw
  apply ld_glob I hg hm _ hdb
  exact PySem.W.callWith_K0 I.kIn hk (bound_of (us := []) F hr hgd hb hx I .nil h)
/-- keywords alone -/
def KwOk (fd : FuncData) (ps ks : List Str) (pm : List Nat) : Prop := ∀ (s : Shared) (ws : List Value), ws.length = ks.length → BindsTo s fd ⟨[], ks.zip ws⟩ (ps.zip (pm.filterMap fun i => ws[i]?))
theorem kw_some (pos : Pos) (env : PySem.Env) : ∀ {kws : List Keyword} {ks : List Str}, kws.map (fun kw => match kw with | ⟨n, _, _⟩ => n) = ks.map some → (backToKw pos (keywordEach kws env)).all (·.1.isSome) = true ∧ (backToKw pos (keywordEach kws env)).filterMap (·.1) = ks ∧ (backToKw pos (keywordEach kws env)).any (·.1.isNone) = false
  | [], ks, h => by
    cases ks with
    | nil => exact ⟨rfl, rfl, rfl⟩
    | cons a b => cases h
  | ⟨n, e, p⟩ :: kws, ks, h => by
    cases ks with
    | nil => cases h
    | cons a b =>
      rw [List.map_cons, List.map_cons] at h
      injection h with h1 h2
      have h1 : n = some a := h1
      subst h1
      obtain ⟨i1, i2, i3⟩ := kw_some pos env (kws := kws) (ks := b) h2
      unfold backToKw at i1 i2 i3 ⊢
      refine ⟨?_, ?_, ?_⟩
      · show (true && _) = true
        rw [Bool.true_and]; exact i1
      · show a :: _ = _
        exact congrArg (a :: ·) i2
      · show (false || _) = false
        rw [Bool.false_or]; exact i3
theorem perm_vals {vs : List V} {us : List Value} (r : Vals vs us) : ∀ pm : List Nat, Vals (pm.filterMap fun i => vs[i]?) (pm.filterMap fun i => us[i]?)
  | [] => .nil
  | i :: pm => by
    have ih := perm_vals r pm
    cases h : vs[i]? with
    | none => rw [List.filterMap_cons_none h, List.filterMap_cons_none (r.none_of h)]; exact ih
    | some v =>
      obtain ⟨u, h1, h2⟩ := r.get h
      rw [List.filterMap_cons_some h, List.filterMap_cons_some h1]
      exact .cons h2 ih
theorem pe_cakG {E : L2.St → XK} {kws : List Keyword} {ks : List Str} {pm : List Nat} (F : FnG X.prog X.w X.K X.mg X.base k f fd ps sp) (hr : Room k X.A) (hgd : X.A.guards = some []) (hg : Gl X x) (hm : X.mg x = some (.ref f)) (hk : PySem.W.keepIn X.K (.ref f) = true) (hb : KwOk fd ps ks pm) (hx : ∀ σ, PassesAt (L2.CX X.prog X.w) X σ (E σ))
    (ha : PK X kws t) (hks : kws.map (fun kw => match kw with | ⟨n, _, _⟩ => n) = ks.map some) (hdb : (x == ("__debug__" : Str)) = false) : PE X (.Call (.Name x p) [] kws pos) (fun σ H Q => t σ H fun vs H1 => vs.length = ks.length ∧ sp (pm.filterMap fun i => vs[i]?) H1 Q (E σ)) := by
  constructor
  intro pins s σ H Q I h
  apply wpAny_Call_Name_kw
  apply ld_glob I hg hm _ hdb
  obtain ⟨k1, k2, k3⟩ := kw_some pos X.env hks
  refine PySem.W.callWith_KW0 (h₀ := X.base) I.ok.mod.kin hk k1 (thn (ha.run pos pins s σ H _ I h) ?_) (by show (false || _) = false; rw [Bool.false_or]; exact k3)
  rintro us s1 ⟨vs, H1, I1, r, hl, q⟩
  refine ⟨I1.kIn, ?_⟩
  rw [k2]
  exact go_fn F hr hgd (hb s1 us (by rw [← r.length]; exact hl)) hx I1 (perm_vals r pm) q
end

/-! ### a def's body keeps its promise -/
section
variable {P : Program} {w : World} {K : PySem.W.Frag} {mg : Str → Option Value} {base : Heap}
theorem fnG_of {k : Nat} {f : Addr} {name qual : Str} {params : Arguments} {body : List Stmt} {scope : Scope} {dV kV doc pm cdv ct oc : Value} {an od : Option Addr} {osl : Array (Option Value)} {N ps : List Str} {sp : Sp}
    (lk : K.lookup f = some ⟨oc, od, .func (PySem.W.fnOf name qual params body scope dV kV doc pm an cdv ct), osl⟩) (hcd : PySem.W.codeIn K cdv qual = true) (S : FnScope N ps scope) (len : ∀ vs H Q E, sp vs H Q E → vs.length = ps.length)
    (hb : ∀ (A : Around) (outer : List PySem.Env) (s : Shared) (H : Hp) (vs : List V) (Q : VK) (E : XK), Room k (A.deeper (envOfC qual scope s.heap.objs.size f cdv)) → A.guards = some [] → sp vs H Q E →
      ∃ t, PSs (cxOf (L2.CX P w) P w K mg base N qual scope f cdv A outer s H E) body t ∧ t { nx := fun _ H' => Q .non H', rt := Q } (start N vs) H) :
    FnG P w K mg base (k + 1) f (PySem.W.fnOf name qual params body scope dV kV doc pm an cdv ct) ps sp := by
  constructor
  · exact len
  intro A outer s H args us vs Q E hr hg e0 hbd r hsp
  have sub : ∀ b o, base.get? b = some o → s.heap.get? b = some o := fun b o e => (e0.bs b o e).1
  have KX : K.In s.heap := e0.mod.kin.keeps sub
  have kinds : ∀ y ∈ ps.zip us, scope.names.lookup y.1 = some .local ∨ (scope.names.lookup y.1 = some .cell ∧ ((cellsFrom (s.heap.objs.size + 1) scope.names []).lookup y.1).isSome = true) := by
    rintro ⟨n, v⟩ hy
    exact (S.par n (List.of_mem_zip hy).1).imp id fun q => ⟨q, PySem.W.cellsFrom_some _ _ _ (.inl q)⟩
  apply codeAny_call_function hr.depth (KX _ _ lk) rfl S.co S.gen rfl (PySem.W.codeRec_of KX hcd)
  apply hbd
  apply wpAny_newFunctionEnv_cells S.kind kinds
  rintro env rfl s1 x
  refine ⟨(e0.mod.nolimit.keeps sub).keeps x.toInCall.keep, codeAny_func ?_⟩
  obtain ⟨t, ht, hq⟩ := hb A outer s H vs Q E (hr.deeper _) hg hsp
  have I : Inv (cxOf (L2.CX P w) P w K mg base N qual scope f cdv A outer s H E) [] (start N vs) H s1 := inv_start S hr.hd e0 (len _ _ _ _ hsp) r x
  refine wpAny_mono (ht.run [] s1 (start N vs) H _ I hq) ?_ (fun e s' hs => hs)
  intro fl s' hs
  match fl, hs with
  | .ret u, ⟨v, _, H', J, rv, q⟩ => exact ⟨v, H', J.os, J.bare, J.base, J.hok, rv, q⟩
  | .next, ⟨_, H', J, q⟩ => exact ⟨.non, H', J.os, J.bare, J.base, J.hok, rfl, q⟩
  | .brk, ⟨_, _, _, q⟩ => exact q.elim
  | .cont, ⟨_, _, _, q⟩ => exact q.elim
end
end Dv

/-! Dv5: from the model's text to the little language. -/
namespace Dv
open PySem PySem.Spec PyProof.Rows L2

/-- what a global name is -/
inductive GE where
  | blt
  | con (d : PyData)
  | fn (src : Str) (ps : List Str) (kws : List (List Str × List Nat))
abbrev Glob := List (Str × GE)
def okName (x : Str) : Bool := !(x == ("__debug__" : Str)) && !(x == ("__classdict__" : Str)) && !(x == ("__name__" : Str))
def ixOf (N : List Str) (x : Str) : Option Nat := N.findIdx? fun y => decide (y = x)
def slotOf (N : List Str) (sc : Scope) (x : Str) : Option Nat := match sc.names.lookup x with
  | some .local | some .cell | some .free => if okName x = true then ixOf N x else none
  | _ => none
/-- a name that may be stored -/
def ownOf (N : List Str) (sc : Scope) (x : Str) : Option Nat := match sc.names.lookup x with
  | some .local | some .cell => if okName x = true then ixOf N x else none
  | _ => none
def globOf (Γ : Glob) (sc : Scope) (x : Str) : Option GE := match sc.names.lookup x with
  | some .globalImplicit => if okName x = true then Γ.lookup x else none
  | _ => none
def isBlt (Γ : Glob) (sc : Scope) (x : Str) : Bool := match globOf Γ sc x with
  | some .blt => true
  | _ => false
def constD : Const → Option PyData
  | .none => some .none
  | .bool b => some (.bool b)
  | .int i => some (.int i)
  | .str x => some (.str x)
  | _ => none
def trs (g : Expr → Option E) : List Expr → Option Es
  | [] => some .nil
  | .Starred _ _ :: _ => none
  | e :: es => match g e, trs g es with
    | some a, some b => some (.cons a b)
    | _, _ => none
def trk (g : Expr → Option E) : List Keyword → Option (List Str × Es)
  | [] => some ([], .nil)
  | ⟨some n, e, _⟩ :: ks => match g e, trk g ks with
    | some a, some (ns, b) => some (n :: ns, .cons a b)
    | _, _ => none
  | ⟨none, _, _⟩ :: _ => none
def fold1 {α : Type} (op : α → α → α) (g : Expr → Option α) : List Expr → Option α
  | [] => none
  | [a] => g a
  | a :: r => match g a, fold1 op g r with
    | some x, some y => some (op x y)
    | _, _ => none
def tgOf (N : List Str) (sc : Scope) : Nat → Expr → Option Tg
  | 0, _ => none
  | n + 1, e => match e with
    | .Name x _ => (ownOf N sc x).map .v
    | .Tuple [a, b] _ _ => match tgOf N sc n a, tgOf N sc n b with
      | some x, some y => some (.t2 x y)
      | _, _ => none
    | .Tuple [a, b, c] _ _ => match tgOf N sc n a, tgOf N sc n b, tgOf N sc n c with
      | some x, some y, some z => some (.t3 x y z)
      | _, _, _ => none
    | _ => none
def slots : Tg → List Nat
  | .v i => [i]
  | .t2 a b => slots a ++ slots b
  | .t3 a b c => slots a ++ slots b ++ slots c
def isTup : Expr → Bool
  | .Tuple _ _ _ => true
  | _ => false
def bopOf : Operator → Option Bop
  | .Add => some .add | .Sub => some .sub | .Mult => some .mul | .FloorDiv => some .fdiv | .Mod => some .mod | .Pow => some .pow
  | _ => none
def copOf : CmpOp → Cop
  | .Eq => .eq | .NotEq => .ne | .Lt => .lt | .LtE => .le | .Gt => .gt | .GtE => .ge | .Is => .is | .IsNot => .isn | .In => .isin | .NotIn => .nin
def notSet : Expr → Bool
  | .Set _ _ _ => false
  | _ => true
def bltOf (x : Str) (n : Nat) : Option Blt :=
  if x = "len" ∧ n = 1 then some .len
  else if x = "all" ∧ n = 1 then some .all
  else if x = "any" ∧ n = 1 then some .any
  else if x = "max" ∧ n = 2 then some .max2
  else if x = "min" ∧ n = 2 then some .min2
  else if x = "int" ∧ n = 1 then some .int
  else if x = "str" ∧ n = 1 then some .str
  else if x = "tuple" ∧ n = 1 then some .tuple
  else if x = "list" ∧ n = 1 then some .list
  else if x = "sorted" ∧ n = 1 then some .sorted
  else if x = "dict" ∧ n = 1 then some .dict
  else none
def tyOf (x : Str) : Option String :=
  if x = "tuple" then some "tuple" else if x = "str" then some "str" else if x = "int" then some "int" else if x = "bool" then some "bool" else if x = "list" then some "list" else if x = "dict" then some "dict" else none
def mthOf (x : Str) (n : Nat) : Option Mth :=
  if x = "append" ∧ n = 1 then some .append
  else if x = "pop" ∧ n = 0 then some .pop0
  else if x = "pop" ∧ n = 1 then some .pop1
  else if x = "get" ∧ n = 1 then some .get1
  else if x = "get" ∧ n = 2 then some .get2
  else none
/-- not super() -/
def baseOk : Expr → Bool
  | .Call (.Name _ _) [] [] _ => false
  | _ => true
def tgNames : Nat → Expr → List Str
  | 0, _ => []
  | n + 1, e => match e with
    | .Name x _ => [x]
    | .Tuple es _ _ => es.flatMap (tgNames n)
    | _ => []
def ownL (N : List Str) (xs : List Str) : List (Str × Nat) := xs.filterMap fun x => (ixOf N x).map fun i => (x, i)

section
variable (Γ : Glob) (N : List Str)
mutual
def tr : Nat → Scope → Bool → Expr → Option E
  | 0, _, _, _ => none
  | n + 1, sc, m, e => match e with
    | .Name x _ => match slotOf N sc x with
      | some i => some (.var i)
      | none => match globOf Γ sc x with
        | some (.con d) => some (.con d)
        | _ => none
    | .Constant c _ _ => (constD c).map .con
    | .Tuple es _ _ => (trs (tr n sc false) es).map .tup
    | .List es _ => (trs (tr n sc false) es).map (.lst m)
    | .BinOp a op b _ => match bopOf op, tr n sc false a, tr n sc false b with
      | some o, some x, some y => some (.bin m o x y)
      | _, _, _ => none
    | .UnaryOp .USub a _ => (tr n sc false a).map .neg
    | .UnaryOp .Not a _ => (tr n sc false a).map .not
    | .BoolOp .And vs _ => fold1 .and (tr n sc m) vs
    | .BoolOp .Or vs _ => fold1 .or (tr n sc m) vs
    | .Compare a [op] [b] _ => if notSet b = true then match tr n sc false a, tr n sc false b with
        | some x, some y => some (.cmp (copOf op) x y)
        | _, _ => none
      else none
    | .Compare a [o, p] [b, c] _ => if notSet b = true ∧ notSet c = true then match tr n sc false a, tr n sc false b, tr n sc false c with
        | some x, some y, some z => some (.chn (copOf o) (copOf p) x y z)
        | _, _, _ => none
      else none
    | .IfExp c a b _ => match trT n sc c, tr n sc m a, tr n sc m b with
      | some x, some y, some z => some (.ite x y z)
      | _, _, _ => none
    | .Subscript a (.Slice none none (some (.UnaryOp .USub (.Constant (.int 1) _ _) _)) _) _ => (tr n sc false a).map (.rev m)
    | .Subscript a (.Slice lo hi none _) _ => match tr n sc false a, trO n sc lo, trO n sc hi with
      | some x, some y, some z => some (.slc m x y z)
      | _, _, _ => none
    | .Subscript a b _ => match tr n sc false a, tr n sc false b with
      | some x, some y => some (.idx x y)
      | _, _ => none
    | .Call (.Name f _) es [] _ => if f = "isinstance" then (match es with
        | [a, .Name t _] => if isBlt Γ sc f = true ∧ isBlt Γ sc t = true ∧ noStar [a] = true then (match tr n sc false a, tyOf t with
          | some x, some t => some (.isi x [t])
          | _, _ => none) else none
        | _ => none) else trC n sc m f es
    | .Call (.Name f _) [] ks _ => match globOf Γ sc f, trk (tr n sc false) ks with
      | some (.fn y _ kws), some (ns, as) => if y = f then (match kws.lookup ns with
        | some pm => some (.cak f pm as)
        | none => none) else none
      | _, _ => none
    | .Call (.Attribute o f ap) es [] cp => if (ap.endLine == cp.line) = true ∧ baseOk o = true ∧ es.length < 20 then match mthOf f es.length, tr n sc false o, trs (tr n sc false) es with
        | some g, some x, some as => some (.mth m g x as)
        | _, _, _ => none
      else none
    | .ListComp el [⟨tg, it, ifs, 0⟩] scope _ =>
      if notSet it = true ∧ blkC N sc scope (ownL N (tgNames n tg)) = true then
        match tgOf N scope n tg, trI n sc (isTup tg) it, tr n (relS scope sc) false el, trCs n (relS scope sc) ifs with
        | some g, some i, some x, some c => if (slots g).all (fun j => decide (j ∈ (ownL N (tgNames n tg)).map (·.2))) = true then some (.lc m x g i c ((ownL N (tgNames n tg)).map (·.2))) else none
        | _, _, _, _ => none
      else none
    | _ => none
def trC : Nat → Scope → Bool → Str → List Expr → Option E
  | 0, _, _, _, _ => none
  | n + 1, sc, m, f, es => match globOf Γ sc f with
    | some .blt => match bltOf f es.length, trs (tr n sc false) es with
      | some b, some as => some (.blt m b as)
      | _, _ => none
    | some (.fn _ _ _) => match Γ.lookup (nm m f), trs (tr n sc false) es with
      | some (.fn y ps _), some as => if y = f ∧ es.length = ps.length then some (.cal m f as) else none
      | _, _ => none
    | _ => none
def trT : Nat → Scope → Expr → Option C
  | 0, _, _ => none
  | n + 1, sc, e => match e with
    | .UnaryOp .Not a _ => (trT n sc a).map .not
    | .BoolOp .And vs _ => fold1 .and (trT n sc) vs
    | .BoolOp .Or vs _ => fold1 .or (trT n sc) vs
    | .IfExp _ _ _ _ => none
    | e => (tr n sc false e).map .val
def trO : Nat → Scope → Option Expr → Option Eo
  | 0, _, _ => none
  | n + 1, sc, o => match o with
    | none => some .no
    | some e => (tr n sc false e).map .so
def trCs : Nat → Scope → List Expr → Option Co
  | 0, _, _ => none
  | n + 1, sc, cs => match cs with
    | [] => some .no
    | [c] => (trT n sc c).map .so
    | _ => none
def trI : Nat → Scope → Bool → Expr → Option Wk
  | 0, _, _, _ => none
  | n + 1, sc, tup, e => match e with
    | .Call (.Name f _) [a] [] _ =>
      if f = "range" then (if isBlt Γ sc f = true then (match a with | .Starred _ _ => none | a => (tr n sc false a).map .rng1) else none)
      else if f = "enumerate" then (if isBlt Γ sc f = true ∧ tup = true then (match a with | .Starred _ _ => none | a => (tr n sc false a).map .enum) else none)
      else (tr n sc false e).map .seq
    | .Call (.Name f _) [a, b] [] _ =>
      if f = "range" then (if isBlt Γ sc f = true ∧ noStar [a, b] = true then (match tr n sc false a, tr n sc false b with
        | some x, some y => some (.rng2 x y)
        | _, _ => none) else none)
      else if f = "zip" then (if isBlt Γ sc f = true ∧ tup = true ∧ noStar [a, b] = true then (match tr n sc false a, tr n sc false b with
        | some x, some y => some (.zip x y)
        | _, _ => none) else none)
      else (tr n sc false e).map .seq
    | e => (tr n sc false e).map .seq
end
end
end Dv

/-! Dv6: what the little language computes is what the model does. -/
namespace Dv
open PySem PySem.Spec PyProof.Rows L2

section
variable {α β γ δ : Type} {R : Phi → Hp → α → β → Prop} {R' : Phi → Hp → γ → δ → Prop} {φ φ1 : Phi} {H H1 : Hp} {Q : β → Hp → Prop} {xw : XW}
theorem Goes.step {o : Out α} (e : Ext φ H φ1 H1) (g : Goes R φ H o Q xw) : Goes R φ1 H1 o Q xw := by
  cases o with
  | ok a μ => exact fun φ' b H' e' s r => g φ' b H' (e.trans e') s r
  | ex c fs μ => exact fun φ' H' e' s => g φ' H' (e.trans e') s
  | no => exact g
theorem Goes.bind {x : Out α} {f : α → Store → Out γ} {Q' : δ → Hp → Prop} (g : Goes R' φ H (x.bind f) Q' xw)
    (h : ∀ a μ1, x = .ok a μ1 → ∀ φ1 b H1, Ext φ H φ1 H1 → StoR φ1 μ1 H1 → R φ1 H1 a b → Goes R' φ1 H1 (f a μ1) Q' xw → Q b H1) : Goes R φ H x Q xw := by
  cases x with
  | ok a μ => exact fun φ1 b H1 e s r => h a μ rfl φ1 b H1 e s r (Goes.step e g)
  | ex c fs μ => exact g
  | no => exact g
end

/-! ### readings -/
section
variable (K : PySem.W.Frag) (mg : Str → Option Value) (F : Specs) (Wx : WX)
def tEv (m : E) : TE := fun σ H Q => ∃ φ ρ μ, StoR φ μ H ∧ EnvR K φ H ρ σ ∧ Goes (RpW K) φ H (ev F m ρ μ) Q (xwE mg (WE Wx σ))
def tEvT (m : C) : TT := fun σ H Q => ∃ φ ρ μ, StoR φ μ H ∧ EnvR K φ H ρ σ ∧ Goes (fun _ _ a b => a = b) φ H (evT F m ρ μ) Q (xwE mg (WE Wx σ))
def tEvs (m : Es) : TA := fun σ H Q => ∃ φ ρ μ, StoR φ μ H ∧ EnvR K φ H ρ σ ∧ Goes (RpAll K) φ H (evs F m ρ μ) Q (xwE mg (WE Wx σ))
def tEvo (m : Eo) : TO := fun σ H Q => ∃ φ ρ μ, StoR φ μ H ∧ EnvR K φ H ρ σ ∧ Goes (fun _ _ a b => a = b) φ H (evo F m ρ μ) Q (xwE mg (WE Wx σ))
/-- an item that is walked to: a tree, or a pair that was just made -/
def ItR (φ : Phi) (H : Hp) (v : V) (d : PyData) : Prop := Fz φ H v d ∨ ∃ T xs ds, v = .ref T ∧ d = .tuple ds ∧ H T = some (.tup xs) ∧ FzAll φ H xs ds
/-- what is walked yields the items ds -/
def Feeds (tup : Bool) (φ : Phi) (H : Hp) (ds : List PyData) (J : L2.It) : Prop := ∀ φ1 H1, Ext φ H φ1 H1 → J.stop ds.length H1 ∧ ∀ i d, ds[i]? = some d → J.go i H1 ∧ ∀ x H2, J.yld i H1 x H2 → Ext φ1 H1 φ1 H2 ∧ (∀ μ, StoR φ1 μ H1 → StoR φ1 μ H2) ∧ ItR φ1 H2 x d ∧ (tup = false → Fz φ1 H2 x d)
def tEvi (tup : Bool) (m : Wk) : TI := fun σ H Q => ∃ φ ρ μ, StoR φ μ H ∧ EnvR K φ H ρ σ ∧ Goes (Feeds tup) φ H (evi F m ρ μ) Q (xwE mg (WE Wx σ))
end

/-- facts about the globals -/
def GEok (P : Program) (w : World) (K : PySem.W.Frag) (mg : Str → Option Value) (base : Heap) (k : Nat) (F : Specs) (x : Str) : GE → Prop
  | .blt => mg x = none
  | .con d => ∃ u, mg x = some u ∧ RelV (vOf d) u ∧ flatD d = true
  | .fn y ps kws => ∃ f fd, mg y = some (.ref f) ∧ PySem.W.keepIn K (.ref f) = true ∧ Binds K fd ps [] ∧ (∀ ko ∈ kws, KwOk fd ps ko.1 ko.2 ∧ ko.2.length = ps.length ∧ ∀ i ∈ ko.2, i < ko.1.length) ∧ FnG P w K mg base k f fd ps (spOf K mg (F x) ps.length)
structure Good (Γ : Glob) (N : List Str) (F : Specs) (k : Nat) (Wx : WX) (X : Cx) (sc : Scope) : Prop where
  sc : X.env.scope = sc
  n : X.N = N
  nd : X.N.Nodup
  calm : X.calm = true
  room : Room k X.A
  guards : X.A.guards = some []
  facts : ∀ x ge, Γ.lookup x = some ge → GEok X.prog X.w X.K X.mg X.base k F x ge
  tk : Takes X Wx

theorem ixOf_at {N : List Str} {x : Str} {i : Nat} (h : ixOf N x = some i) : N[i]? = some x := by
  unfold ixOf at h
  rw [List.findIdx?_eq_some_iff_getElem] at h
  obtain ⟨hi, h1, _⟩ := h
  rw [List.getElem?_eq_getElem hi]
  exact congrArg some (of_decide_eq_true h1)
theorem okName_dbg {x : Str} (h : okName x = true) : (x == ("__debug__" : Str)) = false ∧ (x == ("__classdict__" : Str)) = false ∧ x ≠ ("__name__" : Str) := by
  unfold okName at h
  simp only [Bool.and_eq_true, Bool.not_eq_true'] at h
  exact ⟨h.1.1, h.1.2, fun e => by rw [e] at h; simp at h⟩
theorem slot_at {N : List Str} {sc : Scope} {x : Str} {i : Nat} (h : slotOf N sc x = some i) : N[i]? = some x ∧ Vis sc x ∧ okName x = true := by
  unfold slotOf at h
  split at h
  all_goals first | (cases h; done) | skip
  all_goals
    rename_i hk
    split at h
    · rename_i ho
      refine ⟨ixOf_at h, ?_, ho⟩
      first | exact .inl hk | exact .inr (.inl hk) | exact .inr (.inr hk)
    · cases h
theorem own_at {N : List Str} {sc : Scope} {x : Str} {i : Nat} (h : ownOf N sc x = some i) : N[i]? = some x ∧ Loc sc x ∧ okName x = true := by
  unfold ownOf at h
  split at h
  all_goals first | (cases h; done) | skip
  all_goals
    rename_i hk
    split at h
    · rename_i ho
      refine ⟨ixOf_at h, ?_, ho⟩
      first | exact .inl hk | exact .inr hk
    · cases h
theorem glob_at {Γ : Glob} {sc : Scope} {x : Str} {g : GE} (h : globOf Γ sc x = some g) : sc.names.lookup x = some .globalImplicit ∧ okName x = true ∧ Γ.lookup x = some g := by
  unfold globOf at h
  split at h
  · rename_i hk
    split at h
    · rename_i ho
      exact ⟨hk, ho, h⟩
    · cases h
  · cases h
theorem blt_at {Γ : Glob} {sc : Scope} {x : Str} (h : isBlt Γ sc x = true) : globOf Γ sc x = some .blt := by
  unfold isBlt at h
  split at h
  · assumption
  · cases h
theorem _root_.L2.PE.imp {X : Cx} {e : Expr} {t t' : TE} (h : PE X e t) (i : ∀ σ H Q, t' σ H Q → t σ H Q) : PE X e t' := ⟨fun pins s σ H Q I q => h.run pins s σ H Q I (i σ H Q q)⟩
theorem _root_.L2.PT.imp {X : Cx} {e : Expr} {t t' : TT} (h : PT X e t) (i : ∀ σ H Q, t' σ H Q → t σ H Q) : PT X e t' := ⟨fun pins s σ H Q I q => h.run pins s σ H Q I (i σ H Q q)⟩
theorem _root_.L2.PW.imp {X : Cx} {e : Expr} {t t' : TT} (h : PW X e t) (i : ∀ σ H Q, t' σ H Q → t σ H Q) : PW X e t' := ⟨fun wh pins s σ H Q I q => h.run wh pins s σ H Q I (i σ H Q q)⟩
theorem _root_.L2.PA.imp {X : Cx} {es : List Expr} {t t' : TA} (h : PA X es t) (i : ∀ σ H Q, t' σ H Q → t σ H Q) : PA X es t' := ⟨fun pos pins s σ H Q I q => h.run pos pins s σ H Q I (i σ H Q q)⟩
theorem _root_.L2.PK.imp {X : Cx} {es : List Keyword} {t t' : TA} (h : PK X es t) (i : ∀ σ H Q, t' σ H Q → t σ H Q) : PK X es t' := ⟨fun pos pins s σ H Q I q => h.run pos pins s σ H Q I (i σ H Q q)⟩
theorem _root_.L2.PI.imp {X : Cx} {tg e : Expr} {t t' : TI} (h : PI X tg e t) (i : ∀ σ H Q, t' σ H Q → t σ H Q) : PI X tg e t' := ⟨fun pins s σ H Q I q => h.run pins s σ H Q I (i σ H Q q)⟩
theorem _root_.L2.PO.imp {X : Cx} {o : Option Expr} {t t' : TO} (h : PO X o t) (i : ∀ σ H Q, t' σ H Q → t σ H Q) : PO X o t' := ⟨fun pins s σ H Q I q => h.run pins s σ H Q I (i σ H Q q)⟩
theorem _root_.L2.PI.or {X : Cx} {tg e : Expr} {t t' : TI} (h : PI X tg e t) (h' : PI X tg e t') : PI X tg e (fun σ H Q => t σ H Q ∨ t' σ H Q) := ⟨fun pins s σ H Q I q => q.elim (fun q => h.run pins s σ H Q I q) fun q => h'.run pins s σ H Q I q⟩

section
variable {Γ : Glob} {N : List Str} {F : Specs} {k : Nat} {Wx : WX} {X : Cx} {sc : Scope}
abbrev TV (X : Cx) (F : Specs) (Wx : WX) (m : E) : TE := tEv X.K X.mg F Wx m
/-- the claim for expressions -/
def EOk (Γ : Glob) (N : List Str) (F : Specs) (k : Nat) (sc : Scope) (e : Expr) (m : E) : Prop := ∀ (Wx : WX) (X : Cx), Good Γ N F k Wx X sc → PE X e (tEv X.K X.mg F Wx m)
def TOk (Γ : Glob) (N : List Str) (F : Specs) (k : Nat) (sc : Scope) (e : Expr) (m : C) : Prop := ∀ (Wx : WX) (X : Cx), Good Γ N F k Wx X sc → PT X e (tEvT X.K X.mg F Wx m)

theorem ok_var {x : Str} {pos : Pos} {i : Nat} (h : slotOf N sc x = some i) : EOk Γ N F k sc (.Name x pos) (.var i) := fun Wx X G => by
  obtain ⟨h1, h2, h3⟩ := slot_at h
  obtain ⟨d1, d2, _⟩ := okName_dbg h3
  refine (pe_var (by rw [G.n]; exact h1) (by rw [G.sc]; exact h2) d1 d2).imp fun σ H Q ⟨φ, ρ, μ, s, en, g⟩ => ?_
  simp only [ev] at g
  split at g
  · rename_i w hw
    obtain ⟨v, h4, h5⟩ := en.at_ i w hw
    exact ⟨v, h4, g φ v H .refl s h5⟩
  · exact g.elim
theorem fz_vOf {φ : Phi} {H : Hp} {d : PyData} (h : flatD d = true) : Fz φ H (vOf d) d := by
  cases d <;> first | (cases h; done) | skip
  · exact .non
  · exact .bl _
  · exact .int _
  · exact .str _
theorem ok_glob {x : Str} {pos : Pos} {d : PyData} (h : globOf Γ sc x = some (.con d)) : EOk Γ N F k sc (.Name x pos) (.con d) := fun Wx X G => by
  obtain ⟨h1, h2, h3⟩ := glob_at h
  obtain ⟨u, hu, r, hf⟩ := G.facts x _ h3
  refine (pe_glob (v := vOf d) (show X.env.kindOf x = some .globalImplicit by show X.env.scope.names.lookup x = _; rw [G.sc]; exact h1) hu r (okName_dbg h2).1).imp fun σ H Q ⟨φ, ρ, μ, s, en, g⟩ => ?_
  exact goes_dat s (fz_vOf hf) g
theorem ok_con {c : Const} {j : Nat} {pos : Pos} {d : PyData} (h : constD c = some d) : EOk Γ N F k sc (.Constant c j pos) (.con d) := fun Wx X G => by
  cases c <;> first | (cases h; done) | skip
  · cases h; exact pe_non.imp fun σ H Q ⟨φ, ρ, μ, s, en, g⟩ => goes_dat s .non g
  · cases h; exact pe_bl.imp fun σ H Q ⟨φ, ρ, μ, s, en, g⟩ => goes_dat s (.bl _) g
  · cases h; exact pe_int.imp fun σ H Q ⟨φ, ρ, μ, s, en, g⟩ => goes_dat s (.int _) g
  · cases h; exact pe_str.imp fun σ H Q ⟨φ, ρ, μ, s, en, g⟩ => goes_dat s (.str _) g
/-- argument lists -/
theorem trs_star {g : Expr → Option E} : ∀ {es : List Expr} {as : Es}, trs g es = some as → noStar es = true
  | [], _, _ => rfl
  | e :: es, as, h => by
    have key : ∀ {a : Option E} {b : Option Es}, (match a, b with | some a, some b => some (Es.cons a b) | _, _ => none) = some as → ∃ x y, a = some x ∧ b = some y := fun {a b} z => by
      split at z
      · exact ⟨_, _, rfl, rfl⟩
      · cases z
    cases e <;> first | (cases h; done) | (obtain ⟨x, y, _, hy⟩ := key (show _ = some as from h); exact trs_star (es := es) hy)
theorem trs_cons {g : Expr → Option E} {e : Expr} {es : List Expr} {as : Es} (h : trs g (e :: es) = some as) : ∃ a b, g e = some a ∧ trs g es = some b ∧ as = .cons a b := by
  have key : ∀ {a : Option E} {b : Option Es}, (match a, b with | some a, some b => some (Es.cons a b) | _, _ => none) = some as → ∃ x y, a = some x ∧ b = some y ∧ as = .cons x y := fun {a b} z => by
    split at z
    · exact ⟨_, _, rfl, rfl, (Option.some.inj z).symm⟩
    · cases z
  cases e <;> first | (cases h; done) | exact key (show _ = some as from h)
theorem ok_args {g : Expr → Option E} (hg : ∀ e m, g e = some m → EOk Γ N F k sc e m) : ∀ {es : List Expr} {as : Es}, trs g es = some as → ∀ (Wx : WX) (X : Cx), Good Γ N F k Wx X sc → PA X es (tEvs X.K X.mg F Wx as)
  | [], as, h, Wx, X, G => by
    cases h
    exact pa_nil.imp fun σ H Q ⟨φ, ρ, μ, s, en, q⟩ => q φ [] H .refl s .nil
  | e :: es, as, h, Wx, X, G => by
    have st := trs_star h
    obtain ⟨a, b, h1, h2, rfl⟩ := trs_cons h
    refine (pa_cons (hg e a h1 Wx X G) (ok_args hg h2 Wx X G) (stars_cons X.env st)).imp fun σ H Q ⟨φ, ρ, μ, s, en, q⟩ => ?_
    refine ⟨φ, ρ, μ, s, en, Goes.bind q fun w μ1 _ φ1 v H1 e1 s1 r1 q1 => ?_⟩
    refine ⟨φ1, ρ, μ1, s1, e1.env en, Goes.bind q1 fun ws μ2 _ φ2 vs H2 e2 s2 r2 q2 => ?_⟩
    exact q2 φ2 _ H2 .refl s2 (.cons (e2.rp r1) r2)
theorem ok_kws {g : Expr → Option E} (hg : ∀ e m, g e = some m → EOk Γ N F k sc e m) : ∀ {ks : List Keyword} {ns : List Str} {as : Es}, trk g ks = some (ns, as) →
    ks.map (fun kw => match kw with | ⟨n, _, _⟩ => n) = ns.map some ∧ ∀ (Wx : WX) (X : Cx), Good Γ N F k Wx X sc → PK X ks (tEvs X.K X.mg F Wx as)
  | [], ns, as, h => by
    cases h
    exact ⟨rfl, fun Wx X G => pk_nil.imp fun σ H Q ⟨φ, ρ, μ, s, en, q⟩ => q φ [] H .refl s .nil⟩
  | ⟨n, e, p⟩ :: ks, ns, as, h => by
    cases n with
    | none => cases h
    | some n =>
      simp only [trk] at h
      split at h
      · rename_i a ns' b h1 h2
        cases h
        obtain ⟨i1, i2⟩ := ok_kws hg h2
        refine ⟨by rw [List.map_cons, List.map_cons, i1], fun Wx X G => ?_⟩
        refine (pk_cons (hg e a h1 Wx X G) (i2 Wx X G)).imp fun σ H Q ⟨φ, ρ, μ, s, en, q⟩ => ?_
        refine ⟨φ, ρ, μ, s, en, Goes.bind q fun w μ1 _ φ1 v H1 e1 s1 r1 q1 => ?_⟩
        refine ⟨φ1, ρ, μ1, s1, e1.env en, Goes.bind q1 fun ws μ2 _ φ2 vs H2 e2 s2 r2 q2 => ?_⟩
        exact q2 φ2 _ H2 .refl s2 (.cons (e2.rp r1) r2)
      · cases h
theorem ok_tup {g : Expr → Option E} (hg : ∀ e m, g e = some m → EOk Γ N F k sc e m) {es : List Expr} {as : Es} {j : Nat} {pos : Pos} (h : trs g es = some as) : EOk Γ N F k sc (.Tuple es j pos) (.tup as) := fun Wx X G => by
  refine (pe_tupF (ok_args hg h Wx X G)).imp fun σ H Q ⟨φ, ρ, μ, s, en, q⟩ => ?_
  refine ⟨φ, ρ, μ, s, en, Goes.bind q fun ws μ1 _ φ1 vs H1 e1 s1 r1 q1 => ?_⟩
  split at q1
  · rename_i ds μ2 hd
    obtain ⟨φ2, e2, s2, f2⟩ := dats_ok s1 r1 hd
    split at q1
    · rename_i hz
      have z : vs.length ≤ sizeLine := by rw [f2.length]; exact hz
      exact ⟨z, goes_tup s2 f2 z (Goes.step e2 q1)⟩
    · exact q1.elim
  · exact q1.elim
theorem ok_lst {g : Expr → Option E} (hg : ∀ e m, g e = some m → EOk Γ N F k sc e m) {es : List Expr} {as : Es} {m : Bool} {pos : Pos} (h : trs g es = some as) : EOk Γ N F k sc (.List es pos) (.lst m as) := fun Wx X G => by
  refine (pe_lst (ok_args hg h Wx X G)).imp fun σ H Q ⟨φ, ρ, μ, s, en, q⟩ => ?_
  refine ⟨φ, ρ, μ, s, en, Goes.bind q fun ws μ1 _ φ1 vs H1 e1 s1 r1 q1 => ?_⟩
  split at q1
  · rename_i ds μ2 hd
    obtain ⟨φ2, e2, s2, f2⟩ := dats_ok s1 r1 hd
    split at q1
    · rename_i hz
      have z : vs.length ≤ sizeLine := by rw [f2.length]; exact hz
      exact ⟨z, goes_lst s2 f2 z (Goes.step e2 q1)⟩
    · exact q1.elim
  · exact q1.elim
theorem ok_bin {op : Operator} {o : Bop} (ho : bopOf op = some o) {a b : Expr} {x y : E} {m : Bool} {pos : Pos} (ha : EOk Γ N F k sc a x) (hb : EOk Γ N F k sc b y) : EOk Γ N F k sc (.BinOp a op b pos) (.bin m o x y) := fun Wx X G => by
  obtain ⟨r, h1, h2⟩ := bin_ok (X := X) o
  have e : opOf o = op := by cases op <;> first | (cases ho; done) | (cases ho; rfl)
  rw [e] at h1
  refine (pe_op h1 (ha Wx X G) (hb Wx X G)).imp fun σ H Q ⟨φ, ρ, μ, s, en, q⟩ => ?_
  refine ⟨φ, ρ, μ, s, en, Goes.bind q fun w μ1 _ φ1 v H1 e1 s1 r1 q1 => ?_⟩
  refine ⟨φ1, ρ, μ1, s1, e1.env en, Goes.bind q1 fun u μ2 _ φ2 v2 H2 e2 s2 r2 q2 => ?_⟩
  split at q2
  · rename_i d e' hd he
    cases hr : binD o d e' with
    | none => rw [hr] at q2; exact q2.elim
    | some res => rw [hr] at q2; exact h2 s2 (s2.rd (e2.rp r1) hd) (s2.rd r2 he) hr m Q _ q2
  · exact q2.elim
theorem ok_neg {a : Expr} {x : E} {pos : Pos} (ha : EOk Γ N F k sc a x) : EOk Γ N F k sc (.UnaryOp .USub a pos) (.neg x) := fun Wx X G => by
  refine (pe_un un_neg (ha Wx X G)).imp fun σ H Q ⟨φ, ρ, μ, s, en, q⟩ => ?_
  refine ⟨φ, ρ, μ, s, en, Goes.bind q fun w μ1 _ φ1 v H1 e1 s1 r1 q1 => ?_⟩
  split at q1
  · rename_i i _
    cases r1
    exact ⟨i, rfl, goes_dat s1 (.int _) q1⟩
  · exact q1.elim
theorem Goes.lifted {α γ δ : Type} {R : Phi → Hp → γ → δ → Prop} {φ : Phi} {H : Hp} {o : Option α} {μ : Store} {f : α → Store → Out γ} {Q : δ → Hp → Prop} {xw : XW} (g : Goes R φ H ((lift o μ).bind f) Q xw) : ∃ a, o = some a ∧ Goes R φ H (f a μ) Q xw := by
  cases o with
  | none => exact g.elim
  | some a => exact ⟨a, rfl, g⟩
theorem units_of {X : Cx} (G : Good Γ N F k Wx X sc) : X.A.units + 199 < cLine := by have := G.room.un; omega
theorem notset_marks {op : CmpOp} {b : Expr} (h : notSet b = true) : behindInMarks op b = false := by cases b <;> first | rfl | cases h
theorem cop_of (op : CmpOp) : cmpOf (copOf op) = op := by cases op <;> rfl
theorem ok_cmp {op : CmpOp} {a b : Expr} {x y : E} {pos : Pos} (hs : notSet b = true) (ha : EOk Γ N F k sc a x) (hb : EOk Γ N F k sc b y) : EOk Γ N F k sc (.Compare a [op] [b] pos) (.cmp (copOf op) x y) := fun Wx X G => by
  have hu := units_of G
  obtain ⟨r, h1, h2⟩ := cmp_ok (X := X) (copOf op) (by omega)
  rw [cop_of] at h1
  refine (pe_cmpR h1 (ha Wx X G) (hb Wx X G) (notset_marks hs)).imp fun σ H Q ⟨φ, ρ, μ, s, en, q⟩ => ?_
  refine ⟨φ, ρ, μ, s, en, Goes.bind q fun w μ1 _ φ1 v H1 e1 s1 r1 q1 => ?_⟩
  refine ⟨φ1, ρ, μ1, s1, e1.env en, Goes.bind q1 fun u μ2 _ φ2 v2 H2 e2 s2 r2 q2 => ?_⟩
  split at q2
  · rename_i d e' hd he
    obtain ⟨b', hr, q3⟩ := Goes.lifted q2
    exact h2 (s2.rd (e2.rp r1) hd) (s2.rd r2 he) hr Q (goes_dat s2 (.bl _) q3)
  · exact q2.elim

theorem ok_chn {o p : CmpOp} {a b c : Expr} {x y z : E} {pos : Pos} (hs : notSet b = true) (hs2 : notSet c = true) (ha : EOk Γ N F k sc a x) (hb : EOk Γ N F k sc b y) (hc : EOk Γ N F k sc c z) : EOk Γ N F k sc (.Compare a [o, p] [b, c] pos) (.chn (copOf o) (copOf p) x y z) := fun Wx X G => by
  have hu := units_of G
  obtain ⟨r, h1, h2⟩ := cmp_ok (X := X) (copOf o) (by omega)
  obtain ⟨r', h1', h2'⟩ := cmp_ok (X := X) (copOf p) (by omega)
  rw [cop_of] at h1 h1'
  have key := pe_chain h1 h1' (ha Wx X G) (hb Wx X G) (hc Wx X G) (pos := pos) (by first | exact notset_marks hs | exact notset_marks hs2 | (simp [notset_marks hs, notset_marks hs2]; done))
  refine key.imp fun σ H Q ⟨φ, ρ, μ, s, en, q⟩ => ?_
  refine ⟨φ, ρ, μ, s, en, Goes.bind q fun w μ1 _ φ1 v H1 e1 s1 r1 q1 => ?_⟩
  refine ⟨φ1, ρ, μ1, s1, e1.env en, Goes.bind q1 fun u μ2 _ φ2 v2 H2 e2 s2 r2 q2 => ?_⟩
  split at q2
  · rename_i d e' hd he
    obtain ⟨b', hr, q3⟩ := Goes.lifted q2
    refine h2 (s2.rd (e2.rp r1) hd) (s2.rd r2 he) hr _ ⟨b', rfl, ?_⟩
    cases b' with
    | false => exact goes_dat s2 (.bl _) q3
    | true =>
      refine ⟨φ2, ρ, μ2, s2, e2.env (e1.env en), Goes.bind q3 fun z' μ3 _ φ3 v3 H3 e3 s3 r3 q4 => ?_⟩
      split at q4
      · rename_i d2 e2' hd2 he2
        obtain ⟨b2, hr2, q5⟩ := Goes.lifted q4
        exact h2' (s3.rd (e3.rp r2) hd2) (s3.rd r3 he2) hr2 Q (goes_dat s3 (.bl _) q5)
      · exact q4.elim
  · exact q2.elim
theorem tru_of {K : PySem.W.Frag} {φ : Phi} {μ : Store} {H : Hp} {w : W} {v : V} {γ δ : Type} {R : Phi → Hp → γ → δ → Prop} {f : Bool → Store → Out γ} {Q : δ → Hp → Prop} {xw : XW} (s : StoR φ μ H) (r : RpW K φ H w v) (q : Goes R φ H ((truth w μ).bind f) Q xw) :
    ∃ b, TruV K v H b ∧ Goes R φ H (f b μ) Q xw := by
  unfold truth at q
  obtain ⟨b, h1, h2⟩ := Goes.lifted q
  obtain ⟨d, h3, h4⟩ := Option.bind_eq_some_iff.mp h1
  exact ⟨b, tru_rd (s.rd r h3) h4, h2⟩
theorem ok_not {a : Expr} {x : E} {pos : Pos} (ha : EOk Γ N F k sc a x) : EOk Γ N F k sc (.UnaryOp .Not a pos) (.not x) := fun Wx X G => by
  refine (pe_notT (ha Wx X G)).imp fun σ H Q ⟨φ, ρ, μ, s, en, q⟩ => ?_
  refine ⟨φ, ρ, μ, s, en, Goes.bind q fun w μ1 _ φ1 v H1 e1 s1 r1 q1 => ?_⟩
  obtain ⟨b, h1, h2⟩ := tru_of s1 r1 q1
  exact ⟨b, h1, goes_dat s1 (.bl _) h2⟩
theorem fold_cons {α : Type} {op : α → α → α} {g : Expr → Option α} {a b : Expr} {r : List Expr} {x : α} (h : fold1 op g (a :: b :: r) = some x) : ∃ y z, g a = some y ∧ fold1 op g (b :: r) = some z ∧ x = op y z := by
  simp only [fold1] at h
  split at h
  · rename_i y z h1 h2
    exact ⟨y, z, h1, h2, (Option.some.inj h).symm⟩
  · cases h
theorem ok_and {g : Expr → Option E} (hg : ∀ e m, g e = some m → EOk Γ N F k sc e m) {pos : Pos} : ∀ {vs : List Expr} {x : E}, fold1 .and g vs = some x → EOk Γ N F k sc (.BoolOp .And vs pos) x
  | [], x, h => by cases h
  | [a], x, h => fun Wx X G => pe_one (hg a x h Wx X G)
  | a :: b :: r, x, h => fun Wx X G => by
    obtain ⟨y, z, h1, h2, rfl⟩ := fold_cons h
    refine (pe_andT (hg a y h1 Wx X G) (ok_and hg h2 Wx X G)).imp fun σ H Q ⟨φ, ρ, μ, s, en, q⟩ => ?_
    refine ⟨φ, ρ, μ, s, en, Goes.bind q fun w μ1 _ φ1 v H1 e1 s1 r1 q1 => ?_⟩
    obtain ⟨b', t1, t2⟩ := tru_of s1 r1 q1
    refine ⟨b', t1, ?_⟩
    cases b' with
    | true => exact ⟨φ1, ρ, μ1, s1, e1.env en, t2⟩
    | false => exact t2 φ1 v H1 .refl s1 r1
theorem ok_or {g : Expr → Option E} (hg : ∀ e m, g e = some m → EOk Γ N F k sc e m) {pos : Pos} : ∀ {vs : List Expr} {x : E}, fold1 .or g vs = some x → EOk Γ N F k sc (.BoolOp .Or vs pos) x
  | [], x, h => by cases h
  | [a], x, h => fun Wx X G => pe_one (hg a x h Wx X G)
  | a :: b :: r, x, h => fun Wx X G => by
    obtain ⟨y, z, h1, h2, rfl⟩ := fold_cons h
    refine (pe_orT (hg a y h1 Wx X G) (ok_or hg h2 Wx X G)).imp fun σ H Q ⟨φ, ρ, μ, s, en, q⟩ => ?_
    refine ⟨φ, ρ, μ, s, en, Goes.bind q fun w μ1 _ φ1 v H1 e1 s1 r1 q1 => ?_⟩
    obtain ⟨b', t1, t2⟩ := tru_of s1 r1 q1
    refine ⟨b', t1, ?_⟩
    cases b' with
    | false => exact ⟨φ1, ρ, μ1, s1, e1.env en, t2⟩
    | true => exact t2 φ1 v H1 .refl s1 r1
theorem ok_ite {c a b : Expr} {z : C} {x y : E} {pos : Pos} (hc : TOk Γ N F k sc c z) (ha : EOk Γ N F k sc a x) (hb : EOk Γ N F k sc b y) : EOk Γ N F k sc (.IfExp c a b pos) (.ite z x y) := fun Wx X G => by
  refine (pe_ifExp (hc Wx X G) (ha Wx X G) (hb Wx X G)).imp fun σ H Q ⟨φ, ρ, μ, s, en, q⟩ => ?_
  refine ⟨φ, ρ, μ, s, en, Goes.bind q fun b' μ1 _ φ1 b1 H1 e1 s1 r1 q1 => ?_⟩
  subst r1
  cases b' with
  | true => exact ⟨φ1, ρ, μ1, s1, e1.env en, q1⟩
  | false => exact ⟨φ1, ρ, μ1, s1, e1.env en, q1⟩
def notSlice : Expr → Bool
  | .Slice _ _ _ _ => false
  | _ => true
theorem ok_idx {a b : Expr} {x y : E} {pos : Pos} (hs : notSlice b = true) (ha : EOk Γ N F k sc a x) (hb : EOk Γ N F k sc b y) : EOk Γ N F k sc (.Subscript a b pos) (.idx x y) := fun Wx X G => by
  have hu := units_of G
  obtain ⟨r, h1, h2⟩ := idx_ok (X := X) (by omega)
  have pl : PlainIx b := fun o i => by cases b <;> first | rfl | cases hs
  refine (pe_ix h1 (ha Wx X G) (hb Wx X G) pl).imp fun σ H Q ⟨φ, ρ, μ, s, en, q⟩ => ?_
  refine ⟨φ, ρ, μ, s, en, Goes.bind q fun w μ1 _ φ1 v H1 e1 s1 r1 q1 => ?_⟩
  refine ⟨φ1, ρ, μ1, s1, e1.env en, Goes.bind q1 fun u μ2 _ φ2 v2 H2 e2 s2 r2 q2 => ?_⟩
  split at q2
  · rename_i d e' hd he
    obtain ⟨res, hr, q3⟩ := Goes.lifted q2
    exact h2 s2 (e2.rp r1) r2 hd he hr Q fun v3 f3 => goes_dat s2 f3 q3
  · exact q2.elim
def OOk (Γ : Glob) (N : List Str) (F : Specs) (k : Nat) (sc : Scope) (e : Option Expr) (m : Eo) : Prop := ∀ (Wx : WX) (X : Cx), Good Γ N F k Wx X sc → PO X e (tEvo X.K X.mg F Wx m)
theorem ok_o0 : OOk Γ N F k sc none .no := fun Wx X G => po_none.imp fun σ H Q ⟨φ, ρ, μ, s, en, q⟩ => q φ none H .refl s rfl
theorem ok_o1 {a : Expr} {x : E} (ha : EOk Γ N F k sc a x) : OOk Γ N F k sc (some a) (.so x) := fun Wx X G => (po_some (ha Wx X G)).imp fun σ H Q ⟨φ, ρ, μ, s, en, q⟩ => by
  refine ⟨φ, ρ, μ, s, en, Goes.bind q fun w μ1 _ φ1 v H1 e1 s1 r1 q1 => ?_⟩
  split at q1
  · rename_i i _
    cases r1
    exact ⟨i, rfl, q1 φ1 (some i) H1 .refl s1 rfl⟩
  · exact q1.elim
theorem ok_slc {a : Expr} {lo hi : Option Expr} {x : E} {y z : Eo} {m : Bool} {pos p2 : Pos} (ha : EOk Γ N F k sc a x) (hl : OOk Γ N F k sc lo y) (hh : OOk Γ N F k sc hi z) : EOk Γ N F k sc (.Subscript a (.Slice lo hi none p2) pos) (.slc m x y z) := fun Wx X G => by
  obtain ⟨r, h1, h2⟩ := slc_ok (X := X)
  refine (pe_slice h1 (ha Wx X G) (hl Wx X G) (hh Wx X G)).imp fun σ H Q ⟨φ, ρ, μ, s, en, q⟩ => ?_
  refine ⟨φ, ρ, μ, s, en, Goes.bind q fun w μ1 _ φ1 v H1 e1 s1 r1 q1 => ?_⟩
  refine ⟨φ1, ρ, μ1, s1, e1.env en, Goes.bind q1 fun o1 μ2 _ φ2 o1' H2 e2 s2 r2 q2 => ?_⟩
  refine ⟨φ2, ρ, μ2, s2, e2.env (e1.env en), Goes.bind q2 fun o2 μ3 _ φ3 o2' H3 e3 s3 r3 q3 => ?_⟩
  subst r2 r3
  split at q3
  · rename_i d hd
    cases hr : slcD d o1 o2 with
    | none => rw [hr] at q3; exact q3.elim
    | some res => rw [hr] at q3; exact h2 s3 (s3.rd (e3.rp (e2.rp r1)) hd) hr m Q _ q3
  · exact q3.elim
theorem ok_rev {a : Expr} {x : E} {m : Bool} {j : Nat} {p1 p2 p3 pos : Pos} (ha : EOk Γ N F k sc a x) : EOk Γ N F k sc (.Subscript a (.Slice none none (some (.UnaryOp .USub (.Constant (.int 1) j p1) p2)) p3) pos) (.rev m x) := fun Wx X G => by
  refine (pe_revL (ha Wx X G)).imp fun σ H Q ⟨φ, ρ, μ, s, en, q⟩ => ?_
  refine ⟨φ, ρ, μ, s, en, Goes.bind q fun w μ1 _ φ1 v H1 e1 s1 r1 q1 => ?_⟩
  split at q1
  · rename_i ds hd
    obtain ⟨a', us, rfl, ha', za, fa⟩ := (s1.rd r1 hd).list
    exact ⟨a', us, rfl, .of ha', goes_lst s1 fa.reverse (by rw [List.length_reverse]; exact za) q1⟩
  · exact q1.elim
theorem ok_isi {a : Expr} {t : Str} {x : E} {ty : String} {f : Str} {p q pos : Pos} (hf : isBlt Γ sc f = true) (hn : f = "isinstance") (ht : isBlt Γ sc t = true) (hty : tyOf t = some ty) (hs : noStar [a] = true) (ha : EOk Γ N F k sc a x) : EOk Γ N F k sc (.Call (.Name f p) [a, .Name t q] [] pos) (.isi x [ty]) := fun Wx X G => by
  obtain ⟨f1, f2, f3⟩ := glob_at (blt_at hf)
  obtain ⟨t1, t2, t3⟩ := glob_at (blt_at ht)
  have gf : Gl X f := by show X.env.scope.names.lookup f = _; rw [G.sc]; exact f1
  have gt : Gl X t := by show X.env.scope.names.lookup t = _; rw [G.sc]; exact t1
  have bt : bootBuiltins t = some (.type ty) := by
    unfold tyOf at hty
    repeat (split at hty; · rename_i e; subst e; cases hty; decide +kernel)
    cases hty
  subst hn
  have st : noStar [a, Expr.Name t q] = true := by cases a <;> first | rfl | cases hs
  have hA : PA X [a, Expr.Name t q] _ := pa_cons (ha Wx X G) (pa_cons (pe_bltn (v := .ty ty) gt (G.facts _ _ t3) bt rfl (okName_dbg t2).2.2 (okName_dbg t2).1) pa_nil (stars_cons X.env rfl)) (stars_cons X.env st)
  refine (pe_callB call_isi gf (G.facts _ _ f3) (by decide +kernel) hA (by decide) (by decide) (stars_cons X.env st) (back_any pos X.env rfl)).imp fun σ H Q ⟨φ, ρ, μ, s, en, q⟩ => ?_
  refine ⟨φ, ρ, μ, s, en, Goes.bind q fun w μ1 _ φ1 v H1 e1 s1 r1 q1 => ?_⟩
  split at q1
  · rename_i d t' hd ht'
    cases ht'
    obtain ⟨b, hr, q2⟩ := Goes.lifted q1
    exact isi_ok (s1.rd r1 hd) hr Q (goes_dat s1 (.bl _) q2)
  · exact q1.elim
end
end Dv

/-! Dv7: calls, methods, tests, what is walked, comprehensions; then all expressions. -/
namespace Dv
open PySem PySem.Spec PyProof.Rows L2
section
variable {Γ : Glob} {N : List Str} {F : Specs} {k : Nat} {Wx : WX} {X : Cx} {sc : Scope}
theorem RpAll.len {K : PySem.W.Frag} {φ : Phi} {H : Hp} : ∀ {ws : List W} {vs : List V}, RpAll K φ H ws vs → vs.length = ws.length
  | _, _, .nil => rfl
  | _, _, .cons _ t => by simp [RpAll.len t]
theorem gl_of {x : Str} (G : Good Γ N F k Wx X sc) (h : sc.names.lookup x = some .globalImplicit) : Gl X x := by
  show X.env.scope.names.lookup x = _
  rw [G.sc]
  exact h
/-- a call of a built-in -/
theorem blt_all_ok (G : Good Γ N F k Wx X sc) : ∀ f : Blt, f ≠ .min1 → BltOk X f
  | .len, _ => blt_len
  | .all, _ => blt_all G.calm
  | .any, _ => blt_any G.calm
  | .max2, _ => blt_max2 G.calm
  | .min2, _ => blt_min2 G.calm
  | .min1, h => absurd rfl h
  | .int, _ => blt_int
  | .str, _ => blt_str (by have := units_of G; omega) G.guards
  | .tuple, _ => blt_tuple
  | .list, _ => blt_list
  | .sorted, _ => blt_sorted
  | .dict, _ => blt_dict G.calm
theorem blt_boot {x : Str} {n : Nat} {b : Blt} (h : bltOf x n = some b) : bootBuiltins x = some (bltVal b) ∧ b ≠ .min1 ∧ 0 < n := by
  unfold bltOf at h
  repeat (split at h; · rename_i e; obtain ⟨e1, e2⟩ := e; subst e1; subst e2; cases h; exact ⟨by decide +kernel, (fun z => nomatch z), by decide⟩)
  cases h
theorem goes_bltP {m : Bool} {f : Blt} {ws : List W} {vs : List V} {φ : Phi} {μ : Store} {H : Hp} {Q : VK} {xw : XW} (G : Good Γ N F k Wx X sc) (hf : f ≠ .min1) (s : StoR φ μ H) (r : RpAll X.K φ H ws vs)
    (g : Goes (RpW X.K) φ H (bltP m f ws μ) Q xw) : ∃ r : List V → Hp → VK → Prop, CallR X (bltVal f) r ∧ r vs H Q := by
  unfold bltP at g
  split at g
  · rename_i ds hd
    obtain ⟨r', h1, h2⟩ := blt_all_ok G f hf
    cases hr : bltD f ds with
    | none => rw [hr] at g; exact g.elim
    | some res => rw [hr] at g; exact ⟨r', h1, h2 s (rds_now s r hd) hr m Q xw g⟩
  · exact g.elim
theorem goes_blt {m : Bool} {f : Blt} {ws : List W} {vs : List V} {φ : Phi} {μ : Store} {H : Hp} {Q : VK} {xw : XW} (G : Good Γ N F k Wx X sc) (hf : f ≠ .min1) (s : StoR φ μ H) (r : RpAll X.K φ H ws vs)
    (g : Goes (RpW X.K) φ H (bltW m f ws μ) Q xw) : ∃ r : List V → Hp → VK → Prop, CallR X (bltVal f) r ∧ r vs H Q := by
  unfold bltW at g
  split at g
  · unfold lenW at g
    split at g
    · obtain ⟨v, rfl, rv⟩ := one_rp r
      obtain ⟨a, rfl, h1, h2⟩ := rv
      refine ⟨_, call_len_seq, a, _, rfl, .inl h1, ?_⟩
      rw [List.length_map]
      exact goes_dat s (.int _) g
    · exact goes_bltP G hf s r g
  · exact goes_bltP G hf s r g
theorem nonempty {es : List Expr} (h : 0 < es.length) : ∃ e r, es = e :: r := by
  cases es with
  | nil => cases h
  | cons e r => exact ⟨e, r, rfl⟩
theorem callR_choose {f : Value} : CallR X f (fun vs H Q => ∃ r : List V → Hp → VK → Prop, CallR X f r ∧ r vs H Q) := by
  intro pins s σ H xs us Q I r h
  obtain ⟨r', h1, h2⟩ := h
  exact h1 pins s σ H xs us Q I r h2
theorem ok_blt {f : Str} {es : List Expr} {b : Blt} {as : Es} {m : Bool} {g : Expr → Option E} {p pos : Pos} (hg : ∀ e m, g e = some m → EOk Γ N F k sc e m) (hf : globOf Γ sc f = some .blt) (hb : bltOf f es.length = some b) (ha : trs g es = some as) : EOk Γ N F k sc (.Call (.Name f p) es [] pos) (.blt m b as) := fun Wx X G => by
  obtain ⟨f1, f2, f3⟩ := glob_at hf
  obtain ⟨h1, h2, h3⟩ := blt_boot hb
  obtain ⟨d1, _, d3⟩ := okName_dbg f2
  have st := trs_star ha
  have hA := ok_args hg ha Wx X G
  have fin : ∀ (σ : L2.St) (H : Hp) (Q : VK), tEv X.K X.mg F Wx (.blt m b as) σ H Q → tCB (fun vs H Q => ∃ r : List V → Hp → VK → Prop, CallR X (bltVal b) r ∧ r vs H Q) (tEvs X.K X.mg F Wx as) σ H Q := fun σ H Q ⟨φ, ρ, μ, s, en, q⟩ => by
    refine ⟨φ, ρ, μ, s, en, Goes.bind q fun ws μ1 _ φ1 vs H1 e1 s1 r1 q1 => ?_⟩
    exact goes_blt G h2 s1 r1 q1
  obtain ⟨e, r, rfl⟩ := nonempty h3
  cases b <;> first
    | exact (pe_callB callR_choose (gl_of G f1) (G.facts _ _ f3) h1 hA d3 d1 (stars_cons X.env st) (back_any pos X.env (noStar_tail st))).imp fin
    | exact (pe_callTy callR_choose (gl_of G f1) (G.facts _ _ f3) h1 hA d3 d1 (stars_cons X.env st) (back_any pos X.env (noStar_tail st))).imp fin
/-- a call of a def of the text -/
theorem good_fn {f x : Str} {ps : List Str} {kws : List (List Str × List Nat)} (G : Good Γ N F k Wx X sc) (h : Γ.lookup x = some (.fn f ps kws)) : ∃ a fd, X.mg f = some (.ref a) ∧ PySem.W.keepIn X.K (.ref a) = true ∧ Binds X.K fd ps [] ∧
    (∀ ko ∈ kws, KwOk fd ps ko.1 ko.2 ∧ ko.2.length = ps.length ∧ ∀ i ∈ ko.2, i < ko.1.length) ∧ FnG X.prog X.w X.K X.mg X.base k a fd ps (spOf X.K X.mg (F x) ps.length) := G.facts x _ h
def Es.len : Es → Nat
  | .nil => 0
  | .cons _ es => es.len + 1
theorem evs_len : ∀ {as : Es} {ρ : Env} {μ μ1 : Store} {ws : List W}, evs F as ρ μ = .ok ws μ1 → ws.length = as.len
  | .nil, ρ, μ, μ1, ws, h => by
    simp only [evs] at h
    cases h
    rfl
  | .cons e es, ρ, μ, μ1, ws, h => by
    simp only [evs] at h
    cases h1 : ev F e ρ μ with
    | ok w μ2 =>
      rw [h1, Out.bind_ok] at h
      cases h2 : evs F es ρ μ2 with
      | ok ws' μ3 =>
        rw [h2, Out.bind_ok] at h
        cases h
        show ws'.length + 1 = es.len + 1
        rw [evs_len h2]
      | ex c fs μ3 => rw [h2] at h; cases h
      | no => rw [h2] at h; cases h
    | ex c fs μ3 => rw [h1] at h; cases h
    | no => rw [h1] at h; cases h
theorem trs_len {g : Expr → Option E} : ∀ {es : List Expr} {as : Es}, trs g es = some as → as.len = es.length
  | [], as, h => by cases h; rfl
  | e :: es, as, h => by
    obtain ⟨a, b, h1, h2, rfl⟩ := trs_cons h
    show b.len + 1 = es.length + 1
    rw [trs_len h2]
theorem trk_len {g : Expr → Option E} : ∀ {ks : List Keyword} {ns : List Str} {as : Es}, trk g ks = some (ns, as) → as.len = ns.length
  | [], ns, as, h => by cases h; rfl
  | ⟨none, e, p⟩ :: ks, ns, as, h => by cases h
  | ⟨some n, e, p⟩ :: ks, ns, as, h => by
    simp only [trk] at h
    split at h
    · rename_i a ns' b h1 h2
      cases h
      show b.len + 1 = ns'.length + 1
      rw [trk_len h2]
    · cases h
theorem ok_cal {f : Str} {es : List Expr} {as : Es} {m : Bool} {g : Expr → Option E} {p pos : Pos} {g0 : GE} {ps : List Str} {kws : List (List Str × List Nat)} (hg : ∀ e m, g e = some m → EOk Γ N F k sc e m) (hf : globOf Γ sc f = some g0) (hm : Γ.lookup (nm m f) = some (.fn f ps kws)) (hl : es.length = ps.length) (ha : trs g es = some as) :
    EOk Γ N F k sc (.Call (.Name f p) es [] pos) (.cal m f as) := fun Wx X G => by
  obtain ⟨f1, f2, _⟩ := glob_at hf
  obtain ⟨a, fd, h1, h2, h3, _, h4⟩ := good_fn G hm
  obtain ⟨d1, _, _⟩ := okName_dbg f2
  have st := trs_star ha
  have hA := ok_args hg ha Wx X G
  have tl := trs_len ha
  cases es with
  | nil =>
    refine (pe_calG0 (E := fun σ => WE Wx σ) h4 G.room G.guards (gl_of G f1) h1 h2 h3 (fun σ => passAt G.tk σ) d1).imp fun σ H Q ⟨φ, ρ, μ, s, en, q⟩ => ?_
    cases ha
    exact ⟨hl, φ, [], μ, s, .nil, q⟩
  | cons e r =>
    refine (pe_calG (E := fun σ => WE Wx σ) h4 G.room G.guards (gl_of G f1) h1 h2 h3 (fun σ => passAt G.tk σ) hA st d1).imp fun σ H Q ⟨φ, ρ, μ, s, en, q⟩ => ?_
    refine ⟨φ, ρ, μ, s, en, Goes.bind q fun ws μ1 hw φ1 vs H1 e1 s1 r1 q1 => ?_⟩
    have el := evs_len hw
    exact ⟨by rw [r1.len, el, tl, hl], φ1, ws, μ1, s1, r1, q1⟩
theorem RpAll.get {K : PySem.W.Frag} {φ : Phi} {H : Hp} : ∀ {ws : List W} {vs : List V} {i : Nat} {w : W}, RpAll K φ H ws vs → ws[i]? = some w → ∃ v, vs[i]? = some v ∧ RpW K φ H w v
  | _, _, _, _, .nil, e => by simp at e
  | _, _, 0, _, .cons r _, e => by simp at e; subst e; exact ⟨_, rfl, r⟩
  | _, _, i + 1, _, .cons _ t, e => by
    obtain ⟨u, h1, h2⟩ := RpAll.get (i := i) t (by simpa using e)
    exact ⟨u, by simpa using h1, h2⟩
theorem RpAll.perm {K : PySem.W.Frag} {φ : Phi} {H : Hp} {ws : List W} {vs : List V} (r : RpAll K φ H ws vs) : ∀ {pm : List Nat}, (∀ i ∈ pm, i < ws.length) → RpAll K φ H (perm pm ws) (pm.filterMap fun i => vs[i]?) ∧ (pm.filterMap fun i => vs[i]?).length = pm.length
  | [], _ => ⟨.nil, rfl⟩
  | i :: pm, h => by
    obtain ⟨h1, h2⟩ := RpAll.perm r (pm := pm) fun j hj => h j (List.mem_cons_of_mem _ hj)
    have hi := h i List.mem_cons_self
    have e : ws[i]? = some ws[i] := List.getElem?_eq_getElem hi
    obtain ⟨v, e2, r2⟩ := r.get e
    unfold Dv.perm at h1 ⊢
    rw [List.filterMap_cons_some e, List.filterMap_cons_some e2]
    exact ⟨.cons r2 h1, by rw [List.length_cons, List.length_cons, h2]⟩
theorem ok_cak {f : Str} {kws : List Keyword} {ns : List Str} {as : Es} {pm : List Nat} {g : Expr → Option E} {p pos : Pos} {ps : List Str} {kos : List (List Str × List Nat)} (hg : ∀ e m, g e = some m → EOk Γ N F k sc e m) (hf : globOf Γ sc f = some (.fn f ps kos)) (hp : kos.lookup ns = some pm) (ha : trk g kws = some (ns, as)) :
    EOk Γ N F k sc (.Call (.Name f p) [] kws pos) (.cak f pm as) := fun Wx X G => by
  obtain ⟨f1, f2, f3⟩ := glob_at hf
  obtain ⟨a, fd, h1, h2, _, h3, h4⟩ := good_fn G f3
  obtain ⟨d1, _, _⟩ := okName_dbg f2
  obtain ⟨i1, i2⟩ := ok_kws hg ha
  have hko : (ns, pm) ∈ kos := by
    clear ha i1 i2 h3 h4 f3 hf
    induction kos with
    | nil => cases hp
    | cons q r ih =>
      obtain ⟨qn, qp⟩ := q
      rw [List.lookup_cons] at hp
      cases hb : ns == qn with
      | true => rw [hb] at hp; cases hp; rw [eq_of_beq hb]; exact List.mem_cons_self
      | false => rw [hb] at hp; exact List.mem_cons_of_mem _ (ih hp)
  obtain ⟨k1, k2, k3⟩ := h3 _ hko
  have k2 : pm.length = ps.length := k2
  have k3 : ∀ i ∈ pm, i < ns.length := k3
  have k1 : KwOk fd ps ns pm := k1
  have tl := trk_len ha
  refine (pe_cakG (E := fun σ => WE Wx σ) h4 G.room G.guards (gl_of G f1) h1 h2 k1 (fun σ => passAt G.tk σ) (i2 Wx X G) i1 d1).imp fun σ H Q ⟨φ, ρ, μ, s, en, q⟩ => ?_
  refine ⟨φ, ρ, μ, s, en, Goes.bind q fun ws μ1 hw φ1 vs H1 e1 s1 r1 q1 => ?_⟩
  have el := evs_len hw
  have rl := r1.len
  obtain ⟨p1, p2⟩ := r1.perm (pm := pm) fun i hi => by have := k3 i hi; omega
  exact ⟨by rw [rl, el, tl], by rw [p2]; exact k2, φ1, _, μ1, s1, p1, q1⟩
/-- methods -/
theorem mth_all_ok (G : Good Γ N F k Wx X sc) {x : Str} {n : Nat} {f : Mth} (h : mthOf x n = some f) : mthNm f = x ∧ MthOk X f := by
  have hu := units_of G
  unfold mthOf at h
  repeat (split at h; · rename_i e; obtain ⟨e1, e2⟩ := e; subst e1; subst e2; cases h; exact ⟨rfl, by first | exact mth_append | exact mth_pop0 | exact mth_pop1 | exact mth_get1 (by omega) | exact mth_get2 (by omega)⟩)
  cases h
theorem base_ok {o : Expr} {m : Str} {env : PySem.Env} (h : baseOk o = true) : attributeBase o m env (eval o env) = eval o env := by
  cases o with
  | Call f args kws p =>
    cases f with
    | Name id q =>
      cases args with
      | nil =>
        cases kws with
        | nil => cases h
        | cons a b => rfl
      | cons a b => rfl
    | _ => rfl
  | _ => rfl
theorem ok_mth {o : Expr} {f : Str} {ap cp : Pos} {es : List Expr} {x : E} {as : Es} {m : Bool} {q : Mth} {g : Expr → Option E} (hg : ∀ e m, g e = some m → EOk Γ N F k sc e m) (hline : (ap.endLine == cp.line) = true) (hbase : baseOk o = true) (hl : es.length < 20) (hm : mthOf f es.length = some q)
    (ho : EOk Γ N F k sc o x) (ha : trs g es = some as) : EOk Γ N F k sc (.Call (.Attribute o f ap) es [] cp) (.mth m q x as) := fun Wx X G => by
  obtain ⟨e1, T, id, tq, r, h1, h2, h3, h4, h5, h6, h7⟩ := mth_all_ok G hm
  rw [e1] at h2
  have hA := ok_args hg ha Wx X G
  have st := trs_star ha
  have fin : ∀ (σ : L2.St) (H : Hp) (Q : VK), tEv X.K X.mg F Wx (.mth m q x as) σ H Q → tMt tq r (tEv X.K X.mg F Wx x) (tEvs X.K X.mg F Wx as) σ H Q := fun σ H Q ⟨φ, ρ, μ, s, en, g⟩ => by
    refine ⟨φ, ρ, μ, s, en, Goes.bind g fun w μ1 _ φ1 v H1 e1 s1 r1 q1 => ?_⟩
    split at q1
    · rename_i hp
      refine ⟨h6 s1 r1 hp, φ1, ρ, μ1, s1, e1.env en, Goes.bind q1 fun ws μ2 _ φ2 vs H2 e2 s2 r2 q2 => ?_⟩
      exact h7 s2 (e2.rp r1) r2 m Q _ q2
    · exact q1.elim
  cases es with
  | nil =>
    cases ha
    refine (pe_mt0 h1 h2 h3 h4 h5 (ho Wx X G) (base_ok hbase) hline).imp fun σ H Q hq => ?_
    obtain ⟨φ, ρ, μ, s, en, g⟩ := hq
    refine ⟨φ, ρ, μ, s, en, Goes.bind g fun w μ1 _ φ1 v H1 e1 s1 r1 q1 => ?_⟩
    split at q1
    · rename_i hp
      exact ⟨h6 s1 r1 hp, h7 s1 r1 .nil m Q _ q1⟩
    · exact q1.elim
  | cons e r => exact (pe_mtN h1 h2 h3 h4 h5 (ho Wx X G) hA st hl (base_ok hbase) hline).imp fin

/-! ### tests -/
theorem ok_tnot {a : Expr} {x : C} {pos : Pos} (ha : TOk Γ N F k sc a x) : TOk Γ N F k sc (.UnaryOp .Not a pos) (.not x) := fun Wx X G => by
  refine (pt_not (ha Wx X G)).imp fun σ H Q ⟨φ, ρ, μ, s, en, q⟩ => ?_
  refine ⟨φ, ρ, μ, s, en, Goes.bind q fun b μ1 _ φ1 b' H1 e1 s1 r1 q1 => ?_⟩
  subst r1
  exact q1 φ1 _ H1 .refl s1 rfl
theorem ok_tand {g : Expr → Option C} (hg : ∀ e m, g e = some m → TOk Γ N F k sc e m) {pos : Pos} : ∀ {vs : List Expr} {x : C}, fold1 .and g vs = some x → ∀ (Wx : WX) (X : Cx), Good Γ N F k Wx X sc → PW X (.BoolOp .And vs pos) (tEvT X.K X.mg F Wx x)
  | [], x, h => by cases h
  | [a], x, h => fun Wx X G => pw_and1 (hg a x h Wx X G)
  | a :: b :: r, x, h => fun Wx X G => by
    obtain ⟨y, z, h1, h2, rfl⟩ := fold_cons h
    refine (pw_and (hg a y h1 Wx X G) (ok_tand hg h2 Wx X G)).imp fun σ H Q ⟨φ, ρ, μ, s, en, q⟩ => ?_
    refine ⟨φ, ρ, μ, s, en, Goes.bind q fun b μ1 _ φ1 b' H1 e1 s1 r1 q1 => ?_⟩
    subst r1
    cases b with
    | true => exact ⟨φ1, ρ, μ1, s1, e1.env en, q1⟩
    | false => exact q1 φ1 _ H1 .refl s1 rfl
theorem ok_tor {g : Expr → Option C} (hg : ∀ e m, g e = some m → TOk Γ N F k sc e m) {pos : Pos} : ∀ {vs : List Expr} {x : C}, fold1 .or g vs = some x → ∀ (Wx : WX) (X : Cx), Good Γ N F k Wx X sc → PW X (.BoolOp .Or vs pos) (tEvT X.K X.mg F Wx x)
  | [], x, h => by cases h
  | [a], x, h => fun Wx X G => pw_or1 (hg a x h Wx X G)
  | a :: b :: r, x, h => fun Wx X G => by
    obtain ⟨y, z, h1, h2, rfl⟩ := fold_cons h
    refine (pw_or (hg a y h1 Wx X G) (ok_tor hg h2 Wx X G)).imp fun σ H Q ⟨φ, ρ, μ, s, en, q⟩ => ?_
    refine ⟨φ, ρ, μ, s, en, Goes.bind q fun b μ1 _ φ1 b' H1 e1 s1 r1 q1 => ?_⟩
    subst r1
    cases b with
    | false => exact ⟨φ1, ρ, μ1, s1, e1.env en, q1⟩
    | true => exact q1 φ1 _ H1 .refl s1 rfl
/-- the test of a plain expression: its truth -/
def plainT : Expr → Bool
  | .UnaryOp .Not _ _ => false
  | .BoolOp _ _ _ => false
  | .IfExp _ _ _ _ => false
  | .Compare _ _ _ _ => false
  | _ => true
theorem ok_tval {a : Expr} {x : E} (hp : plainT a = true) (ha : EOk Γ N F k sc a x) : TOk Γ N F k sc a (.val x) := fun Wx X G => by
  have he : ∀ whole, isTrue a X.env whole = (do let v ← whole; standAt a.pos; holding [v] (truthy v)) := fun whole => by
    cases a with
    | UnaryOp op b p => cases op <;> first | rfl | cases hp
    | BoolOp _ _ _ => cases hp
    | IfExp _ _ _ _ => cases hp
    | Compare _ _ _ _ => cases hp
    | _ => rfl
  refine (pt_truth (ha Wx X G) he).imp fun σ H Q ⟨φ, ρ, μ, s, en, q⟩ => ?_
  refine ⟨φ, ρ, μ, s, en, Goes.bind q fun w μ1 _ φ1 v H1 e1 s1 r1 q1 => ?_⟩
  have q2 : Goes (fun _ _ a b => a = b) φ1 H1 ((truth w μ1).bind fun b μ => .ok b μ) Q (xwE X.mg (WE Wx σ)) := by
    cases ht : truth w μ1 with
    | ok b μ => rw [ht] at q1; exact q1
    | ex c fs μ => rw [ht] at q1; exact q1
    | no => rw [ht] at q1; exact q1
  obtain ⟨b, h1, h2⟩ := tru_of s1 r1 q2
  exact ⟨b, h1, h2 φ1 b H1 .refl s1 rfl⟩

theorem truth_bl {b : Bool} {μ : Store} : truth (.dat (.bool b)) μ = .ok b μ := rfl
theorem ok_tcmp {op : CmpOp} {a b : Expr} {x y : E} {pos : Pos} (hs : notSet b = true) (ha : EOk Γ N F k sc a x) (hb : EOk Γ N F k sc b y) : TOk Γ N F k sc (.Compare a [op] [b] pos) (.val (.cmp (copOf op) x y)) := fun Wx X G => by
  have hu := units_of G
  obtain ⟨r, h1, h2⟩ := cmp_ok (X := X) (copOf op) (by omega)
  rw [cop_of] at h1
  refine (pt_cmpR h1 (ha Wx X G) (hb Wx X G) (notset_marks hs)).imp fun σ H Q ⟨φ, ρ, μ, s, en, q⟩ => ?_
  have q : Goes (fun _ _ a b => a = b) φ H ((ev F x ρ μ).bind fun x μ1 => (ev F y ρ μ1).bind fun y μ2 => match rd μ2 x, rd μ2 y with
    | some d, some e => (lift (cmpD (copOf op) d e) μ2).bind fun k μ3 => .ok k μ3
    | _, _ => .no) Q (xwE X.mg (WE Wx σ)) := by
    simp only [evT, ev] at q
    cases h1 : ev F x ρ μ with
    | ok w μ1 =>
      rw [h1] at q
      simp only [Out.bind_ok] at q ⊢
      cases h2 : ev F y ρ μ1 with
      | ok u μ2 =>
        rw [h2] at q
        simp only [Out.bind_ok] at q ⊢
        split at q
        · rename_i d e' hd he
          try simp only [hd, he]
          cases h3 : cmpD (copOf op) d e' with
          | none => rw [h3] at q; exact q.elim
          | some b => rw [h3] at q; exact q
        · exact q.elim
      | ex c fs μ2 => rw [h2] at q; exact q
      | no => rw [h2] at q; exact q
    | ex c fs μ1 => rw [h1] at q; exact q
    | no => rw [h1] at q; exact q
  refine ⟨φ, ρ, μ, s, en, Goes.bind q fun w μ1 _ φ1 v H1 e1 s1 r1 q1 => ?_⟩
  refine ⟨φ1, ρ, μ1, s1, e1.env en, Goes.bind q1 fun u μ2 _ φ2 v2 H2 e2 s2 r2 q2 => ?_⟩
  split at q2
  · rename_i d e' hd he
    obtain ⟨b', hr, q3⟩ := Goes.lifted q2
    exact h2 (s2.rd (e2.rp r1) hd) (s2.rd r2 he) hr _ ⟨b', rfl, q3 φ2 b' H2 .refl s2 rfl⟩
  · exact q2.elim
theorem ok_tchn {o p : CmpOp} {a b c : Expr} {x y z : E} {pos : Pos} (hs : notSet b = true) (hs2 : notSet c = true) (ha : EOk Γ N F k sc a x) (hb : EOk Γ N F k sc b y) (hc : EOk Γ N F k sc c z) : TOk Γ N F k sc (.Compare a [o, p] [b, c] pos) (.val (.chn (copOf o) (copOf p) x y z)) := fun Wx X G => by
  have hu := units_of G
  obtain ⟨r, h1, h2⟩ := cmp_ok (X := X) (copOf o) (by omega)
  obtain ⟨r', h1', h2'⟩ := cmp_ok (X := X) (copOf p) (by omega)
  rw [cop_of] at h1 h1'
  refine (pt_chain h1 h1' (ha Wx X G) (hb Wx X G) (hc Wx X G) (pos := pos) (by first | exact notset_marks hs | exact notset_marks hs2 | (simp [notset_marks hs, notset_marks hs2]; done))).imp fun σ H Q ⟨φ, ρ, μ, s, en, q⟩ => ?_
  have q : Goes (fun _ _ a b => a = b) φ H ((ev F x ρ μ).bind fun x μ1 => (ev F y ρ μ1).bind fun y μ2 => match rd μ2 x, rd μ2 y with
    | some d, some e => (lift (cmpD (copOf o) d e) μ2).bind fun k μ3 => if k = true then (ev F z ρ μ3).bind fun z μ4 => match rd μ4 y, rd μ4 z with
        | some e', some g => (lift (cmpD (copOf p) e' g) μ4).bind fun k' μ5 => .ok k' μ5
        | _, _ => .no
      else .ok false μ3
    | _, _ => .no) Q (xwE X.mg (WE Wx σ)) := by
    simp only [evT, ev] at q
    cases h1 : ev F x ρ μ with
    | ok w μ1 =>
      rw [h1] at q
      simp only [Out.bind_ok] at q ⊢
      cases h2 : ev F y ρ μ1 with
      | ok u μ2 =>
        rw [h2] at q
        simp only [Out.bind_ok] at q ⊢
        split at q
        · rename_i d e' hd he
          try simp only [hd, he]
          cases h3 : cmpD (copOf o) d e' with
          | none => rw [h3] at q; exact q.elim
          | some b =>
            rw [h3] at q
            cases b with
            | false => exact q
            | true =>
              simp only [lift, Out.bind_ok, if_true] at q ⊢
              cases h4 : ev F z ρ μ2 with
              | ok u' μ3 =>
                rw [h4] at q
                simp only [Out.bind_ok] at q ⊢
                split at q
                · rename_i d2 e2 hd2 he2
                  try simp only [hd2, he2]
                  cases h5 : cmpD (copOf p) d2 e2 with
                  | none => rw [h5] at q; exact q.elim
                  | some b => rw [h5] at q; exact q
                · exact q.elim
              | ex c fs μ3 => rw [h4] at q; exact q
              | no => rw [h4] at q; exact q
        · exact q.elim
      | ex c fs μ2 => rw [h2] at q; exact q
      | no => rw [h2] at q; exact q
    | ex c fs μ1 => rw [h1] at q; exact q
    | no => rw [h1] at q; exact q
  refine ⟨φ, ρ, μ, s, en, Goes.bind q fun w μ1 _ φ1 v H1 e1 s1 r1 q1 => ?_⟩
  refine ⟨φ1, ρ, μ1, s1, e1.env en, Goes.bind q1 fun u μ2 _ φ2 v2 H2 e2 s2 r2 q2 => ?_⟩
  split at q2
  · rename_i d e' hd he
    obtain ⟨b', hr, q3⟩ := Goes.lifted q2
    refine h2 (s2.rd (e2.rp r1) hd) (s2.rd r2 he) hr _ ⟨b', rfl, ?_⟩
    cases b' with
    | false => exact ⟨false, rfl, q3 φ2 _ H2 .refl s2 rfl⟩
    | true =>
      refine ⟨φ2, ρ, μ2, s2, e2.env (e1.env en), Goes.bind q3 fun z' μ3 _ φ3 v3 H3 e3 s3 r3 q4 => ?_⟩
      split at q4
      · rename_i d2 e2' hd2 he2
        obtain ⟨b2, hr2, q5⟩ := Goes.lifted q4
        exact h2' (s3.rd (e3.rp r2) hd2) (s3.rd r3 he2) hr2 _ ⟨b2, rfl, q5 φ3 b2 H3 .refl s3 rfl⟩
      · exact q4.elim
  · exact q2.elim

/-! ### what is walked -/
theorem feeds_list {K : PySem.W.Frag} {φ : Phi} {H : Hp} {a : Addr} {xs : List V} {ds : List PyData} {t : Bool} (h : H a = some (.lst xs)) (n : some a ∉ φ) (f : FzAll φ H xs ds) : Feeds t φ H ds (Itl K a) := fun φ1 H1 e => by
  have h1 := e.keep a _ h n
  refine ⟨⟨xs, .of h1, by rw [f.length]; exact Nat.le_refl _⟩, fun i d hd => ?_⟩
  obtain ⟨v, e1, f1⟩ := (e.fzAll f).get hd
  refine ⟨⟨xs, v, .of h1, e1⟩, fun x H2 hy => ?_⟩
  obtain ⟨rfl, hx⟩ := hy
  have := hx xs (.of h1)
  rw [e1] at this
  cases this
  exact ⟨.refl, fun μ s => s, .inl f1, fun _ => f1⟩
theorem feeds_tup {K : PySem.W.Frag} {φ : Phi} {H : Hp} {a : Addr} {ob : Obj} {xs : List V} {ds : List PyData} {t : Bool} (h : H a = some (.frz ob (.tup xs))) (n : some a ∉ φ) (f : FzAll φ H xs ds) : Feeds t φ H ds (Itt K a) := fun φ1 H1 e => by
  have h1 := e.keep a _ h n
  refine ⟨⟨xs, SqT.frz h1, by rw [f.length]; exact Nat.le_refl _⟩, fun i d hd => ?_⟩
  obtain ⟨v, e1, f1⟩ := (e.fzAll f).get hd
  refine ⟨⟨xs, v, SqT.frz h1, e1⟩, fun x H2 hy => ?_⟩
  obtain ⟨rfl, hx⟩ := hy
  have := hx xs (SqT.frz h1)
  rw [e1] at this
  cases this
  exact ⟨.refl, fun μ s => s, .inl f1, fun _ => f1⟩
theorem feeds_str {φ : Phi} {H : Hp} {x : Str} {t : Bool} : Feeds t φ H (signs x) (Its x) := fun φ1 H1 e => by
  unfold signs
  refine ⟨by show x.cps.size ≤ _; rw [List.length_map, Array.length_toList]; exact Nat.le_refl _, fun i d hd => ?_⟩
  rw [List.getElem?_map] at hd
  obtain ⟨c, hc, rfl⟩ := Option.map_eq_some_iff.mp hd
  have hi : i < x.cps.size := by have := (List.getElem?_eq_some_iff.mp hc).1; simpa using this
  refine ⟨hi, fun v H2 hy => ?_⟩
  obtain ⟨rfl, c', h1, rfl⟩ := hy
  have : c' = c := by simpa [h1] using hc
  subst this
  exact ⟨.refl, fun μ s => s, .inl (.str _), fun _ => .str _⟩
theorem feeds_rng {φ : Phi} {H : Hp} {lo : Int} {n : Nat} {t : Bool} : Feeds t φ H ((List.range n).map fun k => .int (lo + (k : Nat))) (Itr lo n) := fun φ1 H1 e => by
  refine ⟨by show n ≤ _; simp, fun i d hd => ?_⟩
  rw [List.getElem?_map] at hd
  obtain ⟨c, hc, rfl⟩ := Option.map_eq_some_iff.mp hd
  obtain ⟨hi, h2⟩ := List.getElem?_eq_some_iff.mp hc
  rw [List.getElem_range] at h2
  rw [List.length_range] at hi
  subst h2
  refine ⟨hi, fun v H2 hy => ?_⟩
  obtain ⟨rfl, rfl⟩ := hy
  exact ⟨.refl, fun μ s => s, .inl (.int _), fun _ => .int _⟩
/-- a pair just made -/
theorem pair_new {φ : Phi} {H : Hp} {T : Addr} {x y : V} {d e : PyData} (hT : H T = none) (fx : Fz φ H x d) (fy : Fz φ H y e) : Ext φ H φ (upd H T (.tup [x, y])) ∧ (∀ μ, StoR φ μ H → StoR φ μ (upd H T (.tup [x, y]))) ∧ ItR φ (upd H T (.tup [x, y])) (.ref T) (.tuple [d, e]) := by
  have ex : Ext φ H φ (upd H T (.tup [x, y])) := Ext.laid hT
  exact ⟨ex, fun μ s => s.laid hT, .inr ⟨T, [x, y], _, rfl, rfl, upd_same, .cons (ex.fz fx) (.cons (ex.fz fy) .nil)⟩⟩
theorem feeds_enum {K : PySem.W.Frag} {φ : Phi} {H : Hp} {a : Addr} {xs : List V} {ds : List PyData} (h : H a = some (.lst xs)) (n : some a ∉ φ) (f : FzAll φ H xs ds) : Feeds true φ H ((List.range ds.length).zipWith (fun (k : Nat) x => .tuple [.int k, x]) ds) (Ite K a) := fun φ1 H1 e => by
  have h1 := e.keep a _ h n
  refine ⟨⟨xs, .of h1, by rw [f.length]; simp⟩, fun i d hd => ?_⟩
  rw [List.getElem?_zipWith] at hd
  cases hr : (List.range ds.length)[i]? with
  | none => rw [hr] at hd; cases hd
  | some j =>
    cases hx : ds[i]? with
    | none => rw [hr, hx] at hd; cases hd
    | some d0 =>
      rw [hr, hx] at hd
      cases hd
      obtain ⟨_, h2⟩ := List.getElem?_eq_some_iff.mp hr
      rw [List.getElem_range] at h2
      subst h2
      obtain ⟨v, e1, f1⟩ := (e.fzAll f).get hx
      refine ⟨⟨xs, v, .of h1, e1⟩, fun x H2 hy => ?_⟩
      obtain ⟨T, x1, rfl, hT, rfl, hxx⟩ := hy
      have := hxx xs (.of h1)
      rw [e1] at this
      cases this
      obtain ⟨p1, p2, p3⟩ := pair_new hT (.int (i : Nat)) f1
      exact ⟨p1, p2, p3, fun z => nomatch z⟩
theorem feeds_zipL {K : PySem.W.Frag} {φ : Phi} {H : Hp} {a b : Addr} {xs ys : List V} {ds es : List PyData} (h : H a = some (.lst xs)) (n : some a ∉ φ) (f : FzAll φ H xs ds) (h' : H b = some (.lst ys)) (n' : some b ∉ φ) (f' : FzAll φ H ys es) : Feeds true φ H (List.zipWith (fun x y => .tuple [x, y]) ds es) (Itz K a b) := fun φ1 H1 e => by
  have h1 := e.keep a _ h n
  have h1' := e.keep b _ h' n'
  refine ⟨⟨xs, ys, .of h1, .of h1', by rw [f.length, f'.length, List.length_zipWith]; omega⟩, fun i d hd => ?_⟩
  rw [List.getElem?_zipWith] at hd
  cases hr : ds[i]? with
  | none => rw [hr] at hd; cases hd
  | some d0 =>
    cases hx : es[i]? with
    | none => rw [hr, hx] at hd; cases hd
    | some d1 =>
      rw [hr, hx] at hd
      cases hd
      obtain ⟨v, e1, f1⟩ := (e.fzAll f).get hr
      obtain ⟨v', e1', f1'⟩ := (e.fzAll f').get hx
      refine ⟨⟨xs, ys, v, v', .of h1, .of h1', e1, e1'⟩, fun x H2 hy => ?_⟩
      obtain ⟨T, x1, x2, rfl, hT, rfl, hxx, hyy⟩ := hy
      have := hxx xs (.of h1)
      rw [e1] at this
      cases this
      have := hyy ys (.of h1')
      rw [e1'] at this
      cases this
      obtain ⟨p1, p2, p3⟩ := pair_new hT f1 f1'
      exact ⟨p1, p2, p3, fun z => nomatch z⟩
theorem feeds_zipT {K : PySem.W.Frag} {φ : Phi} {H : Hp} {a b : Addr} {oa ob : Obj} {xs ys : List V} {ds es : List PyData} (h : H a = some (.frz oa (.tup xs))) (n : some a ∉ φ) (f : FzAll φ H xs ds) (h' : H b = some (.frz ob (.tup ys))) (n' : some b ∉ φ) (f' : FzAll φ H ys es) : Feeds true φ H (List.zipWith (fun x y => .tuple [x, y]) ds es) (RZ.ItzT K a b) := fun φ1 H1 e => by
  have h1 := e.keep a _ h n
  have h1' := e.keep b _ h' n'
  refine ⟨⟨xs, ys, SqT.frz h1, SqT.frz h1', by rw [f.length, f'.length, List.length_zipWith]; omega⟩, fun i d hd => ?_⟩
  rw [List.getElem?_zipWith] at hd
  cases hr : ds[i]? with
  | none => rw [hr] at hd; cases hd
  | some d0 =>
    cases hx : es[i]? with
    | none => rw [hr, hx] at hd; cases hd
    | some d1 =>
      rw [hr, hx] at hd
      cases hd
      obtain ⟨v, e1, f1⟩ := (e.fzAll f).get hr
      obtain ⟨v', e1', f1'⟩ := (e.fzAll f').get hx
      refine ⟨⟨xs, ys, v, v', SqT.frz h1, SqT.frz h1', e1, e1'⟩, fun x H2 hy => ?_⟩
      obtain ⟨T, x1, x2, rfl, hT, rfl, hxx, hyy⟩ := hy
      have := hxx xs (SqT.frz h1)
      rw [e1] at this
      cases this
      have := hyy ys (SqT.frz h1')
      rw [e1'] at this
      cases this
      obtain ⟨p1, p2, p3⟩ := pair_new hT f1 f1'
      exact ⟨p1, p2, p3, fun z => nomatch z⟩
end
end Dv

/-! Dv8: iterators, targets, comprehensions, and the translation as a whole. -/
namespace Dv
open PySem PySem.Spec PyProof.Rows L2
section
variable {Γ : Glob} {N : List Str} {F : Specs} {k : Nat} {Wx : WX} {X : Cx} {sc : Scope}
def IOk (Γ : Glob) (N : List Str) (F : Specs) (k : Nat) (sc : Scope) (tup : Bool) (e : Expr) (m : Wk) : Prop := ∀ (tg : Expr), isTup tg = tup → ∀ (Wx : WX) (X : Cx), Good Γ N F k Wx X sc → PI X tg e (tEvi X.K X.mg F Wx tup m)
theorem ok_seq {a : Expr} {x : E} {tup : Bool} (ha : EOk Γ N F k sc a x) : IOk Γ N F k sc tup a (.seq x) := fun tg htg Wx X G => by
  have hA := ha Wx X G
  refine (((pi_list (tg := tg) hA).or (pi_tup (tg := tg) hA)).or (pi_str (tg := tg) hA)).imp fun σ H R ⟨φ, ρ, μ, s, en, q⟩ => ?_
  have q : Goes (Feeds tup) φ H ((ev F x ρ μ).bind fun w μ1 => lift ((datOf w).bind seqD) μ1) R (xwE X.mg (WE Wx σ)) := q
  cases hw : ev F x ρ μ with
  | no => rw [hw] at q; exact q.elim
  | ex c fs μ1 =>
    refine .inl (.inl ⟨φ, ρ, μ, s, en, ?_⟩)
    rw [hw] at q ⊢
    exact q
  | ok w μ1 =>
    rw [hw, Out.bind_ok] at q
    cases w with
    | ref n => exact q.elim
    | scr ns => exact q.elim
    | dat d =>
      cases d with
      | list ds =>
        refine .inl (.inl ⟨φ, ρ, μ, s, en, ?_⟩)
        rw [hw]
        intro φ1 v H1 e1 s1 r1
        obtain ⟨a', us, rfl, ha', za, fa⟩ := Now.list (.inl r1)
        have na : some a' ∉ φ1 := by cases r1 with | lst _ n _ _ => exact n
        exact ⟨a', rfl, ⟨us, .of ha'⟩, q φ1 _ H1 e1 s1 (feeds_list ha' na fa)⟩
      | tuple ds =>
        refine .inl (.inr ⟨φ, ρ, μ, s, en, ?_⟩)
        rw [hw]
        intro φ1 v H1 e1 s1 r1
        obtain ⟨a', ob, us, rfl, ha', _, na, za, fa⟩ := Now.tuple (.inl r1)
        exact ⟨a', rfl, ⟨us, SqT.frz ha'⟩, q φ1 _ H1 e1 s1 (feeds_tup ha' na fa)⟩
      | str z =>
        refine .inr ⟨φ, ρ, μ, s, en, ?_⟩
        rw [hw]
        intro φ1 v H1 e1 s1 r1
        cases r1
        exact ⟨z, rfl, q φ1 _ H1 e1 s1 feeds_str⟩
      | none => exact q.elim
      | bool b => exact q.elim
      | int b => exact q.elim
      | dict b => exact q.elim
theorem one_pa {a : Expr} {x : E} {pos : Pos} (hs : noStar [a] = true) (ha : PE X a (tEv X.K X.mg F Wx x)) : PA X [a] (tCons (tEv X.K X.mg F Wx x) tNil) := pa_cons ha pa_nil (stars_cons X.env hs)
theorem one_star {a : Expr} (env : PySem.Env) (hs : noStar [a] = true) : starEach [a] env = [(false, eval a env)] := stars_plain env hs
theorem ok_rng1 {f : Str} {a : Expr} {x : E} {p pos : Pos} {tup : Bool} (hf : isBlt Γ sc f = true) (hn : f = "range") (hs : noStar [a] = true) (ha : EOk Γ N F k sc a x) : IOk Γ N F k sc tup (.Call (.Name f p) [a] [] pos) (.rng1 x) := fun tg htg Wx X G => by
  obtain ⟨f1, f2, f3⟩ := glob_at (blt_at hf)
  subst hn
  refine (pi_range1 (gl_of G f1) (G.facts _ _ f3) (pa_cons (ha Wx X G) pa_nil (stars_cons X.env hs)) (one_star X.env hs)).imp fun σ H R ⟨φ, ρ, μ, s, en, q⟩ => ?_
  refine ⟨φ, ρ, μ, s, en, Goes.bind q fun w μ1 _ φ1 v H1 e1 s1 r1 q1 => ?_⟩
  split at q1
  · rename_i j _
    split at q1
    · rename_i hj
      cases r1
      exact ⟨j, rfl, hj.1, hj.2, q1 φ1 _ H1 .refl s1 feeds_rng⟩
    · exact q1.elim
  · exact q1.elim
theorem ok_rng2 {f : Str} {a b : Expr} {x y : E} {p pos : Pos} {tup : Bool} (hf : isBlt Γ sc f = true) (hn : f = "range") (hs : noStar [a, b] = true) (ha : EOk Γ N F k sc a x) (hb : EOk Γ N F k sc b y) : IOk Γ N F k sc tup (.Call (.Name f p) [a, b] [] pos) (.rng2 x y) := fun tg htg Wx X G => by
  obtain ⟨f1, f2, f3⟩ := glob_at (blt_at hf)
  subst hn
  refine (pi_range2 (gl_of G f1) (G.facts _ _ f3) (pa_cons (ha Wx X G) (pa_cons (hb Wx X G) pa_nil (stars_cons X.env (noStar_tail hs))) (stars_cons X.env hs)) (stars_plain X.env hs) (stars_plain X.env (noStar_tail hs))).imp fun σ H R ⟨φ, ρ, μ, s, en, q⟩ => ?_
  refine ⟨φ, ρ, μ, s, en, Goes.bind q fun w μ1 _ φ1 v H1 e1 s1 r1 q1 => ?_⟩
  refine ⟨φ1, ρ, μ1, s1, e1.env en, Goes.bind q1 fun u μ2 _ φ2 v2 H2 e2 s2 r2 q2 => ?_⟩
  split at q2
  · rename_i i j _ _
    split at q2
    · rename_i hj
      have r1' := e2.rp r1
      cases r1'
      cases r2
      exact ⟨i, j, rfl, hj, q2 φ2 _ H2 .refl s2 feeds_rng⟩
    · exact q2.elim
  · exact q2.elim
theorem tup_form {tg : Expr} (h : isTup tg = true) : ∃ es j p, tg = .Tuple es j p := by
  cases tg <;> first | exact ⟨_, _, _, rfl⟩ | cases h
theorem ok_enum {f : Str} {a : Expr} {x : E} {p pos : Pos} (hf : isBlt Γ sc f = true) (hn : f = "enumerate") (hs : noStar [a] = true) (ha : EOk Γ N F k sc a x) : IOk Γ N F k sc true (.Call (.Name f p) [a] [] pos) (.enum x) := fun tg htg Wx X G => by
  obtain ⟨f1, f2, f3⟩ := glob_at (blt_at hf)
  subst hn
  obtain ⟨es, j, q, rfl⟩ := tup_form htg
  refine (pi_enum (gl_of G f1) (G.facts _ _ f3) (pa_cons (ha Wx X G) pa_nil (stars_cons X.env hs)) (one_star X.env hs)).imp fun σ H R ⟨φ, ρ, μ, s, en, q⟩ => ?_
  refine ⟨φ, ρ, μ, s, en, Goes.bind q fun w μ1 _ φ1 v H1 e1 s1 r1 q1 => ?_⟩
  split at q1
  · obtain ⟨a', us, rfl, ha', za, fa⟩ := Now.list (.inl r1)
    have na : some a' ∉ φ1 := by cases r1 with | lst _ n _ _ => exact n
    exact ⟨a', us, rfl, .of ha', q1 φ1 _ H1 .refl s1 (feeds_enum ha' na fa)⟩
  · exact q1.elim
theorem ok_zip {f : Str} {a b : Expr} {x y : E} {p pos : Pos} (hf : isBlt Γ sc f = true) (hn : f = "zip") (hs : noStar [a, b] = true) (ha : EOk Γ N F k sc a x) (hb : EOk Γ N F k sc b y) : IOk Γ N F k sc true (.Call (.Name f p) [a, b] [] pos) (.zip x y) := fun tg htg Wx X G => by
  obtain ⟨f1, f2, f3⟩ := glob_at (blt_at hf)
  subst hn
  obtain ⟨es, j, q, rfl⟩ := tup_form htg
  refine (RZ.pi_zipA (gl_of G f1) (G.facts _ _ f3) (pa_cons (ha Wx X G) (pa_cons (hb Wx X G) pa_nil (stars_cons X.env (noStar_tail hs))) (stars_cons X.env hs)) (stars_cons X.env hs) (back_any pos X.env (noStar_tail hs))).imp fun σ H R ⟨φ, ρ, μ, s, en, q⟩ => ?_
  refine ⟨φ, ρ, μ, s, en, Goes.bind q fun w μ1 _ φ1 v H1 e1 s1 r1 q1 => ?_⟩
  refine ⟨φ1, ρ, μ1, s1, e1.env en, Goes.bind q1 fun u μ2 _ φ2 v2 H2 e2 s2 r2 q2 => ?_⟩
  split at q2
  · have r1' := e2.rp r1
    obtain ⟨a', us, rfl, ha', za, fa⟩ := Now.list (.inl r1')
    have na : some a' ∉ φ2 := by cases r1' with | lst _ n _ _ => exact n
    obtain ⟨b', us', rfl, hb', zb, fb⟩ := Now.list (.inl r2)
    have nb : some b' ∉ φ2 := by cases r2 with | lst _ n _ _ => exact n
    exact ⟨a', b', us, us', rfl, .inl ⟨.of ha', .of hb', q2 φ2 _ H2 .refl s2 (feeds_zipL ha' na fa hb' nb fb)⟩⟩
  · have r1' := e2.rp r1
    obtain ⟨a', oa, us, rfl, ha', _, na, za, fa⟩ := Now.tuple (.inl r1')
    obtain ⟨b', ob, us', rfl, hb', _, nb, zb, fb⟩ := Now.tuple (.inl r2)
    exact ⟨a', b', us, us', rfl, .inr ⟨SqT.frz ha', SqT.frz hb', q2 φ2 _ H2 .refl s2 (feeds_zipT ha' na fa hb' nb fb)⟩⟩
  · exact q2.elim

/-! ### targets -/
def gOf (K : PySem.W.Frag) : Tg → TG
  | .v i => gName i
  | .t2 a b => gTup K 2 (gCons (gOf K a) (gCons (gOf K b) gNil))
  | .t3 a b c => gTup K 3 (gCons (gOf K a) (gCons (gOf K b) (gCons (gOf K c) gNil)))
def plainTg : Expr → Bool
  | .Name _ _ => true
  | .Tuple _ _ _ => true
  | _ => false
theorem tg_plain {n : Nat} {e : Expr} {g : Tg} (h : tgOf N sc n e = some g) : plainTg e = true := by
  cases n with
  | zero => cases h
  | succ n => cases e <;> first | rfl | cases h
theorem each_cons {e : Expr} {es : List Expr} (env : PySem.Env) (h : plainTg e = true) : assignEach (e :: es) env = (false, assign e env) :: assignEach es env := by cases e <;> first | rfl | cases h
theorem pg_of (G : Good Γ N F k Wx X sc) {sc' : Scope} (fn : ∀ x, Loc sc' x → Loc X.env.scope x ∧ (X.fn x = true ∨ X.env.scope.names.lookup x = some .local)) : ∀ (n : Nat) (e : Expr) (g : Tg), tgOf N sc' n e = some g → PG X e (gOf X.K g)
  | 0, e, g, h => by cases h
  | n + 1, e, g, h => by
    unfold tgOf at h
    split at h
    · rename_i x p
      obtain ⟨i, h1, rfl⟩ := Option.map_eq_some_iff.mp h
      obtain ⟨h2, h3, h4⟩ := own_at h1
      exact pg_name G.nd (by rw [G.n]; exact h2) (fn x h3).1 (fn x h3).2
    · rename_i a b j p
      split at h
      · rename_i x y h1 h2
        cases h
        have p1 := tg_plain h1
        have p2 := tg_plain h2
        have c2 := each_cons (es := []) X.env p2
        have c1 := each_cons (es := [b]) X.env p1
        have key := pgs_cons (pg_of G fn n a x h1) (pgs_cons (pg_of G fn n b y h2) pgs_nil (by rw [c2]; rfl)) (by rw [c1]; rfl)
        exact pg_tup G.calm key (by rw [c1, c2]; rfl) (by rw [c1, c2]; rfl)
      · cases h
    · rename_i a b c j p
      split at h
      · rename_i x y z h1 h2 h3
        cases h
        have p1 := tg_plain h1
        have p2 := tg_plain h2
        have p3 := tg_plain h3
        have c3 := each_cons (es := []) X.env p3
        have c2 := each_cons (es := [c]) X.env p2
        have c1 := each_cons (es := [b, c]) X.env p1
        have key := pgs_cons (pg_of G fn n a x h1) (pgs_cons (pg_of G fn n b y h2) (pgs_cons (pg_of G fn n c z h3) pgs_nil (by rw [c3]; rfl)) (by rw [c2]; rfl)) (by rw [c1]; rfl)
        exact pg_tup G.calm key (by rw [c1, c2, c3]; rfl) (by rw [c1, c2, c3]; rfl)
      · cases h
    · cases h
/-- two slots' lists that part at places of l alone -/
def OffAt (l : List Nat) (σ σ' : L2.St) : Prop := σ'.length = σ.length ∧ ∀ i, i ∉ l → σ'[i]? = σ[i]?
theorem OffAt.refl {l : List Nat} {σ : L2.St} : OffAt l σ σ := ⟨rfl, fun _ _ => rfl⟩
theorem OffAt.trans {l m : List Nat} {σ σ1 σ2 : L2.St} (a : OffAt l σ σ1) (b : OffAt m σ1 σ2) : OffAt (l ++ m) σ σ2 :=
  ⟨b.1.trans a.1, fun i h => (b.2 i fun z => h (List.mem_append_right _ z)).trans (a.2 i fun z => h (List.mem_append_left _ z))⟩
theorem OffAt.set {σ : L2.St} {i : Nat} {v : Option V} : OffAt [i] σ (σ.set i v) := ⟨by simp, fun j h => List.getElem?_set_ne (fun e => h (by simp [e]))⟩
theorem asg2 {a b : Tg} {w : W} {ρ ρ' : Env} (h : asg (.t2 a b) w ρ = some ρ') : ∃ x y ρ1, w = .dat (.tuple [x, y]) ∧ asg a (.dat x) ρ = some ρ1 ∧ asg b (.dat y) ρ1 = some ρ' := by
  simp only [asg] at h
  split at h
  · obtain ⟨ρ1, h1, h2⟩ := Option.bind_eq_some_iff.mp h
    exact ⟨_, _, ρ1, rfl, h1, h2⟩
  · cases h
theorem asg3 {a b c : Tg} {w : W} {ρ ρ' : Env} (h : asg (.t3 a b c) w ρ = some ρ') : ∃ x y z ρ1 ρ2, w = .dat (.tuple [x, y, z]) ∧ asg a (.dat x) ρ = some ρ1 ∧ asg b (.dat y) ρ1 = some ρ2 ∧ asg c (.dat z) ρ2 = some ρ' := by
  simp only [asg] at h
  split at h
  · obtain ⟨ρ1, h1, h2⟩ := Option.bind_eq_some_iff.mp h
    obtain ⟨ρ2, h3, h4⟩ := Option.bind_eq_some_iff.mp h2
    exact ⟨_, _, _, ρ1, ρ2, rfl, h1, h3, h4⟩
  · cases h
theorem fz2 {φ : Phi} {H : Hp} {us : List V} {x y : PyData} (f : FzAll φ H us [x, y]) : ∃ u v, us = [u, v] ∧ Fz φ H u x ∧ Fz φ H v y := by
  cases f with
  | cons f1 f =>
    cases f with
    | cons f2 f =>
      cases f
      exact ⟨_, _, rfl, f1, f2⟩
theorem fz3 {φ : Phi} {H : Hp} {us : List V} {x y z : PyData} (f : FzAll φ H us [x, y, z]) : ∃ u v w, us = [u, v, w] ∧ Fz φ H u x ∧ Fz φ H v y ∧ Fz φ H w z := by
  cases f with
  | cons f1 f =>
    obtain ⟨v, w, rfl, f2, f3⟩ := fz2 f
    exact ⟨_, v, w, rfl, f1, f2, f3⟩
/-- a target takes a tree -/
theorem g_fz {K : PySem.W.Frag} {φ : Phi} {H : Hp} : ∀ (g : Tg) {v : V} {w : W} {ρ ρ' : Env} {σ : L2.St} {Q : L2.St → Hp → Prop}, RpW K φ H w v → EnvR K φ H ρ σ → asg g w ρ = some ρ' → (∀ σ', EnvR K φ H ρ' σ' → OffAt (slots g) σ σ' → Q σ' H) → gOf K g v σ H Q
  | .v i, v, d, ρ, ρ', σ, Q, r, en, h, q => by
    cases h
    exact q _ (en.set r i) .set
  | .t2 a b, v, d, ρ, ρ', σ, Q, r, en, h, q => by
    obtain ⟨x, y, ρ1, rfl, h1, h2⟩ := asg2 h
    obtain ⟨t, ob, us, rfl, ht, _, _, _, f⟩ := Now.tuple (.inl r)
    obtain ⟨u1, u2, rfl, f1, f2⟩ := fz2 f
    refine ⟨t, _, rfl, SqT.frz ht, rfl, _, _, rfl, ?_⟩
    refine g_fz a (w := .dat x) f1 en h1 fun σ1 en1 o1 => ⟨_, _, rfl, ?_⟩
    exact g_fz b (w := .dat y) f2 en1 h2 fun σ2 en2 o2 => ⟨rfl, q σ2 en2 (o1.trans o2)⟩
  | .t3 a b c, v, d, ρ, ρ', σ, Q, r, en, h, q => by
    obtain ⟨x, y, z, ρ1, ρ2, rfl, h1, h2, h3⟩ := asg3 h
    obtain ⟨t, ob, us, rfl, ht, _, _, _, f⟩ := Now.tuple (.inl r)
    obtain ⟨u1, u2, u3, rfl, f1, f2, f3⟩ := fz3 f
    refine ⟨t, _, rfl, SqT.frz ht, rfl, _, _, rfl, ?_⟩
    refine g_fz a (w := .dat x) f1 en h1 fun σ1 en1 o1 => ⟨_, _, rfl, ?_⟩
    refine g_fz b (w := .dat y) f2 en1 h2 fun σ2 en2 o2 => ⟨_, _, rfl, ?_⟩
    exact g_fz c (w := .dat z) f3 en2 h3 fun σ3 en3 o3 => ⟨rfl, q σ3 en3 ((o1.trans o2).trans o3)⟩
/-- a target takes an item that is walked to -/
theorem g_it {K : PySem.W.Frag} {φ : Phi} {H : Hp} (g : Tg) {v : V} {d : PyData} {ρ ρ' : Env} {σ : L2.St} {Q : L2.St → Hp → Prop} (r : ItR φ H v d) (hv : ∀ i, g = .v i → Fz φ H v d) (en : EnvR K φ H ρ σ) (h : asg g (.dat d) ρ = some ρ') (q : ∀ σ', EnvR K φ H ρ' σ' → OffAt (slots g) σ σ' → Q σ' H) : gOf K g v σ H Q := by
  rcases r with r | ⟨t, us, ds, rfl, rfl, ht, f⟩
  · exact g_fz g (w := .dat d) r en h q
  · have sq : SqT K H t us := .of ht
    cases g with
    | v i => exact g_fz (.v i) (w := .dat _) (hv i rfl) en h q
    | t2 a b =>
      obtain ⟨x, y, ρ1, e, h1, h2⟩ := asg2 h
      cases e
      obtain ⟨u1, u2, rfl, f1, f2⟩ := fz2 f
      refine ⟨t, _, rfl, sq, rfl, _, _, rfl, ?_⟩
      refine g_fz a (w := .dat x) f1 en h1 fun σ1 en1 o1 => ⟨_, _, rfl, ?_⟩
      exact g_fz b (w := .dat y) f2 en1 h2 fun σ2 en2 o2 => ⟨rfl, q σ2 en2 (o1.trans o2)⟩
    | t3 a b c =>
      obtain ⟨x, y, z, ρ1, ρ2, e, h1, h2, h3⟩ := asg3 h
      cases e
      obtain ⟨u1, u2, u3, rfl, f1, f2, f3⟩ := fz3 f
      refine ⟨t, _, rfl, sq, rfl, _, _, rfl, ?_⟩
      refine g_fz a (w := .dat x) f1 en h1 fun σ1 en1 o1 => ⟨_, _, rfl, ?_⟩
      refine g_fz b (w := .dat y) f2 en1 h2 fun σ2 en2 o2 => ⟨_, _, rfl, ?_⟩
      exact g_fz c (w := .dat z) f3 en2 h3 fun σ3 en3 o3 => ⟨rfl, q σ3 en3 ((o1.trans o2).trans o3)⟩
theorem tg_v {n : Nat} {e : Expr} {i : Nat} (h : tgOf N sc n e = some (.v i)) : isTup e = false := by
  cases n with
  | zero => cases h
  | succ n =>
    unfold tgOf at h
    split at h
    · rfl
    · split at h <;> cases h
    · split at h <;> cases h
    · cases h

/-! ### comprehensions -/
theorem relS_look {scope sc : Scope} {x : Str} {q : NameKind} (h : scope.names.lookup x = some q) (hq : q ≠ .free) : (relS scope sc).names.lookup x = some q := lookup_relS_keep hq h
theorem good_blk (G : Good Γ N F k Wx X sc) (s : Shared) (H : Hp) (scope : Scope) (C : Addr) (cl : List (Str × Addr)) (fp : List Addr) : Good Γ N F k (fun _ _ _ _ => False) (X.blk s H scope (compEnvC scope cl C X.env) fp) (relS scope sc) where
  sc := by rw [← G.sc]; rfl
  n := G.n
  nd := G.nd
  calm := G.calm
  room := G.room
  guards := G.guards
  facts := G.facts
  tk := takes0
theorem blk_fn (G : Good Γ N F k Wx X sc) (s : Shared) (H : Hp) (scope : Scope) (C : Addr) (cl : List (Str × Addr)) (fp : List Addr) : ∀ x, Loc scope x → Loc (X.blk s H scope (compEnvC scope cl C X.env) fp).env.scope x ∧ ((X.blk s H scope (compEnvC scope cl C X.env) fp).fn x = true ∨ (X.blk s H scope (compEnvC scope cl C X.env) fp).env.scope.names.lookup x = some .local) := fun x h => by
  have e : (X.blk s H scope (compEnvC scope cl C X.env) fp).env.scope = relS scope X.env.scope := rfl
  rw [e]
  rcases h with h | h
  · have := relS_look (sc := X.env.scope) h (by decide)
    exact ⟨.inl this, .inr this⟩
  · have := relS_look (sc := X.env.scope) h (by decide)
    exact ⟨.inr this, .inl (by show (scope.names.lookup x == some .cell) = true; rw [h]; rfl)⟩
def CsOk (Γ : Glob) (N : List Str) (F : Specs) (k : Nat) (sc : Scope) (cs : List Expr) (m : Co) : Prop := ∀ (Wx : WX) (X : Cx), Good Γ N F k Wx X sc → PTs X cs (fun σ H Q => ∃ φ ρ μ, StoR φ μ H ∧ EnvR X.K φ H ρ σ ∧ Goes (fun _ _ a b => a = b) φ H (evC F m ρ μ) Q (xwE X.mg (WE Wx σ)))
theorem _root_.L2.PTs.imp {X : Cx} {e : List Expr} {t t' : TT} (h : PTs X e t) (i : ∀ σ H Q, t' σ H Q → t σ H Q) : PTs X e t' := ⟨fun pins s σ H Q I q => h.run pins s σ H Q I (i σ H Q q)⟩
theorem ok_cs0 : CsOk Γ N F k sc [] .no := fun Wx X G => pts_nil.imp fun σ H Q ⟨φ, ρ, μ, s, en, q⟩ => q φ true H .refl s rfl
theorem ok_cs1 {a : Expr} {x : C} (ha : TOk Γ N F k sc a x) : CsOk Γ N F k sc [a] (.so x) := fun Wx X G => (pts_one (ha Wx X G)).imp fun σ H Q ⟨φ, ρ, μ, s, en, q⟩ => ⟨φ, ρ, μ, s, en, q⟩
theorem wipe_off {l : List Nat} : ∀ {σ σ' : L2.St}, σ'.length = σ.length → (∀ i, i ∉ l → σ'[i]? = σ[i]?) → wipe σ' l = wipe σ l := by
  intro σ σ' hl h
  apply List.ext_getElem?
  intro i
  have key : ∀ (l : List Nat) (τ : L2.St) (i : Nat), (wipe τ l)[i]? = if i ∈ l ∧ i < τ.length then some none else τ[i]? := by
    intro l
    induction l with
    | nil => intro τ i; simp [wipe]
    | cons v vs ih =>
      intro τ i
      unfold wipe
      by_cases e : v = i
      · subst e
        by_cases hv : v < τ.length
        · rw [List.getElem?_set_self (by rw [wipe_length]; exact hv), if_pos ⟨List.mem_cons_self, hv⟩]
        · rw [List.getElem?_eq_none (by rw [List.length_set, wipe_length]; omega), if_neg (fun z => hv z.2), List.getElem?_eq_none (by omega)]
      · rw [List.getElem?_set_ne e, ih]
        by_cases hm : i ∈ vs
        · by_cases hv : i < τ.length
          · rw [if_pos ⟨hm, hv⟩, if_pos ⟨List.mem_cons_of_mem _ hm, hv⟩]
          · rw [if_neg (fun z => hv z.2), if_neg (fun z => hv z.2)]
        · rw [if_neg (fun z => hm z.1), if_neg (fun z => (List.mem_cons.mp z.1).elim (fun q => e q.symm) hm)]
  rw [key, key, hl]
  by_cases hm : i ∈ l
  · by_cases hv : i < σ.length
    · rw [if_pos ⟨hm, hv⟩, if_pos ⟨hm, hv⟩]
    · rw [if_neg (fun z => hv z.2), if_neg (fun z => hv z.2), List.getElem?_eq_none (by omega), List.getElem?_eq_none (by omega)]
  · rw [if_neg (fun z => hm z.1), if_neg (fun z => hm z.1), h i hm]
theorem EnvR.wiped {K : PySem.W.Frag} {φ : Phi} {H : Hp} {ρ : Env} {σ : L2.St} (en : EnvR K φ H ρ σ) : ∀ l : List Nat, EnvR K φ H (wipeE ρ l) (wipe σ l)
  | [] => en
  | v :: vs => by
    have ih := EnvR.wiped en vs
    refine ⟨by unfold wipeE wipe; rw [List.length_set, List.length_set]; exact ih.len, fun i w q => ?_⟩
    unfold wipeE at q
    unfold wipe
    by_cases e : v = i
    · subst e
      by_cases hv : v < (wipeE ρ vs).length
      · rw [List.getElem?_set_self hv] at q; cases q
      · rw [List.getElem?_eq_none (by simpa using hv)] at q; cases q
    · rw [List.getElem?_set_ne e] at q ⊢
      exact ih.at_ i w q
theorem wipe_twice (σ : L2.St) (l : List Nat) : wipe (wipe σ l) l = wipe σ l := by
  apply wipe_off (wipe_length σ l)
  intro i hi
  induction l with
  | nil => rfl
  | cons v vs ih =>
    unfold wipe
    rw [List.getElem?_set_ne (fun e => hi (by simp [e]))]
    exact ih fun z => hi (List.mem_cons_of_mem _ z)

mutual
/-- what stands off some objects stands off fewer -/
theorem Fz.sub {φ φ' : Phi} {H : Hp} (e : ∀ a, some a ∈ φ' → some a ∈ φ) : ∀ {v : V} {d : PyData}, Fz φ H v d → Fz φ' H v d
  | _, _, .non => .non
  | _, _, .bl b => .bl b
  | _, _, .int i => .int i
  | _, _, .str x => .str x
  | _, _, .lst h n z f => .lst h (fun m => n (e _ m)) z (FzAll.sub e f)
  | _, _, .tup h d n z f => .tup h d (fun m => n (e _ m)) z (FzAll.sub e f)
  | _, _, .dct h n z f => .dct h (fun m => n (e _ m)) z (FzKv.sub e f)
theorem FzAll.sub {φ φ' : Phi} {H : Hp} (e : ∀ a, some a ∈ φ' → some a ∈ φ) : ∀ {vs : List V} {ds : List PyData}, FzAll φ H vs ds → FzAll φ' H vs ds
  | _, _, .nil => .nil
  | _, _, .cons h t => .cons (Fz.sub e h) (FzAll.sub e t)
theorem FzKv.sub {φ φ' : Phi} {H : Hp} (e : ∀ a, some a ∈ φ' → some a ∈ φ) : ∀ {vs : List (Key × V)} {ds : List (PyData × PyData)}, FzKv φ H vs ds → FzKv φ' H vs ds
  | _, _, .nil => .nil
  | _, _, .cons h t => .cons (Fz.sub e h) (FzKv.sub e t)
end
theorem ObR.sub {φ φ' : Phi} {H : Hp} {a : Addr} {o : Ob} (e : ∀ a, some a ∈ φ' → some a ∈ φ) (h : ObR φ H a o) : ObR φ' H a o := by
  cases o with
  | lst ds => obtain ⟨xs, h3, h4, h5⟩ := h; exact ⟨xs, h3, h4, h5.sub e⟩
  | dct ds => obtain ⟨xs, h3, h4, h5⟩ := h; exact ⟨xs, h3, h4, h5.sub e⟩
  | gone => exact h.elim
theorem take_at {α : Type} {l : List α} {n i : Nat} {a : α} (h : (l.take n)[i]? = some a) : i < n ∧ l[i]? = some a := by
  rw [List.getElem?_take] at h
  split at h
  · exact ⟨by assumption, h⟩
  · cases h
/-- the objects from n on are dropped -/
theorem StoR.cut {φ : Phi} {μ : Store} {H : Hp} (s : StoR φ μ H) (n : Nat) : StoR (φ.take n) (μ.take n) H := by
  have sub : ∀ a, some a ∈ φ.take n → some a ∈ φ := fun a h => List.mem_of_mem_take h
  refine ⟨by rw [List.length_take, List.length_take, s.len], fun i j a h1 h2 => s.nd i j a (take_at h1).2 (take_at h2).2, fun m o h => ?_, fun a h => s.trk a (sub a h)⟩
  obtain ⟨hm, h⟩ := take_at h
  rcases s.live m o h with ⟨a, h1, h2⟩ | z
  · exact .inl ⟨a, by rw [List.getElem?_take, if_pos hm]; exact h1, h2.sub sub⟩
  · exact .inr z
theorem Ext.cut {φ φ' : Phi} {H H' : Hp} (e : Ext φ H φ' H') {n : Nat} (hn : φ.length ≤ n) : Ext φ H (φ'.take n) H' where
  le := by rw [List.length_take]; have := e.le; omega
  old := fun m a l h => e.old m a l (take_at h).2
  new := fun m a l h => e.new m a l (take_at h).2
  keep := e.keep
  all := e.all
/-- the turns of a comprehension -/
theorem lc_turns {K : PySem.W.Frag} {f : PyData → Store → Out (Option W)} {n : Nat} : ∀ {xs : List PyData} {μ : Store}, (∃ μ', lcL n f xs μ = .ok () μ') ∨ (lcL n f xs μ).noex = .no := fun {xs μ} => by
  cases lcL n f xs μ with
  | ok a μ' => exact .inl ⟨μ', rfl⟩
  | ex c fs μ' => exact .inr rfl
  | no => exact .inr rfl
theorem lc_step {f : PyData → Store → Out (Option W)} {n : Nat} {x : PyData} {xs : List PyData} {μ μ' : Store} (h : lcL n f (x :: xs) μ = .ok () μ') :
    (∃ μ1, f x μ = .ok none μ1 ∧ lcL n f xs μ1 = .ok () μ') ∨ ∃ w μ1 d μ2 ds, f x μ = .ok (some w) μ1 ∧ dats [w] μ1 = some ([d], μ2) ∧ μ2[n]? = some (.lst ds) ∧ ds.length < sizeLine ∧ lcL n f xs (μ2.set n (.lst (ds ++ [d]))) = .ok () μ' := by
  unfold lcL at h
  cases hf : f x μ with
  | ok o μ1 =>
    rw [hf, Out.bind_ok] at h
    cases o with
    | none => exact .inl ⟨μ1, rfl, h⟩
    | some w =>
      refine .inr ?_
      simp only at h
      split at h
      · rename_i d μ2 hd
        split at h
        · rename_i ds hds
          split at h
          · rename_i hl
            exact ⟨w, μ1, d, μ2, ds, rfl, hd, hds, hl, h⟩
          · cases h
        · cases h
      · cases h
  | ex c fs μ1 => rw [hf] at h; cases h
  | no => rw [hf] at h; cases h
theorem folded_any {e : Expr} {env : PySem.Env} (h : notSet e = true) : ∀ x, foldedSetIterable e env x = pure x := fun x => by cases e <;> first | rfl | cases h
theorem _root_.L2.PG.impl {X : Cx} {e : Expr} {t t' : TG} (h : PG X e t) (i : ∀ v σ H Q, t' v σ H Q → t v σ H Q) : PG X e t' := ⟨fun pins s σ H x u Q I r q => h.run pins s σ H x u Q I r (i x σ H Q q)⟩
def tTs (K : PySem.W.Frag) (mg : Str → Option Value) (F : Specs) (c : Co) : TT := fun σ H Q => ∃ φ ρ μ, StoR φ μ H ∧ EnvR K φ H ρ σ ∧ Goes (fun _ _ a b => a = b) φ H (evC F c ρ μ) Q (xwE mg (WE (fun _ _ _ _ => False) σ))
/-- a comprehension's reading -/
theorem lc_imp {tg : Expr} {N' : List Str} {scope : Scope} {own : List (Str × Nat)} {m : Bool} {g : Tg} {i : Wk} {x : E} {c : Co} {j : Nat} {K : PySem.W.Frag} {mg : Str → Option Value} (hg : tgOf N' scope j tg = some g) (hsl : (slots g).all (fun j => decide (j ∈ own.map (·.2))) = true) :
    ∀ (σ : L2.St) (H : Hp) (Q : VK), tEv K mg F Wx (.lc m x g i c (own.map (·.2))) σ H Q → tLc (tEvi K mg F Wx (isTup tg) i) (gOf K g) (tTs K mg F c) (tEv K mg F (fun _ _ _ _ => False) x) (own.map (·.2)) σ H Q := fun σ H Q ⟨φ, ρ, μ, s, en, q⟩ => by
  have hsub : ∀ a ∈ slots g, a ∈ own.map (·.2) := fun a ha => of_decide_eq_true (List.all_eq_true.mp hsl a ha)
  refine ⟨φ, ρ, μ, s, en, Goes.bind q fun xs μ1 _ φ1 J H1 e1 s1 r1 q1 => ?_⟩
  intro D hD
  generalize hf : (fun x_1 μ => lcTurn (asg g (.dat x_1) (wipeE ρ (own.map (·.2)))) (evC F c) (ev F x) μ) = f at q1
  have q1 : Goes (RpW K) φ1 H1 ((lcL μ1.length f xs (μ1 ++ [.lst []])).noex.bind fun _ μ2 => lcEnd m μ1.length μ2) Q (xwE mg (WE Wx σ)) := by first | exact q1 | (rw [← hf]; exact q1)
  have hl1 := s1.len
  rcases lc_turns (K := K) (f := f) (n := μ1.length) (xs := xs) (μ := μ1 ++ [.lst []]) with ⟨μE, hE⟩ | hno
  · rw [hE] at q1
    have q1 : Goes (RpW K) φ1 H1 (lcEnd m μ1.length μE) Q (xwE mg (WE Wx σ)) := q1
    have eD : Ext φ1 H1 (φ1 ++ [some D]) (upd H1 D (.lst [])) := Ext.push s1 hD
    have sD : StoR (φ1 ++ [some D]) (μ1 ++ [.lst []]) (upd H1 D (.lst [])) := s1.push hD ⟨[], upd_same, by decide, .nil⟩
    have atD : ∀ {φ' H'}, Ext (φ1 ++ [some D]) (upd H1 D (.lst [])) φ' H' → ∀ {a}, φ'[μ1.length]? = some (some a) → a = D := fun {φ' H'} e {a} h => by
      have h2 := e.old _ a (by simp [hl1]) h
      rw [← hl1] at h2
      simpa using h2.symm
    refine ⟨fun i n H' => i + n = xs.length ∧ ∃ φ' μ', Ext (φ1 ++ [some D]) (upd H1 D (.lst [])) φ' H' ∧ StoR φ' μ' H' ∧ lcL μ1.length f (xs.drop i) μ' = .ok () μE, ⟨xs.length, by omega, φ1 ++ [some D], _, .refl, sD, hE⟩, ?_⟩
    rintro i n H2 ⟨hn, φ2, μ2, e2, s2, h2⟩
    obtain ⟨stop, go⟩ := r1 φ2 H2 (eD.trans e2)
    by_cases hlt : i < xs.length
    · refine .inr ?_
      obtain ⟨g1, g2⟩ := go i xs[i] (List.getElem?_eq_getElem hlt)
      refine ⟨g1, fun H' => ∃ φ' μ', Ext (φ1 ++ [some D]) (upd H1 D (.lst [])) φ' H' ∧ StoR φ' μ' H' ∧ lcL μ1.length f (xs.drop (i + 1)) μ' = .ok () μE, fun H' ⟨φ', μ', a1, a2, a3⟩ => ⟨n - 1, by omega, by omega, φ', μ', a1, a2, a3⟩, fun v H3 hy => ?_⟩
      obtain ⟨e3, s3, r3, r3'⟩ := g2 v H3 hy
      have s3 := s3 μ2 s2
      have en3 : EnvR K φ2 H3 (wipeE ρ (own.map (·.2))) (wipe σ (own.map (·.2))) := ((e1.trans (eD.trans (e2.trans e3))).env en).wiped _
      rw [List.drop_eq_getElem_cons hlt] at h2
      cases hasg : asg g (.dat xs[i]) (wipeE ρ (own.map (·.2))) with
      | none =>
        have hx : f xs[i] μ2 = .no := by rw [← hf]; simp only [hasg, lcTurn]
        rcases lc_step h2 with ⟨μ3, hx', _⟩ | ⟨w, μ3, d, μ4, ds, hx', _⟩
        · rw [hx] at hx'; cases hx'
        · rw [hx] at hx'; cases hx'
      | some ρ1 =>
        have hx : f xs[i] μ2 = ((evC F c ρ1 μ2).bind fun k μ2 => if k = true then (ev F x ρ1 μ2).bind fun w μ3 => .ok (some w) μ3 else .ok none μ2) := by rw [← hf]; simp only [hasg, lcTurn]
        refine g_it g r3 (fun i' hi' => r3' (by subst hi'; exact tg_v hg)) en3 hasg fun σ4 en4 o4 => ⟨?_, ?_⟩
        · have : wipe σ4 (own.map (·.2)) = wipe (wipe σ (own.map (·.2))) (own.map (·.2)) := wipe_off o4.1 fun i hi => o4.2 i fun z => hi (hsub i z)
          rw [this, wipe_twice]
        · have e23 : Ext (φ1 ++ [some D]) (upd H1 D (.lst [])) φ2 H3 := e2.trans e3
          cases hC : evC F c ρ1 μ2 with
          | no =>
            rw [hC] at hx
            rcases lc_step h2 with ⟨μ3, hx', _⟩ | ⟨w, μ3, d, μ4, ds, hx', _⟩
            · rw [hx] at hx'; cases hx'
            · rw [hx] at hx'; cases hx'
          | ex c' fs μ3 =>
            rw [hC] at hx
            rcases lc_step h2 with ⟨μ3', hx', _⟩ | ⟨w, μ3', d, μ4, ds, hx', _⟩
            · rw [hx] at hx'; cases hx'
            · rw [hx] at hx'; cases hx'
          | ok b μ3 =>
            rw [hC, Out.bind_ok] at hx
            refine ⟨φ2, ρ1, μ2, s3, en4, ?_⟩
            rw [hC]
            intro φ5 b' H5 e5 s5 hb'
            subst hb'
            cases b with
            | false =>
              simp only [Bool.false_eq_true, if_false] at hx ⊢
              rcases lc_step h2 with ⟨μ4, hx', h4⟩ | ⟨w, μ4, d, μ5, ds, hx', _⟩
              · rw [hx] at hx'
                cases hx'
                exact ⟨φ5, _, e23.trans e5, s5, h4⟩
              · rw [hx] at hx'; cases hx'
            | true =>
              simp only [if_true] at hx ⊢
              cases hV : ev F x ρ1 μ3 with
              | no =>
                rw [hV] at hx
                rcases lc_step h2 with ⟨μ4, hx', _⟩ | ⟨w, μ4, d, μ5, ds, hx', _⟩
                · rw [hx] at hx'; cases hx'
                · rw [hx] at hx'; cases hx'
              | ex c' fs μ4 =>
                rw [hV] at hx
                rcases lc_step h2 with ⟨μ4', hx', _⟩ | ⟨w, μ4', d, μ5, ds, hx', _⟩
                · rw [hx] at hx'; cases hx'
                · rw [hx] at hx'; cases hx'
              | ok w μ4 =>
                rw [hV, Out.bind_ok] at hx
                rcases lc_step h2 with ⟨μ5, hx', _⟩ | ⟨w', μ5, d, μ6, ds, hx', hd, hds, hz, h6⟩
                · rw [hx] at hx'; cases hx'
                · rw [hx] at hx'
                  cases hx'
                  refine ⟨φ5, ρ1, μ3, s5, e5.env en4, ?_⟩
                  rw [hV]
                  intro φ6 y H6 e6 s6 r6
                  obtain ⟨φ7, e7, s7, f7⟩ := dats_ok s6 (.cons r6 .nil) hd
                  have e27 : Ext (φ1 ++ [some D]) (upd H1 D (.lst [])) φ7 H6 := e23.trans (e5.trans (e6.trans e7))
                  rcases s7.live _ _ hds with ⟨a, ha, acc, hacc, hlen, fa⟩ | z
                  · have := atD e27 ha
                    subst this
                    have fy : Fz φ7 H6 y d := by cases f7 with | cons f _ => exact f
                    have hzz : acc.length < sizeLine := by rw [fa.length]; exact hz
                    have eS : Ext φ7 H6 φ7 (upd H6 a (.lst (acc ++ [y]))) := Ext.set s7 ha
                    refine ⟨acc, hacc, hzz, φ7, _, e27.trans eS, s7.set (ob := .lst (ds ++ [d])) ha ⟨acc ++ [y], upd_same, by rw [List.length_append]; exact hzz, eS.fzAll (fa.append (.cons fy .nil))⟩, h6⟩
                  · cases z
    · have : i = xs.length := by omega
      subst this
      refine .inl ⟨stop, ?_⟩
      rw [List.drop_length] at h2
      cases h2
      unfold lcEnd at q1
      split at q1
      · rename_i ds hds
        rcases s2.live _ _ hds with ⟨a, ha, hob⟩ | z
        · have hob' := hob
          obtain ⟨acc, hacc, hlen, fa⟩ := hob
          have := atD e2 ha
          subst this
          have e12 : Ext φ1 H1 φ2 H2 := eD.trans e2
          split at q1
          · refine q1 φ2 _ H2 e12 s2 ⟨?_, fun b hb => ?_⟩
            · exact (List.getElem?_eq_some_iff.mp ha).1
            · rw [ha] at hb; cases hb; rfl
          · split at q1
            · rename_i hlast
              refine q1 (φ2.take μ1.length) _ H2 (e12.cut (by omega)) (s2.cut _) ?_
              refine .lst hacc (fun hm => ?_) hlen (fa.sub fun b hb => List.mem_of_mem_take hb)
              obtain ⟨p, hp⟩ := List.mem_iff_getElem?.mp hm
              have hp := take_at hp
              have := s2.nd p _ a hp.2 ha
              omega
            · have fr : Ext φ2 H2 (φ2.set μ1.length none) H2 := Ext.free
              refine q1 (φ2.set μ1.length none) _ H2 (e12.trans fr) s2.free ?_
              refine .lst hacc (fun hm => ?_) hlen (fr.fzAll fa)
              obtain ⟨p, hne, hp⟩ := mem_set_none hm
              exact hne (s2.nd p _ a hp ha)
        · cases z
      · exact q1.elim
  · rw [hno] at q1
    exact q1.elim
theorem ok_lc {elt tg it : Expr} {ifs : List Expr} {scope : Scope} {own : List (Str × Nat)} {m : Bool} {g : Tg} {i : Wk} {x : E} {c : Co} {j : Nat} {pos : Pos} (hs : notSet it = true) (hb : blkC N sc scope own = true) (hg : tgOf N scope j tg = some g)
    (hi : IOk Γ N F k sc (isTup tg) it i) (he : EOk Γ N F k (relS scope sc) elt x) (hc : CsOk Γ N F k (relS scope sc) ifs c) (hsl : (slots g).all (fun j => decide (j ∈ own.map (·.2))) = true) :
    EOk Γ N F k sc (.ListComp elt [⟨tg, it, ifs, 0⟩] scope pos) (.lc m x g i c (own.map (·.2))) := fun Wx X G => by
  have hblk : BlkOk X.N X.env.scope scope own := by rw [G.n, G.sc]; exact blkOk_by hb
  have key := pe_lc (pos := pos) (g := gOf X.K g) (te := tEv X.K X.mg F (fun _ _ _ _ => False) x) (tt := tTs X.K X.mg F c) G.calm G.nd (hi tg rfl Wx X G) hblk
    (fun s H C cl fp => pg_of (good_blk G s H scope C cl fp) (blk_fn G s H scope C cl fp) j tg g hg)
    (fun s H C cl fp => hc _ _ (good_blk G s H scope C cl fp)) (fun s H C cl fp => he _ _ (good_blk G s H scope C cl fp)) (folded_any hs)
  exact key.imp (lc_imp hg hsl)
/-- name = [..] on one line -/
def swLc (sc scope : Scope) (y : Str) (py pos : Pos) : Bool := (match sc.kind with | .function => true | _ => false) && decide (sc.names.lookup y = some .local) && (py.line == pos.line) && !(scope.names.any fun (n, k) => n == y && (k == .local || k == .cell))
theorem sw_of {env : PySem.Env} {elt : Expr} {gs : List Comprehension} {scope : Scope} {pos py : Pos} {y : Str} {l : Nat} (h : swLc env.scope scope y py pos = true) : swapsWith (.ListComp elt gs scope pos) (some (.Name y py)) l env = pure true := by
  unfold swLc at h
  simp only [Bool.and_eq_true, Bool.not_eq_true', decide_eq_true_eq] at h
  obtain ⟨⟨⟨h1, h2⟩, h3⟩, h4⟩ := h
  refine sw_true ?_ h2 h3 h4
  split at h1
  · assumption
  · cases h1
theorem _root_.L2.PS.impl {X : Cx} {e : Stmt} {t t' : TS} (h : PS X e t) (i : ∀ D σ H, t' D σ H → t D σ H) : PS X e t' := ⟨fun pins s σ H D I q => h.run pins s σ H D I (i D σ H q)⟩
theorem ok_setLc {elt tg it : Expr} {ifs : List Expr} {scope : Scope} {own : List (Str × Nat)} {m : Bool} {g : Tg} {i : Wk} {x : E} {c : Co} {j : Nat} {pos py spos : Pos} {y : Str} {n : Nat} (hw : swLc sc scope y py pos = true) (hy : N[n]? = some y)
    (hs : notSet it = true) (hb : blkC N sc scope own = true) (hg : tgOf N scope j tg = some g)
    (hi : IOk Γ N F k sc (isTup tg) it i) (he : EOk Γ N F k (relS scope sc) elt x) (hc : CsOk Γ N F k (relS scope sc) ifs c) (hsl : (slots g).all (fun j => decide (j ∈ own.map (·.2))) = true) (Wx : WX) (X : Cx) (G : Good Γ N F k Wx X sc) :
    PS X (.Assign [.Name y py] (.ListComp elt [⟨tg, it, ifs, 0⟩] scope pos) spos) (tAsg (tEv X.K X.mg F Wx (.lc m x g i c (own.map (·.2)))) (gName n)) := by
  have hblk : BlkOk X.N X.env.scope scope own := by rw [G.n, G.sc]; exact blkOk_by hb
  have hw' : swLc X.env.scope scope y py pos = true := by rw [G.sc]; exact hw
  have hyl : X.env.scope.names.lookup y = some .local := by
    unfold swLc at hw'
    simp only [Bool.and_eq_true, decide_eq_true_eq] at hw'
    exact hw'.1.1.2
  have key := ps_setLc (pos := pos) (spos := spos) (g := gOf X.K g) (te := tEv X.K X.mg F (fun _ _ _ _ => False) x) (tt := tTs X.K X.mg F c) G.calm G.nd (by rw [G.n]; exact hy) hyl (sw_of hw') (hi tg rfl Wx X G) hblk
    (fun s H C cl fp => pg_of (good_blk G s H scope C cl fp) (blk_fn G s H scope C cl fp) j tg g hg)
    (fun s H C cl fp => hc _ _ (good_blk G s H scope C cl fp)) (fun s H C cl fp => he _ _ (good_blk G s H scope C cl fp)) (folded_any hs)
  exact key.impl fun D σ H h => lc_imp hg hsl σ H _ h
end
end Dv

/-! Dv9: the translation of an expression computes what the model does. -/
namespace Dv
open PySem PySem.Spec PyProof.Rows L2
section
variable {Γ : Glob} {N : List Str} {F : Specs} {k : Nat}
structure TrOk (Γ : Glob) (N : List Str) (F : Specs) (k n : Nat) : Prop where
  e : ∀ sc m a x, tr Γ N n sc m a = some x → EOk Γ N F k sc a x
  c : ∀ sc m f es x p pos, trC Γ N n sc m f es = some x → EOk Γ N F k sc (.Call (.Name f p) es [] pos) x
  t : ∀ sc a x, trT Γ N n sc a = some x → TOk Γ N F k sc a x
  o : ∀ sc a x, trO Γ N n sc a = some x → OOk Γ N F k sc a x
  cs : ∀ sc a x, trCs Γ N n sc a = some x → CsOk Γ N F k sc a x
  i : ∀ sc tup a x, trI Γ N n sc tup a = some x → IOk Γ N F k sc tup a x
theorem TrOk.zero : TrOk Γ N F k 0 where
  e := fun _ _ _ _ h => by simp [tr] at h
  c := fun _ _ _ _ _ _ _ h => by simp [trC] at h
  t := fun _ _ _ h => by simp [trT] at h
  o := fun _ _ _ h => by simp [trO] at h
  cs := fun _ _ _ h => by simp [trCs] at h
  i := fun _ _ _ _ h => by simp [trI] at h
theorem tr_c {n : Nat} (T : TrOk Γ N F k n) {sc : Scope} {m : Bool} {f : Str} {es : List Expr} {x : E} {p pos : Pos} (h : trC Γ N (n + 1) sc m f es = some x) : EOk Γ N F k sc (.Call (.Name f p) es [] pos) x := by
  unfold trC at h
  split at h
  · rename_i hf
    split at h
    · rename_i b as hb ha
      cases h
      exact ok_blt (fun e m q => T.e sc false e m q) hf hb ha
    · cases h
  · rename_i y ps kw hf
    split at h
    · rename_i y' ps' kw' as hm ha
      split at h
      · rename_i hc
        obtain ⟨rfl, hl⟩ := hc
        cases h
        exact ok_cal (fun e m q => T.e sc false e m q) hf hm hl ha
      · cases h
    · cases h
  · cases h
theorem tr_o {n : Nat} (T : TrOk Γ N F k n) {sc : Scope} {a : Option Expr} {x : Eo} (h : trO Γ N (n + 1) sc a = some x) : OOk Γ N F k sc a x := by
  unfold trO at h
  split at h
  · cases h; exact ok_o0
  · obtain ⟨y, h1, rfl⟩ := Option.map_eq_some_iff.mp h
    exact ok_o1 (T.e _ _ _ _ h1)
theorem tr_cs {n : Nat} (T : TrOk Γ N F k n) {sc : Scope} {a : List Expr} {x : Co} (h : trCs Γ N (n + 1) sc a = some x) : CsOk Γ N F k sc a x := by
  unfold trCs at h
  split at h
  · cases h; exact ok_cs0
  · obtain ⟨y, h1, rfl⟩ := Option.map_eq_some_iff.mp h
    exact ok_cs1 (T.t _ _ _ h1)
  · cases h
theorem tr_i {n : Nat} (T : TrOk Γ N F k n) {sc : Scope} {tup : Bool} {a : Expr} {x : Wk} (h : trI Γ N (n + 1) sc tup a = some x) : IOk Γ N F k sc tup a x := by
  have sq : ∀ {a : Expr} {x : Wk}, (tr Γ N n sc false a).map Wk.seq = some x → IOk Γ N F k sc tup a x := fun {a x} h => by
    obtain ⟨y, h1, rfl⟩ := Option.map_eq_some_iff.mp h
    exact ok_seq (T.e _ _ _ _ h1)
  unfold trI at h
  split at h
  · rename_i f p a pos
    split at h
    · rename_i hf
      split at h
      · rename_i hb
        split at h
        · cases h
        · rename_i hns
          obtain ⟨y, h1, rfl⟩ := Option.map_eq_some_iff.mp h
          have st : noStar [a] = true := by cases a <;> first | rfl | exact absurd rfl (hns _ _)
          exact ok_rng1 hb hf st (T.e _ _ _ _ h1)
      · cases h
    · split at h
      · rename_i hf
        split at h
        · rename_i hb
          obtain ⟨hb, rfl⟩ := hb
          split at h
          · cases h
          · rename_i hns
            obtain ⟨y, h1, rfl⟩ := Option.map_eq_some_iff.mp h
            have st : noStar [a] = true := by cases a <;> first | rfl | exact absurd rfl (hns _ _)
            exact ok_enum hb hf st (T.e _ _ _ _ h1)
        · cases h
      · exact sq h
  · rename_i f p a b pos
    split at h
    · rename_i hf
      split at h
      · rename_i hb
        split at h
        · rename_i y z h1 h2
          cases h
          exact ok_rng2 hb.1 hf hb.2 (T.e _ _ _ _ h1) (T.e _ _ _ _ h2)
        · cases h
      · cases h
    · split at h
      · rename_i hf
        split at h
        · rename_i hb
          obtain ⟨hb, rfl, hs⟩ := hb
          split at h
          · rename_i y z h1 h2
            cases h
            exact ok_zip hb hf hs (T.e _ _ _ _ h1) (T.e _ _ _ _ h2)
          · cases h
        · cases h
      · exact sq h
  · exact sq h
theorem tr_cmp {n : Nat} (T : TrOk Γ N F k n) {sc : Scope} {m : Bool} {a : Expr} {ops : List CmpOp} {es : List Expr} {pos : Pos} {x : E} (h : tr Γ N (n + 1) sc m (.Compare a ops es pos) = some x) :
    EOk Γ N F k sc (.Compare a ops es pos) x ∧ TOk Γ N F k sc (.Compare a ops es pos) (.val x) := by
  unfold tr at h
  split at h <;> try (rename_i hh; cases hh; done)
  all_goals try (cases h; done)
  all_goals first
    | (rename_i hh; cases hh; done)
    | skip
  · rename_i a' op b pos' heq
    cases heq
    split at h
    · rename_i hs
      split at h
      · rename_i y z h1 h2
        cases h
        exact ⟨ok_cmp hs (T.e _ _ _ _ h1) (T.e _ _ _ _ h2), ok_tcmp hs (T.e _ _ _ _ h1) (T.e _ _ _ _ h2)⟩
      · cases h
    · cases h
  · rename_i a' o p b c pos' heq
    cases heq
    split at h
    · rename_i hs
      split at h
      · rename_i y z w h1 h2 h3
        cases h
        exact ⟨ok_chn hs.1 hs.2 (T.e _ _ _ _ h1) (T.e _ _ _ _ h2) (T.e _ _ _ _ h3), ok_tchn hs.1 hs.2 (T.e _ _ _ _ h1) (T.e _ _ _ _ h2) (T.e _ _ _ _ h3)⟩
      · cases h
    · cases h
theorem tr_t {n : Nat} (T : ∀ j ≤ n, TrOk Γ N F k j) {sc : Scope} {a : Expr} {x : C} (h : trT Γ N (n + 1) sc a = some x) : TOk Γ N F k sc a x := by
  unfold trT at h
  split at h
  · obtain ⟨y, h1, rfl⟩ := Option.map_eq_some_iff.mp h
    exact ok_tnot ((T n (Nat.le_refl _)).t _ _ _ h1)
  · exact fun Wx X G => (ok_tand (fun e m q => (T n (Nat.le_refl _)).t sc e m q) h Wx X G).pt
  · exact fun Wx X G => (ok_tor (fun e m q => (T n (Nat.le_refl _)).t sc e m q) h Wx X G).pt
  · cases h
  · rename_i h1 h2 h3 h4
    obtain ⟨y, h5, rfl⟩ := Option.map_eq_some_iff.mp h
    cases a with
    | Compare a ops es pos =>
      cases n with
      | zero => simp [tr] at h5
      | succ n => exact (tr_cmp (T n (Nat.le_succ _)) h5).2
    | UnaryOp op b pos =>
      cases op with
      | Not => exact absurd rfl (h1 _ _)
      | _ => exact ok_tval rfl ((T n (Nat.le_refl _)).e _ _ _ _ h5)
    | BoolOp op b pos =>
      cases op with
      | And => exact absurd rfl (h2 _ _)
      | Or => exact absurd rfl (h3 _ _)
    | IfExp c b d pos => exact absurd rfl (h4 _ _ _ _)
    | _ => exact ok_tval rfl ((T n (Nat.le_refl _)).e _ _ _ _ h5)
theorem tr_e {n : Nat} (T : TrOk Γ N F k n) {sc : Scope} {m : Bool} {a : Expr} {x : E} (h : tr Γ N (n + 1) sc m a = some x) : EOk Γ N F k sc a x := by
  unfold tr at h
  split at h
  · rename_i x' p
    split at h
    · rename_i i hi
      cases h
      exact ok_var hi
    · split at h
      · rename_i d hd
        cases h
        exact ok_glob hd
      · cases h
  · obtain ⟨y, h1, rfl⟩ := Option.map_eq_some_iff.mp h
    exact ok_con h1
  · obtain ⟨y, h1, rfl⟩ := Option.map_eq_some_iff.mp h
    exact ok_tup (fun e m q => T.e sc false e m q) h1
  · obtain ⟨y, h1, rfl⟩ := Option.map_eq_some_iff.mp h
    exact ok_lst (fun e m q => T.e sc false e m q) h1
  · split at h
    · rename_i h0 h1 h2
      cases h
      exact ok_bin h0 (T.e _ _ _ _ h1) (T.e _ _ _ _ h2)
    · cases h
  · obtain ⟨y, h1, rfl⟩ := Option.map_eq_some_iff.mp h
    exact ok_neg (T.e _ _ _ _ h1)
  · obtain ⟨y, h1, rfl⟩ := Option.map_eq_some_iff.mp h
    exact ok_not (T.e _ _ _ _ h1)
  · exact ok_and (fun e x q => T.e sc m e x q) h
  · exact ok_or (fun e x q => T.e sc m e x q) h
  · rename_i a op b pos
    split at h
    · rename_i hs
      split at h
      · rename_i y z h1 h2
        cases h
        exact ok_cmp hs (T.e _ _ _ _ h1) (T.e _ _ _ _ h2)
      · cases h
    · cases h
  · split at h
    · rename_i hs
      split at h
      · rename_i y z w h1 h2 h3
        cases h
        exact ok_chn hs.1 hs.2 (T.e _ _ _ _ h1) (T.e _ _ _ _ h2) (T.e _ _ _ _ h3)
      · cases h
    · cases h
  · split at h
    · rename_i h1 h2 h3
      cases h
      exact ok_ite (T.t _ _ _ h1) (T.e _ _ _ _ h2) (T.e _ _ _ _ h3)
    · cases h
  · obtain ⟨y, h1, rfl⟩ := Option.map_eq_some_iff.mp h
    exact ok_rev (T.e _ _ _ _ h1)
  · split at h
    · rename_i h1 h2 h3
      cases h
      exact ok_slc (T.e _ _ _ _ h1) (T.o _ _ _ h2) (T.o _ _ _ h3)
    · cases h
  · rename_i a b pos hn1 hn2
    split at h
    · rename_i y z h1 h2
      cases h
      refine ok_idx ?_ (T.e _ _ _ _ h1) (T.e _ _ _ _ h2)
      cases b with
      | Slice lo hi st p2 =>
        cases n with
        | zero => simp [tr] at h2
        | succ n => simp [tr] at h2
      | _ => rfl
    · cases h
  · rename_i f p es pos
    split at h
    · rename_i hf
      split at h
      · rename_i a t q
        split at h
        · rename_i hc
          split at h
          · rename_i y z h1 h2
            cases h
            exact ok_isi hc.1 hf hc.2.1 h2 hc.2.2 (T.e _ _ _ _ h1)
          · cases h
        · cases h
      · cases h
    · exact T.c _ _ _ _ _ _ _ h
  · split at h
    · rename_i y ps kws ns as hf ha
      split at h
      · rename_i e
        subst e
        split at h
        · rename_i pm hp
          cases h
          exact ok_cak (fun e m q => T.e sc false e m q) hf hp ha
        · cases h
      · cases h
    · cases h
  · split at h
    · rename_i hc
      split at h
      · rename_i g x' as hm ho ha
        cases h
        exact ok_mth (fun e m q => T.e sc false e m q) hc.1 hc.2.1 hc.2.2 hm (T.e _ _ _ _ ho) ha
      · cases h
    · cases h
  · split at h
    · rename_i hc
      split at h
      · rename_i g i x' c hg hi he hcs
        split at h
        · rename_i hsl
          cases h
          exact ok_lc hc.1 hc.2 hg (T.i _ _ _ _ hi) (T.e _ _ _ _ he) (T.cs _ _ _ hcs) hsl
        · cases h
      · cases h
    · cases h
  · cases h
theorem TrOk.succ {n : Nat} (T : ∀ j ≤ n, TrOk Γ N F k j) : TrOk Γ N F k (n + 1) where
  e := fun _ _ _ _ h => tr_e (T n (Nat.le_refl _)) h
  c := fun _ _ _ _ _ _ _ h => tr_c (T n (Nat.le_refl _)) h
  t := fun _ _ _ h => tr_t T h
  o := fun _ _ _ h => tr_o (T n (Nat.le_refl _)) h
  cs := fun _ _ _ h => tr_cs (T n (Nat.le_refl _)) h
  i := fun _ _ _ _ h => tr_i (T n (Nat.le_refl _)) h
theorem TrOk.le : ∀ (n j : Nat), j ≤ n → TrOk Γ N F k j
  | 0, j, h => by
    have : j = 0 := by omega
    subst this
    exact .zero
  | n + 1, j, h => by
    by_cases e : j = n + 1
    · subst e
      exact .succ (TrOk.le n)
    · exact TrOk.le n j (by omega)
theorem TrOk.all (n : Nat) : TrOk Γ N F k n := .le n n (Nat.le_refl _)
end
end Dv

/-! Dv10: statements. -/
namespace Dv
open PySem PySem.Spec PyProof.Rows L2

/-! ### the translation -/
def notLc : Expr → Bool
  | .ListComp _ _ _ _ => false
  | .SetComp _ _ _ _ => false
  | .DictComp _ _ _ _ _ => false
  | _ => true
def nameOf : Expr → Option (Str × Pos)
  | .Name x p => some (x, p)
  | _ => none
def isStarred : Expr → Bool
  | .Starred _ _ => true
  | _ => false
/-- names and values stored one by one, from the right -/
def parOk (sc : Scope) (line : Nat) (xs : List (Str × Pos)) (vs : List Expr) : Bool :=
  (match sc.kind with | .function => true | _ => false) && (xs.length == 2 || xs.length == 3) && (vs.length == xs.length) && noStar vs && !(vs.any isStarred) &&
    (xs.all fun p => decide (sc.names.lookup p.1 = some .local) && p.2.line == line) && decide ((xs.map (·.1)).Nodup) && !(vs.all (foldedForSure 8)) && !(vs.all (constantsAlone 8))
def namesOf : List Expr → Option (List (Str × Pos))
  | [] => some []
  | .Name x p :: es => (namesOf es).map ((x, p) :: ·)
  | _ :: _ => none
def slotsOf (N : List Str) (sc : Scope) : List (Str × Pos) → Option (List Nat)
  | [] => some []
  | (x, _) :: r => match ownOf N sc x, slotsOf N sc r with
    | some i, some is => some (i :: is)
    | _, _ => none
def trs2 (g : Bool → Expr → Option E) : List Bool → List Expr → Option Es
  | m :: ms, e :: es => match g m e, trs2 g ms es with
    | some a, some b => some (.cons a b)
    | _, _ => none
  | [], [] => some .nil
  | _, _ => none
def notTup : Expr → Bool
  | .Tuple _ _ _ => false
  | _ => true
def isNm : Expr → Bool
  | .Name _ _ => true
  | _ => false
def augOf : Operator → Option Bop
  | .Add => some .add
  | .Sub => some .sub
  | _ => none
section
variable (Γ : Glob) (N muts : List Str) (rm : Bool)
def isMut (x : Str) : Bool := muts.any fun y => decide (y = x)
def tgMut : Expr → Bool
  | .Name x _ => isMut muts x
  | _ => false
mutual
def trS : Nat → Scope → Stmt → Option S
  | 0, _, _ => none
  | n + 1, sc, s => match s with
    | .Expr (.Constant (.str _) _ _) _ => some .pass
    | .Expr e _ => if notLc e = true then (tr Γ N n sc false e).map .expr else none
    | .Pass _ => some .pass
    | .Break _ => some .brk
    | .Continue _ => some .cnt
    | .Return none _ => some .retn
    | .Return (some e) _ => (tr Γ N n sc rm e).map .ret
    | .Assign [.Name y py] (.ListComp el cl scope pos) _ =>
      match ownOf N sc y, tr Γ N n sc (isMut muts y) (.ListComp el cl scope pos) with
      | some i, some x => if swLc sc scope y py pos = true then some (.asg (.v i) x) else none
      | _, _ => none
    | .Assign [.Tuple ts _ _] (.Tuple vs _ _) _ => match namesOf ts with
      | some xs => if parOk sc ((ts.head?.map (·.pos.line)).getD 0) xs vs = true then (match slotsOf N sc xs, trs2 (tr Γ N n sc) (xs.map fun p => isMut muts p.1) vs with
        | some is, some es => some (.par is es)
        | _, _ => none) else none
      | none => none
    | .Assign [.Subscript o i _] e _ => if notLc e = true then (match tr Γ N n sc false o, tr Γ N n sc false i, tr Γ N n sc false e with
      | some a, some b, some c => some (.put a b c)
      | _, _, _ => none) else none
    | .Assign [tg] e _ => if notLc e = true ∧ (notTup e || isNm tg) = true then (match tgOf N sc n tg, tr Γ N n sc (tgMut muts tg) e with
      | some g, some x => some (.asg g x)
      | _, _ => none) else none
    | .AugAssign (.Name x _) op e _ => match ownOf N sc x, augOf op, tr Γ N n sc false e with
      | some i, some o, some m => some (.aug i o m)
      | _, _, _ => none
    | .If c a b _ => match trT Γ N n sc c, trSs n sc a, trSs n sc b with
      | some x, some y, some z => some (.ite x y z)
      | _, _, _ => none
    | .For tg it b [] _ => if notSet it = true then (match tgOf N sc n tg, trI Γ N n sc (isTup tg) it, trSs n sc b with
      | some g, some i, some ss => some (.for g i ss)
      | _, _, _ => none) else none
    | .While c b [] _ => match trT Γ N n sc c, trSs n sc b with
      | some x, some ss => some (.whl x ss)
      | _, _ => none
    | .Raise _ _ _ => some (.rse "" .nil)
    | _ => none
def trSs : Nat → Scope → List Stmt → Option (List S)
  | 0, _, _ => none
  | n + 1, sc, ss => match ss with
    | [] => some []
    | s :: ss => match trS n sc s, trSs n sc ss with
      | some a, some b => some (a :: b)
      | _, _ => none
end
end

/-! ### soundness -/
/-- what a statement does reaches the ends -/
def GoS (K : PySem.W.Frag) (mg : Str → Option Value) (Wx : WX) (φ : Phi) (H : Hp) (fl : Fl) (D : Ends) : Prop := match fl with
  | .nx ρ μ => ∀ φ' σ' H', Ext φ H φ' H' → StoR φ' μ H' → EnvR K φ' H' ρ σ' → D.nx σ' H'
  | .bk ρ μ => ∀ φ' σ' H', Ext φ H φ' H' → StoR φ' μ H' → EnvR K φ' H' ρ σ' → D.bk σ' H'
  | .ct ρ μ => ∀ φ' σ' H', Ext φ H φ' H' → StoR φ' μ H' → EnvR K φ' H' ρ σ' → D.ct σ' H'
  | .rt w μ => ∀ φ' v H', Ext φ H φ' H' → StoR φ' μ H' → RpW K φ' H' w v → D.rt v H'
  | .ex c fs ρ μ => ∀ φ' σ' H', Ext φ H φ' H' → StoR φ' μ H' → EnvR K φ' H' ρ σ' → xwE mg (WE Wx σ') c fs μ φ' H'
  | .no => False
section
variable {K : PySem.W.Frag} {mg : Str → Option Value} {Wx : WX} {φ φ1 : Phi} {H H1 : Hp} {D D' : Ends} {ρ : Env} {μ : Store} {σ : L2.St}
theorem GoS.step {fl : Fl} (e : Ext φ H φ1 H1) (g : GoS K mg Wx φ H fl D) : GoS K mg Wx φ1 H1 fl D := by
  cases fl with
  | nx ρ μ => exact fun φ' σ' H' e' => g φ' σ' H' (e.trans e')
  | bk ρ μ => exact fun φ' σ' H' e' => g φ' σ' H' (e.trans e')
  | ct ρ μ => exact fun φ' σ' H' e' => g φ' σ' H' (e.trans e')
  | rt w μ => exact fun φ' v H' e' => g φ' v H' (e.trans e')
  | ex c fs ρ μ => exact fun φ' σ' H' e' => g φ' σ' H' (e.trans e')
  | no => exact g
theorem GoS.fl {α β : Type} {R : Phi → Hp → α → β → Prop} {o : Out α} {f : α → Store → Fl} {Q : β → Hp → Prop} (en : EnvR K φ H ρ σ) (g : GoS K mg Wx φ H (o.fl ρ f) D)
    (h : ∀ a μ1, o = .ok a μ1 → ∀ φ1 b H1, Ext φ H φ1 H1 → StoR φ1 μ1 H1 → R φ1 H1 a b → GoS K mg Wx φ1 H1 (f a μ1) D → Q b H1) : Goes R φ H o Q (xwE mg (WE Wx σ)) := by
  cases o with
  | ok a μ1 => exact fun φ1 b H1 e s r => h a μ1 rfl φ1 b H1 e s r (GoS.step e g)
  | ex c fs μ1 => exact fun φ' H' e s => g φ' σ H' e s (e.env en)
  | no => exact g
theorem GoS.seq {fl : Fl} {f : Env → Store → Fl} {N : L2.St → Hp → Prop} (g : GoS K mg Wx φ H (fl.seq f) D) (h : ∀ ρ1 μ1 φ1 σ1 H1, fl = .nx ρ1 μ1 → Ext φ H φ1 H1 → StoR φ1 μ1 H1 → EnvR K φ1 H1 ρ1 σ1 → GoS K mg Wx φ1 H1 (f ρ1 μ1) D → N σ1 H1) : GoS K mg Wx φ H fl { D with nx := N } := by
  cases fl with
  | nx ρ1 μ1 => exact fun φ' σ' H' e s en => h ρ1 μ1 φ' σ' H' rfl e s en (GoS.step (fl := f ρ1 μ1) e g)
  | bk ρ μ => exact g
  | ct ρ μ => exact g
  | rt w μ => exact g
  | ex c fs ρ μ => exact g
  | no => exact g
end
/-- a statement's reading, a block's -/
def tS (K : PySem.W.Frag) (mg : Str → Option Value) (F : Specs) (fu : Nat) (Wx : WX) (m : S) : TS := fun D σ H => ∃ φ ρ μ, StoR φ μ H ∧ EnvR K φ H ρ σ ∧ GoS K mg Wx φ H (exec F fu m ρ μ) D
def tSs (K : PySem.W.Frag) (mg : Str → Option Value) (F : Specs) (fu : Nat) (Wx : WX) (m : List S) : TS := fun D σ H => ∃ φ ρ μ, StoR φ μ H ∧ EnvR K φ H ρ σ ∧ GoS K mg Wx φ H (execs F fu m ρ μ) D
/-- where statements stand: a def's body -/
structure GoodS (Γ : Glob) (N : List Str) (F : Specs) (k : Nat) (Wx : WX) (X : Cx) (sc : Scope) : Prop extends Good Γ N F k Wx X sc where
  po : PassesOwn (model X.prog X.w) X.A X.env X.xe
  fn : ∀ x, X.fn x = true
section
variable {Γ : Glob} {N : List Str} {F : Specs} {k fu : Nat} {sc : Scope}
def SOk (Γ : Glob) (N : List Str) (F : Specs) (k fu : Nat) (sc : Scope) (s : Stmt) (m : S) : Prop := ∀ (Wx : WX) (X : Cx), GoodS Γ N F k Wx X sc → PS X s (tS X.K X.mg F fu Wx m)
def BOk (Γ : Glob) (N : List Str) (F : Specs) (k fu : Nat) (sc : Scope) (s : List Stmt) (m : List S) : Prop := ∀ (Wx : WX) (X : Cx), GoodS Γ N F k Wx X sc → PSs X s (tSs X.K X.mg F fu Wx m)
theorem _root_.L2.PSs.impl {X : Cx} {e : List Stmt} {t t' : TS} (h : PSs X e t) (i : ∀ D σ H, t' D σ H → t D σ H) : PSs X e t' := ⟨fun pins s σ H D I q => h.run pins s σ H D I (i D σ H q)⟩
theorem bk_nil : BOk Γ N F k fu sc [] [] := fun Wx X G => pss_nil.impl fun D σ H ⟨φ, ρ, μ, s, en, q⟩ => q φ σ H .refl s en
theorem bk_cons {s : Stmt} {ss : List Stmt} {m : S} {ms : List S} (h1 : SOk Γ N F k fu sc s m) (h2 : BOk Γ N F k fu sc ss ms) : BOk Γ N F k fu sc (s :: ss) (m :: ms) := fun Wx X G => by
  refine (pss_cons (h1 Wx X G) (h2 Wx X G)).impl fun D σ H ⟨φ, ρ, μ, s, en, q⟩ => ?_
  refine ⟨φ, ρ, μ, s, en, GoS.seq q fun ρ1 μ1 φ1 σ1 H1 _ e1 s1 en1 q1 => ⟨φ1, ρ1, μ1, s1, en1, q1⟩⟩
theorem st_pass {pos : Pos} : SOk Γ N F k fu sc (.Pass pos) .pass := fun Wx X G => ps_pass.impl fun D σ H ⟨φ, ρ, μ, s, en, q⟩ => q φ σ H .refl s en
theorem st_doc {x : Str} {j : Nat} {p pos : Pos} : SOk Γ N F k fu sc (.Expr (.Constant (.str x) j p) pos) .pass := fun Wx X G => ps_doc.impl fun D σ H ⟨φ, ρ, μ, s, en, q⟩ => q φ σ H .refl s en
theorem st_brk {pos : Pos} : SOk Γ N F k fu sc (.Break pos) .brk := fun Wx X G => ps_break.impl fun D σ H ⟨φ, ρ, μ, s, en, q⟩ => q φ σ H .refl s en
theorem st_cnt {pos : Pos} : SOk Γ N F k fu sc (.Continue pos) .cnt := fun Wx X G => ps_continue.impl fun D σ H ⟨φ, ρ, μ, s, en, q⟩ => q φ σ H .refl s en
theorem st_retn {pos : Pos} : SOk Γ N F k fu sc (.Return none pos) .retn := fun Wx X G => ps_retN.impl fun D σ H ⟨φ, ρ, μ, s, en, q⟩ => q φ .non H .refl s .non
theorem st_rse {e f : Option Expr} {pos : Pos} {c : Str} {es : Es} : SOk Γ N F k fu sc (.Raise e f pos) (.rse c es) := fun Wx X G => ps_never.impl fun D σ H ⟨φ, ρ, μ, s, en, q⟩ => q
theorem st_ret {e : Expr} {x : E} {pos : Pos} (h : EOk Γ N F k sc e x) : SOk Γ N F k fu sc (.Return (some e) pos) (.ret x) := fun Wx X G => (ps_ret (h Wx X G.toGood)).impl fun D σ H ⟨φ, ρ, μ, s, en, q⟩ =>
  ⟨φ, ρ, μ, s, en, GoS.fl en q fun w μ1 _ φ1 v H1 e1 s1 r1 q1 => q1 φ1 v H1 .refl s1 r1⟩
theorem sw_plain {e : Expr} {t : Option Expr} {l : Nat} {env : PySem.Env} (h : notLc e = true) : swapsWith e t l env = pure false := by cases e <;> first | rfl | cases h
theorem st_expr {e : Expr} {x : E} {pos : Pos} (hl : notLc e = true) (h : EOk Γ N F k sc e x) : SOk Γ N F k fu sc (.Expr e pos) (.expr x) := fun Wx X G => (ps_expr (h Wx X G.toGood) (sw_plain hl)).impl fun D σ H ⟨φ, ρ, μ, s, en, q⟩ =>
  ⟨φ, ρ, μ, s, en, GoS.fl en q fun w μ1 _ φ1 v H1 e1 s1 r1 q1 => q1 φ1 σ H1 .refl s1 (e1.env en)⟩
theorem st_if {c : Expr} {a b : List Stmt} {x : C} {y z : List S} {pos : Pos} (hc : TOk Γ N F k sc c x) (ha : BOk Γ N F k fu sc a y) (hb : BOk Γ N F k fu sc b z) : SOk Γ N F k fu sc (.If c a b pos) (.ite x y z) := fun Wx X G =>
  (ps_if (hc Wx X G.toGood) (ha Wx X G) (hb Wx X G)).impl fun D σ H ⟨φ, ρ, μ, s, en, q⟩ => ⟨φ, ρ, μ, s, en, GoS.fl en q fun b μ1 _ φ1 b' H1 e1 s1 r1 q1 => by
    subst r1
    cases b with
    | true => exact ⟨φ1, ρ, μ1, s1, e1.env en, q1⟩
    | false => exact ⟨φ1, ρ, μ1, s1, e1.env en, q1⟩⟩
theorem oFl_some {o : Option Env} {μ : Store} {K : PySem.W.Frag} {mg : Str → Option Value} {Wx : WX} {φ : Phi} {H : Hp} {D : Ends} (q : GoS K mg Wx φ H (oFl o μ) D) : ∃ ρ, o = some ρ ∧ GoS K mg Wx φ H (.nx ρ μ) D := by
  cases o with
  | none => exact q.elim
  | some ρ => exact ⟨ρ, rfl, q⟩
theorem asg_imp {K : PySem.W.Frag} {mg : Str → Option Value} {Wx : WX} {x : E} {g : Tg} : ∀ D σ H, tS K mg F fu Wx (.asg g x) D σ H → tAsg (tEv K mg F Wx x) (gOf K g) D σ H := fun D σ H ⟨φ, ρ, μ, s, en, q⟩ => by
  refine ⟨φ, ρ, μ, s, en, GoS.fl en q fun w μ1 _ φ1 v H1 e1 s1 r1 q1 => ?_⟩
  obtain ⟨ρ1, h1, q2⟩ := oFl_some q1
  exact g_fz g r1 (e1.env en) h1 fun σ2 en2 _ => q2 φ1 σ2 H1 .refl s1 en2
theorem pg_fn {X : Cx} {Wx : WX} (G : GoodS Γ N F k Wx X sc) : ∀ x, Loc sc x → Loc X.env.scope x ∧ (X.fn x = true ∨ X.env.scope.names.lookup x = some .local) := fun x h => ⟨by rw [G.sc]; exact h, .inl (G.fn x)⟩
theorem swS_plain {tg e : Expr} {l : Nat} {env : PySem.Env} (h : notLc e = true) : swapsWithSole [tg] e l env = pure false := sw_plain h
theorem sws_plain {tg e : Expr} {env : PySem.Env} (h : (notTup e || isNm tg) = true) : swappedStores [tg] e env = pure none := by
  cases tg with
  | Name x p => cases e <;> rfl
  | _ => cases e <;> first | rfl | cases h
theorem each_one {tg : Expr} {env : PySem.Env} (h : plainTg tg = true) : (assignEach [tg] env).map (·.2) = [assign tg env] := by rw [each_cons env h]; rfl
theorem st_asg {tg e : Expr} {g : Tg} {x : E} {pos : Pos} {n : Nat} (hl : notLc e = true) (ht : (notTup e || isNm tg) = true) (hg : tgOf N sc n tg = some g) (h : EOk Γ N F k sc e x) : SOk Γ N F k fu sc (.Assign [tg] e pos) (.asg g x) := fun Wx X G =>
  (ps_asg (h Wx X G.toGood) (pg_of G.toGood (pg_fn G) n tg g hg) (swS_plain hl) (sws_plain ht) (each_one (tg_plain hg))).impl asg_imp
theorem st_while {c : Expr} {b : List Stmt} {x : C} {y : List S} {pos : Pos} (hc : TOk Γ N F k sc c x) (hb : BOk Γ N F k fu sc b y) : SOk Γ N F k fu sc (.While c b [] pos) (.whl x y) := fun Wx X G =>
  (ps_while G.po (hc Wx X G.toGood) (hb Wx X G)).impl fun D σ H ⟨φ, ρ, μ, s, en, q⟩ => by
    refine ⟨fun m σ H => ∃ φ ρ μ, StoR φ μ H ∧ EnvR X.K φ H ρ σ ∧ GoS X.K X.mg Wx φ H (whlL (evT F x) (execs F fu y) m ρ μ) D, ⟨fu, φ, ρ, μ, s, en, q⟩, ?_⟩
    rintro m σ1 H1 ⟨φ1, ρ1, μ1, s1, en1, q1⟩
    cases m with
    | zero => exact q1.elim
    | succ m =>
      refine ⟨φ1, ρ1, μ1, s1, en1, GoS.fl en1 (show GoS X.K X.mg Wx φ1 H1 ((evT F x ρ1 μ1).fl ρ1 _) D from q1) fun b μ2 _ φ2 b' H2 e2 s2 r2 q2 => ?_⟩
      subst r2
      cases b with
      | false => exact q2 φ2 σ1 H2 .refl s2 (e2.env en1)
      | true =>
        refine ⟨fun σ' H' => ∃ φ' ρ' μ', StoR φ' μ' H' ∧ EnvR X.K φ' H' ρ' σ' ∧ GoS X.K X.mg Wx φ' H' (whlL (evT F x) (execs F fu y) m ρ' μ') D, fun σ' H' h => ⟨m, Nat.lt_succ_self m, h⟩, φ2, ρ1, μ2, s2, e2.env en1, ?_⟩
        simp only [if_true] at q2
        cases hfl : execs F fu y ρ1 μ2 with
        | nx ρ3 μ3 => rw [hfl] at q2; exact fun φ' σ' H' e' s' en' => ⟨φ', ρ3, μ3, s', en', GoS.step e' q2⟩
        | ct ρ3 μ3 => rw [hfl] at q2; exact fun φ' σ' H' e' s' en' => ⟨φ', ρ3, μ3, s', en', GoS.step e' q2⟩
        | bk ρ3 μ3 => rw [hfl] at q2; exact q2
        | rt w μ3 => rw [hfl] at q2; exact q2
        | ex c fs ρ3 μ3 => rw [hfl] at q2; exact q2
        | no => rw [hfl] at q2; exact q2
theorem st_for {tg it : Expr} {b : List Stmt} {g : Tg} {i : Wk} {y : List S} {n : Nat} {pos : Pos} (hs : notSet it = true) (hg : tgOf N sc n tg = some g) (hi : IOk Γ N F k sc (isTup tg) it i) (hb : BOk Γ N F k fu sc b y) : SOk Γ N F k fu sc (.For tg it b [] pos) (.for g i y) := fun Wx X G =>
  (ps_for G.po G.calm (hi tg rfl Wx X G.toGood) (pg_of G.toGood (pg_fn G) n tg g hg) (hb Wx X G) (folded_any hs)).impl fun D σ H ⟨φ, ρ, μ, s, en, q⟩ => by
    refine ⟨φ, ρ, μ, s, en, GoS.fl en q fun xs μ1 _ φ1 J H1 e1 s1 r1 q1 => ?_⟩
    generalize hf : (fun (x : PyData) (ρ : Env) (μ : Store) => (oFl (asg g (.dat x) ρ) μ).seq fun ρ μ => execs F fu y ρ μ) = f at q1
    refine ⟨fun i m σ' H' => i + m = xs.length ∧ ∃ φ' ρ' μ', Ext φ1 H1 φ' H' ∧ StoR φ' μ' H' ∧ EnvR X.K φ' H' ρ' σ' ∧ GoS X.K X.mg Wx φ' H' (forL f (xs.drop i) ρ' μ') D, ⟨xs.length, by omega, φ1, ρ, μ1, .refl, s1, e1.env en, q1⟩, ?_⟩
    rintro i m σ2 H2 ⟨hn, φ2, ρ2, μ2, e2, s2, en2, q2⟩
    obtain ⟨stop, go⟩ := r1 φ2 H2 e2
    by_cases hlt : i < xs.length
    · refine .inr ?_
      obtain ⟨g1, g2⟩ := go i xs[i] (List.getElem?_eq_getElem hlt)
      refine ⟨g1, fun σ' H' => ∃ φ' ρ' μ', Ext φ1 H1 φ' H' ∧ StoR φ' μ' H' ∧ EnvR X.K φ' H' ρ' σ' ∧ GoS X.K X.mg Wx φ' H' (forL f (xs.drop (i + 1)) ρ' μ') D, fun σ' H' ⟨φ', ρ', μ', a1, a2, a3, a4⟩ => ⟨m - 1, by omega, by omega, φ', ρ', μ', a1, a2, a3, a4⟩, fun v H3 hy => ?_⟩
      obtain ⟨e3, s3, r3, r3'⟩ := g2 v H3 hy
      have s3 := s3 μ2 s2
      rw [List.drop_eq_getElem_cons hlt] at q2
      have q2 := GoS.step e3 q2
      unfold forL at q2
      have hx : f xs[i] ρ2 μ2 = (oFl (asg g (.dat xs[i]) ρ2) μ2).seq fun ρ μ => execs F fu y ρ μ := by rw [← hf]
      rw [hx] at q2
      cases hasg : asg g (.dat xs[i]) ρ2 with
      | none => rw [hasg] at q2; exact q2.elim
      | some ρ3 =>
        rw [hasg] at q2
        refine g_it g r3 (fun i' hi' => r3' (by subst hi'; exact tg_v hg)) (e3.env en2) hasg fun σ4 en4 _ => ?_
        refine ⟨φ2, ρ3, μ2, s3, en4, ?_⟩
        have q2 : GoS X.K X.mg Wx φ2 H3 (match execs F fu y ρ3 μ2 with
          | .nx ρ1 μ1 => forL f (xs.drop (i + 1)) ρ1 μ1
          | .ct ρ1 μ1 => forL f (xs.drop (i + 1)) ρ1 μ1
          | .bk ρ1 μ1 => .nx ρ1 μ1
          | x => x) D := q2
        cases hfl : execs F fu y ρ3 μ2 with
        | nx ρ5 μ5 => rw [hfl] at q2; exact fun φ' σ' H' e' s' en' => ⟨φ', ρ5, μ5, e2.trans (e3.trans e'), s', en', GoS.step e' q2⟩
        | ct ρ5 μ5 => rw [hfl] at q2; exact fun φ' σ' H' e' s' en' => ⟨φ', ρ5, μ5, e2.trans (e3.trans e'), s', en', GoS.step e' q2⟩
        | bk ρ5 μ5 => rw [hfl] at q2; exact q2
        | rt w μ5 => rw [hfl] at q2; exact q2
        | ex c fs ρ5 μ5 => rw [hfl] at q2; exact q2
        | no => rw [hfl] at q2; exact q2
    · have : i = xs.length := by omega
      subst this
      rw [List.drop_length] at q2
      exact .inl ⟨stop, q2 φ2 σ2 H2 .refl s2 en2⟩
theorem st_setLc {elt tg it : Expr} {ifs : List Expr} {scope : Scope} {own : List (Str × Nat)} {m : Bool} {g : Tg} {i : Wk} {x : E} {c : Co} {j : Nat} {pos py spos : Pos} {y : Str} {n : Nat} (hw : swLc sc scope y py pos = true) (hy : N[n]? = some y)
    (hs : notSet it = true) (hb : blkC N sc scope own = true) (hg : tgOf N scope j tg = some g)
    (hi : IOk Γ N F k sc (isTup tg) it i) (he : EOk Γ N F k (relS scope sc) elt x) (hc : CsOk Γ N F k (relS scope sc) ifs c) (hsl : (slots g).all (fun j => decide (j ∈ own.map (·.2))) = true) :
    SOk Γ N F k fu sc (.Assign [.Name y py] (.ListComp elt [⟨tg, it, ifs, 0⟩] scope pos) spos) (.asg (.v n) (.lc m x g i c (own.map (·.2)))) := fun Wx X G =>
  (ok_setLc hw hy hs hb hg hi he hc hsl Wx X G.toGood).impl (asg_imp (g := .v n))
theorem st_aug {x : Str} {e : Expr} {op : Operator} {o : Bop} {m : E} {i : Nat} {p pos : Pos} (hx : ownOf N sc x = some i) (ho : augOf op = some o) (h : EOk Γ N F k sc e m) : SOk Γ N F k fu sc (.AugAssign (.Name x p) op e pos) (.aug i o m) := fun Wx X G => by
  obtain ⟨h1, h2, h3⟩ := own_at hx
  have fn := pg_fn G x h2
  have key : ∀ {f : Int → Int → Int}, PIp X op (ipI f) → (∀ a b, augD o a b = (match a, b with | .int x, .int y => some (.int (f x y)) | _, _ => none)) → PS X (.AugAssign (.Name x p) op e pos) (tS X.K X.mg F fu Wx (.aug i o m)) := fun {f} hf hd => by
    refine (ps_aug G.nd (by rw [G.n]; exact h1) fn.1 (h Wx X G.toGood) hf fn.2).impl fun D σ H ⟨φ, ρ, μ, s, en, q⟩ => ?_
    simp only [tS, exec] at q
    split at q
    · rename_i w0 h0
      obtain ⟨v, hv, rv⟩ := en.at_ i _ h0
      refine ⟨v, hv, φ, ρ, μ, s, en, GoS.fl en q fun w μ1 _ φ1 u H1 e1 s1 r1 q1 => ?_⟩
      cases w0 with
      | ref n => exact q1.elim
      | scr ns => exact q1.elim
      | dat a =>
        cases w with
        | ref n => exact q1.elim
        | scr ns => exact q1.elim
        | dat b =>
          simp only [augW] at q1
          rw [hd] at q1
          cases a with
          | int a =>
            cases b with
            | int b =>
              have rv : Fz φ H v (.int a) := rv
              cases rv
              cases r1
              exact ⟨a, b, rfl, rfl, q1 φ1 _ H1 .refl s1 ((e1.env en).set (w := .dat (.int (f a b))) (.int _) i)⟩
            | _ => exact q1.elim
          | _ => exact q1.elim
    · exact q.elim
  cases op <;> first
    | (cases ho; done)
    | (cases ho
       first
         | exact key ip_add fun a b => by cases a <;> first | rfl | (cases b <;> rfl)
         | exact key ip_sub fun a b => by cases a <;> first | rfl | (cases b <;> rfl))
end
end Dv

/-! Dv11: stores into objects, pairs of stores; all statements. -/
namespace Dv
open PySem PySem.Spec PyProof.Rows L2
section
variable {Γ : Glob} {N : List Str} {F : Specs} {k fu : Nat} {sc : Scope} {X : Cx}
theorem Goes.mono {α β : Type} {R : Phi → Hp → α → β → Prop} {φ : Phi} {H : Hp} {o : Out α} {Q Q' : β → Hp → Prop} {xw : XW} (g : Goes R φ H o Q xw) (h : ∀ b H', Q b H' → Q' b H') : Goes R φ H o Q' xw := by
  cases o with
  | ok a μ => exact fun φ' b H' e s r => h b H' (g φ' b H' e s r)
  | ex c fs μ => exact g
  | no => exact g
theorem pset_or {t u : TSet} (h1 : PSet X t) (h2 : PSet X u) : PSet X (fun o i v H Q => t o i v H Q ∨ u o i v H Q) := by
  intro pins s σ H o i v ov iv w Q I ro ri rv h
  rcases h with h | h
  · exact h1 pins s σ H o i v ov iv w Q I ro ri rv h
  · exact h2 pins s σ H o i v ov iv w Q I ro ri rv h
theorem kV_of {φ : Phi} {H : Hp} {y : V} {d : PyData} {kk : Key} (r : Fz φ H y d) (h : keyOf d = some kk) : y = kV kk := by
  cases r <;> first | (cases h; rfl) | cases h
/-- a store into an object -/
theorem put_ok {K : PySem.W.Frag} {mg : Str → Option Value} {Wx : WX} {φ : Phi} {H : Hp} {D : Ends} {μ : Store} {ρ : Env} {σ : L2.St} {x y w : W} {vx vy vw : V} (s : StoR φ μ H) (en : EnvR K φ H ρ σ) (rx : RpW K φ H x vx) (ry : RpW K φ H y vy) (rw' : RpW K φ H w vw)
    (g : GoS K mg Wx φ H (putW x y w ρ μ) D) : rSetL vx vy vw H (fun H' => D.nx σ H') ∨ rSetD vx vy vw H (fun H' => D.nx σ H') := by
  unfold putW at g
  split at g
  · rename_i n d
    split at g
    · rename_i v μ4 hd
      obtain ⟨φ2, e2, s2, f2⟩ := dats_ok s (.cons rw' .nil) hd
      have fv : Fz φ2 H vw v := by cases f2 with | cons f _ => exact f
      split at g
      · rename_i ds hds
        rcases s2.live _ _ hds with ⟨a, ha, hob⟩ | z
        · obtain ⟨xs, hxs, hz, fa⟩ := hob
          have rx2 : RpW K φ2 H (.ref n) vx := e2.rp rx
          have hvx := rx2.2 a ha
          split at g
          · rename_i i
            have ry : Fz φ H vy (.int i) := ry
            cases ry
            split at g
            · rename_i j hj
              have eS : Ext φ2 H φ2 (upd H a (.lst (xs.set j vw))) := Ext.set s2 ha
              refine .inl ⟨a, xs, i, j, hvx, rfl, hxs, by rw [fa.length]; exact hj, ?_⟩
              refine g φ2 σ _ (e2.trans eS) (s2.set (ob := .lst (ds.set j v)) ha ⟨_, upd_same, by rw [List.length_set]; exact hz, eS.fzAll (fa.set fv j)⟩) (eS.env (e2.env en))
            · exact g.elim
          · exact g.elim
        · cases z
      · rename_i kvs hds
        rcases s2.live _ _ hds with ⟨a, ha, hob⟩ | z
        · obtain ⟨xs, hxs, hz, fa⟩ := hob
          have rx2 : RpW K φ2 H (.ref n) vx := e2.rp rx
          have hvx := rx2.2 a ha
          split at g
          · rename_i kk hk
            split at g
            · rename_i hlt
              have hl : xs.length < sizeLine := by rw [fa.length]; exact hlt
              have eS : Ext φ2 H φ2 (upd H a (.dK (putK xs kk vw))) := Ext.set s2 ha
              refine .inr ⟨a, _, hvx, .inl ⟨xs, kk, hxs, kV_of ry hk, hl, rfl⟩, ?_⟩
              refine g φ2 σ _ (e2.trans eS) (s2.set (ob := .dct (putD kk v kvs)) ha ⟨_, upd_same, ?_, eS.fzKv (fa.put kk fv)⟩) (eS.env (e2.env en))
              unfold putK
              split
              · rw [List.length_map]; exact hz
              · rw [List.length_append]; exact hl
            · exact g.elim
          · exact g.elim
        · cases z
      · exact g.elim
    · exact g.elim
  · exact g.elim
theorem st_put {o i e : Expr} {x y z : E} {p pos : Pos} (hl : notLc e = true) (ho : EOk Γ N F k sc o x) (hi : EOk Γ N F k sc i y) (he : EOk Γ N F k sc e z) (hns : notSlice i = true) : SOk Γ N F k fu sc (.Assign [.Subscript o i p] e pos) (.put x y z) := fun Wx X G => by
  have hu := units_of G.toGood
  have pg : PG X (.Subscript o i p) (gSub (tEv X.K X.mg F Wx x) (tEv X.K X.mg F Wx y) _) := pg_sub (ho Wx X G.toGood) (hi Wx X G.toGood) (pset_or set_list (set_dict (by omega))) (fun v => by cases i <;> first | rfl | cases hns)
  refine (ps_asg (he Wx X G.toGood) pg (swS_plain hl) (by cases e <;> rfl) rfl).impl fun D σ H ⟨φ, ρ, μ, s, en, q⟩ => ?_
  refine ⟨φ, ρ, μ, s, en, GoS.fl en q fun w μ1 _ φ1 v H1 e1 s1 r1 q1 => ?_⟩
  refine ⟨φ1, ρ, μ1, s1, e1.env en, GoS.fl (e1.env en) q1 fun wx μ2 _ φ2 v2 H2 e2 s2 r2 q2 => ?_⟩
  refine ⟨φ2, ρ, μ2, s2, e2.env (e1.env en), GoS.fl (e2.env (e1.env en)) q2 fun wy μ3 _ φ3 v3 H3 e3 s3 r3 q3 => ?_⟩
  exact put_ok s3 (e3.env (e2.env (e1.env en))) (e3.rp r2) r3 (e3.rp (e2.rp r1)) q3
/-! ### a, b = .. -/
theorem namesOf_form : ∀ {ts : List Expr} {xs : List (Str × Pos)}, namesOf ts = some xs → ts = xs.map fun p => .Name p.1 p.2
  | [], xs, h => by cases h; rfl
  | e :: es, xs, h => by
    cases e with
    | Name x p =>
      simp only [namesOf] at h
      obtain ⟨ys, h1, rfl⟩ := Option.map_eq_some_iff.mp h
      rw [namesOf_form h1]
      rfl
    | _ => cases h
theorem swapped_of {ts vs : List Expr} {xs : List (Str × Pos)} {k1 k2 : Nat} {p1 p2 : Pos} {env : PySem.Env} (ht : namesOf ts = some xs) (h : parOk env.scope ((ts.head?.map (·.pos.line)).getD 0) xs vs = true) :
    swappedStores [.Tuple ts k1 p1] (.Tuple vs k2 p2) env = pure (some (xs.map (·.1))) := by
  have e := namesOf_form ht
  unfold parOk at h
  simp only [Bool.and_eq_true, Bool.not_eq_true', decide_eq_true_eq] at h
  obtain ⟨⟨⟨⟨⟨⟨⟨⟨h1, h2⟩, h3⟩, h4⟩, h5⟩, h6⟩, h7⟩, h8⟩, h9⟩ := h
  have hk : env.scope.kind = .function := by
    split at h1
    · assumption
    · cases h1
  have hb : env.blockKind = .function := by unfold Env.blockKind; rw [hk]; rfl
  have hlen : ts.length = xs.length := by rw [e, List.length_map]
  have h3' : vs.length = xs.length := by simpa using h3
  have fm : (ts.filterMap fun | .Name id pos => if env.kindOf id == some .local && pos.line == ((ts.head?.map (·.pos.line)).getD 0) then some id else none | _ => none) = xs.map (·.1) := by
    generalize ((ts.head?.map (·.pos.line)).getD 0) = line at h6
    rw [e]
    clear e hlen h3 h3' h2 h7 ht
    induction xs with
    | nil => rfl
    | cons p r ih =>
      rw [List.all_cons, Bool.and_eq_true, Bool.and_eq_true, decide_eq_true_eq] at h6
      have hc : (env.kindOf p.1 == some NameKind.local && p.2.line == line) = true := by
        rw [Bool.and_eq_true]
        refine ⟨?_, h6.1.2⟩
        have : env.kindOf p.1 = some .local := h6.1.1
        rw [this]; rfl
      rw [List.map_cons, List.map_cons, List.filterMap_cons]
      simp only [hc, if_true]
      rw [ih h6.2]
  unfold swappedStores
  simp only [bind_pure_comp, pure_bind]
  have c1 : (!(ts.length == 2 || ts.length == 3) || vs.length != ts.length || env.blockKind != .function) = false := by
    rw [hb, hlen, h3', h2]; simp
  have nd : (xs.map (·.1)).eraseDups.length = (xs.map (·.1)).length := by
    have : ∀ l : List Str, l.Nodup → l.eraseDups = l := fun l hl => by
      induction l with
      | nil => rfl
      | cons a r ih =>
        rw [List.eraseDups_cons]
        have ⟨ha, hr⟩ := List.nodup_cons.mp hl
        have : r.filter (fun b => !b == a) = r := List.filter_eq_self.mpr fun b hb => by
          simp only [Bool.not_eq_true', beq_eq_false_iff_ne]
          exact fun z => ha (z ▸ hb)
        rw [this, ih hr]
    rw [this _ h7]
  have c2 : ((xs.map (·.1)).length != ts.length || (xs.map (·.1)).eraseDups.length != (xs.map (·.1)).length) = false := by
    rw [nd, List.length_map, hlen]; simp
  simp only [c1, Bool.false_eq_true, if_false]
  refine (if_neg fun z => ?_).trans ?_
  · have z' : (vs.any isStarred) = true := by
      rw [← z]
      congr 1
    rw [h5] at z'
    cases z'
  · have key : ∀ names : List Str, names = xs.map (·.1) → (if (names.length != ts.length || names.eraseDups.length != names.length) = true then (pure none : Sem (Option (List Str))) else if vs.all (foldedForSure 8) = true then pure none else if vs.all (constantsAlone 8) = true then (do unsupported "assign.tuple-of-constant-expressions:order-of-the-stores"; pure (some names)) else pure (some names)) = pure (some (xs.map (·.1))) := fun names e => by
      subst e
      simp only [c2, h8, h9, Bool.false_eq_true, if_false]
    refine key _ ?_
    refine Eq.trans ?_ fm
    congr 1
theorem trs2_args {m : Nat} {sc : Scope} : ∀ {ms : List Bool} {es : List Expr} {as : Es}, noStar es = true → trs2 (tr Γ N m sc) ms es = some as → ∀ (Wx : WX) (X : Cx), Good Γ N F k Wx X sc → PA X es (tEvs X.K X.mg F Wx as)
  | [], [], as, _, h, Wx, X, G => by
    cases h
    exact pa_nil.imp fun σ H Q ⟨φ, ρ, μ, s, en, q⟩ => q φ [] H .refl s .nil
  | [], e :: es, as, _, h, _, _, _ => by cases h
  | m :: ms, [], as, _, h, _, _, _ => by cases h
  | b :: ms, e :: es, as, st, h, Wx, X, G => by
    simp only [trs2] at h
    split at h
    · rename_i a c h1 h2
      cases h
      refine (pa_cons ((TrOk.all m).e _ _ _ _ h1 Wx X G) (trs2_args (noStar_tail st) h2 Wx X G) (stars_cons X.env st)).imp fun σ H Q ⟨φ, ρ, μ, s, en, q⟩ => ?_
      refine ⟨φ, ρ, μ, s, en, Goes.bind q fun w μ1 _ φ1 v H1 e1 s1 r1 q1 => ?_⟩
      refine ⟨φ1, ρ, μ1, s1, e1.env en, Goes.bind q1 fun ws μ2 _ φ2 vs H2 e2 s2 r2 q2 => ?_⟩
      exact q2 φ2 _ H2 .refl s2 (.cons (e2.rp r1) r2)
    · cases h
theorem slotsOf_cons {p : Str × Pos} {r : List (Str × Pos)} {is : List Nat} (h : slotsOf N sc (p :: r) = some is) : ∃ i js, is = i :: js ∧ ownOf N sc p.1 = some i ∧ slotsOf N sc r = some js := by
  obtain ⟨x, q⟩ := p
  simp only [slotsOf] at h
  split at h
  · rename_i i js h1 h2
    cases h
    exact ⟨i, js, rfl, h1, h2⟩
  · cases h
theorem ix_ne {xs : List Str} {i j : Nat} {x y : Str} (hi : xs[i]? = some x) (hj : xs[j]? = some y) (h : x ≠ y) : i ≠ j := fun e => by
  subst e
  rw [hi] at hj
  exact h (Option.some.inj hj)
theorem st_par {ts vs : List Expr} {xs : List (Str × Pos)} {ms : List Bool} {is : List Nat} {as : Es} {n k1 k2 : Nat} {p1 p2 pos : Pos} (ht : namesOf ts = some xs) (h : parOk sc ((ts.head?.map (·.pos.line)).getD 0) xs vs = true) (hi : slotsOf N sc xs = some is)
    (ha : trs2 (tr Γ N n sc) ms vs = some as) : SOk Γ N F k fu sc (.Assign [.Tuple ts k1 p1] (.Tuple vs k2 p2) pos) (.par is as) := fun Wx X G => by
  have hw := swapped_of (k1 := k1) (k2 := k2) (p1 := p1) (p2 := p2) (env := X.env) ht (by rw [G.sc]; exact h)
  have e := namesOf_form ht
  unfold parOk at h
  simp only [Bool.and_eq_true, Bool.not_eq_true', decide_eq_true_eq] at h
  obtain ⟨⟨⟨⟨⟨⟨⟨⟨_, h2⟩, h3⟩, h4⟩, h5⟩, h6⟩, h7⟩, h8⟩, h9⟩ := h
  have h3' : vs.length = xs.length := by simpa using h3
  have hA := trs2_args h4 ha Wx X G.toGood
  have lc : ∀ p ∈ xs, X.env.scope.names.lookup p.1 = some .local := fun p hp => by
    have := List.all_eq_true.mp h6 p hp
    rw [Bool.and_eq_true, decide_eq_true_eq] at this
    rw [G.sc]; exact this.1
  have fin : ∀ (D : Ends) (σ : L2.St) (H : Hp), tS X.K X.mg F fu Wx (.par is as) D σ H → tEvs X.K X.mg F Wx as σ H fun vs H1 => vs.length = is.length ∧ ∀ σ', (∀ φ ρ ws, EnvR X.K φ H1 ρ σ → RpAll X.K φ H1 ws vs → ws.length = is.length → EnvR X.K φ H1 (setsL ρ is ws) σ') → D.nx σ' H1 := fun D σ H ⟨φ, ρ, μ, s, en, q⟩ => by
    refine ⟨φ, ρ, μ, s, en, GoS.fl en q fun ws μ1 _ φ1 vs H1 e1 s1 r1 q1 => ?_⟩
    split at q1
    · rename_i hl
      exact ⟨by rw [r1.len, hl], fun σ' h => q1 φ1 σ' H1 .refl s1 (h φ1 ρ ws (e1.env en) r1 hl)⟩
    · exact q1.elim
  match xs, hi, ht, e, h2, h3', lc, h7, hw with
  | [], _, _, _, h2, _, _, _, _ => cases h2
  | [_], _, _, _, h2, _, _, _, _ => cases h2
  | [(x, px), (y, py)], hi, ht, e, h2, h3', lc, h7, hw =>
    obtain ⟨i, js, rfl, o1, hi⟩ := slotsOf_cons hi
    obtain ⟨j, js, rfl, o2, hi⟩ := slotsOf_cons hi
    cases hi
    subst e
    obtain ⟨a, b, rfl⟩ : ∃ a b, vs = [a, b] := by
      match vs, h3' with
      | [a, b], _ => exact ⟨a, b, rfl⟩
    have g1 := (own_at o1).1
    have g2 := (own_at o2).1
    have ne : x ≠ y := by simp at h7; exact h7
    refine (ps_par G.calm G.nd (by rw [G.n]; exact g1) (by rw [G.n]; exact g2) (ix_ne g1 g2 ne) (lc (x, px) (by simp)) (lc (y, py) (by simp)) hA hw).impl fun D σ H h => ?_
    have h := fin D σ H h
    obtain ⟨φ, ρ, μ, s, en, q⟩ := h
    refine ⟨φ, ρ, μ, s, en, Goes.mono q fun vs H1 ⟨hl, k⟩ => ?_⟩
    match vs, hl, k with
    | [v, w], _, k =>
      refine ⟨v, w, rfl, k _ fun φ ρ ws en r hl => ?_⟩
      cases r with
      | cons r1 r =>
        cases r with
        | cons r2 r =>
          cases r
          exact (en.set r1 i).set r2 j
  | [(x, px), (y, py), (z, pz)], hi, ht, e, h2, h3', lc, h7, hw =>
    obtain ⟨i, js, rfl, o1, hi⟩ := slotsOf_cons hi
    obtain ⟨j, js, rfl, o2, hi⟩ := slotsOf_cons hi
    obtain ⟨l, js, rfl, o3, hi⟩ := slotsOf_cons hi
    cases hi
    subst e
    obtain ⟨a, b, c, rfl⟩ : ∃ a b c, vs = [a, b, c] := by
      match vs, h3' with
      | [a, b, c], _ => exact ⟨a, b, c, rfl⟩
    have g1 := (own_at o1).1
    have g2 := (own_at o2).1
    have g3 := (own_at o3).1
    have ne : (x ≠ y ∧ x ≠ z) ∧ y ≠ z := by simp at h7; exact h7
    refine (ps_par3 G.calm G.nd (by rw [G.n]; exact g1) (by rw [G.n]; exact g2) (by rw [G.n]; exact g3) (ix_ne g1 g2 ne.1.1) (ix_ne g1 g3 ne.1.2) (ix_ne g2 g3 ne.2) (lc (x, px) (by simp)) (lc (y, py) (by simp)) (lc (z, pz) (by simp)) hA hw).impl fun D σ H h => ?_
    have h := fin D σ H h
    obtain ⟨φ, ρ, μ, s, en, q⟩ := h
    refine ⟨φ, ρ, μ, s, en, Goes.mono q fun vs H1 ⟨hl, k⟩ => ?_⟩
    match vs, hl, k with
    | [u, v, w], _, k =>
      refine ⟨u, v, w, rfl, k _ fun φ ρ ws en r hl => ?_⟩
      cases r with
      | cons r1 r =>
        cases r with
        | cons r2 r =>
          cases r with
          | cons r3 r =>
            cases r
            exact ((en.set r1 i).set r2 j).set r3 l
  | _ :: _ :: _ :: _ :: _, _, _, _, h2, _, _, _, _ => simp at h2
/-! ### all statements -/
structure TsOk (Γ : Glob) (N muts : List Str) (rm : Bool) (F : Specs) (k fu n : Nat) : Prop where
  s : ∀ sc a x, trS Γ N muts rm n sc a = some x → SOk Γ N F k fu sc a x
  b : ∀ sc a x, trSs Γ N muts rm n sc a = some x → BOk Γ N F k fu sc a x
theorem tr_slice {n : Nat} {m : Bool} {sc : Scope} {e : Expr} {x : E} (h : tr Γ N n sc m e = some x) : notSlice e = true := by
  cases e with
  | Slice lo hi st p =>
    cases n with
    | zero => simp [tr] at h
    | succ n => simp [tr] at h
  | _ => rfl
theorem lc_form {n : Nat} {m : Bool} {sc : Scope} {el : Expr} {cl : List Comprehension} {scope : Scope} {pos : Pos} {x : E} (h : tr Γ N (n + 1) sc m (.ListComp el cl scope pos) = some x) :
    ∃ tg it ifs g i y c, cl = [⟨tg, it, ifs, 0⟩] ∧ x = .lc m y g i c ((ownL N (tgNames n tg)).map (·.2)) ∧ notSet it = true ∧ blkC N sc scope (ownL N (tgNames n tg)) = true ∧ tgOf N scope n tg = some g ∧ trI Γ N n sc (isTup tg) it = some i ∧ tr Γ N n (relS scope sc) false el = some y ∧ trCs Γ N n (relS scope sc) ifs = some c ∧ (slots g).all (fun j => decide (j ∈ (ownL N (tgNames n tg)).map (·.2))) = true := by
  unfold tr at h
  split at h <;> try (rename_i hh; cases hh; done)
  all_goals try (cases h; done)
  · rename_i e1
    cases e1
    split at h
    · rename_i hc
      split at h
      · rename_i g i x' c hg hi he hcs
        split at h
        · rename_i hsl
          cases h
          exact ⟨_, _, _, _, _, _, _, rfl, rfl, hc.1, hc.2, hg, hi, he, hcs, hsl⟩
        · cases h
      · cases h
    · cases h
theorem TsOk.zero {muts : List Str} {rm : Bool} : TsOk Γ N muts rm F k fu 0 where
  s := fun _ _ _ h => by simp [trS] at h
  b := fun _ _ _ h => by simp [trSs] at h
theorem ts_s {muts : List Str} {rm : Bool} {n : Nat} (T : TsOk Γ N muts rm F k fu n) {a : Stmt} {x : S} (h : trS Γ N muts rm (n + 1) sc a = some x) : SOk Γ N F k fu sc a x := by
  have E := TrOk.all (Γ := Γ) (N := N) (F := F) (k := k) n
  unfold trS at h
  split at h
  · cases h; exact st_doc
  · split at h
    · rename_i hl
      obtain ⟨y, h1, rfl⟩ := Option.map_eq_some_iff.mp h
      exact st_expr hl (E.e _ _ _ _ h1)
    · cases h
  · cases h; exact st_pass
  · cases h; exact st_brk
  · cases h; exact st_cnt
  · cases h; exact st_retn
  · obtain ⟨y, h1, rfl⟩ := Option.map_eq_some_iff.mp h
    exact st_ret (E.e _ _ _ _ h1)
  · split at h
    · rename_i i y' hi hx
      split at h
      · rename_i hw
        cases h
        cases n with
        | zero => simp [tr] at hx
        | succ n =>
          obtain ⟨tg, it, ifs, g, i', y, c, rfl, rfl, c1, c2, c3, c4, c5, c6, c7⟩ := lc_form hx
          have E := TrOk.all (Γ := Γ) (N := N) (F := F) (k := k) n
          exact st_setLc hw (own_at hi).1 c1 c2 c3 (E.i _ _ _ _ c4) (E.e _ _ _ _ c5) (E.cs _ _ _ c6) c7
      · cases h
    · cases h
  · split at h
    · rename_i xs hx
      split at h
      · rename_i hp
        split at h
        · rename_i is es hi he
          cases h
          exact st_par hx hp hi he
        · cases h
      · cases h
    · cases h
  · split at h
    · rename_i hl
      split at h
      · rename_i h1 h2 h3
        cases h
        exact st_put hl (E.e _ _ _ _ h1) (E.e _ _ _ _ h2) (E.e _ _ _ _ h3) (tr_slice h2)
      · cases h
    · cases h
  · split at h
    · rename_i hc
      split at h
      · rename_i hg hx
        cases h
        exact st_asg hc.1 hc.2 hg (E.e _ _ _ _ hx)
      · cases h
    · cases h
  · split at h
    · rename_i h1 h2 h3
      cases h
      exact st_aug h1 h2 (E.e _ _ _ _ h3)
    · cases h
  · split at h
    · rename_i h1 h2 h3
      cases h
      exact st_if (E.t _ _ _ h1) (T.b _ _ _ h2) (T.b _ _ _ h3)
    · cases h
  · split at h
    · rename_i hs
      split at h
      · rename_i h1 h2 h3
        cases h
        exact st_for hs h1 (E.i _ _ _ _ h2) (T.b _ _ _ h3)
      · cases h
    · cases h
  · split at h
    · rename_i h1 h2
      cases h
      exact st_while (E.t _ _ _ h1) (T.b _ _ _ h2)
    · cases h
  · cases h; exact st_rse
  · cases h
theorem ts_b {muts : List Str} {rm : Bool} {n : Nat} (T : TsOk Γ N muts rm F k fu n) {a : List Stmt} {x : List S} (h : trSs Γ N muts rm (n + 1) sc a = some x) : BOk Γ N F k fu sc a x := by
  unfold trSs at h
  split at h
  · cases h; exact bk_nil
  · split at h
    · rename_i h1 h2
      cases h
      exact bk_cons (T.s _ _ _ h1) (T.b _ _ _ h2)
    · cases h
theorem TsOk.all {muts : List Str} {rm : Bool} : ∀ n : Nat, TsOk Γ N muts rm F k fu n
  | 0 => .zero
  | n + 1 => ⟨fun _ _ _ h => ts_s (TsOk.all n) h, fun _ _ _ h => ts_b (TsOk.all n) h⟩
end
end Dv

/-! Dv12: defs as a whole; the table of promises; the law. -/
namespace Dv
open PySem PySem.Spec PyProof.Rows L2

/-! ### a def's run -/
/-- what a caller gets: the callee's own objects are dropped, the result lives on as data, or (m) as an object -/
def close (m : Bool) (n : Nat) (w : W) (μ : Store) : Out W := match w with
  | .dat d => .ok (.dat d) (μ.take n)
  | .scr ns => .ok (.scr ns) (μ.take n)
  | .ref r => if r < n then .ok (.ref r) (μ.take n) else match μ[r]? with
    | some (.lst ds) => .ok (mkL m ds (μ.take n)).1 (mkL m ds (μ.take n)).2
    | some (.dct ds) => .ok (mkD m ds (μ.take n)).1 (mkD m ds (μ.take n)).2
    | _ => .no
def outF (m : Bool) (n : Nat) : Fl → Out W
  | .rt w μ => close m n w μ
  | .nx _ μ => close m n (.dat .none) μ
  | .ex c fs _ μ => .ex c fs (μ.take n)
  | _ => .no
def startE (len : Nat) (ws : List W) : Env := ws.map some ++ List.replicate (len - ws.length) none
def runD (F : Specs) (fu len : Nat) (ms : List S) (m : Bool) (ws : List W) (μ : Store) : Out W := outF m μ.length (execs F fu ms (startE len ws) μ)
/-- what the first tells, the second does -/
def Le (f g : List W → Store → Out W) : Prop := ∀ ws μ, f ws μ = .no ∨ g ws μ = f ws μ

section
variable {K : PySem.W.Frag} {φ φ' : Phi} {H H' : Hp} {μ μ' : Store}
theorem rp_cut {n : Nat} {w : W} {v : V} (r : RpW K φ H w v) (h : ∀ k, w = .ref k → k < n) : RpW K (φ.take n) H w v := by
  have sub : ∀ a, some a ∈ φ.take n → some a ∈ φ := fun a h => List.mem_of_mem_take h
  cases w with
  | dat d => exact Fz.sub sub r
  | ref k => exact ⟨by rw [List.length_take]; have := r.1; have := h k rfl; omega, fun a q => r.2 a (take_at q).2⟩
  | scr ns =>
    obtain ⟨a, e, q, z⟩ := r
    exact ⟨a, e, q, z.imp (fun z m => z (sub a m)) id⟩
/-- an object beyond n, kept alone -/
theorem pick {n r : Nat} {a : Addr} {o : Ob} (s : StoR φ μ H) (hn : n ≤ μ.length) (hr : n ≤ r) (ha : φ[r]? = some (some a)) (ho : ObR φ H a o) :
    StoR (φ.take n ++ [some a]) (μ.take n ++ [o]) H ∧ (∀ b, some b ∈ φ.take n ++ [some a] → some b ∈ φ) := by
  have sub : ∀ b, some b ∈ φ.take n ++ [some a] → some b ∈ φ := fun b h => by
    rcases List.mem_append.mp h with h | h
    · exact List.mem_of_mem_take h
    · have : b = a := by simpa using h
      rw [this]; exact List.mem_of_getElem? ha
  have ln : (φ.take n).length = n := by rw [List.length_take]; have := s.len; omega
  have lm : (μ.take n).length = n := by rw [List.length_take]; omega
  have cut : ∀ (i : Nat) (b : Addr), (φ.take n ++ [some a])[i]? = some (some b) → (i < n ∧ φ[i]? = some (some b)) ∨ (i = n ∧ b = a) := fun i b h => by
    by_cases hi : i < n
    · rw [List.getElem?_append_left (by omega)] at h
      exact .inl ⟨hi, (take_at h).2⟩
    · rw [List.getElem?_append_right (by omega), ln] at h
      have : i - n = 0 := by
        cases q : i - n with
        | zero => rfl
        | succ k => rw [q] at h; simp at h
      rw [this] at h
      refine .inr ⟨by omega, by simpa using h.symm⟩
  refine ⟨⟨by rw [List.length_append, List.length_append, ln, lm]; rfl, fun i j b h1 h2 => ?_, fun m o' h => ?_, fun b m => s.trk b (sub b m)⟩, sub⟩
  · rcases cut i b h1 with ⟨l1, k1⟩ | ⟨l1, k1⟩ <;> rcases cut j b h2 with ⟨l2, k2⟩ | ⟨l2, k2⟩
    · exact s.nd i j b k1 k2
    · have := s.nd i r b k1 (by rw [k2]; exact ha)
      omega
    · have := s.nd j r b k2 (by rw [k1]; exact ha)
      omega
    · omega
  · by_cases hm : m < n
    · rw [List.getElem?_append_left (by omega)] at h
      rcases s.live m o' (take_at h).2 with ⟨b, h1, h2⟩ | z
      · exact .inl ⟨b, by rw [List.getElem?_append_left (by omega), List.getElem?_take, if_pos hm]; exact h1, h2.sub sub⟩
      · exact .inr z
    · rw [List.getElem?_append_right (by omega), lm] at h
      have : m - n = 0 := by
        cases q : m - n with
        | zero => rfl
        | succ k => rw [q] at h; simp at h
      rw [this] at h
      have : o' = o := by simpa using h.symm
      subst this
      refine .inl ⟨a, ?_, ho.sub sub⟩
      rw [List.getElem?_append_right (by omega), ln]
      have : m - n = 0 := by omega
      rw [this]; rfl
theorem ext_pick {r : Nat} {a : Addr} (e : Ext φ H φ' H') (hr : φ.length ≤ r) (ha : φ'[r]? = some (some a)) : Ext φ H (φ'.take φ.length ++ [some a]) H' where
  le := by rw [List.length_append, List.length_take]; have := e.le; omega
  old := fun m b l h => by
    rw [List.getElem?_append_left (by rw [List.length_take]; have := e.le; omega)] at h
    exact e.old m b l (take_at h).2
  new := fun m b l h => by
    rw [List.getElem?_append_right (by rw [List.length_take]; omega)] at h
    have : b = a := by
      cases q : m - (φ'.take φ.length).length with
      | zero => rw [q] at h; simpa using h.symm
      | succ k => rw [q] at h; simp at h
    rw [this]
    exact e.new r a hr ha
  keep := e.keep
  all := e.all
/-- the result, as the caller has it -/
theorem close_ok {m : Bool} {w : W} {v : V} {Q : VK} {xw : XW} (n : Nat) (hn : φ.length = n) (e : Ext φ H φ' H') (s : StoR φ' μ' H') (r : RpW K φ' H' w v) (g : Goes (RpW K) φ H (close m n w μ') Q xw) : Q v H' := by
  subst hn
  have hl : φ.length ≤ μ'.length := by have := e.le; have := s.len; omega
  have ec : Ext φ H (φ'.take φ.length) H' := e.cut (Nat.le_refl _)
  unfold close at g
  split at g
  · exact g _ v H' ec (s.cut _) (rp_cut r (fun k h => nomatch h))
  · exact g _ v H' ec (s.cut _) (rp_cut r (fun k h => nomatch h))
  · rename_i k
    split at g
    · rename_i hk
      exact g _ v H' ec (s.cut _) (rp_cut r (fun k' h => by cases h; exact hk))
    · rename_i hk
      have hk : φ.length ≤ k := Nat.le_of_not_lt hk
      split at g
      · rename_i ds hds
        rcases s.live _ _ hds with ⟨a, ha, ho⟩ | z
        · have hv := r.2 a ha
          subst hv
          cases m with
          | false =>
            obtain ⟨xs, h1, h2, h3⟩ := ho
            refine g _ _ H' ec (s.cut _) (Fz.lst h1 (fun hm => ?_) h2 (h3.sub fun b hb => List.mem_of_mem_take hb))
            obtain ⟨i, hi⟩ := List.mem_iff_getElem?.mp hm
            obtain ⟨hi, hi2⟩ := take_at hi
            have := s.nd i k a hi2 ha
            omega
          | true =>
            obtain ⟨p1, p2⟩ := pick s hl hk ha ho
            refine g _ _ H' (ext_pick e hk ha) p1 ⟨?_, fun b hb => ?_⟩
            · rw [List.length_append, List.length_take, List.length_take]; have := e.le; simp; omega
            · rw [List.length_take, List.getElem?_append_right (by rw [List.length_take]; omega), List.length_take] at hb
              have h0 : min φ.length μ'.length - min φ.length φ'.length = 0 := by have := e.le; omega
              rw [h0] at hb
              have : a = b := by simpa using hb
              rw [this]
        · cases z
      · rename_i ds hds
        rcases s.live _ _ hds with ⟨a, ha, ho⟩ | z
        · have hv := r.2 a ha
          subst hv
          cases m with
          | false =>
            obtain ⟨xs, h1, h2, h3⟩ := ho
            refine g _ _ H' ec (s.cut _) (Fz.dct (.inl h1) (fun hm => ?_) h2 (h3.sub fun b hb => List.mem_of_mem_take hb))
            obtain ⟨i, hi⟩ := List.mem_iff_getElem?.mp hm
            obtain ⟨hi, hi2⟩ := take_at hi
            have := s.nd i k a hi2 ha
            omega
          | true =>
            obtain ⟨p1, p2⟩ := pick s hl hk ha ho
            refine g _ _ H' (ext_pick e hk ha) p1 ⟨?_, fun b hb => ?_⟩
            · rw [List.length_append, List.length_take, List.length_take]; have := e.le; simp; omega
            · rw [List.length_take, List.getElem?_append_right (by rw [List.length_take]; omega), List.length_take] at hb
              have h0 : min φ.length μ'.length - min φ.length φ'.length = 0 := by have := e.le; omega
              rw [h0] at hb
              have : a = b := by simpa using hb
              rw [this]
        · cases z
      · exact g.elim
theorem FzF.sub (e : ∀ a, some a ∈ φ' → some a ∈ φ) : ∀ {fv : List (Str × V)} {fs : List (Str × PyData)}, FzF φ H fv fs → FzF φ' H fv fs
  | _, _, .nil => .nil
  | _, _, .cons h t => .cons (h.sub e) (FzF.sub e t)
theorem ExR.sub {mg : Str → Option Value} {c : Str} {fs : List (Str × PyData)} {cls : Value} {d : Option Addr} (e : ∀ a, some a ∈ φ' → some a ∈ φ) (h : ExR mg φ H c fs cls d) : ExR mg φ' H c fs cls d := by
  obtain ⟨C, h1, h2, h3⟩ := h
  refine ⟨C, h1, h2, h3.imp id fun ⟨dd, fv, a1, a2, a3⟩ => ⟨dd, fv, a1, a2, a3.sub e⟩⟩
/-- the ends of a def's body -/
theorem ends_ok {mg : Str → Option Value} {m : Bool} {fl : Fl} {Q : VK} {E : XK} (n : Nat) (hn : φ.length = n) (g : Goes (RpW K) φ H (outF m n fl) Q (xwE mg E)) :
    GoS K mg (fun cls d _ H => E cls d H) φ H fl { nx := fun _ H' => Q .non H', rt := Q } := by
  cases fl with
  | nx ρ μ => exact fun φ' σ' H' e s en => close_ok (m := m) n hn e s (w := .dat .none) .non g
  | bk ρ μ => exact (show False from g).elim
  | ct ρ μ => exact (show False from g).elim
  | rt w μ => exact fun φ' v H' e s r => close_ok n hn e s r g
  | ex c fs ρ μ =>
    subst hn
    exact fun φ' σ' H' e s en cls d x => g (φ'.take φ.length) H' (e.cut (Nat.le_refl _)) (s.cut _) cls d (x.sub fun a h => List.mem_of_mem_take h)
  | no => exact g
theorem start_ok : ∀ {N : List Str} {ws : List W} {vs : List V}, RpAll K φ H ws vs → EnvR K φ H (startE N.length ws) (L2.start N vs) := fun {N ws vs} r => by
  have hl := r.len
  unfold startE L2.start
  rw [hl]
  generalize N.length - ws.length = j
  clear hl
  induction r with
  | nil =>
    refine ⟨by simp, fun i w q => ?_⟩
    have q : (List.replicate j none)[i]? = some (some w) := q
    rw [List.getElem?_replicate] at q
    split at q <;> cases q
  | cons h t ih =>
    refine ⟨by simpa using ih.len, fun i w q => ?_⟩
    cases i with
    | zero =>
      have q := Option.some.inj (Option.some.inj q)
      subst q
      exact ⟨_, rfl, h⟩
    | succ i => exact ih.at_ i w q
end

/-! ### the table of promises -/
section
variable {P : Program} {w : World} {K : PySem.W.Frag} {mg : Str → Option Value} {base : Heap} {Γ : Glob} {F : Specs} {k : Nat}
def Facts (P : Program) (w : World) (K : PySem.W.Frag) (mg : Str → Option Value) (base : Heap) (k : Nat) (Γ : Glob) (F : Specs) : Prop := ∀ x ge, Γ.lookup x = some ge → GEok P w K mg base k F x ge
theorem Facts.nil : Facts P w K mg base k [] F := fun x ge h => by cases h
theorem sp_le {f g : List W → Store → Out W} (h : Le f g) {n : Nat} {vs : List V} {H : Hp} {Q : VK} {E : XK} (s : spOf K mg f n vs H Q E) : spOf K mg g n vs H Q E := by
  obtain ⟨hl, φ, ws, μ, s, r, q⟩ := s
  refine ⟨hl, φ, ws, μ, s, r, ?_⟩
  rcases h ws μ with e | e
  · rw [e] at q; exact q.elim
  · rw [e]; exact q
theorem fnG_run {N ps muts : List Str} {x : Str} {params : Arguments} {body : List Stmt} {scope : Scope} {f : Addr} {fd : FuncData} {ms : List S} {spec : List W → Store → Out W} {n fu : Nat} {m : Bool} (FA : Facts P w K mg base k Γ F)
    (FD : FunD K x x params body scope [] [] f fd) (S : FnScope N ps scope) (ht : trSs Γ N muts m n scope body = some ms) (hle : Le spec (runD F fu N.length ms m)) : FnG P w K mg base (k + 1) f fd ps (spOf K mg spec ps.length) := by
  obtain ⟨oc, od, dV, kV, doc, pm, an, cdv, ct, osl, rfl, lk, hcd, _, _⟩ := FD.ex
  refine fnG_of lk hcd S (fun vs H Q E h => h.1) fun A outer s H vs Q E hr hg hsp => ?_
  obtain ⟨hl, φ, ws, μ, st, r, q⟩ := sp_le hle hsp
  have G : GoodS Γ N F k (fun cls d _ H => E cls d H) (cxOf (L2.CX P w) P w K mg base N x scope f cdv A outer s H E) scope := {
    sc := rfl
    n := rfl
    nd := S.nd
    calm := rfl
    room := hr
    guards := hg
    facts := FA
    tk := takes_of rfl rfl rfl rfl
    po := passes_of rfl
    fn := fun _ => rfl }
  exact ⟨_, (TsOk.all n).b _ _ _ ht _ _ G, φ, startE N.length ws, μ, st, start_ok r, ends_ok μ.length st.len q⟩
/-- F with one more promise -/
def updF (F : Specs) (x : Str) (f : List W → Store → Out W) : Specs := fun y => if y = x then f else F y
theorem GEok.mono {j : Nat} {x : Str} {ge : GE} (h : GEok P w K mg base j F x ge) (l : j ≤ k) : GEok P w K mg base k F x ge := by
  cases ge with
  | blt => exact h
  | con d => exact h
  | fn y ps kws =>
    obtain ⟨f, fd, h1, h2, h3, h4, h5⟩ := h
    exact ⟨f, fd, h1, h2, h3, h4, h5.mono l⟩
theorem Facts.free {x : Str} (FA : Facts P w K mg base k Γ F) (h : mg x = none) : Facts P w K mg base k ((x, .blt) :: Γ) F := fun y ge q => by
  rw [List.lookup_cons] at q
  split at q
  · rename_i e
    cases q
    rw [eq_of_beq e]; exact h
  · exact FA y ge q
theorem Facts.con {x : Str} {d : PyData} (FA : Facts P w K mg base k Γ F) (h : ∃ u, mg x = some u ∧ RelV (vOf d) u) (hf : flatD d = true) : Facts P w K mg base k ((x, .con d) :: Γ) F := fun y ge q => by
  rw [List.lookup_cons] at q
  split at q
  · rename_i e
    cases q
    obtain ⟨u, h1, h2⟩ := h
    rw [eq_of_beq e]; exact ⟨u, h1, h2, hf⟩
  · exact FA y ge q
/-- a def's promise: x its name in the table, y in the text -/
theorem Facts.fn {x y : Str} {N ps muts : List Str} {kws : List (List Str × List Nat)} {params : Arguments} {body : List Stmt} {scope : Scope} {f : Addr} {fd : FuncData} {ms : List S} {spec : List W → Store → Out W} (n fu : Nat) (m : Bool) (FA : Facts P w K mg base k Γ F)
    (FD : FunD K y y params body scope [] [] f fd) (hm : mg y = some (.ref f)) (S : FnScope N ps scope) (hb : Binds K fd ps []) (hk : ∀ ko ∈ kws, KwOk fd ps ko.1 ko.2 ∧ ko.2.length = ps.length ∧ ∀ i ∈ ko.2, i < ko.1.length)
    (ht : trSs Γ N muts m n scope body = some ms) (hle : Le spec (runD F fu N.length ms m)) : Facts P w K mg base (k + 1) ((x, .fn y ps kws) :: Γ) (updF F x spec) := fun z ge q => by
  rw [List.lookup_cons] at q
  by_cases e : z = x
  · subst e
    rw [beq_self_eq_true] at q
    cases q
    refine ⟨f, fd, hm, FD.kp, hb, hk, ?_⟩
    have : updF F z spec z = spec := if_pos rfl
    rw [this]
    exact fnG_run FA FD S ht hle
  · have hne : (z == x) = false := by simpa using e
    rw [hne] at q
    have := (FA z ge q).mono (Nat.le_succ k)
    cases ge with
    | blt => exact this
    | con d => exact this
    | fn y' ps' kws' =>
      have e' : updF F x spec z = F z := if_neg e
      show ∃ f fd, _ ∧ _ ∧ _ ∧ _ ∧ FnG P w K mg base (k + 1) f fd ps' (spOf K mg (updF F x spec z) ps'.length)
      rw [e']
      exact this
/-- keywords alone, of a def without defaults -/
theorem kw_of {x : Str} {params : Arguments} {body : List Stmt} {scope : Scope} {f : Addr} {fd : FuncData} {ps ks : List Str} {pm : List Nat} (FD : FunD K x x params body scope [] [] f fd)
    (h : ∀ (kV doc pv : Value) (an : Option Addr) (cdv ct : Value) (us : List Value), us.length = ks.length → bindArgs (PySem.W.fnOf x x params body scope .none kV doc pv an cdv ct) ⟨[], ks.zip us⟩ = pure (ps.zip (pm.filterMap fun i => us[i]?))) : KwOk fd ps ks pm := by
  obtain ⟨oc, od, dV, kV, doc, pv, an, cdv, ct, osl, rfl, lk, hcd, hD, hK⟩ := FD.ex
  intro s us hl
  rcases hD with ⟨_, rfl⟩ | ⟨e, _⟩
  · exact .of_eq (h kV doc pv an cdv ct us hl)
  · exact absurd rfl e
end
end Dv

/-! Dv13: the law, called with a script. -/
namespace Dv
open PySem PySem.Spec PyProof.Rows L2
section
variable {P : Program} {w : World} {K : PySem.W.Frag}
/-- the script is tracked as a thing that keeps its object; or it is the module's own -/
def Script (K : PySem.W.Frag) (a : Addr) (O : Obj) (xs : List V) (H : Hp) : Prop := ∀ b, H b = none ∨ b = a ∧ K.lookup a = none ∧ H b = some (.frz O (.lst xs))
theorem script_heap {h : Heap} {a : Addr} {vs : List Value} {ns : List Int} (KX : K.In h) (ha : h.get? a = some { cls := .type "list", data := .seq vs.toArray }) (hi : IntsAre vs ns) (hl : ns.length ≤ sizeLine) :
    ∃ H, Script K a { cls := .type "list", data := .seq vs.toArray } (ns.map V.int) H ∧ SqL K H a (ns.map V.int) ∧ HOk P w H h := by
  have rv : Vals (ns.map V.int) vs := vals_ints hi
  cases hk : K.lookup a with
  | some o =>
    have eo := ha.symm.trans (KX a o hk)
    cases eo
    have hz : vs.toArray.size ≤ sizeLine := by rw [List.size_toArray, hi.length]; exact hl
    exact ⟨fun _ => none, fun _ => .inl rfl, .inr ⟨_, _, _, hk, rfl, rfl, rfl, hz, rv⟩, fun _ _ z => nomatch z⟩
  | none =>
    generalize hO : ({ cls := .type "list", data := .seq vs.toArray } : Obj) = O at ha
    have at_ : ∀ b, (if b = a then some (HO.frz O (.lst (ns.map V.int))) else none) = (none : Option HO) ∨ b = a := fun b => by
      by_cases e : b = a
      · exact .inr e
      · exact .inl (if_neg e)
    refine ⟨fun b => if b = a then some (.frz O (.lst (ns.map V.int))) else none, fun b => ?_, .inl (.inr ⟨O, if_pos rfl⟩), fun b u z => ?_⟩
    · rcases at_ b with e | e
      · exact .inl e
      · exact .inr ⟨e, hk, if_pos e⟩
    · rcases at_ b with e | e
      · cases e.symm.trans z
      · subst e
        cases (if_pos rfl).symm.trans z
        subst hO
        exact ⟨ha, by rw [List.length_map]; exact hl, vs, _, rv, ha⟩
theorem script_env0 {mg mb : Str → Option Value} {s : Shared} {H : Hp} {a : Addr} {vs : List Value} {xs : List V} (KX : K.In s.heap) (n1 : s.heap.Ns mainGlobals mg) (n2 : s.heap.Ns builtinsNs mb) (n3 : ∀ x : Str, x ≠ "__name__" → mb x = bootBuiltins x) (n4 : s.heap.NoLimit) (hg : s.gens = #[])
    (ha : s.heap.get? a = some { cls := .type "list", data := .seq vs.toArray }) (S : Script K a { cls := .type "list", data := .seq vs.toArray } xs H) (hok : HOk P w H s.heap) :
    K.In (hidT s.heap H) ∧ (hidT s.heap H).Ns mainGlobals mg ∧ Env0 P w K mg (hidT s.heap H) callerA [] s H := by
  have ns : ∀ {b : Addr} {m : Str → Option Value}, s.heap.Ns b m → (hidT s.heap H).Ns b m := fun {b m} ⟨o, es, ep, e, d, r⟩ => by
    refine ⟨o, es, ep, hidT_get e ?_, d, r⟩
    rcases S b with z | ⟨z, _, _⟩
    · exact z
    · subst z
      cases ha.symm.trans e
      cases (show Data.seq vs.toArray _ = Data.dict es ep from d)
  have ki : K.In (hidT s.heap H) := fun b o e => hidT_get (KX b o e) (by
    rcases S b with z | ⟨z, z2, _⟩
    · exact z
    · subst z
      cases z2.symm.trans e)
  refine ⟨ki, ns n1, rfl, ⟨ki, ns n1, ⟨mb, ns n2, n3⟩, ?_⟩, fun b o e => of_hidT e, Nat.le_of_eq (hidT_size _ _), trivial, fun b hb => (List.not_mem_nil hb).elim, hok, .of_eq hg⟩
  obtain ⟨mc, h1, h2⟩ := n4
  exact ⟨mc, ns h1, h2⟩
/-- a law over the table of promises -/
theorem law_end {l : PySem.W.OpenLaw} {n k : Nat} {q : Program} {loose : List Str} {XP : (Str → Option Value) → Heap → Prop} {YP : World → Heap → Prop} {d : DefRec} {x : Str} {spec : List W → Store → Out W}
    (hn : l.most = some n) (hn2 : n ≤ sizeLine) (hdf : d.params.defaults = []) (hr : Room k callerA)
    (F : ∀ (w : World) (mg : Str → Option Value) (fa : Addr) (h : Heap), YP w h → h.Ns mainGlobals mg → mg d.name = some (.ref fa) →
      ∃ (K : PySem.W.Frag) (fd : FuncData), K.In h ∧ (∀ (s : Shared) (u : Value), BindsTo s fd ⟨[u], []⟩ [(x, u)]) ∧ ∀ base : Heap, K.In base → base.Ns mainGlobals mg → FnG l.prog w K mg base k fa fd [x] (spOf K mg spec 1))
    (hlaw : ∀ ns : List Int, ns.length ≤ n → ∃ μ, spec [.scr ns] [] = .ok (.dat (.bool true)) μ) : PySem.W.WalkO q loose XP YP l.row.toRowW d [] (fun f vs => PySem.call f vs) := by
  refine Att.attach_call hn hdf ?_
  intro w s₀ s mg mb fa o pm cd doc a vs ns G Y _ _ _ hmg hobj hints hlen hg
  obtain ⟨K, fd, KX, hb, hF⟩ := F w mg fa _ Y G.T.g hmg
  obtain ⟨H, S, sq, hok⟩ := script_heap (P := l.prog) (w := w) KX hobj hints (Nat.le_trans hlen hn2)
  obtain ⟨k1, k2, k3⟩ := script_env0 KX G.T.g G.T.b G.T.builtins G.T.nolimit hg hobj S hok
  obtain ⟨μ, hμ⟩ := hlaw ns hlen
  have sto : StoR [] [] H := ⟨rfl, fun i j a h => by simp at h, fun i o h => by simp at h, fun a h => by simp at h⟩
  have hsp : spOf K mg spec 1 [.ref a] H (fun v _ => v = .bl true) (fun _ _ _ => False) := by
    refine ⟨rfl, [], [.scr ns], [], sto, .cons ⟨a, rfl, sq, .inl (by simp)⟩ .nil, ?_⟩
    rw [hμ]
    intro φ' v H' e s r
    have r : Fz φ' H' v (.bool true) := r
    cases r
    rfl
  refine codeAny_mono ((hF _ k1 k2).go callerA [] s H ⟨[.ref a], []⟩ [.ref a] [.ref a] _ _ hr rfl k3 (hb s (.ref a)) (.cons rfl .nil) hsp) fun r s' h => ?_
  match r, h with
  | .error e, ⟨_, _, _, _, _, _, _, _, _, _, _, _, z⟩ => exact z.elim
  | .ok .next, h => exact False.elim h
  | .ok .brk, h => exact False.elim h
  | .ok .cont, h => exact False.elim h
  | .ok (.ret u), ⟨v, H', os, bare, un, hok', rv, qv⟩ =>
    have qv : v = .bl true := qv
    subst qv
    cases (show u = Value.bool true from rv)
    refine ⟨rfl, OldK.of_keep fun b ob e => ?_, os, bare⟩
    rcases S b with z | ⟨z, _, z3⟩
    · exact un.keep b ob e z (fun m => List.not_mem_nil m) (fun m => List.not_mem_nil m)
    · obtain ⟨e1, _⟩ := hok b _ z3
      obtain ⟨e2, _⟩ := hok' b _ (un.frzs b _ _ z3)
      cases e1.symm.trans e
      exact e2
end
end Dv

/-! Pl1: plain facts of the little language. -/
namespace Pl
open PySem hiding Env exec execs start
open Dv

/-! ### rows for reckoning -/
section
variable {F : Specs} {ρ : Dv.Env} {μ : Store}
theorem truth_b (b : Bool) : truth (.dat (.bool b)) μ = .ok b μ := rfl
theorem rd_d (d : PyData) : rd μ (.dat d) = some d := rfl
theorem rdw_d (d : PyData) : rdw μ (.dat d) = some d := rfl
theorem lift_s {α : Type} (a : α) : lift (some a) μ = .ok a μ := rfl
theorem lift_n {α : Type} : lift (none : Option α) μ = .no := rfl
theorem nm_f (x : Str) : nm false x = x := rfl
theorem nm_t (x : Str) : nm true x = x ++ Str.ofString "!" := rfl
theorem fin_i (m : Bool) (i : Int) : fin m (.int i) μ = .ok (.dat (.int i)) μ := rfl
theorem fin_b (m : Bool) (i : Bool) : fin m (.bool i) μ = .ok (.dat (.bool i)) μ := rfl
theorem fin_s (m : Bool) (i : Str) : fin m (.str i) μ = .ok (.dat (.str i)) μ := rfl
theorem fin_t (m : Bool) (i : List PyData) : fin m (.tuple i) μ = .ok (.dat (.tuple i)) μ := rfl
theorem fin_n (m : Bool) : fin m .none μ = .ok (.dat .none) μ := rfl
theorem fin_l (i : List PyData) : fin false (.list i) μ = .ok (.dat (.list i)) μ := rfl
theorem fin_d (i : List (PyData × PyData)) : fin false (.dict i) μ = .ok (.dat (.dict i)) μ := rfl
theorem finO_s (m : Bool) (d : PyData) : finO m (some d) μ = fin m d μ := rfl
theorem finO_n (m : Bool) : finO m none μ = .no := rfl
theorem dats_d (d : PyData) (ws : List W) : dats (.dat d :: ws) μ = (dats ws μ).map fun (ds, μ') => (d :: ds, μ') := rfl
theorem dats_0 : dats [] μ = some ([], μ) := rfl
theorem rds_d (d : PyData) (ws : List W) : rds μ (.dat d :: ws) = (rds μ ws).map (d :: ·) := by
  show (match rd μ (.dat d), rds μ ws with | some d, some ds => some (d :: ds) | _, _ => none) = _
  rw [rd_d]
  cases rds μ ws <;> rfl
theorem rds_0 : rds μ [] = some [] := rfl
theorem bltW_len (m : Bool) (d : PyData) : bltW m .len [.dat d] μ = finO m (bltD .len [d]) μ := rfl
theorem bltW_1 (m : Bool) (f : Blt) (h : f ≠ .len) (d : PyData) : bltW m f [.dat d] μ = finO m (bltD f [d]) μ := by cases f <;> first | rfl | exact absurd rfl h
theorem bltW_2 (m : Bool) (f : Blt) (h : f ≠ .len) (d e : PyData) : bltW m f [.dat d, .dat e] μ = finO m (bltD f [d, e]) μ := by cases f <;> first | rfl | exact absurd rfl h
theorem close_d (m : Bool) (d : PyData) : close m μ.length (.dat d) μ = .ok (.dat d) μ := by
  show Out.ok (W.dat d) (μ.take μ.length) = _
  rw [List.take_length]
end
/-- a comprehension over data whose parts change nothing -/
theorem lcL_pure {n : Nat} {f : PyData → Store → Out (Option W)} {g : PyData → Option PyData} {μ : Store} (hn : n = μ.length) : ∀ {xs acc : List PyData}, (∀ x ∈ xs, ∀ ds, f x (μ ++ [.lst ds]) = .ok ((g x).map .dat) (μ ++ [.lst ds])) → acc.length + xs.length ≤ sizeLine →
    lcL n f xs (μ ++ [.lst acc]) = .ok () (μ ++ [.lst (acc ++ xs.filterMap g)])
  | [], acc, _, _ => by simp [lcL]
  | x :: xs, acc, hf, hl => by
    unfold lcL
    rw [hf x List.mem_cons_self acc, Out.bind_ok]
    have ih := fun acc' h => lcL_pure (f := f) hn (xs := xs) (acc := acc') (fun y hy => hf y (List.mem_cons_of_mem _ hy)) h
    have hl' : acc.length + (xs.length + 1) ≤ sizeLine := hl
    cases hg : g x with
    | none =>
      rw [List.filterMap_cons_none hg]
      exact ih acc (by omega)
    | some y =>
      rw [List.filterMap_cons_some hg]
      have e : (μ ++ [Ob.lst acc])[n]? = some (.lst acc) := by subst hn; simp
      have e2 : (μ ++ [Ob.lst acc]).set n (.lst (acc ++ [y])) = μ ++ [.lst (acc ++ [y])] := by subst hn; simp
      simp only [Option.map_some, dats_d, dats_0, e, e2]
      rw [if_pos (by omega), ih (acc ++ [y]) (by rw [List.length_append]; simp; omega), List.append_assoc]
      rfl
theorem lcEnd_f {n : Nat} {ds : List PyData} {μ : Store} (hn : n = μ.length) (m : Bool) : lcEnd m n (μ ++ [.lst ds]) = .ok (mkL m ds μ).1 (mkL m ds μ).2 := by
  subst hn
  unfold lcEnd
  have e : (μ ++ [Ob.lst ds])[μ.length]? = some (.lst ds) := by simp
  rw [e]
  cases m with
  | true => rfl
  | false => simp [mkL]
theorem ev_lc {F : Specs} {m : Bool} {el : E} {tg : Tg} {it : Wk} {c : Co} {own : List Nat} {ρ : Dv.Env} {μ : Store} {xs : List PyData} (g : PyData → Option PyData) (hi : evi F it ρ μ = .ok xs μ)
    (ht : ∀ x ∈ xs, ∀ μ', lcTurn (asg tg (.dat x) (wipeE ρ own)) (evC F c) (ev F el) μ' = .ok ((g x).map .dat) μ') (hl : xs.length ≤ sizeLine) : ev F (.lc m el tg it c own) ρ μ = .ok (mkL m (xs.filterMap g) μ).1 (mkL m (xs.filterMap g) μ).2 := by
  simp only [ev]
  rw [hi, Out.bind_ok, lcL_pure (g := g) rfl (fun x hx ds => ht x hx _) (by simpa using hl)]
  simp only [Out.noex, Out.bind_ok, List.nil_append]
  exact lcEnd_f rfl m
/-- without a test, by an element's value -/
theorem ev_map {F : Specs} {el : E} {tg : Tg} {it : Wk} {own : List Nat} {ρ : Dv.Env} {μ : Store} {xs : List PyData} (g : PyData → PyData) (hi : evi F it ρ μ = .ok xs μ)
    (ht : ∀ x ∈ xs, ∀ μ', lcTurn (asg tg (.dat x) (wipeE ρ own)) (evC F .no) (ev F el) μ' = .ok (some (.dat (g x))) μ') (hl : xs.length ≤ sizeLine) : ev F (.lc false el tg it .no own) ρ μ = .ok (.dat (.list (xs.map g))) μ := by
  rw [ev_lc (fun x => some (g x)) hi ht hl]
  simp [mkL]
theorem boolsOf_map {α : Type} (p : α → Bool) : ∀ xs : List α, boolsOf (xs.map fun x => .bool (p x)) = some (xs.map p)
  | [] => rfl
  | x :: xs => by
    show (boolsOf (xs.map fun x => .bool (p x))).map (p x :: ·) = _
    rw [boolsOf_map p xs]; rfl
theorem blt_all_map {α : Type} (p : α → Bool) (xs : List α) : bltD .all [.list (xs.map fun x => .bool (p x))] = some (.bool (xs.all p)) := by
  show (boolsOf _).map _ = _
  rw [boolsOf_map, Option.map_some]
  congr 2
  induction xs with
  | nil => rfl
  | cons x xs ih => simpa using ih

/-! ### the recognizers -/
def letters : List Nat := (Str.ofString "abcdefghijklmnopqrstuvwxyz").cps.toList
def sOk : PyData → Bool
  | .str x => decide (x.length ≤ sizeLine)
  | _ => true
def isWordD : PyData → Bool
  | .str x => decide (1 ≤ x.length) && (decide (x.length ≤ 8) && x.cps.toList.all fun c => decide (c ∈ letters))
  | _ => false
def sp1 (f : PyData → Option PyData) : List W → Store → Out W := fun ws μ => match ws with
  | [.dat d] => lift ((f d).map .dat) μ
  | _ => .no
def sp2 (f : PyData → PyData → Option PyData) : List W → Store → Out W := fun ws μ => match ws with
  | [.dat d, .dat e] => lift ((f d e).map .dat) μ
  | _ => .no
def sIsWord := sp1 fun d => if sOk d = true then some (.bool (isWordD d)) else none
def mIsWord : List S := [.ret (.and (.isi (.var 0) ["str"]) (.and (.chn .le .le (.con (.int (1))) (.blt false .len (.cons (.var 0) .nil)) (.con (.int (8)))) (.blt false .all (.cons (.lc false (.cmp .isin (.var 1) (.con (.str "abcdefghijklmnopqrstuvwxyz"))) (.v 1) (.seq (.var 0)) .no [1]) .nil))))]
theorem le_sp1 {f : PyData → Option PyData} {g : List W → Store → Out W} (h : ∀ d e μ, f d = some e → g [.dat d] μ = .ok (.dat e) μ) : Le (sp1 f) g := fun ws μ => by
  unfold sp1
  split
  · rename_i d
    cases hd : f d with
    | none => exact .inl rfl
    | some e => exact .inr (h d e μ hd)
  · exact .inl rfl
theorem le_sp2 {f : PyData → PyData → Option PyData} {g : List W → Store → Out W} (h : ∀ d d' e μ, f d d' = some e → g [.dat d, .dat d'] μ = .ok (.dat e) μ) : Le (sp2 f) g := fun ws μ => by
  unfold sp2
  split
  · rename_i d d'
    cases hd : f d d' with
    | none => exact .inl rfl
    | some e => exact .inr (h d d' e μ hd)
  · exact .inl rfl
section
variable {F : Specs} {ρ : Dv.Env} {μ : Store}
theorem e_var (i : Nat) : ev F (.var i) ρ μ = match ρ[i]? with | some (some w) => .ok w μ | _ => .no := rfl
theorem e_con (d : PyData) : ev F (.con d) ρ μ = .ok (.dat d) μ := rfl
theorem e_tup (es : Es) : ev F (.tup es) ρ μ = (evs F es ρ μ).bind fun ws μ1 => match dats ws μ1 with
    | some (ds, μ2) => if ds.length ≤ sizeLine then .ok (.dat (.tuple ds)) μ2 else .no
    | none => .no := rfl
theorem e_lst (m : Bool) (es : Es) : ev F (.lst m es) ρ μ = (evs F es ρ μ).bind fun ws μ1 => match dats ws μ1 with
    | some (ds, μ2) => if ds.length ≤ sizeLine then .ok (mkL m ds μ2).1 (mkL m ds μ2).2 else .no
    | none => .no := rfl
theorem e_bin (m : Bool) (op : Bop) (a b : E) : ev F (.bin m op a b) ρ μ = (ev F a ρ μ).bind fun x μ1 => (ev F b ρ μ1).bind fun y μ2 => match rd μ2 x, rd μ2 y with
    | some d, some e => finO m (binD op d e) μ2
    | _, _ => .no := rfl
theorem e_neg (a : E) : ev F (.neg a) ρ μ = (ev F a ρ μ).bind fun x μ1 => match x with
    | .dat (.int i) => .ok (.dat (.int (-i))) μ1
    | _ => .no := rfl
theorem e_cmp (op : Cop) (a b : E) : ev F (.cmp op a b) ρ μ = (ev F a ρ μ).bind fun x μ1 => (ev F b ρ μ1).bind fun y μ2 => match rd μ2 x, rd μ2 y with
    | some d, some e => (lift (cmpD op d e) μ2).bind fun k μ3 => .ok (.dat (.bool k)) μ3
    | _, _ => .no := rfl
theorem e_chn (o p : Cop) (a b c : E) : ev F (.chn o p a b c) ρ μ = (ev F a ρ μ).bind fun x μ1 => (ev F b ρ μ1).bind fun y μ2 => match rd μ2 x, rd μ2 y with
    | some d, some e => (lift (cmpD o d e) μ2).bind fun k μ3 => if k = true then (ev F c ρ μ3).bind fun z μ4 => match rd μ4 y, rd μ4 z with
        | some e', some g => (lift (cmpD p e' g) μ4).bind fun k' μ5 => .ok (.dat (.bool k')) μ5
        | _, _ => .no
      else .ok (.dat (.bool false)) μ3
    | _, _ => .no := rfl
theorem e_not (a : E) : ev F (.not a) ρ μ = (ev F a ρ μ).bind fun x μ1 => (truth x μ1).bind fun k μ2 => .ok (.dat (.bool (!k))) μ2 := rfl
theorem e_and (a b : E) : ev F (.and a b) ρ μ = (ev F a ρ μ).bind fun x μ1 => (truth x μ1).bind fun k μ2 => if k = true then ev F b ρ μ2 else .ok x μ2 := rfl
theorem e_or (a b : E) : ev F (.or a b) ρ μ = (ev F a ρ μ).bind fun x μ1 => (truth x μ1).bind fun k μ2 => if k = true then .ok x μ2 else ev F b ρ μ2 := rfl
theorem e_ite (c : C) (a b : E) : ev F (.ite c a b) ρ μ = (evT F c ρ μ).bind fun k μ1 => if k = true then ev F a ρ μ1 else ev F b ρ μ1 := rfl
theorem e_idx (a b : E) : ev F (.idx a b) ρ μ = (ev F a ρ μ).bind fun x μ1 => (ev F b ρ μ1).bind fun y μ2 => match rdw μ2 x, rd μ2 y with
    | some d, some e => (lift (idxD d e) μ2).bind fun r μ3 => .ok (.dat r) μ3
    | _, _ => .no := rfl
theorem e_slc (m : Bool) (a : E) (lo hi : Eo) : ev F (.slc m a lo hi) ρ μ = (ev F a ρ μ).bind fun x μ1 => (evo F lo ρ μ1).bind fun l μ2 => (evo F hi ρ μ2).bind fun h μ3 => match rd μ3 x with
    | some d => finO m (slcD d l h) μ3
    | none => .no := rfl
theorem e_cal (m : Bool) (f : Str) (es : Es) : ev F (.cal m f es) ρ μ = (evs F es ρ μ).bind fun ws μ1 => F (nm m f) ws μ1 := rfl
theorem e_cak (f : Str) (ps : List Nat) (es : Es) : ev F (.cak f ps es) ρ μ = (evs F es ρ μ).bind fun ws μ1 => F f (perm ps ws) μ1 := rfl
theorem e_blt (m : Bool) (f : Blt) (es : Es) : ev F (.blt m f es) ρ μ = (evs F es ρ μ).bind fun ws μ1 => bltW m f ws μ1 := rfl
theorem e_mth (m : Bool) (f : Mth) (o : E) (es : Es) : ev F (.mth m f o es) ρ μ = (ev F o ρ μ).bind fun x μ1 => if mthPre f x μ1 = true then (evs F es ρ μ1).bind fun ws μ2 => mthW m f x ws μ2 else .no := rfl
theorem e_isi (a : E) (ts : List String) : ev F (.isi a ts) ρ μ = (ev F a ρ μ).bind fun x μ1 => match rd μ1 x, ts with
    | some d, [t] => (lift (isiD d t) μ1).bind fun k μ2 => .ok (.dat (.bool k)) μ2
    | _, _ => .no := rfl
theorem t_not (a : C) : evT F (.not a) ρ μ = (evT F a ρ μ).bind fun k μ1 => .ok (!k) μ1 := rfl
theorem t_and (a b : C) : evT F (.and a b) ρ μ = (evT F a ρ μ).bind fun k μ1 => if k = true then evT F b ρ μ1 else .ok false μ1 := rfl
theorem t_or (a b : C) : evT F (.or a b) ρ μ = (evT F a ρ μ).bind fun k μ1 => if k = true then .ok true μ1 else evT F b ρ μ1 := rfl
theorem t_val (e : E) : evT F (.val e) ρ μ = (ev F e ρ μ).bind fun x μ1 => truth x μ1 := rfl
theorem s_nil : evs F .nil ρ μ = .ok [] μ := rfl
theorem s_cons (e : E) (es : Es) : evs F (.cons e es) ρ μ = (ev F e ρ μ).bind fun w μ1 => (evs F es ρ μ1).bind fun ws μ2 => .ok (w :: ws) μ2 := rfl
theorem o_no : evo F .no ρ μ = .ok none μ := rfl
theorem o_so (e : E) : evo F (.so e) ρ μ = (ev F e ρ μ).bind fun w μ1 => match w with
    | .dat (.int i) => .ok (some i) μ1
    | _ => .no := rfl
theorem i_seq (e : E) : evi F (.seq e) ρ μ = (ev F e ρ μ).bind fun w μ1 => lift ((datOf w).bind seqD) μ1 := rfl
theorem datOf_d (d : PyData) : datOf (.dat d) = some d := rfl
theorem seqD_l (ds : List PyData) : seqD (.list ds) = some ds := rfl
theorem seqD_t (ds : List PyData) : seqD (.tuple ds) = some ds := rfl
theorem seqD_s (x : Str) : seqD (.str x) = some (Dv.signs x) := rfl
theorem i_zip (a b : E) : evi F (.zip a b) ρ μ = (ev F a ρ μ).bind fun v μ1 => (ev F b ρ μ1).bind fun w μ2 => match v, w with
    | .dat (.list xs), .dat (.list ys) => .ok (List.zipWith (fun x y => .tuple [x, y]) xs ys) μ2
    | .dat (.tuple xs), .dat (.tuple ys) => .ok (List.zipWith (fun x y => .tuple [x, y]) xs ys) μ2
    | _, _ => .no := rfl
end
theorem q_none_tuple : isiD .none "tuple" = some false := by (show L2.kitB "NoneType" "tuple" = _); decide +kernel
theorem q_none_str : isiD .none "str" = some false := by (show L2.kitB "NoneType" "str" = _); decide +kernel
theorem q_none_int : isiD .none "int" = some false := by (show L2.kitB "NoneType" "int" = _); decide +kernel
theorem q_none_bool : isiD .none "bool" = some false := by (show L2.kitB "NoneType" "bool" = _); decide +kernel
theorem q_none_list : isiD .none "list" = some false := by (show L2.kitB "NoneType" "list" = _); decide +kernel
theorem q_none_dict : isiD .none "dict" = some false := by (show L2.kitB "NoneType" "dict" = _); decide +kernel
theorem q_bool_tuple {x} : isiD (.bool x) "tuple" = some false := by (show L2.kitB "bool" "tuple" = _); decide +kernel
theorem q_bool_str {x} : isiD (.bool x) "str" = some false := by (show L2.kitB "bool" "str" = _); decide +kernel
theorem q_bool_int {x} : isiD (.bool x) "int" = some true := by (show L2.kitB "bool" "int" = _); decide +kernel
theorem q_bool_bool {x} : isiD (.bool x) "bool" = some true := by (show L2.kitB "bool" "bool" = _); decide +kernel
theorem q_bool_list {x} : isiD (.bool x) "list" = some false := by (show L2.kitB "bool" "list" = _); decide +kernel
theorem q_bool_dict {x} : isiD (.bool x) "dict" = some false := by (show L2.kitB "bool" "dict" = _); decide +kernel
theorem q_int_tuple {x} : isiD (.int x) "tuple" = some false := by (show L2.kitB "int" "tuple" = _); decide +kernel
theorem q_int_str {x} : isiD (.int x) "str" = some false := by (show L2.kitB "int" "str" = _); decide +kernel
theorem q_int_int {x} : isiD (.int x) "int" = some true := by (show L2.kitB "int" "int" = _); decide +kernel
theorem q_int_bool {x} : isiD (.int x) "bool" = some false := by (show L2.kitB "int" "bool" = _); decide +kernel
theorem q_int_list {x} : isiD (.int x) "list" = some false := by (show L2.kitB "int" "list" = _); decide +kernel
theorem q_int_dict {x} : isiD (.int x) "dict" = some false := by (show L2.kitB "int" "dict" = _); decide +kernel
theorem q_str_tuple {x} : isiD (.str x) "tuple" = some false := by (show L2.kitB "str" "tuple" = _); decide +kernel
theorem q_str_str {x} : isiD (.str x) "str" = some true := by (show L2.kitB "str" "str" = _); decide +kernel
theorem q_str_int {x} : isiD (.str x) "int" = some false := by (show L2.kitB "str" "int" = _); decide +kernel
theorem q_str_bool {x} : isiD (.str x) "bool" = some false := by (show L2.kitB "str" "bool" = _); decide +kernel
theorem q_str_list {x} : isiD (.str x) "list" = some false := by (show L2.kitB "str" "list" = _); decide +kernel
theorem q_str_dict {x} : isiD (.str x) "dict" = some false := by (show L2.kitB "str" "dict" = _); decide +kernel
theorem q_list_tuple {x} : isiD (.list x) "tuple" = some false := by (show L2.kitB "list" "tuple" = _); decide +kernel
theorem q_list_str {x} : isiD (.list x) "str" = some false := by (show L2.kitB "list" "str" = _); decide +kernel
theorem q_list_int {x} : isiD (.list x) "int" = some false := by (show L2.kitB "list" "int" = _); decide +kernel
theorem q_list_bool {x} : isiD (.list x) "bool" = some false := by (show L2.kitB "list" "bool" = _); decide +kernel
theorem q_list_list {x} : isiD (.list x) "list" = some true := by (show L2.kitB "list" "list" = _); decide +kernel
theorem q_list_dict {x} : isiD (.list x) "dict" = some false := by (show L2.kitB "list" "dict" = _); decide +kernel
theorem q_tuple_tuple {x} : isiD (.tuple x) "tuple" = some true := by (show L2.kitB "tuple" "tuple" = _); decide +kernel
theorem q_tuple_str {x} : isiD (.tuple x) "str" = some false := by (show L2.kitB "tuple" "str" = _); decide +kernel
theorem q_tuple_int {x} : isiD (.tuple x) "int" = some false := by (show L2.kitB "tuple" "int" = _); decide +kernel
theorem q_tuple_bool {x} : isiD (.tuple x) "bool" = some false := by (show L2.kitB "tuple" "bool" = _); decide +kernel
theorem q_tuple_list {x} : isiD (.tuple x) "list" = some false := by (show L2.kitB "tuple" "list" = _); decide +kernel
theorem q_tuple_dict {x} : isiD (.tuple x) "dict" = some false := by (show L2.kitB "tuple" "dict" = _); decide +kernel
theorem q_dict_tuple {x} : isiD (.dict x) "tuple" = some false := by (show L2.kitB "dict" "tuple" = _); decide +kernel
theorem q_dict_str {x} : isiD (.dict x) "str" = some false := by (show L2.kitB "dict" "str" = _); decide +kernel
theorem q_dict_int {x} : isiD (.dict x) "int" = some false := by (show L2.kitB "dict" "int" = _); decide +kernel
theorem q_dict_bool {x} : isiD (.dict x) "bool" = some false := by (show L2.kitB "dict" "bool" = _); decide +kernel
theorem q_dict_list {x} : isiD (.dict x) "list" = some false := by (show L2.kitB "dict" "list" = _); decide +kernel
theorem q_dict_dict {x} : isiD (.dict x) "dict" = some true := by (show L2.kitB "dict" "dict" = _); decide +kernel
theorem len_t (xs : List PyData) : bltD .len [.tuple xs] = some (.int xs.length) := rfl
theorem len_l (xs : List PyData) : bltD .len [.list xs] = some (.int xs.length) := rfl
theorem len_d (xs : List (PyData × PyData)) : bltD .len [.dict xs] = some (.int xs.length) := rfl
theorem le_i (i j : Int) : cmpD .le (.int i) (.int j) = some (decide (i ≤ j)) := rfl
theorem lt_i (i j : Int) : cmpD .lt (.int i) (.int j) = some (decide (i < j)) := rfl
theorem ge_i (i j : Int) : cmpD .ge (.int i) (.int j) = some (decide (j ≤ i)) := rfl
theorem gt_i (i j : Int) : cmpD .gt (.int i) (.int j) = some (decide (j < i)) := rfl
theorem eq_i (i j : Int) : cmpD .eq (.int i) (.int j) = some (PyData.eqv (.int i) (.int j)) := rfl
theorem ne_i (i j : Int) : cmpD .ne (.int i) (.int j) = some (!PyData.eqv (.int i) (.int j)) := rfl
theorem eqv_i (i j : Int) : PyData.eqv (.int i) (.int j) = decide (i = j) := by first | rfl | (simp [PyData.eqv])
theorem blt_all (m : Bool) (d : PyData) {μ : Store} : bltW m .all [.dat d] μ = finO m (bltD .all [d]) μ := rfl
theorem ixD_n {α : Type} (xs : List α) (i : Nat) : ixD xs (i : Int) = xs[i]? := by
  unfold ixD L2.atI L2.ixN
  rw [if_pos (Int.natCast_nonneg i)]
  by_cases h : i < xs.length
  · rw [if_pos (by omega)]; rfl
  · rw [if_neg (by omega), List.getElem?_eq_none (by omega)]; rfl
theorem ix0_t (a : PyData) (r : List PyData) : idxD (.tuple (a :: r)) (.int 0) = some a := ixD_n (a :: r) 0
theorem ix1_t (a b : PyData) (r : List PyData) : idxD (.tuple (a :: b :: r)) (.int 1) = some b := ixD_n (a :: b :: r) 1
theorem ix2_t (a b c : PyData) (r : List PyData) : idxD (.tuple (a :: b :: c :: r)) (.int 2) = some c := ixD_n (a :: b :: c :: r) 2
section
variable {F : Specs} {ρ : Dv.Env} {μ : Store} {fu : Nat}
theorem mkL_f1 (ds : List PyData) : (mkL false ds μ).1 = .dat (.list ds) := rfl
theorem mkL_f2 (ds : List PyData) : (mkL false ds μ).2 = μ := rfl
theorem mkL_t1 (ds : List PyData) : (mkL true ds μ).1 = .ref μ.length := rfl
theorem mkL_t2 (ds : List PyData) : (mkL true ds μ).2 = μ ++ [.lst ds] := rfl
theorem c_no : evC F .no ρ μ = .ok true μ := rfl
theorem c_so (c : C) : evC F (.so c) ρ μ = evT F c ρ μ := rfl
theorem lcT_s (ρ1 : Dv.Env) (c : Dv.Env → Store → Out Bool) (v : Dv.Env → Store → Out W) : lcTurn (some ρ1) c v μ = (c ρ1 μ).bind fun k μ2 => if k = true then (v ρ1 μ2).bind fun w μ3 => .ok (some w) μ3 else .ok none μ2 := rfl
theorem asg_v (i : Nat) (w : W) : asg (.v i) w ρ = some (ρ.set i (some w)) := rfl
theorem asg_2 (a b : Tg) (x y : PyData) : asg (.t2 a b) (.dat (.tuple [x, y])) ρ = (asg a (.dat x) ρ).bind fun ρ1 => asg b (.dat y) ρ1 := rfl
theorem asg_3 (a b c : Tg) (x y z : PyData) : asg (.t3 a b c) (.dat (.tuple [x, y, z])) ρ = (asg a (.dat x) ρ).bind fun ρ1 => (asg b (.dat y) ρ1).bind fun ρ2 => asg c (.dat z) ρ2 := rfl
theorem wipe_0 : wipeE ρ [] = ρ := rfl
theorem wipe_s (v : Nat) (vs : List Nat) : wipeE ρ (v :: vs) = (wipeE ρ vs).set v none := rfl
theorem xs_nil : Dv.execs F fu [] ρ μ = .nx ρ μ := rfl
theorem xs_cons (s : S) (ss : List S) : Dv.execs F fu (s :: ss) ρ μ = (Dv.exec F fu s ρ μ).seq fun ρ μ => Dv.execs F fu ss ρ μ := rfl
theorem x_ite (c : C) (a b : List S) : Dv.exec F fu (.ite c a b) ρ μ = (evT F c ρ μ).fl ρ fun k μ1 => if k = true then Dv.execs F fu a ρ μ1 else Dv.execs F fu b ρ μ1 := rfl
theorem x_ret (e : E) : Dv.exec F fu (.ret e) ρ μ = (ev F e ρ μ).fl ρ fun w μ1 => .rt w μ1 := rfl
theorem x_asg (g : Tg) (e : E) : Dv.exec F fu (.asg g e) ρ μ = (ev F e ρ μ).fl ρ fun w μ1 => oFl (asg g w ρ) μ1 := rfl
theorem x_expr (e : E) : Dv.exec F fu (.expr e) ρ μ = (ev F e ρ μ).fl ρ fun w μ1 => .nx ρ μ1 := rfl
theorem x_pass : Dv.exec F fu .pass ρ μ = .nx ρ μ := rfl
theorem x_par (is : List Nat) (es : Es) : Dv.exec F fu (.par is es) ρ μ = (evs F es ρ μ).fl ρ fun ws μ1 => if ws.length = is.length then .nx (setsL ρ is ws) μ1 else .no := rfl
theorem seq_rt (w : W) (f : Dv.Env → Store → Fl) : (Fl.rt w μ).seq f = .rt w μ := rfl
theorem seq_nx (f : Dv.Env → Store → Fl) : (Fl.nx ρ μ).seq f = f ρ μ := rfl
theorem fl_ok {α : Type} (a : α) (f : α → Store → Fl) : (Out.ok a μ).fl ρ f = f a μ := rfl
theorem oFl_s (ρ1 : Dv.Env) : oFl (some ρ1) μ = .nx ρ1 μ := rfl
theorem setsL_0 : setsL ρ [] [] = ρ := rfl
theorem setsL_s (i : Nat) (is : List Nat) (w : W) (ws : List W) : setsL ρ (i :: is) (w :: ws) = setsL (ρ.set i (some w)) is ws := rfl
theorem out_rt {m : Bool} {n : Nat} (w : W) : outF m n (.rt w μ) = close m n w μ := rfl
theorem out_nx {m : Bool} {n : Nat} : outF m n (.nx ρ μ) = close m n (.dat .none) μ := rfl
theorem cut_1 (xs : List PyData) : slcD (.tuple xs) (some 1) none = some (.tuple (xs.drop 1)) := by
  show some (PyData.tuple (cutD xs (some 1) none)) = _
  congr 2
  unfold cutD
  have h : HT.sIx xs.length 0 (some 1) = min 1 xs.length := by simp [HT.sIx]
  have h2 : HT.sIx xs.length xs.length none = xs.length := rfl
  rw [h, h2]
  cases xs with
  | nil => rfl
  | cons a r => simp
end
local macro_rules | `(tactic| walk_at "dv") => `(tactic| simp only [mkL_f1, mkL_f2, mkL_t1, mkL_t2, c_no, c_so, lcT_s, asg_v, asg_2, asg_3, wipe_0, wipe_s, List.set_cons_zero, List.set_cons_succ, cut_1, xs_nil, xs_cons, x_ite, x_ret, x_asg, x_expr, x_pass, x_par, seq_rt, seq_nx, fl_ok, oFl_s, setsL_0, setsL_s, out_rt, out_nx, close_d, e_var, e_con, e_tup, e_lst, e_bin, e_neg, e_cmp, e_chn, e_not, e_and, e_or, e_ite, e_idx, e_slc, e_cal, e_cak, e_blt, e_mth, e_isi, t_not, t_and, t_or, t_val, s_nil, s_cons, o_no, o_so, i_seq, i_zip, datOf_d, seqD_l, seqD_t, seqD_s, truth_b, rd_d, rdw_d, lift_s, lift_n, nm_f, nm_t, fin_i, fin_b, fin_s, fin_t, fin_n, fin_l, fin_d, finO_s, finO_n, dats_d, dats_0, rds_d, rds_0, bltW_len, blt_all, len_t, len_l, len_d, le_i, lt_i, ge_i, gt_i, eq_i, ne_i, eqv_i, ix0_t, ix1_t, ix2_t, q_none_tuple, q_none_str, q_none_int, q_none_bool, q_none_list, q_none_dict, q_bool_tuple, q_bool_str, q_bool_int, q_bool_bool, q_bool_list, q_bool_dict, q_int_tuple, q_int_str, q_int_int, q_int_bool, q_int_list, q_int_dict, q_str_tuple, q_str_str, q_str_int, q_str_bool, q_str_list, q_str_dict, q_list_tuple, q_list_str, q_list_int, q_list_bool, q_list_list, q_list_dict, q_tuple_tuple, q_tuple_str, q_tuple_int, q_tuple_bool, q_tuple_list, q_tuple_dict, q_dict_tuple, q_dict_str, q_dict_int, q_dict_bool, q_dict_list, q_dict_dict, Option.map_some, Option.bind_some, Out.bind_ok, Out.bind_no, List.getElem?_cons_zero, List.getElem?_cons_succ, if_true, if_false, Bool.false_eq_true, Bool.true_eq_false, Bool.not_false, Bool.not_true])
local macro_rules | `(tactic| walk_at "dvd") => `(tactic| simp (decide := true) only [List.length_cons, List.length_nil, mkL_f1, mkL_f2, mkL_t1, mkL_t2, c_no, c_so, lcT_s, asg_v, asg_2, asg_3, wipe_0, wipe_s, List.set_cons_zero, List.set_cons_succ, cut_1, xs_nil, xs_cons, x_ite, x_ret, x_asg, x_expr, x_pass, x_par, seq_rt, seq_nx, fl_ok, oFl_s, setsL_0, setsL_s, out_rt, out_nx, close_d, e_var, e_con, e_tup, e_lst, e_bin, e_neg, e_cmp, e_chn, e_not, e_and, e_or, e_ite, e_idx, e_slc, e_cal, e_cak, e_blt, e_mth, e_isi, t_not, t_and, t_or, t_val, s_nil, s_cons, o_no, o_so, i_seq, i_zip, datOf_d, seqD_l, seqD_t, seqD_s, truth_b, rd_d, rdw_d, lift_s, lift_n, nm_f, nm_t, fin_i, fin_b, fin_s, fin_t, fin_n, fin_l, fin_d, finO_s, finO_n, dats_d, dats_0, rds_d, rds_0, bltW_len, blt_all, len_t, len_l, len_d, le_i, lt_i, ge_i, gt_i, eq_i, ne_i, eqv_i, ix0_t, ix1_t, ix2_t, q_none_tuple, q_none_str, q_none_int, q_none_bool, q_none_list, q_none_dict, q_bool_tuple, q_bool_str, q_bool_int, q_bool_bool, q_bool_list, q_bool_dict, q_int_tuple, q_int_str, q_int_int, q_int_bool, q_int_list, q_int_dict, q_str_tuple, q_str_str, q_str_int, q_str_bool, q_str_list, q_str_dict, q_list_tuple, q_list_str, q_list_int, q_list_bool, q_list_list, q_list_dict, q_tuple_tuple, q_tuple_str, q_tuple_int, q_tuple_bool, q_tuple_list, q_tuple_dict, q_dict_tuple, q_dict_str, q_dict_int, q_dict_bool, q_dict_list, q_dict_dict, Option.map_some, Option.bind_some, Out.bind_ok, Out.bind_no, List.getElem?_cons_zero, List.getElem?_cons_succ, if_true, if_false, Bool.false_eq_true, Bool.true_eq_false, Bool.not_false, Bool.not_true])
/-- the run of one return -/
theorem run_ret {F : Specs} {fu len : Nat} {e : E} {m : Bool} {ws : List W} {μ : Store} {d : PyData} (h : ev F e (startE len ws) μ = .ok (.dat d) μ) : runD F fu len [.ret e] m ws μ = .ok (.dat d) μ := by
  unfold runD
  simp only [execs, exec, h, Out.fl, Fl.seq, outF, close_d]
def isLetterD : PyData → Bool
  | .str z => decide (z.cps.getD 0 0 ∈ letters)
  | _ => false
theorem signs_all (x : Str) : (Dv.signs x).all isLetterD = x.cps.toList.all fun c => decide (c ∈ letters) := by
  unfold Dv.signs
  rw [List.all_map]
  rfl
theorem signs_len (x : Str) : (Dv.signs x).length = x.length := by
  unfold Dv.signs
  rw [List.length_map]
  rfl
theorem ev_letters {F : Specs} {x : Str} (i : Nat) (ρ : Env) (μ : Store) (h0 : ρ[0]? = some (some (.dat (.str x)))) (hi : i < ρ.length) (hx : x.length ≤ sizeLine) : ev F (.lc false (.cmp .isin (.var i) (.con (.str "abcdefghijklmnopqrstuvwxyz"))) (.v i) (.seq (.var 0)) .no [i]) ρ μ = .ok (.dat (.list ((Dv.signs x).map fun y => .bool (isLetterD y)))) μ := by
  refine ev_map _ (xs := Dv.signs x) ?_ (fun y hy μ2 => ?_) (by rw [signs_len]; exact hx)
  · simp only [evi, ev, h0, Out.bind_ok]; rfl
  · obtain ⟨c, hc, rfl⟩ := List.mem_map.mp hy
    have hg : (wipeE ρ [i]).set i (some (W.dat (.str ⟨#[c]⟩))) = ρ.set i (some (.dat (.str ⟨#[c]⟩))) := by simp [wipeE]
    simp only [lcTurn, asg, hg, evC, ev, List.getElem?_set_self hi, rd_d, Out.bind_ok]
    rfl
theorem len_s {x : Str} (hx : x.length ≤ sizeLine) : bltD .len [.str x] = some (.int x.length) := if_pos hx
theorem ite_b {b : Bool} {α : Type} {f g : α} : (if b = true then f else g) = bif b then f else g := by cases b <;> rfl
theorem le_isWord {F : Specs} {fu : Nat} : Le sIsWord (runD F fu 2 mIsWord false) := le_sp1 fun d e μ h => by
  split at h
  · rename_i ho
    cases h
    refine run_ret ?_
    have hs : startE 2 [W.dat d] = [some (.dat d), none] := rfl
    rw [hs]
    cases d with
    | str x =>
      have hx : x.length ≤ sizeLine := of_decide_eq_true ho
      have h1 := fun μ => ev_letters (F := F) (x := x) 1 [some (.dat (.str x)), none] μ rfl (Nat.lt_succ_self 1) hx
      walk_at "dv"
      simp only [len_s hx]
      walk_at "dv"
      simp only [h1]
      by_cases c1 : (1 : Int) ≤ x.length
      · by_cases c2 : (x.length : Int) ≤ 8
        · simp only [decide_eq_true c1, decide_eq_true c2]
          walk_at "dv"
          simp only [blt_all, blt_all_map]
          walk_at "dv"
          have q1 : 1 ≤ x.length := by omega
          have q2 : x.length ≤ 8 := by omega
          simp only [isWordD, decide_eq_true q1, decide_eq_true q2, Bool.true_and, signs_all]
        · simp only [decide_eq_true c1, decide_eq_false c2]
          walk_at "dv"
          have q2 : ¬ x.length ≤ 8 := by omega
          simp only [isWordD, decide_eq_false q2, Bool.false_and, Bool.and_false]
      · simp only [decide_eq_false c1]
        walk_at "dv"
        have q1 : ¬ 1 ≤ x.length := by omega
        simp only [isWordD, decide_eq_false q1, Bool.false_and]
    | _ => rfl
  · cases h
end Pl

/-! Pl2: webs recognized. -/
namespace Pl
open PySem hiding Env exec execs start
open Dv
local macro_rules | `(tactic| walk_at "dv") => `(tactic| simp only [mkL_f1, mkL_f2, mkL_t1, mkL_t2, c_no, c_so, lcT_s, asg_v, asg_2, asg_3, wipe_0, wipe_s, List.set_cons_zero, List.set_cons_succ, cut_1, xs_nil, xs_cons, x_ite, x_ret, x_asg, x_expr, x_pass, x_par, seq_rt, seq_nx, fl_ok, oFl_s, setsL_0, setsL_s, out_rt, out_nx, close_d, e_var, e_con, e_tup, e_lst, e_bin, e_neg, e_cmp, e_chn, e_not, e_and, e_or, e_ite, e_idx, e_slc, e_cal, e_cak, e_blt, e_mth, e_isi, t_not, t_and, t_or, t_val, s_nil, s_cons, o_no, o_so, i_seq, i_zip, datOf_d, seqD_l, seqD_t, seqD_s, truth_b, rd_d, rdw_d, lift_s, lift_n, nm_f, nm_t, fin_i, fin_b, fin_s, fin_t, fin_n, fin_l, fin_d, finO_s, finO_n, dats_d, dats_0, rds_d, rds_0, bltW_len, blt_all, len_t, len_l, len_d, le_i, lt_i, ge_i, gt_i, eq_i, ne_i, eqv_i, ix0_t, ix1_t, ix2_t, q_none_tuple, q_none_str, q_none_int, q_none_bool, q_none_list, q_none_dict, q_bool_tuple, q_bool_str, q_bool_int, q_bool_bool, q_bool_list, q_bool_dict, q_int_tuple, q_int_str, q_int_int, q_int_bool, q_int_list, q_int_dict, q_str_tuple, q_str_str, q_str_int, q_str_bool, q_str_list, q_str_dict, q_list_tuple, q_list_str, q_list_int, q_list_bool, q_list_list, q_list_dict, q_tuple_tuple, q_tuple_str, q_tuple_int, q_tuple_bool, q_tuple_list, q_tuple_dict, q_dict_tuple, q_dict_str, q_dict_int, q_dict_bool, q_dict_list, q_dict_dict, Option.map_some, Option.bind_some, Out.bind_ok, Out.bind_no, List.getElem?_cons_zero, List.getElem?_cons_succ, if_true, if_false, Bool.false_eq_true, Bool.true_eq_false, Bool.not_false, Bool.not_true])
local macro_rules | `(tactic| walk_at "dvd") => `(tactic| simp (decide := true) only [List.length_cons, List.length_nil, mkL_f1, mkL_f2, mkL_t1, mkL_t2, c_no, c_so, lcT_s, asg_v, asg_2, asg_3, wipe_0, wipe_s, List.set_cons_zero, List.set_cons_succ, cut_1, xs_nil, xs_cons, x_ite, x_ret, x_asg, x_expr, x_pass, x_par, seq_rt, seq_nx, fl_ok, oFl_s, setsL_0, setsL_s, out_rt, out_nx, close_d, e_var, e_con, e_tup, e_lst, e_bin, e_neg, e_cmp, e_chn, e_not, e_and, e_or, e_ite, e_idx, e_slc, e_cal, e_cak, e_blt, e_mth, e_isi, t_not, t_and, t_or, t_val, s_nil, s_cons, o_no, o_so, i_seq, i_zip, datOf_d, seqD_l, seqD_t, seqD_s, truth_b, rd_d, rdw_d, lift_s, lift_n, nm_f, nm_t, fin_i, fin_b, fin_s, fin_t, fin_n, fin_l, fin_d, finO_s, finO_n, dats_d, dats_0, rds_d, rds_0, bltW_len, blt_all, len_t, len_l, len_d, le_i, lt_i, ge_i, gt_i, eq_i, ne_i, eqv_i, ix0_t, ix1_t, ix2_t, q_none_tuple, q_none_str, q_none_int, q_none_bool, q_none_list, q_none_dict, q_bool_tuple, q_bool_str, q_bool_int, q_bool_bool, q_bool_list, q_bool_dict, q_int_tuple, q_int_str, q_int_int, q_int_bool, q_int_list, q_int_dict, q_str_tuple, q_str_str, q_str_int, q_str_bool, q_str_list, q_str_dict, q_list_tuple, q_list_str, q_list_int, q_list_bool, q_list_list, q_list_dict, q_tuple_tuple, q_tuple_str, q_tuple_int, q_tuple_bool, q_tuple_list, q_tuple_dict, q_dict_tuple, q_dict_str, q_dict_int, q_dict_bool, q_dict_list, q_dict_dict, Option.map_some, Option.bind_some, Out.bind_ok, Out.bind_no, List.getElem?_cons_zero, List.getElem?_cons_succ, if_true, if_false, Bool.false_eq_true, Bool.true_eq_false, Bool.not_false, Bool.not_true])
def isIntD : PyData → Bool
  | .int i => decide (-999999999 ≤ i) && decide (i ≤ 999999999)
  | _ => false
def sIsInteger := sp1 fun d => some (.bool (isIntD d))
def mIsInteger : List S := [.ret (.and (.isi (.var 0) ["int"]) (.and (.not (.isi (.var 0) ["bool"])) (.chn .le .le (.neg (.con (.int (999999999)))) (.var 0) (.con (.int (999999999))))))]
theorem st1 {n : Nat} {w : W} : startE (n + 1) [w] = some w :: List.replicate n none := rfl
theorem st2 {n : Nat} {w v : W} : startE (n + 2) [w, v] = some w :: some v :: List.replicate n none := rfl
theorem st3 {n : Nat} {w v u : W} : startE (n + 3) [w, v, u] = some w :: some v :: some u :: List.replicate n none := rfl
theorem le_isInteger {F : Specs} {fu : Nat} : Le sIsInteger (runD F fu 1 mIsInteger false) := le_sp1 fun d e μ h => by
  cases h
  refine run_ret ?_
  have hs : startE 1 [W.dat d] = [some (.dat d)] := rfl
  rw [hs]
  cases d with
  | int i =>
    walk_at "dv"
    by_cases c : -999999999 ≤ i
    · simp only [isIntD, decide_eq_true c, Bool.not_false, Bool.true_and]
      walk_at "dv"
    · simp only [isIntD, decide_eq_false c, Bool.not_false, Bool.false_and]
      walk_at "dv"
  | _ => walk_at "dv"; rfl
def isNumD : PyData → Int → Bool
  | .int i, n => isIntD (.int i) && (decide (0 ≤ i) && decide (i < n))
  | _, _ => false
def sIsNumber := sp2 fun d e => match e with
  | .int n => some (.bool (isNumD d n))
  | _ => none
def mIsNumber : List S := [.ret (.and (.cal false "is_integer" (.cons (.var 0) .nil)) (.chn .le .lt (.con (.int (0))) (.var 0) (.var 1)))]
theorem sp1_d {f : PyData → Option PyData} {d : PyData} {μ : Store} : sp1 f [.dat d] μ = lift ((f d).map .dat) μ := rfl
theorem sp2_d {f : PyData → PyData → Option PyData} {d e : PyData} {μ : Store} : sp2 f [.dat d, .dat e] μ = lift ((f d e).map .dat) μ := rfl
theorem le_isNumber {F : Specs} {fu : Nat} (h1 : F "is_integer" = sIsInteger) : Le sIsNumber (runD F fu 2 mIsNumber false) := le_sp2 fun d n e μ h => by
  split at h
  · rename_i n
    cases h
    refine run_ret ?_
    have hs : startE 2 [W.dat d, W.dat (.int n)] = [some (.dat d), some (.dat (.int n))] := rfl
    rw [hs]
    walk_at "dv"
    simp only [h1, sIsInteger, sp1_d]
    walk_at "dv"
    cases d with
    | int i =>
      walk_at "dv"
      cases hi : isIntD (.int i) with
      | false => simp only [isNumD, hi, Bool.false_and]; walk_at "dv"
      | true =>
        by_cases c : 0 ≤ i
        · simp only [isNumD, hi, decide_eq_true c, Bool.true_and]; walk_at "dv"
        · simp only [isNumD, hi, decide_eq_false c, Bool.true_and, Bool.false_and]; walk_at "dv"
    | _ => rfl
  · cases h
def isRefD : PyData → Int → Bool
  | .tuple [x], n => isNumD x n
  | _, _ => false
def sIsReference := sp2 fun d e => match e with
  | .int n => some (.bool (isRefD d n))
  | _ => none
def mIsReference : List S := [.ret (.and (.isi (.var 0) ["tuple"]) (.and (.cmp .eq (.blt false .len (.cons (.var 0) .nil)) (.con (.int (1)))) (.cal false "is_number" (.cons (.idx (.var 0) (.con (.int (0)))) (.cons (.var 1) .nil)))))]
theorem le_isReference {F : Specs} {fu : Nat} (h1 : F "is_number" = sIsNumber) : Le sIsReference (runD F fu 2 mIsReference false) := le_sp2 fun d n e μ h => by
  split at h
  · rename_i n
    cases h
    refine run_ret ?_
    have hs : startE 2 [W.dat d, W.dat (.int n)] = [some (.dat d), some (.dat (.int n))] := rfl
    rw [hs]
    cases d with
    | tuple xs =>
      match xs with
      | [] => walk_at "dv"; rfl
      | [x] => 
        walk_at "dv"
        simp only [h1, sIsNumber, sp2_d, List.length_cons, List.length_nil]
        rfl
      | x :: y :: r =>
        walk_at "dv"
        have c : ¬ (((x :: y :: r).length : Nat) : Int) = 1 := by simp only [List.length_cons]; omega
        simp only [decide_eq_false c]
        walk_at "dv"
        rfl
    | _ => walk_at "dv"; rfl
  · cases h
end Pl

/-! Pl3: tables. -/
namespace Pl
open PySem hiding Env exec execs start
open Dv
local macro_rules | `(tactic| walk_at "dv") => `(tactic| simp only [mkL_f1, mkL_f2, mkL_t1, mkL_t2, c_no, c_so, lcT_s, asg_v, asg_2, asg_3, wipe_0, wipe_s, List.set_cons_zero, List.set_cons_succ, cut_1, xs_nil, xs_cons, x_ite, x_ret, x_asg, x_expr, x_pass, x_par, seq_rt, seq_nx, fl_ok, oFl_s, setsL_0, setsL_s, out_rt, out_nx, close_d, e_var, e_con, e_tup, e_lst, e_bin, e_neg, e_cmp, e_chn, e_not, e_and, e_or, e_ite, e_idx, e_slc, e_cal, e_cak, e_blt, e_mth, e_isi, t_not, t_and, t_or, t_val, s_nil, s_cons, o_no, o_so, i_seq, i_zip, datOf_d, seqD_l, seqD_t, seqD_s, truth_b, rd_d, rdw_d, lift_s, lift_n, nm_f, nm_t, fin_i, fin_b, fin_s, fin_t, fin_n, fin_l, fin_d, finO_s, finO_n, dats_d, dats_0, rds_d, rds_0, bltW_len, blt_all, len_t, len_l, len_d, le_i, lt_i, ge_i, gt_i, eq_i, ne_i, eqv_i, ix0_t, ix1_t, ix2_t, q_none_tuple, q_none_str, q_none_int, q_none_bool, q_none_list, q_none_dict, q_bool_tuple, q_bool_str, q_bool_int, q_bool_bool, q_bool_list, q_bool_dict, q_int_tuple, q_int_str, q_int_int, q_int_bool, q_int_list, q_int_dict, q_str_tuple, q_str_str, q_str_int, q_str_bool, q_str_list, q_str_dict, q_list_tuple, q_list_str, q_list_int, q_list_bool, q_list_list, q_list_dict, q_tuple_tuple, q_tuple_str, q_tuple_int, q_tuple_bool, q_tuple_list, q_tuple_dict, q_dict_tuple, q_dict_str, q_dict_int, q_dict_bool, q_dict_list, q_dict_dict, Option.map_some, Option.bind_some, Out.bind_ok, Out.bind_no, List.getElem?_cons_zero, List.getElem?_cons_succ, if_true, if_false, Bool.false_eq_true, Bool.true_eq_false, Bool.not_false, Bool.not_true])
local macro_rules | `(tactic| walk_at "dvd") => `(tactic| simp (decide := true) only [List.length_cons, List.length_nil, mkL_f1, mkL_f2, mkL_t1, mkL_t2, c_no, c_so, lcT_s, asg_v, asg_2, asg_3, wipe_0, wipe_s, List.set_cons_zero, List.set_cons_succ, cut_1, xs_nil, xs_cons, x_ite, x_ret, x_asg, x_expr, x_pass, x_par, seq_rt, seq_nx, fl_ok, oFl_s, setsL_0, setsL_s, out_rt, out_nx, close_d, e_var, e_con, e_tup, e_lst, e_bin, e_neg, e_cmp, e_chn, e_not, e_and, e_or, e_ite, e_idx, e_slc, e_cal, e_cak, e_blt, e_mth, e_isi, t_not, t_and, t_or, t_val, s_nil, s_cons, o_no, o_so, i_seq, i_zip, datOf_d, seqD_l, seqD_t, seqD_s, truth_b, rd_d, rdw_d, lift_s, lift_n, nm_f, nm_t, fin_i, fin_b, fin_s, fin_t, fin_n, fin_l, fin_d, finO_s, finO_n, dats_d, dats_0, rds_d, rds_0, bltW_len, blt_all, len_t, len_l, len_d, le_i, lt_i, ge_i, gt_i, eq_i, ne_i, eqv_i, ix0_t, ix1_t, ix2_t, q_none_tuple, q_none_str, q_none_int, q_none_bool, q_none_list, q_none_dict, q_bool_tuple, q_bool_str, q_bool_int, q_bool_bool, q_bool_list, q_bool_dict, q_int_tuple, q_int_str, q_int_int, q_int_bool, q_int_list, q_int_dict, q_str_tuple, q_str_str, q_str_int, q_str_bool, q_str_list, q_str_dict, q_list_tuple, q_list_str, q_list_int, q_list_bool, q_list_list, q_list_dict, q_tuple_tuple, q_tuple_str, q_tuple_int, q_tuple_bool, q_tuple_list, q_tuple_dict, q_dict_tuple, q_dict_str, q_dict_int, q_dict_bool, q_dict_list, q_dict_dict, Option.map_some, Option.bind_some, Out.bind_ok, Out.bind_no, List.getElem?_cons_zero, List.getElem?_cons_succ, if_true, if_false, Bool.false_eq_true, Bool.true_eq_false, Bool.not_false, Bool.not_true])
def isRowD : PyData → Bool
  | .tuple [w, _] => isWordD w
  | _ => false
def rowOk : PyData → Bool
  | .tuple [w, _] => sOk w
  | _ => true
def keyS : PyData → Str
  | .tuple (.str x :: _) => x
  | _ => ⟨#[]⟩
def ascD (xs : List PyData) : Bool := (List.zipWith (fun a b => PyData.tuple [a, b]) xs (xs.drop 1)).all fun p => match p with
  | .tuple [a, b] => ltS (keyS a) (keyS b)
  | _ => false
def isTableD : PyData → Int → Bool
  | .tuple xs, n => decide ((xs.length : Int) ≤ n) && (xs.all isRowD && ascD xs)
  | _, _ => false
def tabOk : PyData → Bool
  | .tuple xs => xs.all rowOk && decide (xs.length ≤ sizeLine)
  | _ => true
def sIsTable := sp2 fun d e => match e with
  | .int n => if tabOk d = true then some (.bool (isTableD d n)) else none
  | _ => none
def cTableRow : E := .lc false (.and (.isi (.var 2) ["tuple"]) (.and (.cmp .eq (.blt false .len (.cons (.var 2) .nil)) (.con (.int (2)))) (.cal false "is_word" (.cons (.idx (.var 2) (.con (.int (0)))) .nil)))) (.v 2) (.seq (.var 0)) .no [2]
def cTableAsc : E := .lc false (.cmp .lt (.idx (.var 3) (.con (.int (0)))) (.idx (.var 4) (.con (.int (0))))) (.t2 (.v 3) (.v 4)) (.zip (.var 0) (.slc false (.var 0) (.so (.con (.int (1)))) .no)) .no [3, 4]
def mIsTable : List S := [.ite (.or (.not (.val (.isi (.var 0) ["tuple"]))) (.val (.cmp .gt (.blt false .len (.cons (.var 0) .nil)) (.var 1)))) [.ret (.con (.bool false))] [], .ite (.not (.val (.blt false .all (.cons cTableRow .nil)))) [.ret (.con (.bool false))] [], .ret (.blt false .all (.cons cTableAsc .nil))]
theorem row_form {p : PyData} (h : isRowD p = true) : ∃ x v, p = .tuple [.str x, v] ∧ isWordD (.str x) = true := by
  unfold isRowD at h
  split at h
  · rename_i w v
    cases w with
    | str x => exact ⟨x, v, rfl, h⟩
    | _ => cases h
  · cases h
theorem ev_tableRow {F : Specs} (h1 : F "is_word" = sIsWord) {xs : List PyData} {n : PyData} {μ : Store} (h : tabOk (.tuple xs) = true) : ev F cTableRow [some (.dat (.tuple xs)), some (.dat n), none, none, none] μ = .ok (.dat (.list (xs.map fun p => .bool (isRowD p)))) μ := by
  unfold tabOk at h
  simp only [Bool.and_eq_true, decide_eq_true_eq, List.all_eq_true] at h
  refine ev_map _ (by walk_at "dv") (fun p hp μ' => ?_) h.2
  have ho := h.1 p hp
  walk_at "dv"
  cases p with
  | tuple ys =>
    match ys, ho with
    | [], _ => walk_at "dv"; rfl
    | [a], _ => walk_at "dv"; rfl
    | [a, b], ho =>
      walk_at "dv"
      simp only [h1, sIsWord, sp1_d, List.length_cons, List.length_nil, if_pos (show sOk a = true from ho)]
      walk_at "dv"
      rfl
    | a :: b :: c :: r, _ =>
      walk_at "dv"
      have e : ¬ (((a :: b :: c :: r).length : Nat) : Int) = 2 := by simp only [List.length_cons]; omega
      simp only [decide_eq_false e]
      walk_at "dv"
      rfl
  | _ => walk_at "dv"; rfl
theorem zip_mem {xs ys : List PyData} {p : PyData} (h : p ∈ List.zipWith (fun a b => PyData.tuple [a, b]) xs ys) : ∃ a b, a ∈ xs ∧ b ∈ ys ∧ p = .tuple [a, b] := by
  induction xs generalizing ys with
  | nil => simp at h
  | cons x xs ih =>
    cases ys with
    | nil => simp at h
    | cons y ys =>
      rw [List.zipWith_cons_cons, List.mem_cons] at h
      rcases h with h | h
      · exact ⟨x, y, List.mem_cons_self, List.mem_cons_self, h⟩
      · obtain ⟨a, b, ha, hb, e⟩ := ih h
        exact ⟨a, b, List.mem_cons_of_mem _ ha, List.mem_cons_of_mem _ hb, e⟩
theorem lt_s (x y : Str) : cmpD .lt (.str x) (.str y) = some (ltS x y) := rfl
theorem ev_tableAsc {F : Specs} {xs : List PyData} {n : PyData} {μ : Store} (hl : xs.length ≤ sizeLine) (hr : xs.all isRowD = true) : ev F cTableAsc [some (.dat (.tuple xs)), some (.dat n), none, none, none] μ = .ok (.dat (.list ((List.zipWith (fun a b => PyData.tuple [a, b]) xs (xs.drop 1)).map fun p => .bool (match p with
  | .tuple [a, b] => ltS (keyS a) (keyS b)
  | _ => false)))) μ := by
  refine ev_map _ (by walk_at "dv") (fun p hp μ' => ?_) (by rw [List.length_zipWith]; omega)
  obtain ⟨a, b, ha, hb, rfl⟩ := zip_mem hp
  have hr := List.all_eq_true.mp hr
  obtain ⟨x, v, rfl, _⟩ := row_form (hr a ha)
  obtain ⟨y, u, rfl, _⟩ := row_form (hr b (List.mem_of_mem_drop hb))
  walk_at "dv"
  simp only [lt_s]
  walk_at "dv"
  rfl
theorem le_isTable {F : Specs} {fu : Nat} (h1 : F "is_word" = sIsWord) : Le sIsTable (runD F fu 5 mIsTable false) := le_sp2 fun d n e μ h => by
  split at h
  · rename_i n
    split at h
    · rename_i ho
      cases h
      unfold runD mIsTable
      have hs : startE 5 [W.dat d, W.dat (.int n)] = [some (.dat d), some (.dat (.int n)), none, none, none] := rfl
      rw [hs]
      cases d with
      | tuple xs =>
        have hc := fun μ => ev_tableRow (F := F) h1 (n := .int n) (μ := μ) ho
        have hl : xs.length ≤ sizeLine := by
          unfold tabOk at ho
          simp only [Bool.and_eq_true, decide_eq_true_eq] at ho
          exact ho.2
        walk_at "dv"
        by_cases c : (xs.length : Int) ≤ n
        · have c' : ¬ n < (xs.length : Int) := by omega
          simp only [decide_eq_false c', Bool.not_true, isTableD, decide_eq_true c, hc]
          walk_at "dv"
          simp only [hc]
          walk_at "dv"
          simp only [blt_all_map]
          walk_at "dv"
          cases hr : xs.all isRowD with
          | false => simp only [Bool.not_false]; walk_at "dv"; simp only [Bool.false_and, Bool.true_and]
          | true =>
            simp only [Bool.not_true]
            walk_at "dv"
            simp only [ev_tableAsc hl hr]
            walk_at "dv"
            simp only [blt_all_map]
            walk_at "dv"
            rfl
        · have c' : n < (xs.length : Int) := by omega
          simp only [decide_eq_true c', Bool.not_true, isTableD, decide_eq_false c]
          walk_at "dv"
          rfl
      | _ => walk_at "dv"; rfl
    · cases h
  · cases h
end Pl

/-! Pl4: objects, webs, paths. -/
namespace Pl
open PySem hiding Env exec execs start
open Dv
local macro_rules | `(tactic| walk_at "dv") => `(tactic| simp only [mkL_f1, mkL_f2, mkL_t1, mkL_t2, c_no, c_so, lcT_s, asg_v, asg_2, asg_3, wipe_0, wipe_s, List.set_cons_zero, List.set_cons_succ, cut_1, xs_nil, xs_cons, x_ite, x_ret, x_asg, x_expr, x_pass, x_par, seq_rt, seq_nx, fl_ok, oFl_s, setsL_0, setsL_s, out_rt, out_nx, close_d, e_var, e_con, e_tup, e_lst, e_bin, e_neg, e_cmp, e_chn, e_not, e_and, e_or, e_ite, e_idx, e_slc, e_cal, e_cak, e_blt, e_mth, e_isi, t_not, t_and, t_or, t_val, s_nil, s_cons, o_no, o_so, i_seq, i_zip, datOf_d, seqD_l, seqD_t, seqD_s, truth_b, rd_d, rdw_d, lift_s, lift_n, nm_f, nm_t, fin_i, fin_b, fin_s, fin_t, fin_n, fin_l, fin_d, finO_s, finO_n, dats_d, dats_0, rds_d, rds_0, bltW_len, blt_all, len_t, len_l, len_d, le_i, lt_i, ge_i, gt_i, eq_i, ne_i, eqv_i, ix0_t, ix1_t, ix2_t, q_none_tuple, q_none_str, q_none_int, q_none_bool, q_none_list, q_none_dict, q_bool_tuple, q_bool_str, q_bool_int, q_bool_bool, q_bool_list, q_bool_dict, q_int_tuple, q_int_str, q_int_int, q_int_bool, q_int_list, q_int_dict, q_str_tuple, q_str_str, q_str_int, q_str_bool, q_str_list, q_str_dict, q_list_tuple, q_list_str, q_list_int, q_list_bool, q_list_list, q_list_dict, q_tuple_tuple, q_tuple_str, q_tuple_int, q_tuple_bool, q_tuple_list, q_tuple_dict, q_dict_tuple, q_dict_str, q_dict_int, q_dict_bool, q_dict_list, q_dict_dict, Option.map_some, Option.bind_some, Out.bind_ok, Out.bind_no, List.getElem?_cons_zero, List.getElem?_cons_succ, if_true, if_false, Bool.false_eq_true, Bool.true_eq_false, Bool.not_false, Bool.not_true])
local macro_rules | `(tactic| walk_at "dvd") => `(tactic| simp (decide := true) only [List.length_cons, List.length_nil, mkL_f1, mkL_f2, mkL_t1, mkL_t2, c_no, c_so, lcT_s, asg_v, asg_2, asg_3, wipe_0, wipe_s, List.set_cons_zero, List.set_cons_succ, cut_1, xs_nil, xs_cons, x_ite, x_ret, x_asg, x_expr, x_pass, x_par, seq_rt, seq_nx, fl_ok, oFl_s, setsL_0, setsL_s, out_rt, out_nx, close_d, e_var, e_con, e_tup, e_lst, e_bin, e_neg, e_cmp, e_chn, e_not, e_and, e_or, e_ite, e_idx, e_slc, e_cal, e_cak, e_blt, e_mth, e_isi, t_not, t_and, t_or, t_val, s_nil, s_cons, o_no, o_so, i_seq, i_zip, datOf_d, seqD_l, seqD_t, seqD_s, truth_b, rd_d, rdw_d, lift_s, lift_n, nm_f, nm_t, fin_i, fin_b, fin_s, fin_t, fin_n, fin_l, fin_d, finO_s, finO_n, dats_d, dats_0, rds_d, rds_0, bltW_len, blt_all, len_t, len_l, len_d, le_i, lt_i, ge_i, gt_i, eq_i, ne_i, eqv_i, ix0_t, ix1_t, ix2_t, q_none_tuple, q_none_str, q_none_int, q_none_bool, q_none_list, q_none_dict, q_bool_tuple, q_bool_str, q_bool_int, q_bool_bool, q_bool_list, q_bool_dict, q_int_tuple, q_int_str, q_int_int, q_int_bool, q_int_list, q_int_dict, q_str_tuple, q_str_str, q_str_int, q_str_bool, q_str_list, q_str_dict, q_list_tuple, q_list_str, q_list_int, q_list_bool, q_list_list, q_list_dict, q_tuple_tuple, q_tuple_str, q_tuple_int, q_tuple_bool, q_tuple_list, q_tuple_dict, q_dict_tuple, q_dict_str, q_dict_int, q_dict_bool, q_dict_list, q_dict_dict, Option.map_some, Option.bind_some, Out.bind_ok, Out.bind_no, List.getElem?_cons_zero, List.getElem?_cons_succ, if_true, if_false, Bool.false_eq_true, Bool.true_eq_false, Bool.not_false, Bool.not_true])
def sOpen : Str := Str.ofString "open"
def sFrozen : Str := Str.ofString "frozen"
def isValD (n : Int) : PyData → Bool
  | .tuple [_, v] => isIntD v || isRefD v n
  | _ => false
def rowsD : PyData → List PyData
  | .tuple xs => xs
  | _ => []
def isObjD : PyData → Int → Bool
  | .tuple [.str k, t], n => (decide (k = sOpen) || decide (k = sFrozen)) && (isTableD t 4 && (rowsD t).all (isValD n))
  | _, _ => false
def objOk : PyData → Bool
  | .tuple [.str _, t] => tabOk t
  | _ => true
def sIsObject := sp2 fun d e => match e with
  | .int n => if objOk d = true then some (.bool (isObjD d n)) else none
  | _ => none
def cObjVals : E := .lc false (.or (.cal false "is_integer" (.cons (.var 3) .nil)) (.cal false "is_reference" (.cons (.var 3) (.cons (.var 1) .nil)))) (.t2 (.v 2) (.v 3)) (.seq (.idx (.var 0) (.con (.int (1))))) .no [2, 3]
def mIsObject : List S := [.ite (.or (.not (.val (.isi (.var 0) ["tuple"]))) (.or (.val (.cmp .ne (.blt false .len (.cons (.var 0) .nil)) (.con (.int (2))))) (.not (.val (.isi (.idx (.var 0) (.con (.int (0)))) ["str"]))))) [.ret (.con (.bool false))] [], .ite (.or (.val (.cmp .nin (.idx (.var 0) (.con (.int (0)))) (.tup (.cons (.con (.str "open")) (.cons (.con (.str "frozen")) .nil))))) (.not (.val (.cal false "is_table" (.cons (.idx (.var 0) (.con (.int (1)))) (.cons (.con (.int (4))) .nil)))))) [.ret (.con (.bool false))] [], .ret (.blt false .all (.cons cObjVals .nil))]
theorem eqv_s (x y : Str) : PyData.eqv (.str x) (.str y) = decide (x = y) := by first | rfl | (simp [PyData.eqv])
theorem nin_of (k : Str) : cmpD .nin (.str k) (.tuple [.str (Str.ofString "open"), .str (Str.ofString "frozen")]) = some (!(decide (k = sOpen) || decide (k = sFrozen))) := by
  show (isinD (.str k) (.tuple [.str (Str.ofString "open"), .str (Str.ofString "frozen")])).map (!·) = _
  have : isinD (.str k) (.tuple [.str (Str.ofString "open"), .str (Str.ofString "frozen")]) = some ([PyData.str (Str.ofString "open"), .str (Str.ofString "frozen")].any fun e => PyData.eqv e (.str k)) := by
    unfold isinD
    simp [flatD]
  rw [this]
  simp only [List.any_cons, List.any_nil, Bool.or_false, eqv_s, Option.map_some]
  have e1 : decide (Str.ofString "open" = k) = decide (k = sOpen) := decide_eq_decide.mpr ⟨fun h => h.symm, fun h => h.symm⟩
  have e2 : decide (Str.ofString "frozen" = k) = decide (k = sFrozen) := decide_eq_decide.mpr ⟨fun h => h.symm, fun h => h.symm⟩
  rw [e1, e2]
theorem table_form {t : PyData} {n : Int} (h : isTableD t n = true) : ∃ xs, t = .tuple xs ∧ (xs.length : Int) ≤ n ∧ xs.all isRowD = true ∧ ascD xs = true := by
  unfold isTableD at h
  split at h
  · rename_i xs
    simp only [Bool.and_eq_true, decide_eq_true_eq] at h
    exact ⟨xs, rfl, h.1, h.2.1, h.2.2⟩
  · cases h
theorem sz2 : ((2 : Nat) : Int) = 2 := rfl
theorem two_le : (2 : Nat) ≤ sizeLine := by decide
theorem line30 : 1000 ≤ sizeLine := by decide
theorem or_b {α : Type} {b c : Bool} {f g : α} : (if (b || c) = true then f else g) = if b = true then f else if c = true then f else g := by cases b <;> cases c <;> rfl
theorem le_isObject {F : Specs} {fu : Nat} (h1 : F "is_table" = sIsTable) (h2 : F "is_integer" = sIsInteger) (h3 : F "is_reference" = sIsReference) : Le sIsObject (runD F fu 4 mIsObject false) := le_sp2 fun d n e μ h => by
  split at h
  · rename_i n
    split at h
    · rename_i ho
      cases h
      unfold runD mIsObject
      have hs : startE 4 [W.dat d, W.dat (.int n)] = [some (.dat d), some (.dat (.int n)), none, none] := rfl
      rw [hs]
      have no : ∀ xs : List PyData, xs.length ≠ 2 → ¬ ((xs.length : Nat) : Int) = 2 := fun xs h => by omega
      cases d with
      | tuple xs =>
        match xs, ho with
        | [], _ => walk_at "dvd"; rfl
        | [a], _ => walk_at "dvd"; simp [isObjD]
        | a :: b :: c :: r, _ =>
          walk_at "dv"
          simp only [decide_eq_false (no (a :: b :: c :: r) (by simp))]
          walk_at "dv"
          simp [isObjD]
        | [a, t], ho =>
          cases a with
          | str k =>
            walk_at "dvd"
            simp only [nin_of, isObjD]
            cases hk : (decide (k = sOpen) || decide (k = sFrozen)) with
            | false => walk_at "dv"; rfl
            | true =>
              walk_at "dv"
              simp only [h1, sIsTable, sp2_d, if_pos (show tabOk t = true from ho)]
              walk_at "dv"
              cases ht : isTableD t 4 with
              | false => walk_at "dv"; rfl
              | true =>
                obtain ⟨ys, rfl, hl, hr, _⟩ := table_form ht
                have hm : ∀ μ, ev F cObjVals [some (.dat (.tuple [.str k, .tuple ys])), some (.dat (.int n)), none, none] μ = .ok (.dat (.list (ys.map fun p => .bool (isValD n p)))) μ := fun μ => by
                  refine ev_map _ (by walk_at "dv") (fun p hp μ' => ?_) (by have := line30; omega)
                  obtain ⟨x, v, rfl, _⟩ := row_form (List.all_eq_true.mp hr p hp)
                  walk_at "dv"
                  simp only [h2, h3, sIsInteger, sIsReference, sp1_d, sp2_d]
                  walk_at "dv"
                  cases hv : isIntD v with
                  | true => walk_at "dv"; simp only [isValD, hv, Bool.true_or]
                  | false => walk_at "dv"; simp only [isValD, hv, Bool.false_or]
                walk_at "dv"
                simp only [hm]
                walk_at "dv"
                simp only [blt_all_map]
                walk_at "dv"
                rfl
          | _ => walk_at "dvd"; rfl
      | _ => walk_at "dvd"; rfl
    · cases h
  · cases h
def isNumRow (n : Int) : PyData → Bool
  | .tuple [_, v] => isNumD v n
  | _ => false
def isWebD : PyData → Bool
  | .tuple [.tuple os, t] => (decide (1 ≤ os.length) && (decide (os.length ≤ 30) && os.all fun o => isObjD o os.length)) && (isTableD t 6 && (decide (0 < (rowsD t).length) && (rowsD t).all (isNumRow os.length)))
  | _ => false
def webOk : PyData → Bool
  | .tuple [.tuple os, t] => os.all objOk && tabOk t
  | _ => true
def sIsWeb := sp1 fun d => if webOk d = true then some (.bool (isWebD d)) else none
def cWebObjs : E := .lc false (.cal false "is_object" (.cons (.var 2) (.cons (.var 1) .nil))) (.v 2) (.seq (.idx (.var 0) (.con (.int (0))))) .no [2]
def cWebNums : E := .lc false (.cal false "is_number" (.cons (.var 4) (.cons (.var 1) .nil))) (.t2 (.v 3) (.v 4)) (.seq (.idx (.var 0) (.con (.int (1))))) .no [3, 4]
def mIsWeb : List S := [.ite (.or (.not (.val (.isi (.var 0) ["tuple"]))) (.or (.val (.cmp .ne (.blt false .len (.cons (.var 0) .nil)) (.con (.int (2))))) (.not (.val (.isi (.idx (.var 0) (.con (.int (0)))) ["tuple"]))))) [.ret (.con (.bool false))] [], .asg (.v 1) (.blt false .len (.cons (.idx (.var 0) (.con (.int (0)))) .nil)), .ite (.or (.not (.val (.chn .le .le (.con (.int (1))) (.var 1) (.con (.int (30)))))) (.not (.val (.blt false .all (.cons cWebObjs .nil))))) [.ret (.con (.bool false))] [], .ret (.and (.cal false "is_table" (.cons (.idx (.var 0) (.con (.int (1)))) (.cons (.con (.int (6))) .nil))) (.and (.cmp .gt (.blt false .len (.cons (.idx (.var 0) (.con (.int (1)))) .nil)) (.con (.int (0)))) (.blt false .all (.cons cWebNums .nil))))]
theorem le_isWeb {F : Specs} {fu : Nat} (h1 : F "is_table" = sIsTable) (h2 : F "is_object" = sIsObject) (h3 : F "is_number" = sIsNumber) : Le sIsWeb (runD F fu 5 mIsWeb false) := le_sp1 fun d e μ h => by
  split at h
  · rename_i ho
    cases h
    unfold runD mIsWeb
    have hs : startE 5 [W.dat d] = [some (.dat d), none, none, none, none] := rfl
    rw [hs]
    have no : ∀ xs : List PyData, xs.length ≠ 2 → ¬ ((xs.length : Nat) : Int) = 2 := fun xs h => by omega
    cases d with
    | tuple xs =>
      match xs, ho with
      | [], _ => walk_at "dvd"; rfl
      | [a], _ => walk_at "dvd"; simp [isWebD]
      | a :: b :: c :: r, _ =>
        walk_at "dv"
        simp only [decide_eq_false (no (a :: b :: c :: r) (by simp))]
        walk_at "dv"
        simp [isWebD]
      | [a, t], ho =>
        cases a with
        | tuple os =>
          have ho' : os.all objOk = true ∧ tabOk t = true := by
            unfold webOk at ho
            simpa using ho
          walk_at "dvd"
          simp only [isWebD]
          by_cases c1 : 1 ≤ os.length
          · by_cases c2 : os.length ≤ 30
            · have d1 : (1 : Int) ≤ (os.length : Nat) := by omega
              have d2 : ((os.length : Nat) : Int) ≤ 30 := by omega
              have hm : ∀ μ, ev F cWebObjs [some (.dat (.tuple [.tuple os, t])), some (.dat (.int (os.length : Nat))), none, none, none] μ = .ok (.dat (.list (os.map fun o => .bool (isObjD o (os.length : Nat))))) μ := fun μ => by
                refine ev_map _ (by walk_at "dv") (fun o hp μ' => ?_) (by have := line30; omega)
                walk_at "dv"
                simp only [h2, sIsObject, sp2_d, if_pos (List.all_eq_true.mp ho'.1 o hp)]
                walk_at "dv"
              simp only [decide_eq_true c1, decide_eq_true c2, decide_eq_true d1, decide_eq_true d2]
              walk_at "dv"
              simp only [hm]
              walk_at "dv"
              simp only [blt_all_map]
              walk_at "dv"
              cases hc : (os.all fun o => isObjD o (os.length : Nat)) with
              | false => walk_at "dv"; rfl
              | true =>
                walk_at "dv"
                simp only [h1, sIsTable, sp2_d, if_pos ho'.2]
                walk_at "dv"
                cases ht : isTableD t 6 with
                | false => walk_at "dv"; rfl
                | true =>
                  obtain ⟨ys, rfl, hl, hr, _⟩ := table_form ht
                  have hm2 : ∀ μ, ev F cWebNums [some (.dat (.tuple [.tuple os, .tuple ys])), some (.dat (.int (os.length : Nat))), none, none, none] μ = .ok (.dat (.list (ys.map fun o => .bool (isNumRow (os.length : Nat) o)))) μ := fun μ => by
                    refine ev_map _ (by walk_at "dv") (fun p hp μ' => ?_) (by have := line30; omega)
                    obtain ⟨x, v, rfl, _⟩ := row_form (List.all_eq_true.mp hr p hp)
                    walk_at "dv"
                    simp only [h3, sIsNumber, sp2_d]
                    walk_at "dv"
                    rfl
                  walk_at "dv"
                  simp only [rowsD]
                  by_cases c3 : 0 < ys.length
                  · have d3 : (0 : Int) < (ys.length : Nat) := by omega
                    simp only [decide_eq_true c3, decide_eq_true d3]
                    walk_at "dv"
                    simp only [hm2]
                    walk_at "dv"
                    simp only [blt_all_map]
                    walk_at "dv"
                    simp [c3]
                  · have d3 : ¬ (0 : Int) < (ys.length : Nat) := by omega
                    simp only [decide_eq_false c3, decide_eq_false d3]
                    walk_at "dv"
                    simp [c3]
            · have d1 : (1 : Int) ≤ (os.length : Nat) := by omega
              have d2 : ¬ ((os.length : Nat) : Int) ≤ 30 := by omega
              simp only [decide_eq_true c1, decide_eq_false c2, decide_eq_true d1, decide_eq_false d2]
              walk_at "dv"
              rfl
          · have d1 : ¬ (1 : Int) ≤ (os.length : Nat) := by omega
            simp only [decide_eq_false c1, decide_eq_false d1]
            walk_at "dv"
            rfl
        | _ => walk_at "dvd"; rfl
    | _ => walk_at "dvd"; rfl
  · cases h
def isPathD : PyData → Bool
  | .tuple xs => decide (1 ≤ xs.length) && (decide (xs.length ≤ 64) && xs.all isWordD)
  | _ => false
def pathOk : PyData → Bool
  | .tuple xs => xs.all sOk
  | _ => true
def sIsPath := sp1 fun d => if pathOk d = true then some (.bool (isPathD d)) else none
def cPath : E := .lc false (.cal false "is_word" (.cons (.var 1) .nil)) (.v 1) (.seq (.var 0)) .no [1]
def mIsPath : List S := [.ret (.and (.isi (.var 0) ["tuple"]) (.and (.chn .le .le (.con (.int (1))) (.blt false .len (.cons (.var 0) .nil)) (.con (.int (64)))) (.blt false .all (.cons cPath .nil))))]
theorem le_isPath {F : Specs} {fu : Nat} (h1 : F "is_word" = sIsWord) : Le sIsPath (runD F fu 2 mIsPath false) := le_sp1 fun d e μ h => by
  split at h
  · rename_i ho
    cases h
    refine run_ret ?_
    have hs : startE 2 [W.dat d] = [some (.dat d), none] := rfl
    rw [hs]
    cases d with
    | tuple xs =>
      have ho' : xs.all sOk = true := ho
      walk_at "dv"
      simp only [isPathD]
      by_cases c1 : 1 ≤ xs.length
      · by_cases c2 : xs.length ≤ 64
        · have d1 : (1 : Int) ≤ (xs.length : Nat) := by omega
          have d2 : ((xs.length : Nat) : Int) ≤ 64 := by omega
          have hm : ∀ μ, ev F cPath [some (.dat (.tuple xs)), none] μ = .ok (.dat (.list (xs.map fun o => .bool (isWordD o)))) μ := fun μ => by
            refine ev_map _ (by walk_at "dv") (fun o hp μ' => ?_) (by have := line30; omega)
            walk_at "dv"
            simp only [h1, sIsWord, sp1_d, if_pos (List.all_eq_true.mp ho' o hp)]
            walk_at "dv"
          simp only [decide_eq_true c1, decide_eq_true c2, decide_eq_true d1, decide_eq_true d2]
          walk_at "dv"
          simp only [hm]
          walk_at "dv"
          simp only [blt_all_map]
          walk_at "dv"
          rfl
        · have d1 : (1 : Int) ≤ (xs.length : Nat) := by omega
          have d2 : ¬ ((xs.length : Nat) : Int) ≤ 64 := by omega
          simp only [decide_eq_true c1, decide_eq_false c2, decide_eq_true d1, decide_eq_false d2]
          walk_at "dv"
          rfl
      · have d1 : ¬ (1 : Int) ≤ (xs.length : Nat) := by omega
        simp only [decide_eq_false c1, decide_eq_false d1]
        walk_at "dv"
        rfl
    | _ => walk_at "dv"; rfl
  · cases h
end Pl

/-! Pl5: dicts of pairs; webs in parts; the value at a path. -/
namespace Pl
open PySem hiding Env exec execs start
open Dv
local macro_rules | `(tactic| walk_at "dv") => `(tactic| simp only [mkL_f1, mkL_f2, mkL_t1, mkL_t2, c_no, c_so, lcT_s, asg_v, asg_2, asg_3, wipe_0, wipe_s, List.set_cons_zero, List.set_cons_succ, cut_1, xs_nil, xs_cons, x_ite, x_ret, x_asg, x_expr, x_pass, x_par, seq_rt, seq_nx, fl_ok, oFl_s, setsL_0, setsL_s, out_rt, out_nx, close_d, e_var, e_con, e_tup, e_lst, e_bin, e_neg, e_cmp, e_chn, e_not, e_and, e_or, e_ite, e_idx, e_slc, e_cal, e_cak, e_blt, e_mth, e_isi, t_not, t_and, t_or, t_val, s_nil, s_cons, o_no, o_so, i_seq, i_zip, datOf_d, seqD_l, seqD_t, seqD_s, truth_b, rd_d, rdw_d, lift_s, lift_n, nm_f, nm_t, fin_i, fin_b, fin_s, fin_t, fin_n, fin_l, fin_d, finO_s, finO_n, dats_d, dats_0, rds_d, rds_0, bltW_len, blt_all, len_t, len_l, len_d, le_i, lt_i, ge_i, gt_i, eq_i, ne_i, eqv_i, ix0_t, ix1_t, ix2_t, q_none_tuple, q_none_str, q_none_int, q_none_bool, q_none_list, q_none_dict, q_bool_tuple, q_bool_str, q_bool_int, q_bool_bool, q_bool_list, q_bool_dict, q_int_tuple, q_int_str, q_int_int, q_int_bool, q_int_list, q_int_dict, q_str_tuple, q_str_str, q_str_int, q_str_bool, q_str_list, q_str_dict, q_list_tuple, q_list_str, q_list_int, q_list_bool, q_list_list, q_list_dict, q_tuple_tuple, q_tuple_str, q_tuple_int, q_tuple_bool, q_tuple_list, q_tuple_dict, q_dict_tuple, q_dict_str, q_dict_int, q_dict_bool, q_dict_list, q_dict_dict, Option.map_some, Option.bind_some, Out.bind_ok, Out.bind_no, List.getElem?_cons_zero, List.getElem?_cons_succ, if_true, if_false, Bool.false_eq_true, Bool.true_eq_false, Bool.not_false, Bool.not_true])
local macro_rules | `(tactic| walk_at "dvd") => `(tactic| simp (decide := true) only [List.length_cons, List.length_nil, mkL_f1, mkL_f2, mkL_t1, mkL_t2, c_no, c_so, lcT_s, asg_v, asg_2, asg_3, wipe_0, wipe_s, List.set_cons_zero, List.set_cons_succ, cut_1, xs_nil, xs_cons, x_ite, x_ret, x_asg, x_expr, x_pass, x_par, seq_rt, seq_nx, fl_ok, oFl_s, setsL_0, setsL_s, out_rt, out_nx, close_d, e_var, e_con, e_tup, e_lst, e_bin, e_neg, e_cmp, e_chn, e_not, e_and, e_or, e_ite, e_idx, e_slc, e_cal, e_cak, e_blt, e_mth, e_isi, t_not, t_and, t_or, t_val, s_nil, s_cons, o_no, o_so, i_seq, i_zip, datOf_d, seqD_l, seqD_t, seqD_s, truth_b, rd_d, rdw_d, lift_s, lift_n, nm_f, nm_t, fin_i, fin_b, fin_s, fin_t, fin_n, fin_l, fin_d, finO_s, finO_n, dats_d, dats_0, rds_d, rds_0, bltW_len, blt_all, len_t, len_l, len_d, le_i, lt_i, ge_i, gt_i, eq_i, ne_i, eqv_i, ix0_t, ix1_t, ix2_t, q_none_tuple, q_none_str, q_none_int, q_none_bool, q_none_list, q_none_dict, q_bool_tuple, q_bool_str, q_bool_int, q_bool_bool, q_bool_list, q_bool_dict, q_int_tuple, q_int_str, q_int_int, q_int_bool, q_int_list, q_int_dict, q_str_tuple, q_str_str, q_str_int, q_str_bool, q_str_list, q_str_dict, q_list_tuple, q_list_str, q_list_int, q_list_bool, q_list_list, q_list_dict, q_tuple_tuple, q_tuple_str, q_tuple_int, q_tuple_bool, q_tuple_list, q_tuple_dict, q_dict_tuple, q_dict_str, q_dict_int, q_dict_bool, q_dict_list, q_dict_dict, Option.map_some, Option.bind_some, Out.bind_ok, Out.bind_no, List.getElem?_cons_zero, List.getElem?_cons_succ, if_true, if_false, Bool.false_eq_true, Bool.true_eq_false, Bool.not_false, Bool.not_true])
theorem keyOf_kD (k : L2.Key) : keyOf (kD k) = some k := by cases k <;> rfl
theorem look_map (k j : L2.Key) (v : PyData) : ∀ acc : List (PyData × PyData), lookD k (acc.map fun kv => if keyOf kv.1 = some j then (kv.1, v) else kv) = if k = j then (lookD k acc).map (fun _ => v) else lookD k acc
  | [] => by split <;> rfl
  | (a, b) :: r => by
    have ih := look_map k j v r
    by_cases h1 : keyOf a = some j
    · rw [List.map_cons, if_pos h1]
      unfold lookD
      by_cases h2 : keyOf a = some k
      · have : k = j := by rw [h1] at h2; exact (Option.some.inj h2).symm
        rw [if_pos h2, if_pos h2, if_pos this]; rfl
      · rw [if_neg h2, if_neg h2, ih]
    · rw [List.map_cons, if_neg h1]
      unfold lookD
      by_cases h2 : keyOf a = some k
      · have : ¬ k = j := fun e => h1 (by rw [h2, e])
        rw [if_pos h2, if_neg this, if_pos h2]
      · rw [if_neg h2, if_neg h2, ih]
theorem look_app (k : L2.Key) (x : PyData × PyData) : ∀ acc : List (PyData × PyData), lookD k (acc ++ [x]) = match lookD k acc with | some v => some v | none => if keyOf x.1 = some k then some x.2 else none
  | [] => by
    obtain ⟨a, b⟩ := x
    show lookD k [(a, b)] = _
    simp [lookD]
  | (a, b) :: r => by
    rw [List.cons_append]
    unfold lookD
    by_cases h : keyOf a = some k
    · rw [if_pos h, if_pos h]
    · rw [if_neg h, if_neg h]; exact look_app k x r
theorem look_any (k : L2.Key) : ∀ acc : List (PyData × PyData), (acc.any fun kv => decide (keyOf kv.1 = some k)) = (lookD k acc).isSome
  | [] => rfl
  | (a, b) :: r => by
    rw [List.any_cons]
    unfold lookD
    by_cases h : keyOf a = some k
    · rw [if_pos h, decide_eq_true h]; rfl
    · rw [if_neg h, decide_eq_false h, Bool.false_or]; exact look_any k r
theorem look_put (k j : L2.Key) (v : PyData) (acc : List (PyData × PyData)) : lookD k (putD j v acc) = if k = j then some v else lookD k acc := by
  unfold putD
  split
  · rename_i h
    rw [look_any] at h
    rw [look_map]
    by_cases e : k = j
    · subst e
      rw [if_pos rfl, if_pos rfl]
      cases q : lookD k acc with
      | none => rw [q] at h; cases h
      | some z => rfl
    · rw [if_neg e, if_neg e]
  · rename_i h
    rw [look_any] at h
    rw [look_app, keyOf_kD]
    by_cases e : k = j
    · subst e
      cases q : lookD k acc with
      | none => simp
      | some z => rw [q] at h; exact absurd rfl h
    · have e2 : ¬ some j = some k := fun z => e (Option.some.inj z).symm
      rw [if_neg e, if_neg e2]
      cases lookD k acc <;> rfl
/-- what a dict of pairs holds came from the pairs -/
theorem look_from {Q : L2.Key → PyData → Prop} : ∀ (ps : List (L2.Key × PyData)) (acc : List (PyData × PyData)), (∀ k v, lookD k acc = some v → Q k v) → (∀ kv ∈ ps, Q kv.1 kv.2) → ∀ k v, lookD k (ps.foldl (fun acc kv => putD kv.1 kv.2 acc) acc) = some v → Q k v
  | [], acc, ha, _, k, v, h => ha k v h
  | (j, u) :: ps, acc, ha, hp, k, v, h => by
    refine look_from ps (putD j u acc) (fun k' v' h' => ?_) (fun kv hkv => hp kv (List.mem_cons_of_mem _ hkv)) k v h
    rw [look_put] at h'
    split at h'
    · rename_i e
      cases h'
      rw [e]
      exact hp (j, u) List.mem_cons_self
    · exact ha k' v' h'
theorem look_dict {Q : L2.Key → PyData → Prop} {ps : List (L2.Key × PyData)} (hp : ∀ kv ∈ ps, Q kv.1 kv.2) {k : L2.Key} {v : PyData} (h : lookD k (dictOf ps) = some v) : Q k v := look_from ps [] (fun _ _ h => by cases h) hp k v h
/-- a table's pairs -/
def rowP : PyData → L2.Key × PyData
  | .tuple [.str x, v] => (.inr x, v)
  | _ => (.inr ⟨#[]⟩, .none)
theorem pairs_rows : ∀ {xs : List PyData}, xs.all isRowD = true → pairsOf xs = some (xs.map rowP)
  | [], _ => rfl
  | p :: xs, h => by
    rw [List.all_cons, Bool.and_eq_true] at h
    obtain ⟨x, v, rfl, _⟩ := row_form h.1
    have ih := pairs_rows h.2
    show (match keyOf (.str x), pairsOf xs with | some k, some ps => some ((k, v) :: ps) | _, _ => none) = _
    rw [ih]
    rfl
def dctR (xs : List PyData) : List (PyData × PyData) := dictOf (xs.map rowP)
theorem dict_rows {xs : List PyData} (h : xs.all isRowD = true) : bltD .dict [.tuple xs] = some (.dict (dctR xs)) := by
  show (pairsOf xs).map _ = _
  rw [pairs_rows h]; rfl

/-! ### webs in parts -/
structure ObjP (n : Nat) (o : PyData) (k : Str) (xs : List PyData) : Prop where
  e : o = .tuple [.str k, .tuple xs]
  kind : k = sOpen ∨ k = sFrozen
  len : xs.length ≤ 4
  rows : xs.all isRowD = true
  asc : ascD xs = true
  vals : xs.all (isValD n) = true
theorem obj_form {n : Nat} {o : PyData} (h : isObjD o n = true) : ∃ k xs, ObjP n o k xs := by
  unfold isObjD at h
  split at h
  · rename_i k t
    simp only [Bool.and_eq_true, Bool.or_eq_true, decide_eq_true_eq] at h
    obtain ⟨h1, h2, h3⟩ := h
    obtain ⟨xs, rfl, h4, h5, h6⟩ := table_form h2
    exact ⟨k, xs, rfl, h1, by omega, h5, h6, h3⟩
  · cases h
structure WebP (d : PyData) (os ns : List PyData) : Prop where
  e : d = .tuple [.tuple os, .tuple ns]
  lo : 1 ≤ os.length
  hi : os.length ≤ 30
  objs : ∀ o ∈ os, isObjD o os.length = true
  nlen : ns.length ≤ 6
  npos : 0 < ns.length
  rows : ns.all isRowD = true
  asc : ascD ns = true
  nums : ns.all (isNumRow os.length) = true
theorem web_form {d : PyData} (h : isWebD d = true) : ∃ os ns, WebP d os ns := by
  unfold isWebD at h
  split at h
  · rename_i os t
    simp only [Bool.and_eq_true, decide_eq_true_eq] at h
    obtain ⟨⟨h1, h2, h3⟩, h4, h5, h6⟩ := h
    obtain ⟨xs, rfl, h7, h8, h9⟩ := table_form h4
    exact ⟨os, xs, rfl, h1, h2, fun o ho => List.all_eq_true.mp h3 o ho, by omega, h5, h8, h9, h6⟩
  · cases h
/-- a word is short -/
theorem word_ok {d : PyData} (h : isWordD d = true) : sOk d = true := by
  unfold isWordD at h
  split at h
  · simp only [Bool.and_eq_true, decide_eq_true_eq] at h
    unfold sOk
    have := line30
    exact decide_eq_true (by omega)
  · cases h
theorem rows_ok {xs : List PyData} (h : xs.all isRowD = true) (hl : xs.length ≤ 1000) : tabOk (.tuple xs) = true := by
  unfold tabOk
  simp only [Bool.and_eq_true, decide_eq_true_eq, List.all_eq_true]
  refine ⟨fun p hp => ?_, by have := line30; omega⟩
  obtain ⟨x, v, rfl, hx⟩ := row_form (List.all_eq_true.mp h p hp)
  exact word_ok hx
theorem web_ok {d : PyData} (h : isWebD d = true) : webOk d = true := by
  obtain ⟨os, ns, P⟩ := web_form h
  rw [P.e]
  unfold webOk
  simp only [Bool.and_eq_true, List.all_eq_true]
  refine ⟨fun o ho => ?_, rows_ok P.rows (by have := P.nlen; omega)⟩
  obtain ⟨k, xs, Q⟩ := obj_form (P.objs o ho)
  rw [Q.e]
  exact rows_ok Q.rows (by have := Q.len; omega)
theorem path_ok {d : PyData} (h : isPathD d = true) : pathOk d = true := by
  unfold isPathD at h
  split at h
  · simp only [Bool.and_eq_true, List.all_eq_true] at h
    unfold pathOk
    exact List.all_eq_true.mpr fun x hx => word_ok (h.2.2 x hx)
  · cases h
theorem path_form {d : PyData} (h : isPathD d = true) : ∃ x ws, d = .tuple (.str x :: ws) ∧ (∀ w ∈ ws, ∃ y, w = .str y) ∧ ws.length ≤ 63 := by
  unfold isPathD at h
  split at h
  · rename_i xs
    simp only [Bool.and_eq_true, decide_eq_true_eq, List.all_eq_true] at h
    obtain ⟨h1, h2, h3⟩ := h
    have wd : ∀ w ∈ xs, ∃ y, w = PyData.str y := fun w hw => by
      have := h3 w hw
      cases w with
      | str y => exact ⟨y, rfl⟩
      | _ => cases this
    cases xs with
    | nil => simp at h1
    | cons w ws =>
      obtain ⟨x, rfl⟩ := wd w List.mem_cons_self
      exact ⟨x, ws, rfl, fun w hw => wd w (List.mem_cons_of_mem _ hw), by simpa using h2⟩
  · cases h
/-! ### the value at a path -/
def lookR (x : PyData) (xs : List PyData) : Option PyData := match keyOf x with
  | some k => lookD k (dctR xs)
  | none => none
def getF (os : List PyData) (i : Int) (w : PyData) : PyData := match os[i.toNat]? with
  | some (.tuple [_, .tuple xs]) => (lookR w xs).getD .none
  | _ => .none
def walkD (os : List PyData) : PyData → List PyData → PyData
  | f, [] => f
  | f, w :: ws => match f with
    | .tuple [.int i] => walkD os (getF os i w) ws
    | _ => .none
def valD : PyData → PyData → PyData
  | .tuple [.tuple os, .tuple ns], .tuple (w :: ws) => match lookR w ns with
    | some v => walkD os (.tuple [v]) ws
    | none => .none
  | _, _ => .none
/-- what is found on the way -/
def FoundP (n : Nat) : PyData → Prop
  | .none => True
  | .int _ => True
  | .tuple [.int i] => 0 ≤ i ∧ i < n
  | _ => False
theorem num_form {v : PyData} {n : Int} (h : isNumD v n = true) : ∃ i : Int, v = .int i ∧ 0 ≤ i ∧ i < n := by
  cases v with
  | int i =>
    simp only [isNumD, Bool.and_eq_true, decide_eq_true_eq] at h
    exact ⟨i, rfl, h.2.1, h.2.2⟩
  | _ => cases h
theorem val_found {n : Nat} {v : PyData} (h : (isIntD v || isRefD v n) = true) : FoundP n v ∧ v ≠ .none := by
  rw [Bool.or_eq_true] at h
  rcases h with h | h
  · cases v with
    | int i => exact ⟨trivial, fun z => nomatch z⟩
    | _ => cases h
  · unfold isRefD at h
    split at h
    · obtain ⟨i, rfl, h1, h2⟩ := num_form h
      exact ⟨⟨h1, h2⟩, fun z => nomatch z⟩
    · cases h
theorem lookR_mem {x : PyData} {xs : List PyData} {v : PyData} (hr : xs.all isRowD = true) (h : lookR x xs = some v) : ∃ y, PyData.tuple [.str y, v] ∈ xs := by
  unfold lookR at h
  split at h
  · refine look_dict (Q := fun _ v => ∃ y, PyData.tuple [.str y, v] ∈ xs) (fun kv hkv => ?_) h
    obtain ⟨p, hp, rfl⟩ := List.mem_map.mp hkv
    obtain ⟨y, u, rfl, _⟩ := row_form (List.all_eq_true.mp hr p hp)
    exact ⟨y, hp⟩
  · cases h
theorem getF_found {os : List PyData} {n : Nat} (ho : ∀ o ∈ os, isObjD o n = true) (i : Int) (w : PyData) : FoundP n (getF os i w) := by
  unfold getF
  split
  · rename_i a xs e
    obtain ⟨k, ys, Q⟩ := obj_form (ho _ (List.mem_of_getElem? e))
    have e2 := Q.e
    cases e2
    cases hl : lookR w xs with
    | none => trivial
    | some v =>
      obtain ⟨y, hy⟩ := lookR_mem Q.rows hl
      exact (val_found (List.all_eq_true.mp Q.vals _ hy)).1
  · trivial
end Pl

/-! Pl6: what paths lead to. -/
namespace Pl
open PySem hiding Env exec execs start
open Dv
local macro_rules | `(tactic| walk_at "dv") => `(tactic| simp only [mkL_f1, mkL_f2, mkL_t1, mkL_t2, c_no, c_so, lcT_s, asg_v, asg_2, asg_3, wipe_0, wipe_s, List.set_cons_zero, List.set_cons_succ, cut_1, xs_nil, xs_cons, x_ite, x_ret, x_asg, x_expr, x_pass, x_par, seq_rt, seq_nx, fl_ok, oFl_s, setsL_0, setsL_s, out_rt, out_nx, close_d, e_var, e_con, e_tup, e_lst, e_bin, e_neg, e_cmp, e_chn, e_not, e_and, e_or, e_ite, e_idx, e_slc, e_cal, e_cak, e_blt, e_mth, e_isi, t_not, t_and, t_or, t_val, s_nil, s_cons, o_no, o_so, i_seq, i_zip, datOf_d, seqD_l, seqD_t, seqD_s, truth_b, rd_d, rdw_d, lift_s, lift_n, nm_f, nm_t, fin_i, fin_b, fin_s, fin_t, fin_n, fin_l, fin_d, finO_s, finO_n, dats_d, dats_0, rds_d, rds_0, bltW_len, blt_all, len_t, len_l, len_d, le_i, lt_i, ge_i, gt_i, eq_i, ne_i, eqv_i, ix0_t, ix1_t, ix2_t, q_none_tuple, q_none_str, q_none_int, q_none_bool, q_none_list, q_none_dict, q_bool_tuple, q_bool_str, q_bool_int, q_bool_bool, q_bool_list, q_bool_dict, q_int_tuple, q_int_str, q_int_int, q_int_bool, q_int_list, q_int_dict, q_str_tuple, q_str_str, q_str_int, q_str_bool, q_str_list, q_str_dict, q_list_tuple, q_list_str, q_list_int, q_list_bool, q_list_list, q_list_dict, q_tuple_tuple, q_tuple_str, q_tuple_int, q_tuple_bool, q_tuple_list, q_tuple_dict, q_dict_tuple, q_dict_str, q_dict_int, q_dict_bool, q_dict_list, q_dict_dict, Option.map_some, Option.bind_some, Out.bind_ok, Out.bind_no, List.getElem?_cons_zero, List.getElem?_cons_succ, if_true, if_false, Bool.false_eq_true, Bool.true_eq_false, Bool.not_false, Bool.not_true])
local macro_rules | `(tactic| walk_at "dvd") => `(tactic| simp (decide := true) only [List.length_cons, List.length_nil, mkL_f1, mkL_f2, mkL_t1, mkL_t2, c_no, c_so, lcT_s, asg_v, asg_2, asg_3, wipe_0, wipe_s, List.set_cons_zero, List.set_cons_succ, cut_1, xs_nil, xs_cons, x_ite, x_ret, x_asg, x_expr, x_pass, x_par, seq_rt, seq_nx, fl_ok, oFl_s, setsL_0, setsL_s, out_rt, out_nx, close_d, e_var, e_con, e_tup, e_lst, e_bin, e_neg, e_cmp, e_chn, e_not, e_and, e_or, e_ite, e_idx, e_slc, e_cal, e_cak, e_blt, e_mth, e_isi, t_not, t_and, t_or, t_val, s_nil, s_cons, o_no, o_so, i_seq, i_zip, datOf_d, seqD_l, seqD_t, seqD_s, truth_b, rd_d, rdw_d, lift_s, lift_n, nm_f, nm_t, fin_i, fin_b, fin_s, fin_t, fin_n, fin_l, fin_d, finO_s, finO_n, dats_d, dats_0, rds_d, rds_0, bltW_len, blt_all, len_t, len_l, len_d, le_i, lt_i, ge_i, gt_i, eq_i, ne_i, eqv_i, ix0_t, ix1_t, ix2_t, q_none_tuple, q_none_str, q_none_int, q_none_bool, q_none_list, q_none_dict, q_bool_tuple, q_bool_str, q_bool_int, q_bool_bool, q_bool_list, q_bool_dict, q_int_tuple, q_int_str, q_int_int, q_int_bool, q_int_list, q_int_dict, q_str_tuple, q_str_str, q_str_int, q_str_bool, q_str_list, q_str_dict, q_list_tuple, q_list_str, q_list_int, q_list_bool, q_list_list, q_list_dict, q_tuple_tuple, q_tuple_str, q_tuple_int, q_tuple_bool, q_tuple_list, q_tuple_dict, q_dict_tuple, q_dict_str, q_dict_int, q_dict_bool, q_dict_list, q_dict_dict, Option.map_some, Option.bind_some, Out.bind_ok, Out.bind_no, List.getElem?_cons_zero, List.getElem?_cons_succ, if_true, if_false, Bool.false_eq_true, Bool.true_eq_false, Bool.not_false, Bool.not_true])
/-! ### the checks -/
def sOkWeb : List W → Store → Out W := sp1 fun d => if isWebD d = true then some .none else none
def sOkPath : List W → Store → Out W := sp1 fun d => if isPathD d = true then some .none else none
def mCheckWeb : List S := [.ite (.not (.val (.cal false "is_web" (.cons (.var 0) .nil)))) [.rse "" .nil] []]
def mCheckPath : List S := [.ite (.not (.val (.cal false "is_path" (.cons (.var 0) .nil)))) [.rse "" .nil] []]
theorem le_checkWeb {F : Specs} {fu : Nat} (h1 : F "is_web" = sIsWeb) : Le sOkWeb (runD F fu 1 mCheckWeb false) := le_sp1 fun d e μ h => by
  split at h
  · rename_i hw
    cases h
    unfold runD mCheckWeb
    have hs : startE 1 [W.dat d] = [some (.dat d)] := rfl
    rw [hs]
    walk_at "dv"
    simp only [h1, sIsWeb, sp1_d, if_pos (web_ok hw), hw]
    walk_at "dv"
  · cases h
theorem le_checkPath {F : Specs} {fu : Nat} (h1 : F "is_path" = sIsPath) : Le sOkPath (runD F fu 1 mCheckPath false) := le_sp1 fun d e μ h => by
  split at h
  · rename_i hw
    cases h
    unfold runD mCheckPath
    have hs : startE 1 [W.dat d] = [some (.dat d)] := rfl
    rw [hs]
    walk_at "dv"
    simp only [h1, sIsPath, sp1_d, if_pos (path_ok hw), hw]
    walk_at "dv"
  · cases h
/-! ### value_at -/
def sValueAt : List W → Store → Out W := sp2 fun d p => if (isWebD d && isPathD p) = true then some (valD d p) else none
def bValue : List S := [.ite (.not (.val (.isi (.var 3) ["tuple"]))) [.ret (.con .none)] [], .asg (.v 3) (.mth false .get1 (.blt false .dict (.cons (.idx (.idx (.idx (.var 0) (.con (.int (0)))) (.idx (.var 3) (.con (.int (0))))) (.con (.int (1)))) .nil)) (.cons (.var 4) .nil))]
def mValueAt : List S := [.asg (.v 2) (.blt false .dict (.cons (.idx (.var 0) (.con (.int (1)))) .nil)), .ite (.val (.cmp .nin (.idx (.var 1) (.con (.int (0)))) (.var 2))) [.ret (.con .none)] [], .asg (.v 3) (.tup (.cons (.idx (.var 2) (.idx (.var 1) (.con (.int (0))))) .nil)), .for (.v 4) (.seq (.slc false (.var 1) (.so (.con (.int (1)))) .no)) bValue, .ret (.var 3)]
theorem ix_n (xs : List PyData) (i : Nat) : idxD (.tuple xs) (.int (i : Nat)) = xs[i]? := ixD_n xs i
theorem dict_b (m : Bool) (d : PyData) {μ : Store} : bltW m .dict [.dat d] μ = finO m (bltD .dict [d]) μ := rfl
theorem nin_d (x : Str) (kvs : List (PyData × PyData)) : cmpD .nin (.str x) (.dict kvs) = some (!(lookD (.inr x) kvs).isSome) := rfl
theorem idx_d (x : Str) (kvs : List (PyData × PyData)) : idxD (.dict kvs) (.str x) = lookD (.inr x) kvs := rfl
theorem lookR_s (x : Str) (xs : List PyData) : lookR (.str x) xs = lookD (.inr x) (dctR xs) := rfl
theorem pre_get (d : List (PyData × PyData)) (μ : Store) : mthPre .get1 (.dat (.dict d)) μ = true := rfl
theorem get_s (m : Bool) (x : Str) (kvs : List (PyData × PyData)) (μ : Store) : mthW m .get1 (.dat (.dict kvs)) [.dat (.str x)] μ = .ok (.dat ((lookD (.inr x) kvs).getD .none)) μ := by
  show mGet (.dat (.dict kvs)) (.dat (.str x)) (.dat .none) μ = _
  unfold mGet
  simp only [rd_d, Option.bind_some, keyOf]
  cases lookD (.inr x) kvs <;> rfl
def turnF (F : Specs) (fu : Nat) (g : Tg) (b : List S) (x : PyData) (ρ : Dv.Env) (μ : Store) : Fl := (oFl (asg g (.dat x) ρ) μ).seq fun ρ μ => Dv.execs F fu b ρ μ
theorem x_for {F : Specs} {fu : Nat} {ρ : Dv.Env} {μ : Store} (g : Tg) (it : Wk) (b : List S) : Dv.exec F fu (.for g it b) ρ μ = (evi F it ρ μ).fl ρ fun xs μ1 => forL (turnF F fu g b) xs ρ μ1 := rfl
/-- one turn of the walk -/
theorem value_turn {F : Specs} {fu : Nat} {os : List PyData} {t p q : PyData} {z : Option W} {μ : Store} (ho : ∀ o ∈ os, isObjD o os.length = true) {i : Int} (hi : 0 ≤ i ∧ i < os.length) (y : Str) :
    Dv.execs F fu bValue [some (.dat (.tuple [.tuple os, t])), some (.dat p), some (.dat q), some (.dat (.tuple [.int i])), some (.dat (.str y))] μ = .nx [some (.dat (.tuple [.tuple os, t])), some (.dat p), some (.dat q), some (.dat (getF os i (.str y))), some (.dat (.str y))] μ := by
  obtain ⟨j, rfl⟩ : ∃ j : Nat, i = j := ⟨i.toNat, by omega⟩
  have hj : j < os.length := by omega
  obtain ⟨k, xs, Q⟩ := obj_form (ho _ (List.getElem_mem hj))
  have e1 : os[j]? = some (.tuple [.str k, .tuple xs]) := by rw [List.getElem?_eq_getElem hj, Q.e]
  unfold bValue
  walk_at "dv"
  simp only [ix_n, e1]
  walk_at "dv"
  simp only [dict_b, dict_rows Q.rows]
  walk_at "dv"
  simp only [pre_get]
  walk_at "dv"
  simp only [get_s]
  walk_at "dv"
  have e2 : getF os (j : Nat) (.str y) = (lookD (.inr y) (dctR xs)).getD .none := by
    unfold getF
    rw [Int.toNat_natCast, e1]
    rfl
  rw [e2]
/-- what the walk's end says -/
def flV (os : List PyData) (t p q : PyData) (μ : Store) (r : PyData) (fl : Fl) : Prop := fl = .rt (.dat r) μ ∨ ∃ z, fl = .nx [some (.dat (.tuple [.tuple os, t])), some (.dat p), some (.dat q), some (.dat r), z] μ
theorem value_walk {F : Specs} {fu : Nat} {os : List PyData} {t p q : PyData} {μ : Store} (ho : ∀ o ∈ os, isObjD o os.length = true) : ∀ (ws : List PyData) (f : PyData) (z : Option W), (∀ w ∈ ws, ∃ y, w = .str y) → FoundP os.length f →
    flV os t p q μ (walkD os f ws) (forL (turnF F fu (.v 4) bValue) ws [some (.dat (.tuple [.tuple os, t])), some (.dat p), some (.dat q), some (.dat f), z] μ)
  | [], f, z, _, _ => .inr ⟨z, rfl⟩
  | w :: ws, f, z, hw, hf => by
    obtain ⟨y, rfl⟩ := hw w List.mem_cons_self
    have stop : (match f with | .tuple _ => False | _ => True) → flV os t p q μ (walkD os f (.str y :: ws)) (forL (turnF F fu (.v 4) bValue) (.str y :: ws) [some (.dat (.tuple [.tuple os, t])), some (.dat p), some (.dat q), some (.dat f), z] μ) := fun h => by
      refine .inl ?_
      unfold forL
      cases f with
      | tuple xs => exact h.elim
      | _ => unfold turnF bValue; walk_at "dv"; rfl
    have go : ∀ i : Int, f = .tuple [.int i] → flV os t p q μ (walkD os f (.str y :: ws)) (forL (turnF F fu (.v 4) bValue) (.str y :: ws) [some (.dat (.tuple [.tuple os, t])), some (.dat p), some (.dat q), some (.dat f), z] μ) := fun i e => by
      subst e
      have hi : 0 ≤ i ∧ i < os.length := hf
      have e1 := value_turn (F := F) (fu := fu) (t := t) (p := p) (q := q) (z := z) (μ := μ) ho hi y
      unfold forL turnF
      walk_at "dv"
      rw [e1]
      exact value_walk ho ws (getF os i (.str y)) _ (fun w hw' => hw w (List.mem_cons_of_mem _ hw')) (getF_found ho i _)
    unfold FoundP at hf
    split at hf
    · exact stop trivial
    · exact stop trivial
    · exact go _ rfl
    · exact hf.elim
theorem one_le : (1 : Nat) ≤ sizeLine := by decide
theorem run_value {F : Specs} {fu : Nat} {d p : PyData} {μ : Store} (hd : isWebD d = true) (hp : isPathD p = true) : runD F fu 5 mValueAt false [.dat d, .dat p] μ = .ok (.dat (valD d p)) μ := by
  obtain ⟨os, ns, P⟩ := web_form hd
  obtain ⟨x, ws, rfl, hws, _⟩ := path_form hp
  rw [P.e]
  unfold runD mValueAt
  have hs : startE 5 [W.dat (.tuple [.tuple os, .tuple ns]), W.dat (.tuple (.str x :: ws))] = [some (.dat (.tuple [.tuple os, .tuple ns])), some (.dat (.tuple (.str x :: ws))), none, none, none] := rfl
  rw [hs]
  walk_at "dv"
  simp only [dict_b, dict_rows P.rows]
  walk_at "dv"
  simp only [nin_d]
  walk_at "dv"
  simp only [valD, lookR_s]
  cases hl : lookD (.inr x) (dctR ns) with
  | none =>
    simp only [Option.isSome_none]
    walk_at "dv"
  | some v =>
    simp only [Option.isSome_some, idx_d, hl]
    walk_at "dv"
    simp only [idx_d, hl]
    walk_at "dv"
    simp only [List.length_cons, List.length_nil, if_pos (show 0 + 1 ≤ sizeLine from one_le)]
    walk_at "dv"
    simp only [x_for]
    walk_at "dv"
    simp only [List.drop_one, List.tail_cons]
    have hv : FoundP os.length (.tuple [v]) := by
      obtain ⟨y, hy⟩ := lookR_mem (x := .str x) P.rows hl
      obtain ⟨i, rfl, h1, h2⟩ := num_form (List.all_eq_true.mp P.nums _ hy)
      exact ⟨h1, h2⟩
    have key := value_walk (F := F) (fu := fu) (t := .tuple ns) (p := .tuple (.str x :: ws)) (q := .dict (dctR ns)) (μ := μ) P.objs ws (.tuple [v]) none hws hv
    rcases key with e | ⟨z, e⟩
    · rw [e]; walk_at "dv"
    · rw [e]; walk_at "dv"
theorem le_valueAt {F : Specs} {fu : Nat} : Le sValueAt (runD F fu 5 mValueAt false) := le_sp2 fun d p e μ h => by
  split at h
  · rename_i hw
    cases h
    rw [Bool.and_eq_true] at hw
    exact run_value hw.1 hw.2
  · cases h
end Pl

/-! Pl7: look, place. -/
namespace Pl
open PySem hiding Env exec execs start
open Dv
local macro_rules | `(tactic| walk_at "dv") => `(tactic| simp only [mkL_f1, mkL_f2, mkL_t1, mkL_t2, c_no, c_so, lcT_s, asg_v, asg_2, asg_3, wipe_0, wipe_s, List.set_cons_zero, List.set_cons_succ, cut_1, xs_nil, xs_cons, x_ite, x_ret, x_asg, x_expr, x_pass, x_par, seq_rt, seq_nx, fl_ok, oFl_s, setsL_0, setsL_s, out_rt, out_nx, close_d, e_var, e_con, e_tup, e_lst, e_bin, e_neg, e_cmp, e_chn, e_not, e_and, e_or, e_ite, e_idx, e_slc, e_cal, e_cak, e_blt, e_mth, e_isi, t_not, t_and, t_or, t_val, s_nil, s_cons, o_no, o_so, i_seq, i_zip, datOf_d, seqD_l, seqD_t, seqD_s, truth_b, rd_d, rdw_d, lift_s, lift_n, nm_f, nm_t, fin_i, fin_b, fin_s, fin_t, fin_n, fin_l, fin_d, finO_s, finO_n, dats_d, dats_0, rds_d, rds_0, bltW_len, blt_all, len_t, len_l, len_d, le_i, lt_i, ge_i, gt_i, eq_i, ne_i, eqv_i, ix0_t, ix1_t, ix2_t, q_none_tuple, q_none_str, q_none_int, q_none_bool, q_none_list, q_none_dict, q_bool_tuple, q_bool_str, q_bool_int, q_bool_bool, q_bool_list, q_bool_dict, q_int_tuple, q_int_str, q_int_int, q_int_bool, q_int_list, q_int_dict, q_str_tuple, q_str_str, q_str_int, q_str_bool, q_str_list, q_str_dict, q_list_tuple, q_list_str, q_list_int, q_list_bool, q_list_list, q_list_dict, q_tuple_tuple, q_tuple_str, q_tuple_int, q_tuple_bool, q_tuple_list, q_tuple_dict, q_dict_tuple, q_dict_str, q_dict_int, q_dict_bool, q_dict_list, q_dict_dict, Option.map_some, Option.bind_some, Out.bind_ok, Out.bind_no, List.getElem?_cons_zero, List.getElem?_cons_succ, if_true, if_false, Bool.false_eq_true, Bool.true_eq_false, Bool.not_false, Bool.not_true])
local macro_rules | `(tactic| walk_at "dvd") => `(tactic| simp (decide := true) only [List.length_cons, List.length_nil, mkL_f1, mkL_f2, mkL_t1, mkL_t2, c_no, c_so, lcT_s, asg_v, asg_2, asg_3, wipe_0, wipe_s, List.set_cons_zero, List.set_cons_succ, cut_1, xs_nil, xs_cons, x_ite, x_ret, x_asg, x_expr, x_pass, x_par, seq_rt, seq_nx, fl_ok, oFl_s, setsL_0, setsL_s, out_rt, out_nx, close_d, e_var, e_con, e_tup, e_lst, e_bin, e_neg, e_cmp, e_chn, e_not, e_and, e_or, e_ite, e_idx, e_slc, e_cal, e_cak, e_blt, e_mth, e_isi, t_not, t_and, t_or, t_val, s_nil, s_cons, o_no, o_so, i_seq, i_zip, datOf_d, seqD_l, seqD_t, seqD_s, truth_b, rd_d, rdw_d, lift_s, lift_n, nm_f, nm_t, fin_i, fin_b, fin_s, fin_t, fin_n, fin_l, fin_d, finO_s, finO_n, dats_d, dats_0, rds_d, rds_0, bltW_len, blt_all, len_t, len_l, len_d, le_i, lt_i, ge_i, gt_i, eq_i, ne_i, eqv_i, ix0_t, ix1_t, ix2_t, q_none_tuple, q_none_str, q_none_int, q_none_bool, q_none_list, q_none_dict, q_bool_tuple, q_bool_str, q_bool_int, q_bool_bool, q_bool_list, q_bool_dict, q_int_tuple, q_int_str, q_int_int, q_int_bool, q_int_list, q_int_dict, q_str_tuple, q_str_str, q_str_int, q_str_bool, q_str_list, q_str_dict, q_list_tuple, q_list_str, q_list_int, q_list_bool, q_list_list, q_list_dict, q_tuple_tuple, q_tuple_str, q_tuple_int, q_tuple_bool, q_tuple_list, q_tuple_dict, q_dict_tuple, q_dict_str, q_dict_int, q_dict_bool, q_dict_list, q_dict_dict, Option.map_some, Option.bind_some, Out.bind_ok, Out.bind_no, List.getElem?_cons_zero, List.getElem?_cons_succ, if_true, if_false, Bool.false_eq_true, Bool.true_eq_false, Bool.not_false, Bool.not_true])
theorem walk_found {os : List PyData} (ho : ∀ o ∈ os, isObjD o os.length = true) : ∀ (ws : List PyData) (f : PyData), FoundP os.length f → FoundP os.length (walkD os f ws)
  | [], f, h => h
  | w :: ws, f, h => by
    unfold walkD
    split
    · exact walk_found ho ws _ (getF_found ho _ _)
    · trivial
theorem val_at {d p : PyData} {os ns : List PyData} (P : WebP d os ns) (hp : isPathD p = true) : FoundP os.length (valD d p) := by
  obtain ⟨x, ws, rfl, hws, _⟩ := path_form hp
  rw [P.e]
  simp only [valD]
  cases hl : lookR (.str x) ns with
  | none => trivial
  | some v =>
    obtain ⟨y, hy⟩ := lookR_mem (x := .str x) P.rows hl
    obtain ⟨i, rfl, h1, h2⟩ := num_form (List.all_eq_true.mp P.nums _ hy)
    exact walk_found P.objs ws _ ⟨h1, h2⟩
def fstD : PyData → PyData
  | .tuple [a, _] => a
  | d => d
def objD (os : List PyData) (i : Int) : PyData := match os[i.toNat]? with
  | some (.tuple [k, .tuple xs]) => .tuple [k, .tuple (xs.map fstD)]
  | _ => .none
def ansD (d p : PyData) : PyData := match valD d p with
  | .none => .str "none"
  | .tuple [.int i] => match d with
    | .tuple [.tuple os, _] => objD os i
    | _ => .none
  | v => v
def plcD (d p : PyData) : PyData := match valD d p with
  | .tuple [v] => v
  | _ => .none
def onWP (f : PyData → PyData → PyData) : List W → Store → Out W := sp2 fun d p => if (isWebD d && isPathD p) = true then some (f d p) else none
theorem onWP_d {f : PyData → PyData → PyData} {d p : PyData} {μ : Store} (hd : isWebD d = true) (hp : isPathD p = true) : onWP f [.dat d, .dat p] μ = .ok (.dat (f d p)) μ := by
  unfold onWP
  rw [sp2_d, hd, hp]; rfl
theorem le_onWP {f : PyData → PyData → PyData} {g : List W → Store → Out W} (h : ∀ d p μ, isWebD d = true → isPathD p = true → g [.dat d, .dat p] μ = .ok (.dat (f d p)) μ) : Le (onWP f) g := le_sp2 fun d p e μ q => by
  split at q
  · rename_i hw
    cases q
    rw [Bool.and_eq_true] at hw
    exact h d p μ hw.1 hw.2
  · cases q
def sAnswerAt := onWP ansD
def sLook := onWP ansD
def sPlace := onWP plcD
theorem is_n (d : PyData) : cmpD .is d .none = some (match d with | .none => true | _ => false) := rfl
def cWords (a b c : Nat) : E := .lc false (.var a) (.t2 (.v a) (.v b)) (.seq (.var c)) .no [a, b]
def mAnswerAt : List S := [.asg (.v 2) (.cal false "value_at" (.cons (.var 0) (.cons (.var 1) .nil))), .ite (.val (.cmp .is (.var 2) (.con .none))) [.ret (.con (.str "none"))] [], .ite (.not (.val (.isi (.var 2) ["tuple"]))) [.ret (.var 2)] [], .asg (.t2 (.v 3) (.v 4)) (.idx (.idx (.var 0) (.con (.int (0)))) (.idx (.var 2) (.con (.int (0))))), .ret (.tup (.cons (.var 3) (.cons (.blt false .tuple (.cons (cWords 5 6 4) .nil)) .nil)))]
theorem blt_tup (m : Bool) (d : PyData) {μ : Store} : bltW m .tuple [.dat d] μ = finO m (bltD .tuple [d]) μ := rfl
theorem tup_l (xs : List PyData) : bltD .tuple [.list xs] = some (.tuple xs) := rfl
theorem map_fst {xs : List PyData} (hr : xs.all isRowD = true) {F : Specs} {ρ : Dv.Env} {μ : Store} (h4 : ρ[4]? = some (some (.dat (.tuple xs)))) (hl : ρ.length = 7) (hz : xs.length ≤ 1000) : ev F (cWords 5 6 4) ρ μ = .ok (.dat (.list (xs.map fstD))) μ := by
  refine ev_map _ (by simp only [i_seq, e_var, h4]; walk_at "dv") (fun p hp μ' => ?_) (by have := line30; omega)
  obtain ⟨x, v, rfl, _⟩ := row_form (List.all_eq_true.mp hr p hp)
  match ρ, hl with
  | [a0, a1, a2, a3, a4, a5, a6], _ => walk_at "dv"; rfl
theorem run_answer {F : Specs} {fu : Nat} (h1 : F "value_at" = sValueAt) (d p : PyData) (μ : Store) (hd : isWebD d = true) (hp : isPathD p = true) : runD F fu 7 mAnswerAt false [.dat d, .dat p] μ = .ok (.dat (ansD d p)) μ := by
  obtain ⟨os, ns, P⟩ := web_form hd
  have hf := val_at P hp
  unfold runD mAnswerAt
  have hs : startE 7 [W.dat d, W.dat p] = [some (.dat d), some (.dat p), none, none, none, none, none] := rfl
  rw [hs]
  walk_at "dv"
  simp only [h1, sValueAt, sp2_d, hd, hp, Bool.and_true]
  walk_at "dv"
  try simp only [Bool.and_true]
  try walk_at "dv"
  simp only [is_n, ansD]
  walk_at "dv"
  unfold FoundP at hf
  split at hf
  · rename_i e
    rw [e]; walk_at "dv"
  · rename_i i e
    rw [e]; walk_at "dv"
  · rename_i i e
    rw [e]
    have hi : 0 ≤ i ∧ i < os.length := hf
    obtain ⟨j, rfl⟩ : ∃ j : Nat, i = j := ⟨i.toNat, by omega⟩
    have hj : j < os.length := by omega
    obtain ⟨k, xs, Q⟩ := obj_form (P.objs _ (List.getElem_mem hj))
    have e1 : os[j]? = some (.tuple [.str k, .tuple xs]) := by rw [List.getElem?_eq_getElem hj, Q.e]
    rw [P.e]
    walk_at "dv"
    simp only [ix_n, e1]
    walk_at "dv"
    simp only [map_fst Q.rows (show ([some (W.dat (.tuple [.tuple os, .tuple ns])), some (.dat p), some (.dat (.tuple [.int (j : Nat)])), some (.dat (.str k)), some (.dat (.tuple xs)), none, none] : Dv.Env)[4]? = _ from rfl) rfl (by have := Q.len; omega)]
    walk_at "dv"
    simp only [blt_tup, tup_l]
    walk_at "dv"
    simp only [List.length_cons, List.length_nil, if_pos (show 0 + 1 + 1 ≤ sizeLine from two_le), objD, Int.toNat_natCast, e1]
    walk_at "dv"
  · exact hf.elim
theorem le_answerAt {F : Specs} {fu : Nat} (h1 : F "value_at" = sValueAt) : Le sAnswerAt (runD F fu 7 mAnswerAt false) := le_onWP (run_answer h1)
def mLook : List S := [.expr (.cal false "check_web" (.cons (.var 0) .nil)), .expr (.cal false "check_path" (.cons (.var 1) .nil)), .ret (.cal false "answer_at" (.cons (.var 0) (.cons (.var 1) .nil)))]
theorem le_look {F : Specs} {fu : Nat} (h1 : F "check_web" = sOkWeb) (h2 : F "check_path" = sOkPath) (h3 : F "answer_at" = sAnswerAt) : Le sLook (runD F fu 2 mLook false) := le_onWP fun d p μ hd hp => by
  unfold runD mLook
  have hs : startE 2 [W.dat d, W.dat p] = [some (.dat d), some (.dat p)] := rfl
  rw [hs]
  walk_at "dv"
  simp only [h1, sOkWeb, sp1_d, hd]
  walk_at "dv"
  simp only [h2, sOkPath, sp1_d, hp]
  walk_at "dv"
  simp only [h3, sAnswerAt, onWP_d hd hp]
  walk_at "dv"
def mPlace : List S := [.expr (.cal false "check_web" (.cons (.var 0) .nil)), .expr (.cal false "check_path" (.cons (.var 1) .nil)), .asg (.v 2) (.cal false "value_at" (.cons (.var 0) (.cons (.var 1) .nil))), .ret (.ite (.val (.isi (.var 2) ["tuple"])) (.idx (.var 2) (.con (.int (0)))) (.con .none))]
theorem le_place {F : Specs} {fu : Nat} (h1 : F "check_web" = sOkWeb) (h2 : F "check_path" = sOkPath) (h3 : F "value_at" = sValueAt) : Le sPlace (runD F fu 3 mPlace false) := le_onWP fun d p μ hd hp => by
  obtain ⟨os, ns, P⟩ := web_form hd
  have hf := val_at P hp
  unfold runD mPlace
  have hs : startE 3 [W.dat d, W.dat p] = [some (.dat d), some (.dat p), none] := rfl
  rw [hs]
  walk_at "dv"
  simp only [h1, sOkWeb, sp1_d, hd]
  walk_at "dv"
  simp only [h2, sOkPath, sp1_d, hp]
  walk_at "dv"
  simp only [h3, sValueAt, sp2_d, hd, hp, Bool.and_true]
  walk_at "dv"
  simp only [plcD]
  unfold FoundP at hf
  split at hf
  · rename_i e
    rw [e]; walk_at "dv"
  · rename_i i e
    rw [e]; walk_at "dv"
  · rename_i i e
    rw [e]; walk_at "dv"
  · exact hf.elim
end Pl

/-! Pl8: loops; the script's cells; digits taken. -/
namespace Pl
open PySem hiding Env exec execs start
open Dv
local macro_rules | `(tactic| walk_at "dv") => `(tactic| simp only [mkL_f1, mkL_f2, mkL_t1, mkL_t2, c_no, c_so, lcT_s, asg_v, asg_2, asg_3, wipe_0, wipe_s, List.set_cons_zero, List.set_cons_succ, cut_1, xs_nil, xs_cons, x_ite, x_ret, x_asg, x_expr, x_pass, x_par, seq_rt, seq_nx, fl_ok, oFl_s, setsL_0, setsL_s, out_rt, out_nx, close_d, e_var, e_con, e_tup, e_lst, e_bin, e_neg, e_cmp, e_chn, e_not, e_and, e_or, e_ite, e_idx, e_slc, e_cal, e_cak, e_blt, e_mth, e_isi, t_not, t_and, t_or, t_val, s_nil, s_cons, o_no, o_so, i_seq, i_zip, datOf_d, seqD_l, seqD_t, seqD_s, truth_b, rd_d, rdw_d, lift_s, lift_n, nm_f, nm_t, fin_i, fin_b, fin_s, fin_t, fin_n, fin_l, fin_d, finO_s, finO_n, dats_d, dats_0, rds_d, rds_0, bltW_len, blt_all, len_t, len_l, len_d, le_i, lt_i, ge_i, gt_i, eq_i, ne_i, eqv_i, ix0_t, ix1_t, ix2_t, q_none_tuple, q_none_str, q_none_int, q_none_bool, q_none_list, q_none_dict, q_bool_tuple, q_bool_str, q_bool_int, q_bool_bool, q_bool_list, q_bool_dict, q_int_tuple, q_int_str, q_int_int, q_int_bool, q_int_list, q_int_dict, q_str_tuple, q_str_str, q_str_int, q_str_bool, q_str_list, q_str_dict, q_list_tuple, q_list_str, q_list_int, q_list_bool, q_list_list, q_list_dict, q_tuple_tuple, q_tuple_str, q_tuple_int, q_tuple_bool, q_tuple_list, q_tuple_dict, q_dict_tuple, q_dict_str, q_dict_int, q_dict_bool, q_dict_list, q_dict_dict, Option.map_some, Option.bind_some, Out.bind_ok, Out.bind_no, List.getElem?_cons_zero, List.getElem?_cons_succ, if_true, if_false, Bool.false_eq_true, Bool.true_eq_false, Bool.not_false, Bool.not_true])
local macro_rules | `(tactic| walk_at "dvd") => `(tactic| simp (decide := true) only [List.length_cons, List.length_nil, mkL_f1, mkL_f2, mkL_t1, mkL_t2, c_no, c_so, lcT_s, asg_v, asg_2, asg_3, wipe_0, wipe_s, List.set_cons_zero, List.set_cons_succ, cut_1, xs_nil, xs_cons, x_ite, x_ret, x_asg, x_expr, x_pass, x_par, seq_rt, seq_nx, fl_ok, oFl_s, setsL_0, setsL_s, out_rt, out_nx, close_d, e_var, e_con, e_tup, e_lst, e_bin, e_neg, e_cmp, e_chn, e_not, e_and, e_or, e_ite, e_idx, e_slc, e_cal, e_cak, e_blt, e_mth, e_isi, t_not, t_and, t_or, t_val, s_nil, s_cons, o_no, o_so, i_seq, i_zip, datOf_d, seqD_l, seqD_t, seqD_s, truth_b, rd_d, rdw_d, lift_s, lift_n, nm_f, nm_t, fin_i, fin_b, fin_s, fin_t, fin_n, fin_l, fin_d, finO_s, finO_n, dats_d, dats_0, rds_d, rds_0, bltW_len, blt_all, len_t, len_l, len_d, le_i, lt_i, ge_i, gt_i, eq_i, ne_i, eqv_i, ix0_t, ix1_t, ix2_t, q_none_tuple, q_none_str, q_none_int, q_none_bool, q_none_list, q_none_dict, q_bool_tuple, q_bool_str, q_bool_int, q_bool_bool, q_bool_list, q_bool_dict, q_int_tuple, q_int_str, q_int_int, q_int_bool, q_int_list, q_int_dict, q_str_tuple, q_str_str, q_str_int, q_str_bool, q_str_list, q_str_dict, q_list_tuple, q_list_str, q_list_int, q_list_bool, q_list_list, q_list_dict, q_tuple_tuple, q_tuple_str, q_tuple_int, q_tuple_bool, q_tuple_list, q_tuple_dict, q_dict_tuple, q_dict_str, q_dict_int, q_dict_bool, q_dict_list, q_dict_dict, Option.map_some, Option.bind_some, Out.bind_ok, Out.bind_no, List.getElem?_cons_zero, List.getElem?_cons_succ, if_true, if_false, Bool.false_eq_true, Bool.true_eq_false, Bool.not_false, Bool.not_true])
theorem forL_inv {f : PyData → Dv.Env → Store → Fl} (I : Nat → Dv.Env → Store → Prop) : ∀ (xs : List PyData) (i : Nat) (ρ : Dv.Env) (μ : Store), I i ρ μ → (∀ j x, xs[j]? = some x → ∀ ρ μ, I (i + j) ρ μ → ∃ ρ' μ', f x ρ μ = .nx ρ' μ' ∧ I (i + j + 1) ρ' μ') → ∃ ρ' μ', forL f xs ρ μ = .nx ρ' μ' ∧ I (i + xs.length) ρ' μ'
  | [], i, ρ, μ, h, _ => ⟨ρ, μ, rfl, h⟩
  | x :: xs, i, ρ, μ, h, st => by
    obtain ⟨ρ1, μ1, e1, h1⟩ := st 0 x rfl ρ μ h
    obtain ⟨ρ2, μ2, e2, h2⟩ := forL_inv I xs (i + 1) ρ1 μ1 h1 (fun j y hy ρ μ hI => by
      have e : i + 1 + j = i + (j + 1) := by omega
      rw [e] at hI
      obtain ⟨ρ', μ', a, b⟩ := st (j + 1) y (by simpa using hy) ρ μ hI
      exact ⟨ρ', μ', a, by rw [e]; exact b⟩)
    have e : i + (x :: xs).length = i + 1 + xs.length := by rw [List.length_cons]; omega
    refine ⟨ρ2, μ2, ?_, by rw [e]; exact h2⟩
    unfold forL
    rw [e1]
    exact e2
/-- the items' order does not matter -/
theorem forL_all {f : PyData → Dv.Env → Store → Fl} (I : Dv.Env → Store → Prop) (xs : List PyData) (ρ : Dv.Env) (μ : Store) (h : I ρ μ) (st : ∀ x ∈ xs, ∀ ρ μ, I ρ μ → ∃ ρ' μ', f x ρ μ = .nx ρ' μ' ∧ I ρ' μ') : ∃ ρ' μ', forL f xs ρ μ = .nx ρ' μ' ∧ I ρ' μ' :=
  forL_inv (fun _ => I) xs 0 ρ μ h fun j x hx ρ μ hI => st x (List.mem_of_getElem? hx) ρ μ hI
theorem lg {i : Int} (h : i.natAbs < 2 ^ 1000) : i.natAbs.log2 < 1000 := by
  by_cases e : i.natAbs = 0
  · rw [e]; decide
  · exact (Nat.log2_lt e).mpr h
theorem mul_i {i j : Int} (hi : i.natAbs < 2 ^ 1000) (hj : j.natAbs < 2 ^ 1000) : binD .mul (.int i) (.int j) = some (.int (i * j)) := by
  have := lg hi
  have := lg hj
  exact if_pos (by omega)
theorem up {n e : Nat} (h : n < 2 ^ e) (he : e ≤ 1000) : n < 2 ^ 1000 := Nat.lt_of_lt_of_le h (Nat.pow_le_pow_right (by decide) he)
theorem add_i (i j : Int) : binD .add (.int i) (.int j) = some (.int (i + j)) := rfl
theorem sub_i (i j : Int) : binD .sub (.int i) (.int j) = some (.int (i - j)) := rfl
theorem mod_i {i j : Int} (h : 0 < j) : binD .mod (.int i) (.int j) = some (.int (i % j)) := if_pos h
theorem div_i {i j : Int} (h : 0 < j ∧ j.natAbs.log2 < 9000) : binD .fdiv (.int i) (.int j) = some (.int (i / j)) := if_pos h
theorem int_i (m : Bool) (i : Int) {μ : Store} : bltW m .int [.dat (.int i)] μ = .ok (.dat (.int i)) μ := rfl
def mMixed : List S := [.asg (.v 2) (.bin false .mod (.blt false .int (.cons (.bin false .add (.bin false .add (.bin false .mul (.bin false .mod (.blt false .int (.cons (.var 0) .nil)) (.con (.int (2147483647)))) (.con (.int (48271)))) (.bin false .mul (.var 1) (.con (.int (69621))))) (.con (.int (1048583)))) .nil)) (.con (.int (2147483629)))), .asg (.v 2) (.bin false .mod (.blt false .int (.cons (.bin false .mul (.var 2) (.var 2)) .nil)) (.con (.int (2147483587)))), .ret (.bin false .mod (.blt false .int (.cons (.bin false .mul (.var 2) (.bin false .add (.var 2) (.con (.int (2))))) .nil)) (.con (.int (2147483579))))]
def mixI (c k : Int) : Int :=
  let a := (c % 2147483647 * 48271 + k * 69621 + 1048583) % 2147483629
  let b := a * a % 2147483587
  b * (b + 2) % 2147483579
theorem mix_lo (c k : Int) : 0 ≤ mixI c k ∧ mixI c k < 2147483579 := ⟨Int.emod_nonneg _ (by decide), Int.emod_lt_of_pos _ (by decide)⟩
def sMixed : List W → Store → Out W := sp2 fun d e => match d, e with
  | .int c, .int k => if k.natAbs < 2 ^ 64 then some (.int (mixI c k)) else none
  | _, _ => none
theorem le_mixed {F : Specs} {fu : Nat} : Le sMixed (runD F fu 3 mMixed false) := le_sp2 fun d n e μ h => by
  split at h
  · rename_i c k
    split at h
    · rename_i hk
      cases h
      unfold runD mMixed
      have hs : startE 3 [W.dat (.int c), W.dat (.int k)] = [some (.dat (.int c)), some (.dat (.int k)), none] := rfl
      rw [hs]
      have m1 := Int.emod_nonneg c (show (2147483647 : Int) ≠ 0 by decide)
      have m2 := Int.emod_lt_of_pos c (show (0 : Int) < 2147483647 by decide)
      have b1 : (c % 2147483647).natAbs < 2 ^ 1000 := up (e := 40) (by omega) (by decide)
      have b2 : k.natAbs < 2 ^ 1000 := up hk (by decide)
      have c1 : (48271 : Int).natAbs < 2 ^ 1000 := by decide +kernel
      have c2 : (69621 : Int).natAbs < 2 ^ 1000 := by decide +kernel
      walk_at "dv"
      simp only [int_i]
      walk_at "dv"
      simp only [mod_i (show (0 : Int) < 2147483647 by decide)]
      walk_at "dv"
      simp only [mul_i b1 c1, mul_i b2 c2]
      walk_at "dv"
      simp only [add_i]
      walk_at "dv"
      simp only [add_i]
      walk_at "dv"
      simp only [int_i]
      walk_at "dv"
      simp only [mod_i (show (0 : Int) < 2147483629 by decide)]
      walk_at "dv"
      generalize ha : (c % 2147483647 * 48271 + k * 69621 + 1048583) % 2147483629 = a
      have a1 : 0 ≤ a := by rw [← ha]; exact Int.emod_nonneg _ (by decide)
      have a2 : a < 2147483629 := by rw [← ha]; exact Int.emod_lt_of_pos _ (by decide)
      have b3 : a.natAbs < 2 ^ 1000 := up (e := 40) (by omega) (by decide)
      simp only [mul_i b3 b3]
      walk_at "dv"
      simp only [int_i]
      walk_at "dv"
      simp only [mod_i (show (0 : Int) < 2147483587 by decide)]
      walk_at "dv"
      generalize hb : a * a % 2147483587 = b
      have e1 : 0 ≤ b := by rw [← hb]; exact Int.emod_nonneg _ (by decide)
      have e2 : b < 2147483587 := by rw [← hb]; exact Int.emod_lt_of_pos _ (by decide)
      have b4 : b.natAbs < 2 ^ 1000 := up (e := 40) (by omega) (by decide)
      have b5 : (b + 2).natAbs < 2 ^ 1000 := up (e := 40) (by omega) (by decide)
      simp only [add_i]
      walk_at "dv"
      simp only [mul_i b4 b5]
      walk_at "dv"
      simp only [int_i]
      walk_at "dv"
      simp only [mod_i (show (0 : Int) < 2147483579 by decide)]
      walk_at "dv"
      simp only [mixI, ha, hb]
    · cases h
  · cases h
/-! ### digits -/
def mTake : List S := [.asg (.v 2) (.bin false .mod (.blt false .int (.cons (.idx (.var 0) (.con (.int (0)))) .nil)) (.var 1)), .put (.var 0) (.con (.int (0))) (.bin false .fdiv (.idx (.var 0) (.con (.int (0)))) (.var 1)), .ret (.var 2)]
theorem x_put {F : Specs} {fu : Nat} {ρ : Dv.Env} {μ : Store} (o i e : E) : Dv.exec F fu (.put o i e) ρ μ = (ev F e ρ μ).fl ρ fun w μ1 => (ev F o ρ μ1).fl ρ fun x μ2 => (ev F i ρ μ2).fl ρ fun y μ3 => putW x y w ρ μ3 := rfl
theorem rdw_r {μ : Store} {n : Nat} {ds : List PyData} (h : μ[n]? = some (.lst ds)) : rdw μ (.ref n) = some (.list ds) := by
  show rd μ (.ref n) = _
  simp only [rd, h]
theorem rd_r {μ : Store} {n : Nat} {ds : List PyData} (h : μ[n]? = some (.lst ds)) : rd μ (.ref n) = some (.list ds) := by
  simp only [rd, h]
theorem ix_l (xs : List PyData) (i : Nat) : idxD (.list xs) (.int (i : Nat)) = xs[i]? := ixD_n xs i
theorem ix0_l (a : PyData) (r : List PyData) : idxD (.list (a :: r)) (.int 0) = some a := ixD_n (a :: r) 0
/-- own[0] holds z -/
def Own (μ : Store) (n : Nat) (z : Int) : Prop := μ[n]? = some (.lst [.int z])
theorem own_lt {μ : Store} {n : Nat} {z : Int} (h : Own μ n z) : n < μ.length := (List.getElem?_eq_some_iff.mp h).1
theorem own_set {μ : Store} {n : Nat} {z : Int} (h : Own μ n z) (y : Int) : Own (μ.set n (.lst [.int y])) n y := List.getElem?_set_self (own_lt h)
def sTake : List W → Store → Out W := fun ws μ => match ws with
  | [.ref n, .dat (.int o)] => match μ[n]? with
    | some (.lst [.int z]) => if 0 < o ∧ o < 2 ^ 31 then .ok (.dat (.int (z % o))) (μ.set n (.lst [.int (z / o)])) else .no
    | _ => .no
  | _ => .no
theorem le_take {F : Specs} {fu : Nat} : Le sTake (runD F fu 3 mTake false) := fun ws μ => by
  unfold sTake
  split
  · rename_i n o
    split
    · rename_i z hz
      split
      · rename_i ho
        refine .inr ?_
        unfold runD mTake
        have hs : startE 3 [W.ref n, W.dat (.int o)] = [some (.ref n), some (.dat (.int o)), none] := rfl
        rw [hs]
        have hlog : o.natAbs.log2 < 9000 := by
          have := lg (i := o) (up (e := 31) (by omega) (by decide))
          omega
        walk_at "dv"
        simp only [rdw_r hz, ix0_l]
        walk_at "dv"
        simp only [int_i]
        walk_at "dv"
        simp only [mod_i ho.1]
        walk_at "dv"
        simp only [x_put]
        walk_at "dv"
        simp only [rdw_r hz, ix0_l]
        walk_at "dv"
        simp only [div_i ⟨ho.1, hlog⟩]
        walk_at "dv"
        have hp : ∀ ρ, putW (.ref n) (.dat (.int 0)) (.dat (.int (z / o))) ρ μ = .nx ρ (μ.set n (.lst [.int (z / o)])) := fun ρ => by
          unfold putW
          simp only [dats_d, dats_0, Option.map_some, hz]
          rfl
        simp only [hp]
        walk_at "dv"
        show Out.ok _ ((μ.set n (.lst [.int (z / o)])).take μ.length) = _
        rw [List.take_of_length_le (by simp)]
      · exact .inl rfl
    · exact .inl rfl
  · exact .inl rfl
theorem take_ok {μ : Store} {n : Nat} {z o : Int} (h : Own μ n z) (h1 : 0 < o) (h2 : o < 2 ^ 31) : sTake [.ref n, .dat (.int o)] μ = .ok (.dat (.int (z % o))) (μ.set n (.lst [.int (z / o)])) := by
  unfold sTake
  have h : μ[n]? = some (.lst [.int z]) := h
  simp only [h]
  exact if_pos ⟨h1, h2⟩
end Pl

/-! Pl9: the script's cells. -/
namespace Pl
open PySem hiding Env exec execs start
open Dv
local macro_rules | `(tactic| walk_at "dv") => `(tactic| simp only [mkL_f1, mkL_f2, mkL_t1, mkL_t2, c_no, c_so, lcT_s, asg_v, asg_2, asg_3, wipe_0, wipe_s, List.set_cons_zero, List.set_cons_succ, cut_1, xs_nil, xs_cons, x_ite, x_ret, x_asg, x_expr, x_pass, x_par, seq_rt, seq_nx, fl_ok, oFl_s, setsL_0, setsL_s, out_rt, out_nx, close_d, e_var, e_con, e_tup, e_lst, e_bin, e_neg, e_cmp, e_chn, e_not, e_and, e_or, e_ite, e_idx, e_slc, e_cal, e_cak, e_blt, e_mth, e_isi, t_not, t_and, t_or, t_val, s_nil, s_cons, o_no, o_so, i_seq, i_zip, datOf_d, seqD_l, seqD_t, seqD_s, truth_b, rd_d, rdw_d, lift_s, lift_n, nm_f, nm_t, fin_i, fin_b, fin_s, fin_t, fin_n, fin_l, fin_d, finO_s, finO_n, dats_d, dats_0, rds_d, rds_0, bltW_len, blt_all, len_t, len_l, len_d, le_i, lt_i, ge_i, gt_i, eq_i, ne_i, eqv_i, ix0_t, ix1_t, ix2_t, q_none_tuple, q_none_str, q_none_int, q_none_bool, q_none_list, q_none_dict, q_bool_tuple, q_bool_str, q_bool_int, q_bool_bool, q_bool_list, q_bool_dict, q_int_tuple, q_int_str, q_int_int, q_int_bool, q_int_list, q_int_dict, q_str_tuple, q_str_str, q_str_int, q_str_bool, q_str_list, q_str_dict, q_list_tuple, q_list_str, q_list_int, q_list_bool, q_list_list, q_list_dict, q_tuple_tuple, q_tuple_str, q_tuple_int, q_tuple_bool, q_tuple_list, q_tuple_dict, q_dict_tuple, q_dict_str, q_dict_int, q_dict_bool, q_dict_list, q_dict_dict, Option.map_some, Option.bind_some, Out.bind_ok, Out.bind_no, List.getElem?_cons_zero, List.getElem?_cons_succ, if_true, if_false, Bool.false_eq_true, Bool.true_eq_false, Bool.not_false, Bool.not_true])
local macro_rules | `(tactic| walk_at "dvd") => `(tactic| simp (decide := true) only [List.length_cons, List.length_nil, mkL_f1, mkL_f2, mkL_t1, mkL_t2, c_no, c_so, lcT_s, asg_v, asg_2, asg_3, wipe_0, wipe_s, List.set_cons_zero, List.set_cons_succ, cut_1, xs_nil, xs_cons, x_ite, x_ret, x_asg, x_expr, x_pass, x_par, seq_rt, seq_nx, fl_ok, oFl_s, setsL_0, setsL_s, out_rt, out_nx, close_d, e_var, e_con, e_tup, e_lst, e_bin, e_neg, e_cmp, e_chn, e_not, e_and, e_or, e_ite, e_idx, e_slc, e_cal, e_cak, e_blt, e_mth, e_isi, t_not, t_and, t_or, t_val, s_nil, s_cons, o_no, o_so, i_seq, i_zip, datOf_d, seqD_l, seqD_t, seqD_s, truth_b, rd_d, rdw_d, lift_s, lift_n, nm_f, nm_t, fin_i, fin_b, fin_s, fin_t, fin_n, fin_l, fin_d, finO_s, finO_n, dats_d, dats_0, rds_d, rds_0, bltW_len, blt_all, len_t, len_l, len_d, le_i, lt_i, ge_i, gt_i, eq_i, ne_i, eqv_i, ix0_t, ix1_t, ix2_t, q_none_tuple, q_none_str, q_none_int, q_none_bool, q_none_list, q_none_dict, q_bool_tuple, q_bool_str, q_bool_int, q_bool_bool, q_bool_list, q_bool_dict, q_int_tuple, q_int_str, q_int_int, q_int_bool, q_int_list, q_int_dict, q_str_tuple, q_str_str, q_str_int, q_str_bool, q_str_list, q_str_dict, q_list_tuple, q_list_str, q_list_int, q_list_bool, q_list_list, q_list_dict, q_tuple_tuple, q_tuple_str, q_tuple_int, q_tuple_bool, q_tuple_list, q_tuple_dict, q_dict_tuple, q_dict_str, q_dict_int, q_dict_bool, q_dict_list, q_dict_dict, Option.map_some, Option.bind_some, Out.bind_ok, Out.bind_no, List.getElem?_cons_zero, List.getElem?_cons_succ, if_true, if_false, Bool.false_eq_true, Bool.true_eq_false, Bool.not_false, Bool.not_true])
def bCell : List S := [.asg (.v 3) (.bin false .add (.bin false .mul (.var 3) (.con (.int (2147483579)))) (.cal false "_law_mixed" (.cons (.var 2) (.cons (.bin false .add (.bin false .add (.bin false .mul (.con (.int (7))) (.var 1)) (.bin false .mul (.con (.int (100))) (.var 4))) (.bin false .mul (.var 4) (.var 4))) .nil))))]
def mCell : List S := [.asg (.v 2) (.con (.int (0))), .ite (.val (.cmp .lt (.var 1) (.blt false .len (.cons (.var 0) .nil)))) [.asg (.v 2) (.idx (.var 0) (.var 1))] [], .ite (.val (.cmp .ge (.var 2) (.bin false .pow (.con (.int (10))) (.con (.int (18)))))) [.ret (.bin false .mod (.blt false .int (.cons (.bin false .sub (.var 2) (.bin false .pow (.con (.int (10))) (.con (.int (18))))) .nil)) (.bin false .mul (.bin false .mul (.bin false .mul (.bin false .pow (.con (.int (10))) (.con (.int (60)))) (.bin false .pow (.con (.int (10))) (.con (.int (60))))) (.bin false .pow (.con (.int (10))) (.con (.int (60))))) (.bin false .pow (.con (.int (10))) (.con (.int (60))))))] [], .asg (.v 3) (.con (.int (0))), .for (.v 4) (.rng1 (.con (.int (24)))) bCell, .ret (.var 3)]
theorem i_rng1 {F : Specs} {ρ : Dv.Env} {μ : Store} (a : E) : evi F (.rng1 a) ρ μ = (ev F a ρ μ).bind fun w μ1 => match w with
    | .dat (.int j) => if -(2 ^ 62) ≤ j ∧ j < 2 ^ 62 then .ok ((List.range j.toNat).map fun k => .int (0 + (k : Nat))) μ1 else .no
    | _ => .no := rfl
theorem pow_i {i j : Int} (h : 0 ≤ j ∧ j ≤ 1000000 ∧ i.natAbs < 2 ^ 64) : binD .pow (.int i) (.int j) = some (.int (i ^ j.toNat)) := if_pos h
def rngL (n : Nat) : List PyData := (List.range n).map fun k => .int (0 + (k : Nat))
theorem rng_at {n j : Nat} {x : PyData} (h : (rngL n)[j]? = some x) : j < n ∧ x = .int (j : Nat) := by
  unfold rngL at h
  rw [List.getElem?_map] at h
  obtain ⟨c, hc, rfl⟩ := Option.map_eq_some_iff.mp h
  obtain ⟨h1, h2⟩ := List.getElem?_eq_some_iff.mp hc
  rw [List.getElem_range] at h2
  rw [List.length_range] at h1
  subst h2
  exact ⟨h1, by rw [Int.zero_add]⟩
theorem rng_len (n : Nat) : (rngL n).length = n := by simp [rngL]
theorem len_scr (m : Bool) (ns : List Int) {μ : Store} : bltW m .len [.scr ns] μ = .ok (.dat (.int (ns.length : Nat))) μ := rfl
theorem rdw_scr (ns : List Int) {μ : Store} : rdw μ (.scr ns) = some (.list (ns.map .int)) := rfl
theorem cell_step {F : Specs} {fu : Nat} (h1 : F "_law_mixed" = sMixed) {ns : List Int} {k c f : Int} {j : Nat} {z : Option W} {μ : Store} (hk : 0 ≤ k ∧ k < 2 ^ 20) (hj : j < 24) (h0 : 0 ≤ f) (h2 : f < 2 ^ (32 * j)) :
    ∃ f' : Int, Dv.execs F fu bCell [some (.scr ns), some (.dat (.int k)), some (.dat (.int c)), some (.dat (.int f)), some (.dat (.int (j : Nat)))] μ = .nx [some (.scr ns), some (.dat (.int k)), some (.dat (.int c)), some (.dat (.int f')), some (.dat (.int (j : Nat)))] μ ∧ 0 ≤ f' ∧ f' < 2 ^ (32 * (j + 1)) := by
  have hM : (2147483579 : Int).natAbs < 2 ^ 1000 := by decide +kernel
  have h7 : (7 : Int).natAbs < 2 ^ 1000 := by decide +kernel
  have h100 : (100 : Int).natAbs < 2 ^ 1000 := by decide +kernel
  have hkk : k.natAbs < 2 ^ 1000 := up (e := 30) (by omega) (by decide)
  have hjj : ((j : Nat) : Int).natAbs < 2 ^ 1000 := up (e := 30) (by omega) (by decide)
  have hf : f.natAbs < 2 ^ 1000 := by
    have e : (2 : Int) ^ (32 * j) = ((2 ^ (32 * j) : Nat) : Int) := by simp
    rw [e] at h2
    exact up (e := 32 * j) (by omega) (by omega)
  have hjk : ((j : Nat) : Int) * (j : Nat) ≤ 576 := by
    have : j * j ≤ 24 * 24 := Nat.mul_le_mul (by omega) (by omega)
    have e : ((j : Nat) : Int) * (j : Nat) = ((j * j : Nat) : Int) := by simp
    rw [e]; omega
  have hj0 : 0 ≤ ((j : Nat) : Int) * (j : Nat) := Int.mul_nonneg (Int.natCast_nonneg _) (Int.natCast_nonneg _)
  have hm : (7 * k + 100 * ((j : Nat) : Int) + ((j : Nat) : Int) * (j : Nat)).natAbs < 2 ^ 64 := by omega
  obtain ⟨m1, m2⟩ := mix_lo c (7 * k + 100 * ((j : Nat) : Int) + ((j : Nat) : Int) * (j : Nat))
  refine ⟨f * 2147483579 + mixI c (7 * k + 100 * ((j : Nat) : Int) + ((j : Nat) : Int) * (j : Nat)), ?_, by omega, ?_⟩
  · unfold bCell
    walk_at "dv"
    simp only [mul_i hf hM, mul_i h7 hkk, mul_i h100 hjj, mul_i hjj hjj]
    walk_at "dv"
    simp only [add_i]
    walk_at "dv"
    simp only [add_i]
    walk_at "dv"
    simp only [h1, sMixed, sp2_d, if_pos hm]
    walk_at "dv"
    simp only [add_i]
    walk_at "dv"
  · have e1 : f * 2147483579 + mixI c (7 * k + 100 * ((j : Nat) : Int) + ((j : Nat) : Int) * (j : Nat)) < (f + 1) * 2 ^ 32 := by omega
    have e2 : (f + 1) * 2 ^ 32 ≤ 2 ^ (32 * j) * 2 ^ 32 := Int.mul_le_mul_of_nonneg_right (by omega) (by decide)
    have e3 : (2 : Int) ^ (32 * (j + 1)) = 2 ^ (32 * j) * 2 ^ 32 := by rw [Nat.mul_add, Int.pow_add]
    rw [e3]
    omega
theorem run_cell {F : Specs} {fu : Nat} (h1 : F "_law_mixed" = sMixed) (ns : List Int) (k : Nat) (hk : k < 2 ^ 20) (μ : Store) : ∃ z : Int, runD F fu 5 mCell false [.scr ns, .dat (.int (k : Nat))] μ = .ok (.dat (.int z)) μ := by
  unfold runD mCell
  have hs : startE 5 [W.scr ns, W.dat (.int (k : Nat))] = [some (.scr ns), some (.dat (.int (k : Nat))), none, none, none] := rfl
  rw [hs]
  have tail : ∀ c : Int, ∃ z : Int, outF false μ.length (Dv.execs F fu (mCell.drop 2) [some (.scr ns), some (.dat (.int (k : Nat))), some (.dat (.int c)), none, none] μ) = .ok (.dat (.int z)) μ := fun c => by
    have p18 : binD .pow (.int 10) (.int 18) = some (.int (10 ^ 18)) := pow_i (by decide)
    have p60 : binD .pow (.int 10) (.int 60) = some (.int (10 ^ 60)) := pow_i (by decide)
    unfold mCell
    simp only [List.drop_succ_cons, List.drop_zero]
    walk_at "dv"
    simp only [p18]
    walk_at "dv"
    by_cases hc : (10 ^ 18 : Int) ≤ c
    · simp only [decide_eq_true hc]
      walk_at "dv"
      simp only [p18, p60]
      walk_at "dv"
      simp only [sub_i, mul_i (show ((10 : Int) ^ 60).natAbs < 2 ^ 1000 by decide +kernel) (show ((10 : Int) ^ 60).natAbs < 2 ^ 1000 by decide +kernel)]
      walk_at "dv"
      simp only [mul_i (show ((10 : Int) ^ 60 * 10 ^ 60).natAbs < 2 ^ 1000 by decide +kernel) (show ((10 : Int) ^ 60).natAbs < 2 ^ 1000 by decide +kernel)]
      walk_at "dv"
      simp only [mul_i (show ((10 : Int) ^ 60 * 10 ^ 60 * 10 ^ 60).natAbs < 2 ^ 1000 by decide +kernel) (show ((10 : Int) ^ 60).natAbs < 2 ^ 1000 by decide +kernel)]
      walk_at "dv"
      simp only [int_i]
      walk_at "dv"
      simp only [mod_i (show (0 : Int) < 10 ^ 60 * 10 ^ 60 * 10 ^ 60 * 10 ^ 60 by decide +kernel)]
      walk_at "dv"
      exact ⟨_, rfl⟩
    · simp only [decide_eq_false hc]
      walk_at "dv"
      simp only [x_for, i_rng1]
      walk_at "dv"
      rw [if_pos (by decide)]
      walk_at "dv"
      obtain ⟨ρ', μ', e, f, z, hμ, hρ, _⟩ := forL_inv (f := turnF F fu (.v 4) bCell) (fun i ρ μ' => ∃ (f : Int) (z : Option W), μ' = μ ∧ ρ = [some (.scr ns), some (.dat (.int (k : Nat))), some (.dat (.int c)), some (.dat (.int f)), z] ∧ 0 ≤ f ∧ f < 2 ^ (32 * i)) (rngL 24) 0 [some (.scr ns), some (.dat (.int (k : Nat))), some (.dat (.int c)), some (.dat (.int 0)), none] μ ⟨0, none, rfl, rfl, by decide, by decide⟩ (fun j x hx ρ μ' hI => by
        obtain ⟨f, z, rfl, rfl, f1, f2⟩ := hI
        obtain ⟨hj, rfl⟩ := rng_at hx
        rw [Nat.zero_add] at f2 ⊢
        obtain ⟨f', e, g1, g2⟩ := cell_step (F := F) (fu := fu) h1 (ns := ns) (c := c) (μ := μ') (z := z) (k := k) ⟨by omega, by omega⟩ hj f1 f2
        refine ⟨_, _, ?_, f', some (.dat (.int (j : Nat))), rfl, rfl, g1, g2⟩
        unfold turnF
        walk_at "dv"
        exact e)
      rw [hμ, hρ] at e
      have e : forL (turnF F fu (.v 4) bCell) ((List.range (Int.toNat 24)).map fun k => .int (0 + (k : Nat))) [some (.scr ns), some (.dat (.int (k : Nat))), some (.dat (.int c)), some (.dat (.int 0)), none] μ = _ := e
      rw [e]
      walk_at "dv"
      exact ⟨_, rfl⟩
  have tail0 := tail 0
  unfold mCell at tail0
  simp only [List.drop_succ_cons, List.drop_zero] at tail0
  walk_at "dv"
  simp only [len_scr]
  walk_at "dv"
  by_cases hl : ((k : Nat) : Int) < (ns.length : Nat)
  · have hk' : k < ns.length := by omega
    have e : (ns.map PyData.int)[k]? = some (.int ns[k]) := by simp [hk']
    have tl := tail ns[k]
    unfold mCell at tl
    simp only [List.drop_succ_cons, List.drop_zero] at tl
    simp only [decide_eq_true hl]
    walk_at "dv"
    simp only [rdw_scr, ix_l, e]
    walk_at "dv"
    simp only [xs_cons, xs_nil] at tl
    exact tl
  · simp only [decide_eq_false hl]
    walk_at "dv"
    simp only [xs_cons, xs_nil] at tail0
    exact tail0
end Pl

/-! Pl10: fields made of digits. -/
namespace Pl
open PySem hiding Env exec execs start
open Dv
local macro_rules | `(tactic| walk_at "dv") => `(tactic| simp only [mkL_f1, mkL_f2, mkL_t1, mkL_t2, c_no, c_so, lcT_s, asg_v, asg_2, asg_3, wipe_0, wipe_s, List.set_cons_zero, List.set_cons_succ, cut_1, xs_nil, xs_cons, x_ite, x_ret, x_asg, x_expr, x_pass, x_par, seq_rt, seq_nx, fl_ok, oFl_s, setsL_0, setsL_s, out_rt, out_nx, close_d, e_var, e_con, e_tup, e_lst, e_bin, e_neg, e_cmp, e_chn, e_not, e_and, e_or, e_ite, e_idx, e_slc, e_cal, e_cak, e_blt, e_mth, e_isi, t_not, t_and, t_or, t_val, s_nil, s_cons, o_no, o_so, i_seq, i_zip, datOf_d, seqD_l, seqD_t, seqD_s, truth_b, rd_d, rdw_d, lift_s, lift_n, nm_f, nm_t, fin_i, fin_b, fin_s, fin_t, fin_n, fin_l, fin_d, finO_s, finO_n, dats_d, dats_0, rds_d, rds_0, bltW_len, blt_all, len_t, len_l, len_d, le_i, lt_i, ge_i, gt_i, eq_i, ne_i, eqv_i, ix0_t, ix1_t, ix2_t, q_none_tuple, q_none_str, q_none_int, q_none_bool, q_none_list, q_none_dict, q_bool_tuple, q_bool_str, q_bool_int, q_bool_bool, q_bool_list, q_bool_dict, q_int_tuple, q_int_str, q_int_int, q_int_bool, q_int_list, q_int_dict, q_str_tuple, q_str_str, q_str_int, q_str_bool, q_str_list, q_str_dict, q_list_tuple, q_list_str, q_list_int, q_list_bool, q_list_list, q_list_dict, q_tuple_tuple, q_tuple_str, q_tuple_int, q_tuple_bool, q_tuple_list, q_tuple_dict, q_dict_tuple, q_dict_str, q_dict_int, q_dict_bool, q_dict_list, q_dict_dict, Option.map_some, Option.bind_some, Out.bind_ok, Out.bind_no, List.getElem?_cons_zero, List.getElem?_cons_succ, if_true, if_false, Bool.false_eq_true, Bool.true_eq_false, Bool.not_false, Bool.not_true])
local macro_rules | `(tactic| walk_at "dvd") => `(tactic| simp (decide := true) only [List.length_cons, List.length_nil, mkL_f1, mkL_f2, mkL_t1, mkL_t2, c_no, c_so, lcT_s, asg_v, asg_2, asg_3, wipe_0, wipe_s, List.set_cons_zero, List.set_cons_succ, cut_1, xs_nil, xs_cons, x_ite, x_ret, x_asg, x_expr, x_pass, x_par, seq_rt, seq_nx, fl_ok, oFl_s, setsL_0, setsL_s, out_rt, out_nx, close_d, e_var, e_con, e_tup, e_lst, e_bin, e_neg, e_cmp, e_chn, e_not, e_and, e_or, e_ite, e_idx, e_slc, e_cal, e_cak, e_blt, e_mth, e_isi, t_not, t_and, t_or, t_val, s_nil, s_cons, o_no, o_so, i_seq, i_zip, datOf_d, seqD_l, seqD_t, seqD_s, truth_b, rd_d, rdw_d, lift_s, lift_n, nm_f, nm_t, fin_i, fin_b, fin_s, fin_t, fin_n, fin_l, fin_d, finO_s, finO_n, dats_d, dats_0, rds_d, rds_0, bltW_len, blt_all, len_t, len_l, len_d, le_i, lt_i, ge_i, gt_i, eq_i, ne_i, eqv_i, ix0_t, ix1_t, ix2_t, q_none_tuple, q_none_str, q_none_int, q_none_bool, q_none_list, q_none_dict, q_bool_tuple, q_bool_str, q_bool_int, q_bool_bool, q_bool_list, q_bool_dict, q_int_tuple, q_int_str, q_int_int, q_int_bool, q_int_list, q_int_dict, q_str_tuple, q_str_str, q_str_int, q_str_bool, q_str_list, q_str_dict, q_list_tuple, q_list_str, q_list_int, q_list_bool, q_list_list, q_list_dict, q_tuple_tuple, q_tuple_str, q_tuple_int, q_tuple_bool, q_tuple_list, q_tuple_dict, q_dict_tuple, q_dict_str, q_dict_int, q_dict_bool, q_dict_list, q_dict_dict, Option.map_some, Option.bind_some, Out.bind_ok, Out.bind_no, List.getElem?_cons_zero, List.getElem?_cons_succ, if_true, if_false, Bool.false_eq_true, Bool.true_eq_false, Bool.not_false, Bool.not_true])
def bFields : List S := [.asg (.v 4) (.cal false "_law_take" (.cons (.var 0) (.cons (.con (.int (5))) .nil))), .ite (.val (.cmp .lt (.var 4) (.con (.int (2))))) [.expr (.mth false .append (.var 2) (.cons (.tup (.cons (.var 3) (.cons (.tup (.cons (.cal false "_law_take" (.cons (.var 0) (.cons (.var 1) .nil))) .nil)) .nil))) .nil))] [.ite (.val (.cmp .eq (.var 4) (.con (.int (2))))) [.expr (.mth false .append (.var 2) (.cons (.tup (.cons (.var 3) (.cons (.idx (.lst false (.cons (.con (.int (0))) (.cons (.con (.int (1))) (.cons (.bin false .sub (.con (.int (0))) (.con (.int (1)))) (.cons (.con (.int (7))) (.cons (.con (.int (999999999))) .nil)))))) (.cal false "_law_take" (.cons (.var 0) (.cons (.con (.int (5))) .nil)))) .nil))) .nil))] []]]
def eWords4 : E :=  (.lst false (.cons (.con (.str "a")) (.cons (.con (.str "ab")) (.cons (.con (.str "longname")) (.cons (.con (.str "x")) .nil)))))
def mFields : List S := [.asg (.v 2) (.lst true .nil), .for (.v 3) (.seq eWords4) bFields, .ret (.blt false .tuple (.cons (.var 2) .nil))]
/-- a store with own[0] = z and one more list -/
def T (μ : Store) (n : Nat) (z : Int) (acc : List PyData) : Store := μ.set n (.lst [.int z]) ++ [.lst acc]
section
variable {μ : Store} {n : Nat} {z y : Int} {acc bcc : List PyData}
theorem T_own (h : n < μ.length) : (T μ n z acc)[n]? = some (.lst [.int z]) := by
  unfold T
  rw [List.getElem?_append_left (by simpa using h), List.getElem?_set_self h]
theorem T_acc : (T μ n z acc)[μ.length]? = some (.lst acc) := by
  unfold T
  rw [List.getElem?_append_right (by simp)]
  simp
theorem T_set1 (h : n < μ.length) : (T μ n z acc).set n (.lst [.int y]) = T μ n y acc := by
  unfold T
  rw [List.set_append_left _ _ (by simpa using h), List.set_set]
theorem T_set2 : (T μ n z acc).set μ.length (.lst bcc) = T μ n z bcc := by
  unfold T
  rw [List.set_append_right _ _ (by simp)]
  simp
theorem T_take : (T μ n z acc).take μ.length = μ.set n (.lst [.int z]) := by
  unfold T
  rw [List.take_left' (by simp)]
theorem T_len : (T μ n z acc).length = μ.length + 1 := by simp [T]
theorem T_start (h : Own μ n z) : μ ++ [.lst acc] = T μ n z acc := by
  unfold T
  have h : μ[n]? = some (.lst [.int z]) := h
  obtain ⟨hn, he⟩ := List.getElem?_eq_some_iff.mp h
  rw [← he, List.set_getElem_self]
end
theorem append_ok {μ : Store} {r : Nat} {ds : List PyData} {d : PyData} (m : Bool) (h : μ[r]? = some (.lst ds)) (hl : ds.length < sizeLine) : mthPre .append (.ref r) μ = true ∧ mthW m .append (.ref r) [.dat d] μ = .ok (.dat .none) (μ.set r (.lst (ds ++ [d]))) := by
  refine ⟨?_, ?_⟩
  · unfold mthPre
    rw [rd_r h]
  · show mAppend (.ref r) [.dat d] μ = _
    unfold mAppend
    simp only [dats_d, dats_0, Option.map_some, h, if_pos hl]
/-- words in ascending order -/
def AscW (ws : List Str) : Prop := ws.Pairwise fun a b => ltS a b = true
theorem asc_of : ∀ {xs : List PyData}, AscW (xs.map keyS) → ascD xs = true
  | [], _ => rfl
  | [a], _ => rfl
  | a :: b :: r, h => by
    have h' : AscW (keyS a :: keyS b :: r.map keyS) := h
    have h1 := List.pairwise_cons.mp h'
    have ih := asc_of (xs := b :: r) h1.2
    unfold ascD at ih ⊢
    simp only [List.drop_succ_cons, List.drop_zero, List.zipWith_cons_cons, List.all_cons, Bool.and_eq_true] at ih ⊢
    exact ⟨h1.1 _ List.mem_cons_self, ih⟩
def words4 : List Str := [Str.ofString "a", Str.ofString "ab", Str.ofString "longname", Str.ofString "x"]
theorem words4_asc : AscW words4 := by
  unfold AscW words4
  decide +kernel
theorem words4_ok : ∀ w ∈ words4, isWordD (.str w) = true := by decide +kernel
/-- fields as they grow -/
structure FldP (ws : List Str) (i n : Nat) (acc : List PyData) : Prop where
  rows : acc.all isRowD = true
  vals : acc.all (isValD n) = true
  keys : (acc.map keyS).Sublist (ws.take i)
theorem FldP.nil {ws : List Str} {n : Nat} : FldP ws 0 n [] := ⟨rfl, rfl, by simp⟩
theorem FldP.skip {ws : List Str} {i n : Nat} {acc : List PyData} (h : FldP ws i n acc) : FldP ws (i + 1) n acc :=
  ⟨h.rows, h.vals, h.keys.trans (List.take_sublist_take_left (Nat.le_succ i))⟩
theorem FldP.push {ws : List Str} {i n : Nat} {acc : List PyData} {w : Str} {v : PyData} (h : FldP ws i n acc) (hw : ws[i]? = some w) (ok : isWordD (.str w) = true) (hv : (isIntD v || isRefD v n) = true) : FldP ws (i + 1) n (acc ++ [.tuple [.str w, v]]) := by
  refine ⟨?_, ?_, ?_⟩
  · rw [List.all_append, h.rows]
    simp [isRowD, ok]
  · rw [List.all_append, h.vals]
    simp only [List.all_cons, List.all_nil, Bool.and_true, Bool.true_and]
    exact hv
  · obtain ⟨hi, he⟩ := List.getElem?_eq_some_iff.mp hw
    rw [List.map_append, List.take_succ, hw]
    exact h.keys.append (List.Sublist.refl _)
theorem FldP.asc {ws : List Str} {i n : Nat} {acc : List PyData} (h : FldP ws i n acc) (ha : AscW ws) : ascD acc = true :=
  asc_of ((ha.sublist (List.take_sublist i ws)).sublist h.keys)
theorem FldP.len {ws : List Str} {i n : Nat} {acc : List PyData} (h : FldP ws i n acc) : acc.length ≤ i := by
  have := h.keys.length_le
  rw [List.length_map, List.length_take] at this
  omega
def vals5 : List PyData := [.int 0, .int 1, .int (-1), .int 7, .int 999999999]
theorem vals5_ok : ∀ v ∈ vals5, isIntD v = true := by decide
theorem emod_bd (z : Int) {o : Int} (h : 0 < o) : 0 ≤ z % o ∧ z % o < o := ⟨Int.emod_nonneg _ (by omega), Int.emod_lt_of_pos _ h⟩
theorem pick_at {xs : List PyData} {i : Int} (h : 0 ≤ i) (hl : i < xs.length) : ∃ v, idxD (.list xs) (.int i) = some v ∧ v ∈ xs := by
  obtain ⟨j, rfl⟩ : ∃ j : Nat, i = j := ⟨i.toNat, by omega⟩
  have hj : j < xs.length := by omega
  exact ⟨xs[j], by rw [ix_l, List.getElem?_eq_getElem hj], List.getElem_mem hj⟩
theorem le31 : (5 : Int) < 2 ^ 31 := by decide
/-- one word's turn -/
theorem fields_turn {F : Specs} {fu : Nat} (h1 : F "_law_take" = sTake) {μ : Store} {n sz i : Nat} {z : Int} {acc : List PyData} {w : Str} {wy : Option W} (hn : n < μ.length) (hs : 0 < sz ∧ sz ≤ 1000) (ok : isWordD (.str w) = true) (hw : words4[i]? = some w) (hp : FldP words4 i sz acc) :
    ∃ (z' : Int) (acc' : List PyData) (wy' : Option W), Dv.execs F fu bFields [some (.ref n), some (.dat (.int (sz : Nat))), some (.ref μ.length), some (.dat (.str w)), wy] (T μ n z acc) = .nx [some (.ref n), some (.dat (.int (sz : Nat))), some (.ref μ.length), some (.dat (.str w)), wy'] (T μ n z' acc') ∧ FldP words4 (i + 1) sz acc' := by
  have own : ∀ z acc, Own (T μ n z acc) n z := fun z acc => T_own hn
  have hl : acc.length < sizeLine := by
    have := hp.len
    have hi := (List.getElem?_eq_some_iff.mp hw).1
    have : words4.length = 4 := rfl
    have := line30
    omega
  obtain ⟨b1, b2⟩ := emod_bd z (show (0 : Int) < 5 by decide)
  unfold bFields
  walk_at "dv"
  simp only [h1, take_ok (own z acc) (show (0 : Int) < 5 by decide) le31, T_set1 hn]
  walk_at "dv"
  by_cases c : z % 5 < 2
  · simp only [decide_eq_true c]
    walk_at "dv"
    rw [(append_ok (d := .none) false (T_acc (μ := μ) (n := n) (z := z / 5) (acc := acc)) hl).1]
    walk_at "dv"
    simp only [h1, take_ok (own (z / 5) acc) (show (0 : Int) < (sz : Nat) by omega) (show ((sz : Nat) : Int) < 2 ^ 31 by omega), T_set1 hn]
    walk_at "dv"
    walk_at "dvd"
    rw [(append_ok false (T_acc (μ := μ) (n := n) (z := z / 5 / (sz : Nat)) (acc := acc)) hl).2]
    walk_at "dv"
    rw [T_set2]
    refine ⟨_, _, _, rfl, hp.push hw ok ?_⟩
    obtain ⟨q1, q2⟩ := emod_bd (z / 5) (show (0 : Int) < (sz : Nat) by omega)
    simp only [isRefD, isNumD, isIntD, Bool.or_eq_true, Bool.and_eq_true, decide_eq_true_eq]
    exact .inr ⟨⟨by omega, by omega⟩, q1, q2⟩
  · simp only [decide_eq_false c]
    walk_at "dv"
    by_cases c2 : z % 5 = 2
    · simp only [decide_eq_true c2]
      walk_at "dv"
      rw [(append_ok (d := .none) false (T_acc (μ := μ) (n := n) (z := z / 5) (acc := acc)) hl).1]
      walk_at "dv"
      simp only [h1, take_ok (own (z / 5) acc) (show (0 : Int) < 5 by decide) le31, T_set1 hn, sub_i]
      walk_at "dv"
      obtain ⟨q1, q2⟩ := emod_bd (z / 5) (show (0 : Int) < 5 by decide)
      obtain ⟨v, hv, hm⟩ := pick_at (xs := vals5) q1 q2
      try walk_at "dvd"
      have e5 : [PyData.int 0, .int 1, .int (0 - 1), .int 7, .int 999999999] = vals5 := rfl
      rw [e5]
      simp only [h1, take_ok (own (z / 5) acc) (show (0 : Int) < 5 by decide) le31, T_set1 hn, hv]
      walk_at "dv"
      simp only [hv]
      walk_at "dvd"
      rw [(append_ok false (T_acc (μ := μ) (n := n) (z := z / 5 / 5) (acc := acc)) hl).2]
      walk_at "dv"
      rw [T_set2]
      refine ⟨_, _, _, rfl, hp.push hw ok ?_⟩
      rw [vals5_ok v hm]; rfl
    · simp only [decide_eq_false c2]
      walk_at "dv"
      exact ⟨_, _, _, rfl, hp.skip⟩
theorem evi_lits {F : Specs} {ρ : Dv.Env} {μ : Store} : evi F (.seq eWords4) ρ μ = .ok (words4.map .str) μ := by
  unfold eWords4
  walk_at "dvd"
  rfl
theorem blt_tupR (m : Bool) {r : Nat} {ds : List PyData} {μ : Store} (h : μ[r]? = some (.lst ds)) : bltW m .tuple [.ref r] μ = .ok (.dat (.tuple ds)) μ := by
  show bltP m .tuple [.ref r] μ = _
  unfold bltP
  have : rds μ [.ref r] = some [.list ds] := by simp [rds, rd_r h]
  rw [this]
  rfl
/-- fields, as a def gives them -/
theorem run_fields {F : Specs} {fu : Nat} (h1 : F "_law_take" = sTake) {μ : Store} {n sz : Nat} {z : Int} (ho : Own μ n z) (hs : 0 < sz ∧ sz ≤ 1000) :
    ∃ (z' : Int) (xs : List PyData), runD F fu 5 mFields false [.ref n, .dat (.int (sz : Nat))] μ = .ok (.dat (.tuple xs)) (μ.set n (.lst [.int z'])) ∧ xs.all isRowD = true ∧ ascD xs = true ∧ xs.length ≤ 4 ∧ xs.all (isValD sz) = true := by
  have hn := own_lt ho
  unfold runD mFields
  have e0 : startE 5 [W.ref n, W.dat (.int (sz : Nat))] = [some (.ref n), some (.dat (.int (sz : Nat))), none, none, none] := rfl
  rw [e0]
  walk_at "dvd"
  simp only [x_for, evi_lits]
  walk_at "dv"
  rw [T_start ho]
  obtain ⟨ρ', μ', e, z', acc, wd, wy, rfl, rfl, hp⟩ := forL_inv (f := turnF F fu (.v 3) bFields) (fun i ρ μ' => ∃ (z : Int) (acc : List PyData) (wd wy : Option W), μ' = T μ n z acc ∧ ρ = [some (.ref n), some (.dat (.int (sz : Nat))), some (.ref μ.length), wd, wy] ∧ FldP words4 i sz acc) (words4.map .str) 0 [some (.ref n), some (.dat (.int (sz : Nat))), some (.ref μ.length), none, none] (T μ n z []) ⟨z, [], none, none, rfl, rfl, .nil⟩ (fun j x hx ρ μ' hI => by
    obtain ⟨z, acc, wd, wy, rfl, rfl, hp⟩ := hI
    rw [Nat.zero_add] at hp ⊢
    rw [List.getElem?_map] at hx
    obtain ⟨w, hw, rfl⟩ := Option.map_eq_some_iff.mp hx
    obtain ⟨z', acc', wy', e, hp'⟩ := fields_turn (F := F) (fu := fu) h1 (z := z) (wy := wy) hn hs (words4_ok w (List.mem_of_getElem? hw)) hw hp
    refine ⟨_, _, ?_, z', acc', some (.dat (.str w)), wy', rfl, rfl, hp'⟩
    unfold turnF
    walk_at "dv"
    exact e)
  rw [e]
  walk_at "dv"
  rw [blt_tupR false T_acc]
  walk_at "dv"
  refine ⟨z', acc, ?_, hp.rows, hp.asc words4_asc, by have := hp.len; simpa [words4] using this, hp.vals⟩
  show Out.ok _ ((T μ n z' acc).take μ.length) = _
  rw [T_take]
end Pl

/-! Pl11: small data: shown, compared. -/
namespace Pl
open PySem hiding Env exec execs start
open Dv
local macro_rules | `(tactic| walk_at "dv") => `(tactic| simp only [mkL_f1, mkL_f2, mkL_t1, mkL_t2, c_no, c_so, lcT_s, asg_v, asg_2, asg_3, wipe_0, wipe_s, List.set_cons_zero, List.set_cons_succ, cut_1, xs_nil, xs_cons, x_ite, x_ret, x_asg, x_expr, x_pass, x_par, seq_rt, seq_nx, fl_ok, oFl_s, setsL_0, setsL_s, out_rt, out_nx, close_d, e_var, e_con, e_tup, e_lst, e_bin, e_neg, e_cmp, e_chn, e_not, e_and, e_or, e_ite, e_idx, e_slc, e_cal, e_cak, e_blt, e_mth, e_isi, t_not, t_and, t_or, t_val, s_nil, s_cons, o_no, o_so, i_seq, i_zip, datOf_d, seqD_l, seqD_t, seqD_s, truth_b, rd_d, rdw_d, lift_s, lift_n, nm_f, nm_t, fin_i, fin_b, fin_s, fin_t, fin_n, fin_l, fin_d, finO_s, finO_n, dats_d, dats_0, rds_d, rds_0, bltW_len, blt_all, len_t, len_l, len_d, le_i, lt_i, ge_i, gt_i, eq_i, ne_i, eqv_i, ix0_t, ix1_t, ix2_t, q_none_tuple, q_none_str, q_none_int, q_none_bool, q_none_list, q_none_dict, q_bool_tuple, q_bool_str, q_bool_int, q_bool_bool, q_bool_list, q_bool_dict, q_int_tuple, q_int_str, q_int_int, q_int_bool, q_int_list, q_int_dict, q_str_tuple, q_str_str, q_str_int, q_str_bool, q_str_list, q_str_dict, q_list_tuple, q_list_str, q_list_int, q_list_bool, q_list_list, q_list_dict, q_tuple_tuple, q_tuple_str, q_tuple_int, q_tuple_bool, q_tuple_list, q_tuple_dict, q_dict_tuple, q_dict_str, q_dict_int, q_dict_bool, q_dict_list, q_dict_dict, Option.map_some, Option.bind_some, Out.bind_ok, Out.bind_no, List.getElem?_cons_zero, List.getElem?_cons_succ, if_true, if_false, Bool.false_eq_true, Bool.true_eq_false, Bool.not_false, Bool.not_true])
local macro_rules | `(tactic| walk_at "dvd") => `(tactic| simp (decide := true) only [List.length_cons, List.length_nil, mkL_f1, mkL_f2, mkL_t1, mkL_t2, c_no, c_so, lcT_s, asg_v, asg_2, asg_3, wipe_0, wipe_s, List.set_cons_zero, List.set_cons_succ, cut_1, xs_nil, xs_cons, x_ite, x_ret, x_asg, x_expr, x_pass, x_par, seq_rt, seq_nx, fl_ok, oFl_s, setsL_0, setsL_s, out_rt, out_nx, close_d, e_var, e_con, e_tup, e_lst, e_bin, e_neg, e_cmp, e_chn, e_not, e_and, e_or, e_ite, e_idx, e_slc, e_cal, e_cak, e_blt, e_mth, e_isi, t_not, t_and, t_or, t_val, s_nil, s_cons, o_no, o_so, i_seq, i_zip, datOf_d, seqD_l, seqD_t, seqD_s, truth_b, rd_d, rdw_d, lift_s, lift_n, nm_f, nm_t, fin_i, fin_b, fin_s, fin_t, fin_n, fin_l, fin_d, finO_s, finO_n, dats_d, dats_0, rds_d, rds_0, bltW_len, blt_all, len_t, len_l, len_d, le_i, lt_i, ge_i, gt_i, eq_i, ne_i, eqv_i, ix0_t, ix1_t, ix2_t, q_none_tuple, q_none_str, q_none_int, q_none_bool, q_none_list, q_none_dict, q_bool_tuple, q_bool_str, q_bool_int, q_bool_bool, q_bool_list, q_bool_dict, q_int_tuple, q_int_str, q_int_int, q_int_bool, q_int_list, q_int_dict, q_str_tuple, q_str_str, q_str_int, q_str_bool, q_str_list, q_str_dict, q_list_tuple, q_list_str, q_list_int, q_list_bool, q_list_list, q_list_dict, q_tuple_tuple, q_tuple_str, q_tuple_int, q_tuple_bool, q_tuple_list, q_tuple_dict, q_dict_tuple, q_dict_str, q_dict_int, q_dict_bool, q_dict_list, q_dict_dict, Option.map_some, Option.bind_some, Out.bind_ok, Out.bind_no, List.getElem?_cons_zero, List.getElem?_cons_succ, if_true, if_false, Bool.false_eq_true, Bool.true_eq_false, Bool.not_false, Bool.not_true])
/-- data of depth at most k, whose text is at most n long -/
structure Sm (k n : Nat) (d : PyData) : Prop where
  lay : d.canLay0 = true
  dep : d.depth ≤ k
  sh : d.showable = true
  nd : d.hasDict = false
  len : d.shown.length ≤ n
theorem Sm.mono {k n k' n' : Nat} {d : PyData} (h : Sm k n d) (hk : k ≤ k') (hn : n ≤ n') : Sm k' n' d := ⟨h.lay, by have := h.dep; omega, h.sh, h.nd, by have := h.len; omega⟩
theorem app_len (a b : Str) : (a ++ b).length = a.length + b.length := by
  show (a.cps ++ b.cps).size = _
  rw [Array.size_append]; rfl
theorem textFrom_le {n : Nat} : ∀ (ts : List Str) (k : Nat) (acc : Str), (∀ t ∈ ts, t.length ≤ n) → (textFrom k acc ts).length ≤ acc.length + ts.length * (n + 2)
  | [], k, acc, _ => by simp [textFrom]
  | t :: ts, k, acc, h => by
    have ih := textFrom_le ts (k + 1) (acc ++ (if k > 0 then ", " else "" : String) ++ t) (fun u hu => h u (List.mem_cons_of_mem _ hu))
    have ht := h t List.mem_cons_self
    rw [app_len, app_len] at ih
    have e : (Str.ofString (if k > 0 then ", " else "" : String)).length ≤ 2 := by split <;> decide
    show (textFrom (k + 1) _ ts).length ≤ _
    rw [List.length_cons, Nat.add_mul, Nat.one_mul]
    omega
theorem join_le {n : Nat} : ∀ (ts : List Str), (∀ t ∈ ts, t.length ≤ n) → (Str.join ", " ts).length ≤ ts.length * (n + 2)
  | [], _ => by simp [Str.join, Str.empty, Str.length]
  | [t], h => by
    have := h t List.mem_cons_self
    show t.length ≤ _
    simp; omega
  | t :: u :: r, h => by
    have ih := join_le (u :: r) (fun v hv => h v (List.mem_cons_of_mem _ hv))
    have ht := h t List.mem_cons_self
    have e : (Str.ofString ", ").length = 2 := by decide
    show (t ++ Str.ofString ", " ++ Str.join ", " (u :: r)).length ≤ _
    rw [app_len, app_len, e, List.length_cons, Nat.add_mul, Nat.one_mul]
    omega
theorem shownAll_map : ∀ xs : List PyData, PyData.shownAll xs = xs.map PyData.shown
  | [] => rfl
  | x :: xs => by rw [PyData.shownAll, shownAll_map xs]; rfl
theorem sm_seq {k n m : Nat} {xs : List PyData} (h : ∀ x ∈ xs, Sm k n x) (hm : xs.length * (n + 2) + 3 ≤ m) : Sm (k + 1) m (.tuple xs) ∧ Sm (k + 1) m (.list xs) := by
  have a1 : PyData.canLayAll0 xs = true := by
    clear hm
    induction xs with
    | nil => rfl
    | cons x xs ih => rw [PyData.canLayAll0, (h x List.mem_cons_self).lay, ih fun y hy => h y (List.mem_cons_of_mem _ hy)]; rfl
  have a2 : PyData.depthAll xs ≤ k := by
    clear hm a1
    induction xs with
    | nil => exact Nat.zero_le _
    | cons x xs ih =>
      have := (h x List.mem_cons_self).dep
      have := ih fun y hy => h y (List.mem_cons_of_mem _ hy)
      rw [PyData.depthAll]; omega
  have a3 : PyData.showableAll xs = true := by
    clear hm a1 a2
    induction xs with
    | nil => rfl
    | cons x xs ih => rw [PyData.showableAll, (h x List.mem_cons_self).sh, ih fun y hy => h y (List.mem_cons_of_mem _ hy)]; rfl
  have a4 : PyData.hasDictAll xs = false := by
    clear hm a1 a2 a3
    induction xs with
    | nil => rfl
    | cons x xs ih => rw [PyData.hasDictAll, (h x List.mem_cons_self).nd, ih fun y hy => h y (List.mem_cons_of_mem _ hy)]; rfl
  have hl : ∀ t ∈ xs.map PyData.shown, t.length ≤ n := fun t ht => by
    obtain ⟨x, hx, rfl⟩ := List.mem_map.mp ht
    exact (h x hx).len
  refine ⟨⟨by rw [PyData.canLay0]; exact a1, by rw [PyData.depth]; omega, by rw [PyData.showable]; exact a3, by rw [PyData.hasDict]; exact a4, ?_⟩, ⟨by rw [PyData.canLay0]; exact a1, by rw [PyData.depth]; omega, by rw [PyData.showable]; exact a3, by rw [PyData.hasDict]; exact a4, ?_⟩⟩
  · rw [PyData.shown, shownAll_map, tupleText, app_len, app_len]
    have := join_le _ hl
    rw [List.length_map] at this
    have e1 : (Str.ofString "(").length = 1 := by decide
    have e2 : (Str.ofString (if (xs.map PyData.shown).length == 1 then ",)" else ")" : String)).length ≤ 2 := by split <;> decide
    omega
  · rw [PyData.shown, shownAll_map, listText, app_len]
    have := textFrom_le _ 0 "[" hl
    rw [List.length_map] at this
    have e1 : (Str.ofString "[").length = 1 := by decide
    have e2 : (Str.ofString "]").length = 1 := by decide
    omega
theorem sm_int {i : Int} (h : isIntD (.int i) = true) : Sm 0 20 (.int i) := by
  simp only [isIntD, Bool.and_eq_true, decide_eq_true_eq] at h
  refine ⟨rfl, Nat.le_refl _, ?_, rfl, ?_⟩
  · rw [PyData.showable]
    have := lg (i := i) (up (e := 40) (by omega) (by decide))
    exact decide_eq_true (by omega)
  · rw [PyData.shown, ofString_length]
    have := int_text_length_le10 (a := i) (k := 9) (by decide) (by omega)
    omega
theorem letter_len : ∀ c ∈ letters, ∀ q ∈ [34, 39], (PySem.Builtin.Str.reprChar q c).length ≤ 2 := by decide +kernel
theorem letter_lo : ∀ c ∈ letters, c < 0x110000 := by decide +kernel
theorem sm_word {d : PyData} (h : isWordD d = true) : Sm 0 20 d := by
  cases d with
  | str x =>
    simp only [isWordD, Bool.and_eq_true, decide_eq_true_eq, List.all_eq_true] at h
    obtain ⟨h1, h2, h3⟩ := h
    refine ⟨?_, Nat.le_refl _, rfl, rfl, ?_⟩
    · rw [PyData.canLay0]
      show x.cps.all _ = true
      rw [← Array.all_toList, List.all_eq_true]
      intro c hc
      exact decide_eq_true (letter_lo c (h3 c hc))
    · rw [PyData.shown, ← reprLen_eq]
      have hq : reprQuote x ∈ [34, 39] := by
        unfold reprQuote
        split <;> simp
      rw [← Array.foldl_toList]
      have key : ∀ (l : List Nat) (n : Nat), (∀ c ∈ l, c ∈ letters) → l.foldl (fun n c => n + (PySem.Builtin.Str.reprChar (reprQuote x) c).length) n ≤ n + 2 * l.length := by
        intro l
        induction l with
        | nil => intro n _; simp
        | cons c l ih =>
          intro n hc
          have := ih (n + (PySem.Builtin.Str.reprChar (reprQuote x) c).length) fun c' hc' => hc c' (List.mem_cons_of_mem _ hc')
          have := letter_len c (hc c List.mem_cons_self) _ hq
          rw [List.foldl_cons, List.length_cons]
          omega
      have := key x.cps.toList 2 h3
      have e : x.cps.toList.length = x.length := by rw [Array.length_toList]; rfl
      omega
  | _ => cases h
theorem sm_num {v : PyData} {n : Int} (h : isNumD v n = true) : Sm 0 20 v := by
  cases v with
  | int i =>
    simp only [isNumD, Bool.and_eq_true] at h
    exact sm_int h.1
  | _ => cases h
theorem sm_val {v : PyData} {n : Int} (h : (isIntD v || isRefD v n) = true) : Sm 1 30 v := by
  rw [Bool.or_eq_true] at h
  rcases h with h | h
  · cases v with
    | int i => exact (sm_int h).mono (by omega) (by omega)
    | _ => cases h
  · unfold isRefD at h
    split at h
    · exact (sm_seq (k := 0) (n := 20) (m := 30) (fun y hy => by rw [List.mem_singleton.mp hy]; exact sm_num h) (by simp)).1
    · cases h
theorem sm_kind {k : Str} (h : k = sOpen ∨ k = sFrozen) : Sm 0 20 (.str k) := by
  rcases h with rfl | rfl <;> exact ⟨by decide +kernel, by decide +kernel, by decide +kernel, by decide +kernel, by decide +kernel⟩
theorem sm_rows {xs : List PyData} {n : Nat} (hr : xs.all isRowD = true) (hv : xs.all (isValD n) = true) (hl : xs.length ≤ 4) : Sm 3 400 (.tuple xs) :=
  (sm_seq (k := 2) (n := 70) (fun p hp => by
    obtain ⟨x, v, rfl, hx⟩ := row_form (List.all_eq_true.mp hr p hp)
    have hv' := List.all_eq_true.mp hv _ hp
    refine (sm_seq (k := 1) (n := 30) (fun y hy => ?_) (by simp)).1
    rcases List.mem_cons.mp hy with rfl | hy
    · exact (sm_word hx).mono (by omega) (by omega)
    · rw [List.mem_singleton.mp hy]; exact sm_val hv') (by omega)).1
theorem sm_obj {n : Nat} {o : PyData} (h : isObjD o n = true) : Sm 4 1000 o := by
  obtain ⟨k, xs, Q⟩ := obj_form h
  rw [Q.e]
  refine (sm_seq (k := 3) (n := 400) (fun y hy => ?_) (by simp)).1
  rcases List.mem_cons.mp hy with rfl | hy
  · exact (sm_kind Q.kind).mono (by omega) (by omega)
  · rw [List.mem_singleton.mp hy]; exact sm_rows Q.rows Q.vals Q.len
theorem sm_web {d : PyData} (h : isWebD d = true) : Sm 6 70000 d := by
  obtain ⟨os, ns, P⟩ := web_form h
  rw [P.e]
  refine (sm_seq (k := 5) (n := 32000) (fun y hy => ?_) (by simp)).1
  rcases List.mem_cons.mp hy with rfl | hy
  · exact (sm_seq (k := 4) (n := 1000) (fun o ho => sm_obj (P.objs o ho)) (by have := P.hi; omega)).1
  · rw [List.mem_singleton.mp hy]
    refine ((sm_seq (k := 1) (n := 70) (m := 32000) (fun p hp => ?_) (by have := P.nlen; omega)).1).mono (by omega) (Nat.le_refl _)
    obtain ⟨x, v, rfl, hx⟩ := row_form (List.all_eq_true.mp P.rows p hp)
    have hv := List.all_eq_true.mp P.nums _ hp
    refine (sm_seq (k := 0) (n := 30) (fun y hy => ?_) (by simp)).1
    rcases List.mem_cons.mp hy with rfl | hy
    · exact (sm_word hx).mono (by omega) (by omega)
    · rw [List.mem_singleton.mp hy]
      exact (sm_num (n := os.length) hv).mono (by omega) (by omega)
theorem sm_path {d : PyData} (h : isPathD d = true) : Sm 1 2000 d := by
  unfold isPathD at h
  split at h
  · rename_i xs
    simp only [Bool.and_eq_true, decide_eq_true_eq, List.all_eq_true] at h
    exact (sm_seq (k := 0) (n := 20) (fun y hy => sm_word (h.2.2 y hy)) (by omega)).1
  · cases h
/-- str of small data -/
theorem str_sm (m : Bool) {xs : List PyData} {μ : Store} {k n : Nat} (h : Sm k n (.list xs)) (hk : k ≤ 60) (hn : n ≤ 1000000) : bltW m .str [.dat (.list xs)] μ = .ok (.dat (.str (PyData.shown (.list xs)))) μ := by
  have hs : shOk (.list xs) = true := by
    unfold shOk
    have h1 : (PyData.shown (.list xs)).length ≤ sizeLine := by
      have := h.len
      have : 1000000 ≤ sizeLine := by decide
      omega
    have h2 : (PyData.list xs).depth ≤ 60 := by have := h.dep; omega
    rw [h.sh, h.nd, decide_eq_true h1, decide_eq_true h2]; rfl
  have e : strD (.list xs) = some (PyData.shown (.list xs)) := by simp only [strD, hs, if_true]
  show finO m ((strD (.list xs)).map .str) μ = _
  rw [e]
  rfl
theorem sh_sm {k n : Nat} {d : PyData} (h : Sm k n d) (hk : k ≤ 60) : SeqAt.shaped d = true := by
  unfold SeqAt.shaped
  rw [h.lay, decide_eq_true (by have := h.dep; omega)]; rfl
mutual
theorem eqv_refl : ∀ {d : PyData}, d.hasDict = false → PyData.eqv d d = true
  | .none, _ => by rw [PyData.eqv]
  | .bool b, _ => by rw [PyData.eqv]; exact beq_self_eq_true b
  | .int i, _ => by rw [PyData.eqv]; exact beq_self_eq_true i
  | .str x, _ => by rw [PyData.eqv]; exact beq_self_eq_true x
  | .list xs, h => by rw [PyData.eqv]; exact eqvAll_refl (by rwa [PyData.hasDict] at h)
  | .tuple xs, h => by rw [PyData.eqv]; exact eqvAll_refl (by rwa [PyData.hasDict] at h)
  | .dict _, h => by rw [PyData.hasDict] at h; cases h
theorem eqvAll_refl : ∀ {ds : List PyData}, PyData.hasDictAll ds = false → PyData.eqvAll ds ds = true
  | [], _ => by rw [PyData.eqvAll]
  | d :: ds, h => by
    rw [PyData.hasDictAll, Bool.or_eq_false_iff] at h
    rw [PyData.eqvAll, eqv_refl h.1, eqvAll_refl h.2]; rfl
end
/-- == and != of one thing with itself -/
theorem eq_self {k n : Nat} {d : PyData} (h : Sm k n d) (hk : k ≤ 60) : cmpD .eq d d = some true ∧ cmpD .ne d d = some false := by
  have e : eqOk d d = true := by unfold eqOk; rw [sh_sm h hk]; simp
  refine ⟨?_, ?_⟩
  · show (if eqOk d d = true then some (PyData.eqv d d) else none) = _
    rw [if_pos e, eqv_refl h.nd]
  · show (if eqOk d d = true then some (!PyData.eqv d d) else none) = _
    rw [if_pos e, eqv_refl h.nd]; rfl
end Pl

/-! Pl12: k03: one path is well answered. -/
namespace Pl
open PySem hiding Env exec execs start
open Dv
local macro_rules | `(tactic| walk_at "dv") => `(tactic| simp only [mkL_f1, mkL_f2, mkL_t1, mkL_t2, c_no, c_so, lcT_s, asg_v, asg_2, asg_3, wipe_0, wipe_s, List.set_cons_zero, List.set_cons_succ, cut_1, xs_nil, xs_cons, x_ite, x_ret, x_asg, x_expr, x_pass, x_par, seq_rt, seq_nx, fl_ok, oFl_s, setsL_0, setsL_s, out_rt, out_nx, close_d, e_var, e_con, e_tup, e_lst, e_bin, e_neg, e_cmp, e_chn, e_not, e_and, e_or, e_ite, e_idx, e_slc, e_cal, e_cak, e_blt, e_mth, e_isi, t_not, t_and, t_or, t_val, s_nil, s_cons, o_no, o_so, i_seq, i_zip, datOf_d, seqD_l, seqD_t, seqD_s, truth_b, rd_d, rdw_d, lift_s, lift_n, nm_f, nm_t, fin_i, fin_b, fin_s, fin_t, fin_n, fin_l, fin_d, finO_s, finO_n, dats_d, dats_0, rds_d, rds_0, bltW_len, blt_all, len_t, len_l, len_d, le_i, lt_i, ge_i, gt_i, eq_i, ne_i, eqv_i, ix0_t, ix1_t, ix2_t, q_none_tuple, q_none_str, q_none_int, q_none_bool, q_none_list, q_none_dict, q_bool_tuple, q_bool_str, q_bool_int, q_bool_bool, q_bool_list, q_bool_dict, q_int_tuple, q_int_str, q_int_int, q_int_bool, q_int_list, q_int_dict, q_str_tuple, q_str_str, q_str_int, q_str_bool, q_str_list, q_str_dict, q_list_tuple, q_list_str, q_list_int, q_list_bool, q_list_list, q_list_dict, q_tuple_tuple, q_tuple_str, q_tuple_int, q_tuple_bool, q_tuple_list, q_tuple_dict, q_dict_tuple, q_dict_str, q_dict_int, q_dict_bool, q_dict_list, q_dict_dict, Option.map_some, Option.bind_some, Out.bind_ok, Out.bind_no, List.getElem?_cons_zero, List.getElem?_cons_succ, if_true, if_false, Bool.false_eq_true, Bool.true_eq_false, Bool.not_false, Bool.not_true])
local macro_rules | `(tactic| walk_at "dvd") => `(tactic| simp (decide := true) only [List.length_cons, List.length_nil, mkL_f1, mkL_f2, mkL_t1, mkL_t2, c_no, c_so, lcT_s, asg_v, asg_2, asg_3, wipe_0, wipe_s, List.set_cons_zero, List.set_cons_succ, cut_1, xs_nil, xs_cons, x_ite, x_ret, x_asg, x_expr, x_pass, x_par, seq_rt, seq_nx, fl_ok, oFl_s, setsL_0, setsL_s, out_rt, out_nx, close_d, e_var, e_con, e_tup, e_lst, e_bin, e_neg, e_cmp, e_chn, e_not, e_and, e_or, e_ite, e_idx, e_slc, e_cal, e_cak, e_blt, e_mth, e_isi, t_not, t_and, t_or, t_val, s_nil, s_cons, o_no, o_so, i_seq, i_zip, datOf_d, seqD_l, seqD_t, seqD_s, truth_b, rd_d, rdw_d, lift_s, lift_n, nm_f, nm_t, fin_i, fin_b, fin_s, fin_t, fin_n, fin_l, fin_d, finO_s, finO_n, dats_d, dats_0, rds_d, rds_0, bltW_len, blt_all, len_t, len_l, len_d, le_i, lt_i, ge_i, gt_i, eq_i, ne_i, eqv_i, ix0_t, ix1_t, ix2_t, q_none_tuple, q_none_str, q_none_int, q_none_bool, q_none_list, q_none_dict, q_bool_tuple, q_bool_str, q_bool_int, q_bool_bool, q_bool_list, q_bool_dict, q_int_tuple, q_int_str, q_int_int, q_int_bool, q_int_list, q_int_dict, q_str_tuple, q_str_str, q_str_int, q_str_bool, q_str_list, q_str_dict, q_list_tuple, q_list_str, q_list_int, q_list_bool, q_list_list, q_list_dict, q_tuple_tuple, q_tuple_str, q_tuple_int, q_tuple_bool, q_tuple_list, q_tuple_dict, q_dict_tuple, q_dict_str, q_dict_int, q_dict_bool, q_dict_list, q_dict_dict, Option.map_some, Option.bind_some, Out.bind_ok, Out.bind_no, List.getElem?_cons_zero, List.getElem?_cons_succ, if_true, if_false, Bool.false_eq_true, Bool.true_eq_false, Bool.not_false, Bool.not_true])
def mGood3 : List S := [.asg (.v 2) (.blt false .str (.cons (.lst false (.cons (.var 0) (.cons (.var 1) .nil))) .nil)), .asg (.v 3) (.cal false "_law_value" (.cons (.var 0) (.cons (.var 1) .nil))), .par [4, 5] (.cons (.cal false "look" (.cons (.var 0) (.cons (.var 1) .nil))) (.cons (.cal false "place" (.cons (.var 0) (.cons (.var 1) .nil))) .nil)), .ite (.or (.val (.cmp .ne (.cak "look" [1, 0] (.cons (.var 1) (.cons (.var 0) .nil))) (.var 4))) (.or (.val (.cmp .ne (.cak "place" [1, 0] (.cons (.var 1) (.cons (.var 0) .nil))) (.var 5))) (.val (.cmp .ne (.blt false .str (.cons (.lst false (.cons (.var 0) (.cons (.var 1) .nil))) .nil)) (.var 2))))) [.ret (.con (.bool false))] [], .ite (.or (.val (.isi (.var 5) ["bool"])) (.val (.isi (.var 4) ["bool"]))) [.ret (.con (.bool false))] [], .ite (.val (.cmp .is (.var 3) (.con .none))) [.ret (.and (.cmp .eq (.var 4) (.con (.str "none"))) (.cmp .is (.var 5) (.con .none)))] [], .ite (.not (.val (.isi (.var 3) ["tuple"]))) [.ret (.and (.cmp .eq (.var 4) (.var 3)) (.cmp .is (.var 5) (.con .none)))] [], .asg (.t2 (.v 6) (.v 7)) (.idx (.idx (.var 0) (.con (.int (0)))) (.idx (.var 3) (.con (.int (0))))), .ret (.and (.cmp .eq (.var 4) (.tup (.cons (.var 6) (.cons (.blt false .tuple (.cons (.lc false (.var 8) (.t2 (.v 8) (.v 9)) (.seq (.var 7)) .no [8, 9]) .nil)) .nil)))) (.cmp .eq (.var 5) (.idx (.var 3) (.con (.int (0))))))]
/-- what an answer may be -/
theorem sm_fst {xs : List PyData} (hr : xs.all isRowD = true) (hl : xs.length ≤ 4) : Sm 1 100 (.tuple (xs.map fstD)) :=
  (sm_seq (k := 0) (n := 20) (fun y hy => by
    obtain ⟨p, hp, rfl⟩ := List.mem_map.mp hy
    obtain ⟨x, v, rfl, hx⟩ := row_form (List.all_eq_true.mp hr p hp)
    exact sm_word hx) (by rw [List.length_map]; omega)).1
theorem getF_int {os : List PyData} {n : Nat} (ho : ∀ o ∈ os, isObjD o n = true) (i : Int) (w : PyData) : ∀ j, getF os i w = .int j → isIntD (.int j) = true := by
  intro j h
  unfold getF at h
  split at h
  · rename_i a xs e
    obtain ⟨k, ys, Q⟩ := obj_form (ho _ (List.mem_of_getElem? e))
    have e2 := Q.e
    cases e2
    cases hl : lookR w xs with
    | none => rw [hl] at h; cases h
    | some v =>
      rw [hl] at h
      have h : v = .int j := h
      subst h
      obtain ⟨y, hy⟩ := lookR_mem Q.rows hl
      have := List.all_eq_true.mp Q.vals _ hy
      simpa [isValD, isRefD] using this
  · cases h
theorem walk_int {os : List PyData} (ho : ∀ o ∈ os, isObjD o os.length = true) : ∀ (ws : List PyData) (f : PyData), (∀ j, f = .int j → isIntD (.int j) = true) → ∀ j, walkD os f ws = .int j → isIntD (.int j) = true
  | [], f, h, j, e => h j e
  | w :: ws, f, h, j, e => by
    unfold walkD at e
    split at e
    · exact walk_int ho ws _ (getF_int ho _ _) j e
    · cases e
theorem val_int {d p : PyData} {os ns : List PyData} (P : WebP d os ns) (hp : isPathD p = true) : ∀ j, valD d p = .int j → isIntD (.int j) = true := by
  obtain ⟨x, ws, rfl, hws, _⟩ := path_form hp
  rw [P.e]
  intro j e
  simp only [valD] at e
  split at e
  · exact walk_int P.objs ws _ (fun j z => by cases z) j e
  · cases e
theorem cak_perm (w v : W) : perm [1, 0] [w, v] = [v, w] := rfl
theorem is_ni (i : Int) : cmpD .is (.int i) .none = some false := rfl
theorem is_nt (xs : List PyData) : cmpD .is (.tuple xs) .none = some false := rfl
theorem is_nn : cmpD .is .none .none = some true := rfl
theorem eq_nn : cmpD .eq .none .none = some true := by rfl
theorem ne_nn : cmpD .ne .none .none = some false := by rfl
theorem sm_none : Sm 0 20 .none := ⟨rfl, Nat.le_refl _, rfl, rfl, by decide⟩
theorem map_fst2 {xs : List PyData} (hr : xs.all isRowD = true) {F : Specs} {ρ : Dv.Env} {μ : Store} (h4 : ρ[7]? = some (some (.dat (.tuple xs)))) (hl : ρ.length = 10) (hz : xs.length ≤ 1000) : ev F (.lc false (.var 8) (.t2 (.v 8) (.v 9)) (.seq (.var 7)) .no [8, 9]) ρ μ = .ok (.dat (.list (xs.map fstD))) μ := by
  refine ev_map _ (by simp only [i_seq, e_var, h4]; walk_at "dv") (fun p hp μ' => ?_) (by have := line30; omega)
  obtain ⟨x, v, rfl, _⟩ := row_form (List.all_eq_true.mp hr p hp)
  have e : (((wipeE ρ [8, 9]).set 8 (some (W.dat (.str x)))).set 9 (some (W.dat v)))[8]? = some (some (.dat (.str x))) := by
    rw [List.getElem?_set_ne (by decide), List.getElem?_set_self (by simp [wipeE, hl])]
  simp only [c_no, lcT_s, asg_2, asg_v, Option.bind_some, Out.bind_ok, if_true, e_var, e]
  rfl
theorem run_good {F : Specs} {fu : Nat} (h1 : F "_law_value" = sValueAt) (h2 : F "look" = sLook) (h3 : F "place" = sPlace) {d p : PyData} {μ : Store} (hd : isWebD d = true) (hp : isPathD p = true) : runD F fu 10 mGood3 false [.dat d, .dat p] μ = .ok (.dat (.bool true)) μ := by
  obtain ⟨os, ns, P⟩ := web_form hd
  have hf := val_at P hp
  have hj := val_int P hp
  have hS : Sm 7 150000 (.list [d, p]) := (sm_seq (k := 6) (n := 70000) (fun y hy => by
    rcases List.mem_cons.mp hy with rfl | hy
    · exact sm_web hd
    · rw [List.mem_singleton.mp hy]; exact (sm_path hp).mono (by omega) (by omega)) (by simp)).2
  have hstr : ∀ μ, bltW false .str [.dat (.list [d, p])] μ = .ok (.dat (.str (PyData.shown (.list [d, p])))) μ := fun μ => str_sm false hS (by omega) (by omega)
  have hl2 : ∀ μ, (Out.ok (mkL false [d, p] μ).1 (mkL false [d, p] μ).2 : Out W) = .ok (.dat (.list [d, p])) μ := fun μ => rfl
  have hne : ∀ x : Str, cmpD .ne (.str x) (.str x) = some false := fun x => by
    show (if eqOk (.str x) (.str x) = true then some (!PyData.eqv (.str x) (.str x)) else none) = _
    rw [if_pos (by rfl), PyData.eqv]; simp
  have heq : ∀ x : Str, cmpD .eq (.str x) (.str x) = some true := fun x => by
    show (if eqOk (.str x) (.str x) = true then some (PyData.eqv (.str x) (.str x)) else none) = _
    rw [if_pos (by rfl), PyData.eqv]; simp
  unfold runD mGood3
  have hs : startE 10 [W.dat d, W.dat p] = [some (.dat d), some (.dat p), none, none, none, none, none, none, none, none] := rfl
  rw [hs]
  walk_at "dvd"
  simp only [hstr]
  walk_at "dv"
  simp only [h1, sValueAt, sp2_d, hd, hp, Bool.and_true, if_true]
  walk_at "dv"
  simp only [h2, sLook, onWP_d hd hp]
  walk_at "dv"
  simp only [h3, sPlace, onWP_d hd hp]
  walk_at "dvd"
  simp only [h2, sLook, cak_perm, onWP_d hd hp]
  walk_at "dv"
  unfold FoundP at hf
  split at hf
  · rename_i e
    have ea : ansD d p = .str "none" := by unfold ansD; rw [e]
    have ep : plcD d p = .none := by unfold plcD; rw [e]
    rw [e, ea, ep]
    iterate 6 (first | (simp only [hne, ne_nn, is_nn, heq, hstr]; try walk_at "dvd") | skip)
  · rename_i i e
    have ea : ansD d p = .int i := by unfold ansD; rw [e]
    have ep : plcD d p = .none := by unfold plcD; rw [e]
    rw [e, ea, ep]
    iterate 6 (first | (simp only [hne, ne_nn, is_nn, is_ni, heq, hstr, decide_true, decide_eq_true (Eq.refl i)]; try walk_at "dvd") | skip)
  · rename_i i e
    have hi : 0 ≤ i ∧ i < os.length := hf
    obtain ⟨j, rfl⟩ : ∃ j : Nat, i = j := ⟨i.toNat, by omega⟩
    have hj : j < os.length := by omega
    obtain ⟨k, xs, Q⟩ := obj_form (P.objs _ (List.getElem_mem hj))
    have e1 : os[j]? = some (.tuple [.str k, .tuple xs]) := by rw [List.getElem?_eq_getElem hj, Q.e]
    have ea : ansD d p = .tuple [.str k, .tuple (xs.map fstD)] := by
      unfold ansD
      rw [e, P.e]
      simp only [objD, Int.toNat_natCast, e1]
    have ep : plcD d p = .int (j : Nat) := by unfold plcD; rw [e]
    have hsm : Sm 2 300 (.tuple [.str k, .tuple (xs.map fstD)]) := (sm_seq (k := 1) (n := 100) (fun y hy => by
      rcases List.mem_cons.mp hy with rfl | hy
      · exact (sm_kind Q.kind).mono (by omega) (by omega)
      · rw [List.mem_singleton.mp hy]; exact sm_fst Q.rows Q.len) (by simp)).1
    have hq := eq_self hsm (by omega)
    have hix : idxD d (.int 0) = some (.tuple os) := by rw [P.e]; exact ix0_t _ _
    have h9 : ∀ μ, ev F (.lc false (.var 8) (.t2 (.v 8) (.v 9)) (.seq (.var 7)) .no [8, 9]) [some (.dat d), some (.dat p), some (.dat (.str (PyData.shown (.list [d, p])))), some (.dat (.tuple [.int (j : Nat)])), some (.dat (.tuple [.str k, .tuple (xs.map fstD)])), some (.dat (.int (j : Nat))), some (.dat (.str k)), some (.dat (.tuple xs)), none, none] μ = .ok (.dat (.list (xs.map fstD))) μ := fun μ => map_fst2 Q.rows rfl rfl (by have := Q.len; omega)
    rw [e, ea, ep]
    iterate 4 (first | (simp only [hq.2, hstr, hne, is_nt]; try walk_at "dvd") | skip)
    iterate 8 (first | (simp only [hq.1, hq.2, hix, ix_n, e1, h9, hstr, hne, is_nt, blt_tup, tup_l, decide_eq_true (Eq.refl ((j : Nat) : Int))]; try walk_at "dvd") | skip)
    rfl
  · exact hf.elim
end Pl

/-! Pl13: webs made of digits. -/
namespace Pl
open PySem hiding Env exec execs start
open Dv
local macro_rules | `(tactic| walk_at "dv") => `(tactic| simp only [mkL_f1, mkL_f2, mkL_t1, mkL_t2, c_no, c_so, lcT_s, asg_v, asg_2, asg_3, wipe_0, wipe_s, List.set_cons_zero, List.set_cons_succ, cut_1, xs_nil, xs_cons, x_ite, x_ret, x_asg, x_expr, x_pass, x_par, seq_rt, seq_nx, fl_ok, oFl_s, setsL_0, setsL_s, out_rt, out_nx, close_d, e_var, e_con, e_tup, e_lst, e_bin, e_neg, e_cmp, e_chn, e_not, e_and, e_or, e_ite, e_idx, e_slc, e_cal, e_cak, e_blt, e_mth, e_isi, t_not, t_and, t_or, t_val, s_nil, s_cons, o_no, o_so, i_seq, i_zip, datOf_d, seqD_l, seqD_t, seqD_s, truth_b, rd_d, rdw_d, lift_s, lift_n, nm_f, nm_t, fin_i, fin_b, fin_s, fin_t, fin_n, fin_l, fin_d, finO_s, finO_n, dats_d, dats_0, rds_d, rds_0, bltW_len, blt_all, len_t, len_l, len_d, le_i, lt_i, ge_i, gt_i, eq_i, ne_i, eqv_i, ix0_t, ix1_t, ix2_t, q_none_tuple, q_none_str, q_none_int, q_none_bool, q_none_list, q_none_dict, q_bool_tuple, q_bool_str, q_bool_int, q_bool_bool, q_bool_list, q_bool_dict, q_int_tuple, q_int_str, q_int_int, q_int_bool, q_int_list, q_int_dict, q_str_tuple, q_str_str, q_str_int, q_str_bool, q_str_list, q_str_dict, q_list_tuple, q_list_str, q_list_int, q_list_bool, q_list_list, q_list_dict, q_tuple_tuple, q_tuple_str, q_tuple_int, q_tuple_bool, q_tuple_list, q_tuple_dict, q_dict_tuple, q_dict_str, q_dict_int, q_dict_bool, q_dict_list, q_dict_dict, Option.map_some, Option.bind_some, Out.bind_ok, Out.bind_no, List.getElem?_cons_zero, List.getElem?_cons_succ, if_true, if_false, Bool.false_eq_true, Bool.true_eq_false, Bool.not_false, Bool.not_true])
local macro_rules | `(tactic| walk_at "dvd") => `(tactic| simp (decide := true) only [List.length_cons, List.length_nil, mkL_f1, mkL_f2, mkL_t1, mkL_t2, c_no, c_so, lcT_s, asg_v, asg_2, asg_3, wipe_0, wipe_s, List.set_cons_zero, List.set_cons_succ, cut_1, xs_nil, xs_cons, x_ite, x_ret, x_asg, x_expr, x_pass, x_par, seq_rt, seq_nx, fl_ok, oFl_s, setsL_0, setsL_s, out_rt, out_nx, close_d, e_var, e_con, e_tup, e_lst, e_bin, e_neg, e_cmp, e_chn, e_not, e_and, e_or, e_ite, e_idx, e_slc, e_cal, e_cak, e_blt, e_mth, e_isi, t_not, t_and, t_or, t_val, s_nil, s_cons, o_no, o_so, i_seq, i_zip, datOf_d, seqD_l, seqD_t, seqD_s, truth_b, rd_d, rdw_d, lift_s, lift_n, nm_f, nm_t, fin_i, fin_b, fin_s, fin_t, fin_n, fin_l, fin_d, finO_s, finO_n, dats_d, dats_0, rds_d, rds_0, bltW_len, blt_all, len_t, len_l, len_d, le_i, lt_i, ge_i, gt_i, eq_i, ne_i, eqv_i, ix0_t, ix1_t, ix2_t, q_none_tuple, q_none_str, q_none_int, q_none_bool, q_none_list, q_none_dict, q_bool_tuple, q_bool_str, q_bool_int, q_bool_bool, q_bool_list, q_bool_dict, q_int_tuple, q_int_str, q_int_int, q_int_bool, q_int_list, q_int_dict, q_str_tuple, q_str_str, q_str_int, q_str_bool, q_str_list, q_str_dict, q_list_tuple, q_list_str, q_list_int, q_list_bool, q_list_list, q_list_dict, q_tuple_tuple, q_tuple_str, q_tuple_int, q_tuple_bool, q_tuple_list, q_tuple_dict, q_dict_tuple, q_dict_str, q_dict_int, q_dict_bool, q_dict_list, q_dict_dict, Option.map_some, Option.bind_some, Out.bind_ok, Out.bind_no, List.getElem?_cons_zero, List.getElem?_cons_succ, if_true, if_false, Bool.false_eq_true, Bool.true_eq_false, Bool.not_false, Bool.not_true])
def bNew : List S := [.expr (.mth false .append (.var 3) (.cons (.tup (.cons (.idx (.lst false (.cons (.con (.str "open")) (.cons (.con (.str "frozen")) (.cons (.con (.str "frozen")) .nil)))) (.cal false "_law_take" (.cons (.var 0) (.cons (.con (.int (3))) .nil)))) (.cons (.cal false "_law_fields" (.cons (.var 0) (.cons (.var 2) .nil))) .nil))) .nil))]
def bWeb : List S := [.ite (.and (.val (.cmp .ne (.var 3) (.lst false .nil))) (.val (.cmp .eq (.cal false "_law_take" (.cons (.var 0) (.cons (.con (.int (4))) .nil))) (.con (.int (0)))))) [.expr (.mth false .append (.var 3) (.cons (.idx (.var 3) (.cal false "_law_take" (.cons (.var 0) (.cons (.blt false .len (.cons (.var 3) .nil)) .nil)))) .nil))] bNew]
def eWords6 : E := (.lst false (.cons (.con (.str "a")) (.cons (.con (.str "ab")) (.cons (.con (.str "ca")) (.cons (.con (.str "read")) (.cons (.con (.str "set")) (.cons (.con (.str "zebra")) .nil)))))))
def cWebHeads : E := (.lc false (.tup (.cons (.var 6) (.cons (.cal false "_law_take" (.cons (.var 0) (.cons (.var 2) .nil))) .nil))) (.v 6) (.seq (.var 5)) .no [6])
def mWebTail : List S := [.asg (.v 5) (.slc false eWords6 .no (.so (.bin false .add (.con (.int (1))) (.cal false "_law_take" (.cons (.var 0) (.cons (.con (.int (6))) .nil)))))), .ret (.tup (.cons (.blt false .tuple (.cons (.var 3) .nil)) (.cons (.blt false .tuple (.cons cWebHeads .nil)) .nil)))]
def sW1 : S := .asg (.v 2) (.bin false .add (.con (.int (1))) (.cal false "_law_take" (.cons (.var 0) (.cons (.var 1) .nil))))
def sW2 : S := .asg (.v 3) (.lst true .nil)
def sW3 : S := .for (.v 4) (.rng1 (.var 2)) bWeb
def mWebOf : List S := sW1 :: sW2 :: sW3 :: mWebTail
def FieldsP (f : List W → Store → Out W) : Prop := ∀ (μ : Store) (n sz : Nat) (z : Int), Own μ n z → 0 < sz ∧ sz ≤ 1000 → ∃ (z' : Int) (xs : List PyData), f [.ref n, .dat (.int (sz : Nat))] μ = .ok (.dat (.tuple xs)) (μ.set n (.lst [.int z'])) ∧ xs.all isRowD = true ∧ ascD xs = true ∧ xs.length ≤ 4 ∧ xs.all (isValD sz) = true
theorem obj_mk {k : Str} {xs : List PyData} {n : Nat} (hk : k = sOpen ∨ k = sFrozen) (h1 : xs.all isRowD = true) (h2 : ascD xs = true) (h3 : xs.length ≤ 4) (h4 : xs.all (isValD n) = true) : isObjD (.tuple [.str k, .tuple xs]) n = true := by
  have e1 : (decide (k = sOpen) || decide (k = sFrozen)) = true := by
    rw [Bool.or_eq_true, decide_eq_true_eq, decide_eq_true_eq]; exact hk
  have e2 : isTableD (.tuple xs) 4 = true := by
    show (decide ((xs.length : Int) ≤ 4) && (xs.all isRowD && ascD xs)) = true
    rw [h1, h2, decide_eq_true (by omega)]; rfl
  show ((decide (k = sOpen) || decide (k = sFrozen)) && (isTableD (.tuple xs) 4 && (rowsD (.tuple xs)).all (isValD n))) = true
  rw [e1, e2]
  exact h4
theorem len_ref (m : Bool) {r : Nat} {ds : List PyData} {μ : Store} (h : μ[r]? = some (.lst ds)) : bltW m .len [.ref r] μ = .ok (.dat (.int (ds.length : Nat))) μ := by
  show bltP m .len [.ref r] μ = _
  unfold bltP
  have : rds μ [.ref r] = some [.list ds] := by simp [rds, rd_r h]
  rw [this]
  rfl
theorem ne_nil {acc : List PyData} {k n : Nat} (h : Sm k n (.list acc)) (hk : k ≤ 60) : cmpD .ne (.list acc) (.list []) = some (!acc.isEmpty) := by
  have e0 : SeqAt.shaped (.list []) = true := by decide +kernel
  have e : eqOk (.list acc) (.list []) = true := by unfold eqOk; rw [sh_sm h hk, e0]; simp
  show (if eqOk (.list acc) (.list []) = true then some (!PyData.eqv (.list acc) (.list [])) else none) = _
  rw [if_pos e, PyData.eqv]
  cases acc <;> rfl
def kinds3 : List PyData := [.str (Str.ofString "open"), .str (Str.ofString "frozen"), .str (Str.ofString "frozen")]
theorem kinds3_ok {d : PyData} (h : d ∈ kinds3) : ∃ k, d = .str k ∧ (k = sOpen ∨ k = sFrozen) := by
  unfold kinds3 at h
  simp only [List.mem_cons, List.not_mem_nil, or_false] at h
  rcases h with rfl | rfl | rfl
  · exact ⟨_, rfl, .inl rfl⟩
  · exact ⟨_, rfl, .inr rfl⟩
  · exact ⟨_, rfl, .inr rfl⟩
theorem web_turn {F : Specs} {fu : Nat} (h1 : F "_law_take" = sTake) (h2 : FieldsP (F "_law_fields")) {μ : Store} {n sz i : Nat} {z : Int} {acc : List PyData} {mo : PyData} {kk : Option W} (hn : n < μ.length) (hs : 0 < sz ∧ sz ≤ 30) (hl : acc.length ≤ 30) (hp : ∀ o ∈ acc, isObjD o sz = true) :
    ∃ (z' : Int) (o : PyData), Dv.execs F fu bWeb [some (.ref n), some (.dat mo), some (.dat (.int (sz : Nat))), some (.ref μ.length), kk, none, none] (T μ n z acc) = .nx [some (.ref n), some (.dat mo), some (.dat (.int (sz : Nat))), some (.ref μ.length), kk, none, none] (T μ n z' (acc ++ [o])) ∧ isObjD o sz = true := by
  have own : ∀ z acc, Own (T μ n z acc) n z := fun z acc => T_own hn
  have hl2 : acc.length < sizeLine := by have := line30; omega
  have hne := ne_nil (sm_seq (k := 4) (n := 1000) (fun o ho => sm_obj (hp o ho)) (Nat.le_refl _)).2 (by omega)
  have last : ∀ z : Int, ∃ (z' : Int) (o : PyData), Dv.execs F fu bNew [some (.ref n), some (.dat mo), some (.dat (.int (sz : Nat))), some (.ref μ.length), kk, none, none] (T μ n z acc) = .nx [some (.ref n), some (.dat mo), some (.dat (.int (sz : Nat))), some (.ref μ.length), kk, none, none] (T μ n z' (acc ++ [o])) ∧ isObjD o sz = true := fun z => by
    obtain ⟨q1, q2⟩ := emod_bd z (show (0 : Int) < 3 by decide)
    obtain ⟨v, hv, hm⟩ := pick_at (xs := kinds3) q1 q2
    obtain ⟨k, rfl, hk⟩ := kinds3_ok hm
    obtain ⟨z', xs, e, f1, f2, f3, f4⟩ := h2 (T μ n (z / 3) acc) n sz (z / 3) (own _ _) ⟨hs.1, by omega⟩
    rw [T_set1 hn] at e
    have e3 : [PyData.str (Str.ofString "open"), .str (Str.ofString "frozen"), .str (Str.ofString "frozen")] = kinds3 := rfl
    refine ⟨z', .tuple [.str k, .tuple xs], ?_, obj_mk hk f1 f2 f3 f4⟩
    unfold bNew
    walk_at "dvd"
    rw [(append_ok (d := .none) false (T_acc (μ := μ) (n := n) (z := z) (acc := acc)) hl2).1]
    walk_at "dvd"
    rw [e3]
    simp only [h1, take_ok (own z acc) (show (0 : Int) < 3 by decide) (show (3 : Int) < 2 ^ 31 by decide), T_set1 hn]
    walk_at "dv"
    simp only [hv]
    walk_at "dv"
    simp only [e]
    walk_at "dvd"
    rw [(append_ok false (T_acc (μ := μ) (n := n) (z := z') (acc := acc)) hl2).2]
    walk_at "dv"
    rw [T_set2]
  unfold bWeb
  walk_at "dvd"
  simp only [rd_r (T_acc (μ := μ) (n := n) (z := z) (acc := acc)), hne]
  walk_at "dv"
  cases acc with
  | nil =>
    simp only [List.isEmpty_nil]
    walk_at "dv"
    obtain ⟨z', o, e, ho⟩ := last z
    refine ⟨z', o, ?_, ho⟩
    simp only [e]
    walk_at "dv"
  | cons a r =>
    simp only [List.isEmpty_cons]
    walk_at "dv"
    simp only [h1, take_ok (own z (a :: r)) (show (0 : Int) < 4 by decide) (show (4 : Int) < 2 ^ 31 by decide), T_set1 hn]
    walk_at "dv"
    by_cases c : z % 4 = 0
    · simp only [decide_eq_true c]
      walk_at "dv"
      rw [(append_ok (d := .none) false (T_acc (μ := μ) (n := n) (z := z / 4) (acc := a :: r)) hl2).1]
      walk_at "dv"
      simp only [len_ref false (T_acc (μ := μ) (n := n) (z := z / 4) (acc := a :: r))]
      walk_at "dv"
      have hr1 : (0 : Int) < ((a :: r).length : Nat) := by simp only [List.length_cons]; omega
      simp only [h1, take_ok (own (z / 4) (a :: r)) hr1 (show (((a :: r).length : Nat) : Int) < 2 ^ 31 by omega), T_set1 hn]
      walk_at "dv"
      obtain ⟨q1, q2⟩ := emod_bd (z / 4) hr1
      obtain ⟨v, hv, hm⟩ := pick_at (xs := a :: r) q1 q2
      simp only [rdw_r (T_acc (μ := μ) (n := n) (z := z / 4 / ((a :: r).length : Nat)) (acc := a :: r)), hv]
      walk_at "dv"
      rw [(append_ok false (T_acc (μ := μ) (n := n) (z := z / 4 / ((a :: r).length : Nat)) (acc := a :: r)) hl2).2]
      walk_at "dv"
      rw [T_set2]
      exact ⟨_, v, rfl, hp v hm⟩
    · simp only [decide_eq_false c]
      walk_at "dv"
      obtain ⟨z', o, e, ho⟩ := last (z / 4)
      refine ⟨z', o, ?_, ho⟩
      simp only [e]
      walk_at "dv"
/-- a comprehension whose parts change the store -/
theorem lcL_inv {n : Nat} {f : PyData → Store → Out (Option W)} (I : Nat → List PyData → Store → Prop) : ∀ (xs : List PyData) (i : Nat) (acc : List PyData) (μ : Store), I i acc μ → acc.length + xs.length ≤ sizeLine →
    (∀ j x, xs[j]? = some x → ∀ acc μ, I (i + j) acc μ → ∃ y μ1, f x μ = .ok (some (.dat y)) μ1 ∧ μ1[n]? = some (.lst acc) ∧ I (i + j + 1) (acc ++ [y]) (μ1.set n (.lst (acc ++ [y])))) → ∃ acc' μ', lcL n f xs μ = .ok () μ' ∧ I (i + xs.length) acc' μ'
  | [], i, acc, μ, h, _, _ => ⟨acc, μ, rfl, h⟩
  | x :: xs, i, acc, μ, h, hl, st => by
    have hl' : acc.length + (xs.length + 1) ≤ sizeLine := hl
    obtain ⟨y, μ1, e1, hn, h1⟩ := st 0 x rfl acc μ h
    obtain ⟨acc2, μ2, e2, h2⟩ := lcL_inv (n := n) (f := f) I xs (i + 1) (acc ++ [y]) _ h1 (by rw [List.length_append]; simp; omega) (fun j z hz acc μ hI => by
      have e : i + 1 + j = i + (j + 1) := by omega
      rw [e] at hI
      obtain ⟨y', μ', a, b, c⟩ := st (j + 1) z (by simpa using hz) acc μ hI
      exact ⟨y', μ', a, b, by rw [e]; exact c⟩)
    have e : i + (x :: xs).length = i + 1 + xs.length := by rw [List.length_cons]; omega
    refine ⟨acc2, μ2, ?_, by rw [e]; exact h2⟩
    unfold lcL
    rw [e1, Out.bind_ok]
    simp only [dats_d, dats_0, Option.map_some, hn, if_pos (show acc.length < sizeLine by omega)]
    exact e2
def words6 : List Str := [Str.ofString "a", Str.ofString "ab", Str.ofString "ca", Str.ofString "read", Str.ofString "set", Str.ofString "zebra"]
theorem words6_asc : AscW words6 := by
  unfold AscW words6
  decide +kernel
theorem words6_ok : ∀ w ∈ words6, isWordD (.str w) = true := by decide +kernel
structure NumP (ws : List Str) (i : Nat) (n : Nat) (acc : List PyData) : Prop where
  rows : acc.all isRowD = true
  vals : acc.all (isNumRow n) = true
  keys : acc.map keyS = ws.take i
theorem NumP.push {ws : List Str} {i n : Nat} {acc : List PyData} {w : Str} {v : Int} (h : NumP ws i n acc) (hw : ws[i]? = some w) (ok : isWordD (.str w) = true) (hn : n ≤ 1000) (hv : 0 ≤ v ∧ v < n) : NumP ws (i + 1) n (acc ++ [.tuple [.str w, .int v]]) := by
  refine ⟨?_, ?_, ?_⟩
  · rw [List.all_append, h.rows]
    simp [isRowD, ok]
  · rw [List.all_append, h.vals]
    simp only [List.all_cons, List.all_nil, Bool.and_true, Bool.true_and]
    simp only [isNumRow, isNumD, isIntD, Bool.and_eq_true, decide_eq_true_eq]
    exact ⟨⟨by omega, by omega⟩, hv.1, hv.2⟩
  · rw [List.map_append, List.take_succ, hw, h.keys]
    rfl
theorem cut_to (xs : List PyData) (k : Nat) : slcD (.list xs) none (some (k : Nat)) = some (.list (xs.take k)) := by
  show some (PyData.list (cutD xs none (some (k : Nat)))) = _
  congr 2
  unfold cutD
  have h : HT.sIx xs.length 0 none = 0 := rfl
  rw [HT.sIx_nat, h, List.drop_zero, Nat.sub_zero]
  rw [List.take_eq_take_iff]
  omega
theorem heads_ok {F : Specs} (h1 : F "_law_take" = sTake) {μ : Store} {n sz : Nat} {z : Int} {acc : List PyData} {ws : List Str} {mo : PyData} {kk : Option W} (hn : n < μ.length) (hs : 0 < sz ∧ sz ≤ 1000) (hw : ∀ w ∈ ws, isWordD (.str w) = true) (hl : ws.length ≤ 6) :
    ∃ (z' : Int) (rows : List PyData), ev F cWebHeads [some (.ref n), some (.dat mo), some (.dat (.int (sz : Nat))), some (.ref μ.length), kk, some (.dat (.list (ws.map .str))), none] (T μ n z acc) = .ok (.dat (.list rows)) (T μ n z' acc) ∧ NumP ws ws.length sz rows := by
  have o1 : ∀ (z : Int) (rows : List PyData), Own (T μ n z acc ++ [Ob.lst rows]) n z := fun z rows => by
    show (T μ n z acc ++ [Ob.lst rows])[n]? = _
    rw [List.getElem?_append_left (by rw [T_len]; omega)]
    exact T_own hn
  have o2 : ∀ (z y : Int) (rows : List PyData), (T μ n z acc ++ [Ob.lst rows]).set n (.lst [.int y]) = T μ n y acc ++ [Ob.lst rows] := fun z y rows => by
    rw [List.set_append_left _ _ (by rw [T_len]; omega), T_set1 hn]
  have o3 : ∀ (z : Int) (rows : List PyData), (T μ n z acc ++ [Ob.lst rows])[μ.length + 1]? = some (.lst rows) := fun z rows => by
    rw [List.getElem?_append_right (by rw [T_len]; omega), T_len]
    simp
  have o4 : ∀ (z : Int) (rows rows' : List PyData), (T μ n z acc ++ [Ob.lst rows]).set (μ.length + 1) (.lst rows') = T μ n z acc ++ [Ob.lst rows'] := fun z rows rows' => by
    rw [List.set_append_right _ _ (by rw [T_len]; omega), T_len]
    simp
  obtain ⟨rows, μ', e, z', rfl, hp⟩ := lcL_inv (n := μ.length + 1) (f := fun x μ' => lcTurn (asg (.v 6) (.dat x) (wipeE [some (.ref n), some (.dat mo), some (.dat (.int (sz : Nat))), some (.ref μ.length), kk, some (.dat (.list (ws.map .str))), none] [6])) (evC F .no) (ev F (.tup (.cons (.var 6) (.cons (.cal false "_law_take" (.cons (.var 0) (.cons (.var 2) .nil))) .nil)))) μ')
    (fun i rows μ' => ∃ z : Int, μ' = T μ n z acc ++ [Ob.lst rows] ∧ NumP ws i sz rows) (ws.map .str) 0 [] (T μ n z acc ++ [Ob.lst []]) ⟨z, rfl, rfl, rfl, by simp⟩ (by rw [List.length_map]; have := line30; simp; omega) (fun j x hx rows μ' hI => by
      obtain ⟨z, rfl, hp⟩ := hI
      rw [Nat.zero_add] at hp ⊢
      rw [List.getElem?_map] at hx
      obtain ⟨w, hw', rfl⟩ := Option.map_eq_some_iff.mp hx
      have hz : (0 : Int) < (sz : Nat) := by omega
      refine ⟨.tuple [.str w, .int (z % (sz : Nat))], T μ n (z / (sz : Nat)) acc ++ [Ob.lst rows], ?_, o3 _ _, z / (sz : Nat), o4 _ _ _, hp.push hw' (hw w (List.mem_of_getElem? hw')) hs.2 (emod_bd z hz)⟩
      walk_at "dv"
      simp only [h1, take_ok (o1 z rows) hz (show ((sz : Nat) : Int) < 2 ^ 31 by omega), o2]
      walk_at "dvd")
  refine ⟨z', rows, ?_, by rw [List.length_map, Nat.zero_add] at hp; exact hp⟩
  unfold cWebHeads
  simp only [ev, evi]
  have hi : evi F (.seq (.var 5)) [some (.ref n), some (.dat mo), some (.dat (.int (sz : Nat))), some (.ref μ.length), kk, some (.dat (.list (ws.map .str))), none] (T μ n z acc) = .ok (ws.map .str) (T μ n z acc) := by walk_at "dv"
  simp only [evi, ev] at hi
  rw [hi, Out.bind_ok, T_len]
  simp only [ev] at e
  rw [e]
  simp only [Out.noex, Out.bind_ok]
  rw [lcEnd_f (by rw [T_len])]
  rfl
theorem web_mk {os rows : List PyData} (h1 : 1 ≤ os.length) (h2 : os.length ≤ 30) (h3 : ∀ o ∈ os, isObjD o os.length = true) (h4 : 0 < rows.length) (h5 : rows.length ≤ 6) (h6 : rows.all isRowD = true) (h7 : ascD rows = true) (h8 : rows.all (isNumRow os.length) = true) : isWebD (.tuple [.tuple os, .tuple rows]) = true := by
  have e2 : isTableD (.tuple rows) 6 = true := by
    show (decide ((rows.length : Int) ≤ 6) && (rows.all isRowD && ascD rows)) = true
    rw [h6, h7, decide_eq_true (by omega)]; rfl
  show ((decide (1 ≤ os.length) && (decide (os.length ≤ 30) && os.all fun o => isObjD o os.length)) && (isTableD (.tuple rows) 6 && (decide (0 < rows.length) && rows.all (isNumRow os.length)))) = true
  rw [e2, decide_eq_true h1, decide_eq_true h2, decide_eq_true h4, h8, List.all_eq_true.mpr h3]; rfl
theorem web_tail {F : Specs} {fu : Nat} (h1 : F "_law_take" = sTake) {μ1 : Store} {n sz : Nat} {z1 : Int} {acc : List PyData} {mo : PyData} {kk : Option W} (hn1 : n < μ1.length) (hs : 0 < sz ∧ sz ≤ 30) (hl : acc.length = sz) (hp : ∀ o ∈ acc, isObjD o sz = true) :
    ∃ (z2 : Int) (w : PyData), outF false μ1.length (Dv.execs F fu mWebTail [some (.ref n), some (.dat mo), some (.dat (.int (sz : Nat))), some (.ref μ1.length), kk, none, none] (T μ1 n z1 acc)) = .ok (.dat w) (μ1.set n (.lst [.int z2])) ∧ isWebD w = true := by
  have hlit : ∀ μ, ev F eWords6 [some (.ref n), some (.dat mo), some (.dat (.int (sz : Nat))), some (.ref μ1.length), kk, none, none] μ = .ok (.dat (.list (words6.map .str))) μ := fun μ => by
    unfold eWords6
    walk_at "dvd"
    rfl
  obtain ⟨p1, p2⟩ := emod_bd z1 (show (0 : Int) < 6 by decide)
  obtain ⟨k6, hk6⟩ : ∃ k6 : Nat, 1 + z1 % 6 = (k6 : Nat) := ⟨(1 + z1 % 6).toNat, by omega⟩
  have hw6 : ∀ w ∈ words6.take k6, isWordD (.str w) = true := fun w hw => words6_ok w (List.mem_of_mem_take hw)
  have hl6 : (words6.take k6).length = k6 := by
    rw [List.length_take]
    have : words6.length = 6 := rfl
    omega
  obtain ⟨z2, rows, e2, hr⟩ := heads_ok (F := F) h1 (z := z1 / 6) (acc := acc) (ws := words6.take k6) (mo := mo) (kk := kk) hn1 (sz := sz) ⟨hs.1, by omega⟩ hw6 (by omega)
  refine ⟨z2, .tuple [.tuple acc, .tuple rows], ?_, ?_⟩
  · unfold mWebTail
    walk_at "dv"
    simp only [hlit]
    walk_at "dv"
    simp only [h1, take_ok (T_own (z := z1) (acc := acc) hn1) (show (0 : Int) < 6 by decide) (show (6 : Int) < 2 ^ 31 by decide), T_set1 hn1]
    walk_at "dv"
    simp only [add_i, hk6]
    walk_at "dv"
    simp only [cut_to, ← List.map_take]
    walk_at "dv"
    rw [blt_tupR false T_acc]
    walk_at "dv"
    simp only [e2]
    walk_at "dv"
    simp only [blt_tup, tup_l]
    walk_at "dvd"
    show Out.ok _ ((T μ1 n z2 acc).take μ1.length) = _
    rw [T_take]
  · have hrl : rows.length = k6 := by
      have := congrArg List.length hr.keys
      rw [List.length_map, List.take_length, hl6] at this
      exact this
    refine web_mk (by omega) (by omega) (fun o ho' => by rw [hl]; exact hp o ho') (by omega) (by omega) hr.rows (asc_of ?_) (by rw [hl]; exact hr.vals)
    rw [hr.keys, List.take_length]
    exact words6_asc.sublist (List.take_sublist _ _)
theorem sW1_ok {F : Specs} {fu : Nat} (h1 : F "_law_take" = sTake) {μ : Store} {n most sz : Nat} {z : Int} (ho : Own μ n z) (hm : 0 < most ∧ most ≤ 30) (hsz : 1 + z % (most : Nat) = (sz : Nat)) :
    Dv.exec F fu sW1 [some (.ref n), some (.dat (.int (most : Nat))), none, none, none, none, none] μ = .nx [some (.ref n), some (.dat (.int (most : Nat))), some (.dat (.int (sz : Nat))), none, none, none, none] (μ.set n (.lst [.int (z / (most : Nat))])) := by
  unfold sW1
  rw [← hsz]
  walk_at "dv"
  simp only [h1, take_ok ho (show (0 : Int) < (most : Nat) by omega) (show ((most : Nat) : Int) < 2 ^ 31 by omega)]
  walk_at "dv"
  simp only [add_i]
  walk_at "dv"
theorem sW2_ok {F : Specs} {fu : Nat} {μ : Store} {a b c : Option W} : Dv.exec F fu sW2 [a, b, c, none, none, none, none] μ = .nx [a, b, c, some (.ref μ.length), none, none, none] (μ ++ [.lst []]) := by
  unfold sW2
  walk_at "dv"
  rw [if_pos (show ([] : List PyData).length ≤ sizeLine from Nat.zero_le _)]
  walk_at "dv"
theorem evi_rng {F : Specs} {ρ : Dv.Env} {μ : Store} {i sz : Nat} (h : ρ[i]? = some (some (.dat (.int (sz : Nat))))) (hs : sz ≤ 1000) : evi F (.rng1 (.var i)) ρ μ = .ok (rngL sz) μ := by
  have e : ev F (.var i) ρ μ = .ok (.dat (.int (sz : Nat))) μ := by rw [e_var, h]
  rw [i_rng1, e, Out.bind_ok]
  have c : -(2 ^ 62) ≤ ((sz : Nat) : Int) ∧ ((sz : Nat) : Int) < 2 ^ 62 := by constructor <;> omega
  simp only [c, and_self, if_true, Int.toNat_natCast]
  rfl
theorem run_webOf {F : Specs} {fu : Nat} (h1 : F "_law_take" = sTake) (h2 : FieldsP (F "_law_fields")) {μ : Store} {n most : Nat} {z : Int} (ho : Own μ n z) (hm : 0 < most ∧ most ≤ 30) :
    ∃ (z' : Int) (w : PyData), runD F fu 7 mWebOf false [.ref n, .dat (.int (most : Nat))] μ = .ok (.dat w) (μ.set n (.lst [.int z'])) ∧ isWebD w = true := by
  have hn := own_lt ho
  obtain ⟨q1, q2⟩ := emod_bd z (show (0 : Int) < (most : Nat) by omega)
  obtain ⟨sz, hsz⟩ : ∃ sz : Nat, 1 + z % (most : Nat) = (sz : Nat) := ⟨(1 + z % (most : Nat)).toNat, by omega⟩
  have hs : 0 < sz ∧ sz ≤ 30 := by omega
  have ho1 : Own (μ.set n (.lst [.int (z / (most : Nat))])) n (z / (most : Nat)) := own_set ho _
  generalize hμ1 : μ.set n (.lst [.int (z / (most : Nat))]) = μ1 at ho1
  have hlen : μ1.length = μ.length := by rw [← hμ1, List.length_set]
  have hset : ∀ y : Int, μ1.set n (.lst [.int y]) = μ.set n (.lst [.int y]) := fun y => by rw [← hμ1, List.set_set]
  unfold runD mWebOf
  have e0 : startE 7 [W.ref n, W.dat (.int (most : Nat))] = [some (.ref n), some (.dat (.int (most : Nat))), none, none, none, none, none] := rfl
  rw [e0, xs_cons, sW1_ok h1 ho hm hsz, seq_nx, xs_cons, sW2_ok, seq_nx, xs_cons, hμ1]
  unfold sW3
  rw [T_start ho1]
  rw [x_for, evi_rng (sz := sz) rfl (by omega), fl_ok]
  rw [← hlen]
  have hn1 : n < μ1.length := by omega
  obtain ⟨ρ', μ', e, z1, acc, kk, rfl, rfl, hl, hp⟩ := forL_inv (f := turnF F fu (.v 4) bWeb) (fun i ρ μ' => ∃ (z : Int) (acc : List PyData) (kk : Option W), μ' = T μ1 n z acc ∧ ρ = [some (.ref n), some (.dat (.int (most : Nat))), some (.dat (.int (sz : Nat))), some (.ref μ1.length), kk, none, none] ∧ acc.length = i ∧ ∀ o ∈ acc, isObjD o sz = true)
    (rngL sz) 0 [some (.ref n), some (.dat (.int (most : Nat))), some (.dat (.int (sz : Nat))), some (.ref μ1.length), none, none, none] (T μ1 n (z / (most : Nat)) []) ⟨_, [], none, rfl, rfl, rfl, fun o ho => nomatch ho⟩ (fun j x hx ρ μ' hI => by
      obtain ⟨z, acc, kk, rfl, rfl, hl, hp⟩ := hI
      obtain ⟨hj, rfl⟩ := rng_at hx
      obtain ⟨z', o, e, ho'⟩ := web_turn (F := F) (fu := fu) (i := 0) h1 h2 (z := z) (mo := .int (most : Nat)) (kk := some (.dat (.int (j : Nat)))) hn1 hs (by omega) hp
      refine ⟨_, _, ?_, z', acc ++ [o], some (.dat (.int (j : Nat))), rfl, rfl, by rw [List.length_append, hl]; rfl, fun y hy => ?_⟩
      · unfold turnF
        walk_at "dv"
        exact e
      · rcases List.mem_append.mp hy with hy | hy
        · exact hp y hy
        · rw [List.mem_singleton.mp hy]; exact ho')
  rw [rng_len, Nat.zero_add] at hl
  rw [e, seq_nx]
  obtain ⟨z2, w, e2, hw⟩ := web_tail (F := F) (fu := fu) h1 (z1 := z1) (mo := .int (most : Nat)) (kk := kk) hn1 hs hl hp
  exact ⟨z2, w, by rw [e2, hset], hw⟩
end Pl

/-! Pl14: paths made of digits. -/
namespace Pl
open PySem hiding Env exec execs start
open Dv
local macro_rules | `(tactic| walk_at "dv") => `(tactic| simp only [mkL_f1, mkL_f2, mkL_t1, mkL_t2, c_no, c_so, lcT_s, asg_v, asg_2, asg_3, wipe_0, wipe_s, List.set_cons_zero, List.set_cons_succ, cut_1, xs_nil, xs_cons, x_ite, x_ret, x_asg, x_expr, x_pass, x_par, seq_rt, seq_nx, fl_ok, oFl_s, setsL_0, setsL_s, out_rt, out_nx, close_d, e_var, e_con, e_tup, e_lst, e_bin, e_neg, e_cmp, e_chn, e_not, e_and, e_or, e_ite, e_idx, e_slc, e_cal, e_cak, e_blt, e_mth, e_isi, t_not, t_and, t_or, t_val, s_nil, s_cons, o_no, o_so, i_seq, i_zip, datOf_d, seqD_l, seqD_t, seqD_s, truth_b, rd_d, rdw_d, lift_s, lift_n, nm_f, nm_t, fin_i, fin_b, fin_s, fin_t, fin_n, fin_l, fin_d, finO_s, finO_n, dats_d, dats_0, rds_d, rds_0, bltW_len, blt_all, len_t, len_l, len_d, le_i, lt_i, ge_i, gt_i, eq_i, ne_i, eqv_i, ix0_t, ix1_t, ix2_t, q_none_tuple, q_none_str, q_none_int, q_none_bool, q_none_list, q_none_dict, q_bool_tuple, q_bool_str, q_bool_int, q_bool_bool, q_bool_list, q_bool_dict, q_int_tuple, q_int_str, q_int_int, q_int_bool, q_int_list, q_int_dict, q_str_tuple, q_str_str, q_str_int, q_str_bool, q_str_list, q_str_dict, q_list_tuple, q_list_str, q_list_int, q_list_bool, q_list_list, q_list_dict, q_tuple_tuple, q_tuple_str, q_tuple_int, q_tuple_bool, q_tuple_list, q_tuple_dict, q_dict_tuple, q_dict_str, q_dict_int, q_dict_bool, q_dict_list, q_dict_dict, Option.map_some, Option.bind_some, Out.bind_ok, Out.bind_no, List.getElem?_cons_zero, List.getElem?_cons_succ, if_true, if_false, Bool.false_eq_true, Bool.true_eq_false, Bool.not_false, Bool.not_true])
local macro_rules | `(tactic| walk_at "dvd") => `(tactic| simp (decide := true) only [List.length_cons, List.length_nil, mkL_f1, mkL_f2, mkL_t1, mkL_t2, c_no, c_so, lcT_s, asg_v, asg_2, asg_3, wipe_0, wipe_s, List.set_cons_zero, List.set_cons_succ, cut_1, xs_nil, xs_cons, x_ite, x_ret, x_asg, x_expr, x_pass, x_par, seq_rt, seq_nx, fl_ok, oFl_s, setsL_0, setsL_s, out_rt, out_nx, close_d, e_var, e_con, e_tup, e_lst, e_bin, e_neg, e_cmp, e_chn, e_not, e_and, e_or, e_ite, e_idx, e_slc, e_cal, e_cak, e_blt, e_mth, e_isi, t_not, t_and, t_or, t_val, s_nil, s_cons, o_no, o_so, i_seq, i_zip, datOf_d, seqD_l, seqD_t, seqD_s, truth_b, rd_d, rdw_d, lift_s, lift_n, nm_f, nm_t, fin_i, fin_b, fin_s, fin_t, fin_n, fin_l, fin_d, finO_s, finO_n, dats_d, dats_0, rds_d, rds_0, bltW_len, blt_all, len_t, len_l, len_d, le_i, lt_i, ge_i, gt_i, eq_i, ne_i, eqv_i, ix0_t, ix1_t, ix2_t, q_none_tuple, q_none_str, q_none_int, q_none_bool, q_none_list, q_none_dict, q_bool_tuple, q_bool_str, q_bool_int, q_bool_bool, q_bool_list, q_bool_dict, q_int_tuple, q_int_str, q_int_int, q_int_bool, q_int_list, q_int_dict, q_str_tuple, q_str_str, q_str_int, q_str_bool, q_str_list, q_str_dict, q_list_tuple, q_list_str, q_list_int, q_list_bool, q_list_list, q_list_dict, q_tuple_tuple, q_tuple_str, q_tuple_int, q_tuple_bool, q_tuple_list, q_tuple_dict, q_dict_tuple, q_dict_str, q_dict_int, q_dict_bool, q_dict_list, q_dict_dict, Option.map_some, Option.bind_some, Out.bind_ok, Out.bind_no, List.getElem?_cons_zero, List.getElem?_cons_succ, if_true, if_false, Bool.false_eq_true, Bool.true_eq_false, Bool.not_false, Bool.not_true])
def pB0 : S := .asg (.v 7) (.lst false (.cons (.con (.str "a")) (.cons (.con (.str "ab")) (.cons (.con (.str "longname")) (.cons (.con (.str "x")) .nil)))))
def pB1 : S := .ite (.and (.val (.isi (.var 5) ["tuple"])) (.and (.val (.cmp .ne (.idx (.idx (.idx (.var 1) (.con (.int (0)))) (.idx (.var 5) (.con (.int (0))))) (.con (.int (1)))) (.tup .nil))) (.val (.cmp .gt (.cal false "_law_take" (.cons (.var 0) (.cons (.con (.int (8))) .nil))) (.con (.int (0))))))) [.asg (.v 7) (.lc false (.var 8) (.t2 (.v 8) (.v 10)) (.seq (.idx (.idx (.idx (.var 1) (.con (.int (0)))) (.idx (.var 5) (.con (.int (0))))) (.con (.int (1))))) .no [8, 10])] []
def pB2 : S := .expr (.mth false .append (.var 4) (.cons (.idx (.var 7) (.cal false "_law_take" (.cons (.var 0) (.cons (.blt false .len (.cons (.var 7) .nil)) .nil)))) .nil))
def pB3 : S := .asg (.v 5) (.cal false "_law_value" (.cons (.var 1) (.cons (.blt false .tuple (.cons (.var 4) .nil)) .nil)))
def bPath : List S := [pB0, pB1, pB2, pB3]
def pS0 : S := .asg (.v 3) (.lc false (.var 8) (.t2 (.v 8) (.v 9)) (.seq (.idx (.var 1) (.con (.int (1))))) .no [8, 9])
def pS1 : S := .asg (.v 4) (.lst true (.cons (.idx (.var 3) (.cal false "_law_take" (.cons (.var 0) (.cons (.blt false .len (.cons (.var 3) .nil)) .nil)))) .nil))
def pS2 : S := .ite (.val (.cmp .eq (.cal false "_law_take" (.cons (.var 0) (.cons (.con (.int (12))) .nil))) (.con (.int (0))))) [.asg (.v 4) (.lst true (.cons (.con (.str "q")) .nil))] []
def pS3 : S := .asg (.v 5) (.cal false "_law_value" (.cons (.var 1) (.cons (.blt false .tuple (.cons (.var 4) .nil)) .nil)))
def pS4 : S := .for (.v 6) (.rng1 (.cal false "_law_take" (.cons (.var 0) (.cons (.var 2) .nil)))) bPath
def pS5 : S := .ret (.blt false .tuple (.cons (.var 4) .nil))
def mPath : List S := [pS0, pS1, pS2, pS3, pS4, pS5]

/-- own[0] = z at n, the way acc at r, beyond the caller's store -/
structure Pt (μ : Store) (n r : Nat) (z : Int) (acc : List PyData) (μ' : Store) : Prop where
  own : Own μ' n z
  way : μ'[r]? = some (.lst acc)
  cut : μ'.take μ.length = μ.set n (.lst [.int z])
  ne : n ≠ r
  hr : μ.length ≤ r
section
variable {μ μ' : Store} {n r : Nat} {z : Int} {acc : List PyData}
theorem Pt.take (h : Pt μ n r z acc μ') {o : Int} (h1 : 0 < o) (h2 : o < 2 ^ 31) : sTake [.ref n, .dat (.int o)] μ' = .ok (.dat (.int (z % o))) (μ'.set n (.lst [.int (z / o)])) ∧ Pt μ n r (z / o) acc (μ'.set n (.lst [.int (z / o)])) :=
  ⟨take_ok h.own h1 h2, own_set h.own _, by rw [List.getElem?_set_ne h.ne]; exact h.way, by rw [List.take_set, h.cut, List.set_set], h.ne, h.hr⟩
theorem Pt.app (h : Pt μ n r z acc μ') (y : List PyData) : Pt μ n r z y (μ'.set r (.lst y)) := by
  have hl : r < μ'.length := (List.getElem?_eq_some_iff.mp h.way).1
  refine ⟨?_, List.getElem?_set_self hl, ?_, h.ne, h.hr⟩
  · show (μ'.set r (.lst y))[n]? = _
    rw [List.getElem?_set_ne h.ne.symm]; exact h.own
  · rw [List.take_set, List.set_eq_of_length_le (by rw [List.length_take]; have := h.hr; omega), h.cut]
end
abbrev env11 (n : Nat) (d : PyData) (most : Nat) (hd : PyData) (r : Nat) (f : PyData) (k w : Option W) : Dv.Env := [some (.ref n), some (.dat d), some (.dat (.int (most : Nat))), some (.dat hd), some (.ref r), some (.dat f), k, w, none, none, none]
theorem pB0_ok {F : Specs} {fu n r most : Nat} {d hd f : PyData} {k w : Option W} {μ : Store} : Dv.exec F fu pB0 (env11 n d most hd r f k w) μ = .nx (env11 n d most hd r f k (some (.dat (.list (words4.map .str))))) μ := by
  unfold pB0 env11
  walk_at "dvd"
  rfl
/-- words to choose from -/
def WordsP (ws : List PyData) : Prop := 0 < ws.length ∧ ws.length ≤ 6 ∧ ∀ w ∈ ws, isWordD w = true
theorem words4P : WordsP (words4.map .str) := by
  refine ⟨by decide, by decide, fun w hw => ?_⟩
  obtain ⟨x, hx, rfl⟩ := List.mem_map.mp hw
  exact words4_ok x hx
theorem ne_nilT {acc : List PyData} {k n : Nat} (h : Sm k n (.tuple acc)) (hk : k ≤ 60) : cmpD .ne (.tuple acc) (.tuple []) = some (!acc.isEmpty) := by
  have e0 : SeqAt.shaped (.tuple []) = true := by decide +kernel
  have e : eqOk (.tuple acc) (.tuple []) = true := by unfold eqOk; rw [sh_sm h hk, e0]; simp
  show (if eqOk (.tuple acc) (.tuple []) = true then some (!PyData.eqv (.tuple acc) (.tuple [])) else none) = _
  rw [if_pos e, PyData.eqv]
  cases acc <;> rfl
theorem pB1_ok {F : Specs} {fu : Nat} (h1 : F "_law_take" = sTake) {μ μ' : Store} {n r most : Nat} {z : Int} {acc : List PyData} {d hd f : PyData} {k : Option W} {os ns : List PyData} (P : WebP d os ns) (hf : FoundP os.length f) (hp : Pt μ n r z acc μ') :
    ∃ (z' : Int) (ws : List PyData) (μ2 : Store), Dv.exec F fu pB1 (env11 n d most hd r f k (some (.dat (.list (words4.map .str))))) μ' = .nx (env11 n d most hd r f k (some (.dat (.list ws)))) μ2 ∧ Pt μ n r z' acc μ2 ∧ WordsP ws := by
  have stop : (match f with | .tuple _ => False | _ => True) → Dv.exec F fu pB1 (env11 n d most hd r f k (some (.dat (.list (words4.map .str))))) μ' = .nx (env11 n d most hd r f k (some (.dat (.list (words4.map .str))))) μ' := fun hh => by
    unfold pB1 env11
    cases f with
    | tuple xs => exact hh.elim
    | _ => walk_at "dv"
  have go : ∀ i : Int, f = .tuple [.int i] → ∃ (z' : Int) (ws : List PyData) (μ2 : Store), Dv.exec F fu pB1 (env11 n d most hd r f k (some (.dat (.list (words4.map .str))))) μ' = .nx (env11 n d most hd r f k (some (.dat (.list ws)))) μ2 ∧ Pt μ n r z' acc μ2 ∧ WordsP ws := fun i e => by
    subst e
    have hi : 0 ≤ i ∧ i < os.length := hf
    obtain ⟨j, rfl⟩ : ∃ j : Nat, i = j := ⟨i.toNat, by omega⟩
    have hj : j < os.length := by omega
    obtain ⟨kk, xs, Q⟩ := obj_form (P.objs _ (List.getElem_mem hj))
    have e1 : os[j]? = some (.tuple [.str kk, .tuple xs]) := by rw [List.getElem?_eq_getElem hj, Q.e]
    have hix : idxD d (.int 0) = some (.tuple os) := by rw [P.e]; exact ix0_t _ _
    have hne := ne_nilT (sm_rows Q.rows Q.vals Q.len) (by omega)
    obtain ⟨t1, t2⟩ := hp.take (show (0 : Int) < 8 by decide) (show (8 : Int) < 2 ^ 31 by decide)
    unfold pB1 env11
    walk_at "dvd"
    simp only [hix]
    walk_at "dv"
    simp only [ix_n, e1]
    walk_at "dv"
    simp only [hne]
    walk_at "dv"
    cases hx : xs with
    | nil =>
      simp only [List.isEmpty_nil]
      walk_at "dv"
      exact ⟨z, _, μ', rfl, hp, words4P⟩
    | cons a rr =>
      simp only [List.isEmpty_cons]
      walk_at "dv"
      simp only [h1, t1]
      walk_at "dv"
      by_cases c : 0 < z % 8
      · simp only [decide_eq_true c]
        walk_at "dv"
        have hm : ev F (.lc false (.var 8) (.t2 (.v 8) (.v 10)) (.seq (.idx (.idx (.idx (.var 1) (.con (.int (0)))) (.idx (.var 5) (.con (.int (0))))) (.con (.int (1))))) .no [8, 10]) [some (.ref n), some (.dat d), some (.dat (.int (most : Nat))), some (.dat hd), some (.ref r), some (.dat (.tuple [.int (j : Nat)])), k, some (.dat (.list (words4.map .str))), none, none, none] (μ'.set n (.lst [.int (z / 8)])) = .ok (.dat (.list (xs.map fstD))) (μ'.set n (.lst [.int (z / 8)])) := by
          refine ev_map _ (xs := xs) ?_ (fun p hp' μ2 => ?_) (by have := Q.len; have := line30; omega)
          · walk_at "dv"
            simp only [hix]
            walk_at "dv"
            simp only [ix_n, e1]
            walk_at "dv"
          · obtain ⟨x, v, rfl, _⟩ := row_form (List.all_eq_true.mp Q.rows p hp')
            have e : (((wipeE [some (W.ref n), some (.dat d), some (.dat (.int (most : Nat))), some (.dat hd), some (.ref r), some (.dat (.tuple [.int (j : Nat)])), k, some (.dat (.list (words4.map .str))), none, none, none] [8, 10]).set 8 (some (W.dat (.str x)))).set 10 (some (W.dat v)))[8]? = some (some (.dat (.str x))) := rfl
            simp only [c_no, lcT_s, asg_2, asg_v, Option.bind_some, Out.bind_ok, if_true, e_var, e]
            rfl
        simp only [hm]
        walk_at "dv"
        refine ⟨_, _, _, rfl, t2, ?_, ?_, fun w hw => ?_⟩
        · rw [List.length_map, hx]; simp
        · rw [List.length_map]; have := Q.len; omega
        · obtain ⟨p, hp', rfl⟩ := List.mem_map.mp hw
          obtain ⟨x, v, rfl, hx'⟩ := row_form (List.all_eq_true.mp Q.rows p hp')
          exact hx'
      · simp only [decide_eq_false c]
        walk_at "dv"
        exact ⟨_, _, _, rfl, t2, words4P⟩
  unfold FoundP at hf
  split at hf
  · exact ⟨z, _, μ', stop trivial, hp, words4P⟩
  · exact ⟨z, _, μ', stop trivial, hp, words4P⟩
  · exact go _ rfl
  · exact hf.elim
theorem pB2_ok {F : Specs} {fu : Nat} (h1 : F "_law_take" = sTake) {μ μ' : Store} {n r most : Nat} {z : Int} {acc ws : List PyData} {d hd f : PyData} {k : Option W} (hw : WordsP ws) (hl : acc.length ≤ 60) (hp : Pt μ n r z acc μ') :
    ∃ (z' : Int) (w : PyData) (μ2 : Store), Dv.exec F fu pB2 (env11 n d most hd r f k (some (.dat (.list ws)))) μ' = .nx (env11 n d most hd r f k (some (.dat (.list ws)))) μ2 ∧ Pt μ n r z' (acc ++ [w]) μ2 ∧ isWordD w = true := by
  have h0 : (0 : Int) < (ws.length : Nat) := by have := hw.1; omega
  obtain ⟨t1, t2⟩ := hp.take h0 (show ((ws.length : Nat) : Int) < 2 ^ 31 by have := hw.2.1; omega)
  obtain ⟨q1, q2⟩ := emod_bd z h0
  obtain ⟨w, hv, hm⟩ := pick_at q1 q2
  have hl2 : acc.length < sizeLine := by have := line30; omega
  refine ⟨z / (ws.length : Nat), w, _, ?_, t2.app (acc ++ [w]), hw.2.2 w hm⟩
  unfold pB2 env11
  walk_at "dv"
  rw [(append_ok (d := .none) false hp.way hl2).1]
  walk_at "dv"
  simp only [h1, t1]
  walk_at "dv"
  simp only [hv]
  walk_at "dv"
  rw [(append_ok false t2.way hl2).2]
  walk_at "dv"
theorem pathD_of {acc : List PyData} (h1 : 1 ≤ acc.length) (h2 : acc.length ≤ 64) (h3 : ∀ w ∈ acc, isWordD w = true) : isPathD (.tuple acc) = true := by
  show (decide (1 ≤ acc.length) && (decide (acc.length ≤ 64) && acc.all isWordD)) = true
  rw [decide_eq_true h1, decide_eq_true h2, List.all_eq_true.mpr h3]; rfl
theorem pB3_ok {F : Specs} {fu : Nat} (h1 : F "_law_value" = sValueAt) {n r most : Nat} {μ' : Store} {acc : List PyData} {d hd f : PyData} {k w : Option W} (hd' : isWebD d = true) (hw : μ'[r]? = some (.lst acc)) (hp : isPathD (.tuple acc) = true) :
    Dv.exec F fu pB3 (env11 n d most hd r f k w) μ' = .nx (env11 n d most hd r (valD d (.tuple acc)) k w) μ' := by
  unfold pB3 env11
  walk_at "dv"
  rw [blt_tupR false hw]
  walk_at "dv"
  simp only [h1, sValueAt, sp2_d, hd', hp, Bool.and_true, if_true]
  walk_at "dv"
theorem path_turn {F : Specs} {fu : Nat} (h1 : F "_law_take" = sTake) (h2 : F "_law_value" = sValueAt) {μ μ' : Store} {n r most : Nat} {z : Int} {acc : List PyData} {d hd : PyData} {k wd : Option W} (hd' : isWebD d = true) (ha : 1 ≤ acc.length) (hl : acc.length ≤ 60) (hw : ∀ w ∈ acc, isWordD w = true) (hp : Pt μ n r z acc μ') :
    ∃ (z' : Int) (w : PyData) (wd' : Option W) (μ2 : Store), Dv.execs F fu bPath (env11 n d most hd r (valD d (.tuple acc)) k wd) μ' = .nx (env11 n d most hd r (valD d (.tuple (acc ++ [w]))) k wd') μ2 ∧ Pt μ n r z' (acc ++ [w]) μ2 ∧ isWordD w = true := by
  obtain ⟨os, ns, P⟩ := web_form hd'
  have hpa := pathD_of ha (by omega) hw
  obtain ⟨z1, ws, μ1, e1, p1, hws⟩ := pB1_ok (F := F) (fu := fu) (most := most) (hd := hd) (k := k) h1 P (val_at P hpa) hp
  obtain ⟨z2, w, μ2, e2, p2, ok⟩ := pB2_ok (F := F) (fu := fu) (most := most) (d := d) (hd := hd) (f := valD d (.tuple acc)) (k := k) h1 hws hl p1
  have hw2 : ∀ y ∈ acc ++ [w], isWordD y = true := fun y hy => by
    rcases List.mem_append.mp hy with hy | hy
    · exact hw y hy
    · rw [List.mem_singleton.mp hy]; exact ok
  have e3 := pB3_ok (F := F) (fu := fu) (n := n) (most := most) (hd := hd) (f := valD d (.tuple acc)) (k := k) (w := some (.dat (.list ws))) h2 hd' p2.way (pathD_of (by rw [List.length_append]; simp) (by rw [List.length_append]; simp; omega) hw2)
  refine ⟨z2, w, some (.dat (.list ws)), μ2, ?_, p2, ok⟩
  unfold bPath
  rw [xs_cons, pB0_ok, seq_nx, xs_cons, e1, seq_nx, xs_cons, e2, seq_nx, xs_cons, e3, seq_nx, xs_nil]
theorem evi_rngE {F : Specs} {ρ : Dv.Env} {μ μ1 : Store} {a : E} {sz : Nat} (e : ev F a ρ μ = .ok (.dat (.int (sz : Nat))) μ1) (hs : sz ≤ 1000) : evi F (.rng1 a) ρ μ = .ok (rngL sz) μ1 := by
  rw [i_rng1, e, Out.bind_ok]
  have c : -(2 ^ 62) ≤ ((sz : Nat) : Int) ∧ ((sz : Nat) : Int) < 2 ^ 62 := by constructor <;> omega
  simp only [c, and_self, if_true, Int.toNat_natCast]
  rfl
theorem heads_word {ns : List PyData} (hr : ns.all isRowD = true) : ∀ w ∈ ns.map fstD, isWordD w = true := fun w hw => by
  obtain ⟨p, hp', rfl⟩ := List.mem_map.mp hw
  obtain ⟨x, v, rfl, hx'⟩ := row_form (List.all_eq_true.mp hr p hp')
  exact hx'
theorem pS0_ok {F : Specs} {fu n most : Nat} {d : PyData} {os ns : List PyData} (P : WebP d os ns) {μ : Store} : Dv.exec F fu pS0 [some (.ref n), some (.dat d), some (.dat (.int (most : Nat))), none, none, none, none, none, none, none, none] μ = .nx [some (.ref n), some (.dat d), some (.dat (.int (most : Nat))), some (.dat (.list (ns.map fstD))), none, none, none, none, none, none, none] μ := by
  have hix : idxD d (.int 1) = some (.tuple ns) := by rw [P.e]; exact ix1_t _ _ _
  have hm : ev F (.lc false (.var 8) (.t2 (.v 8) (.v 9)) (.seq (.idx (.var 1) (.con (.int (1))))) .no [8, 9]) [some (.ref n), some (.dat d), some (.dat (.int (most : Nat))), none, none, none, none, none, none, none, none] μ = .ok (.dat (.list (ns.map fstD))) μ := by
    refine ev_map _ (xs := ns) ?_ (fun p hp' μ2 => ?_) (by have := P.nlen; have := line30; omega)
    · walk_at "dv"
      simp only [hix]
      walk_at "dv"
    · obtain ⟨x, v, rfl, _⟩ := row_form (List.all_eq_true.mp P.rows p hp')
      have e : (((wipeE [some (W.ref n), some (.dat d), some (.dat (.int (most : Nat))), none, none, none, none, none, none, none, none] [8, 9]).set 8 (some (W.dat (.str x)))).set 9 (some (W.dat v)))[8]? = some (some (.dat (.str x))) := rfl
      simp only [c_no, lcT_s, asg_2, asg_v, Option.bind_some, Out.bind_ok, if_true, e_var, e]
      rfl
  unfold pS0
  simp only [x_asg, hm]
  walk_at "dv"
theorem pS1_ok {F : Specs} {fu n most : Nat} (h1 : F "_law_take" = sTake) {d : PyData} {hs : List PyData} {μ : Store} {z : Int} (ho : Own μ n z) (h0 : 0 < hs.length) (h6 : hs.length ≤ 6) :
    ∃ w ∈ hs, ∃ μ1, Dv.exec F fu pS1 [some (.ref n), some (.dat d), some (.dat (.int (most : Nat))), some (.dat (.list hs)), none, none, none, none, none, none, none] μ = .nx [some (.ref n), some (.dat d), some (.dat (.int (most : Nat))), some (.dat (.list hs)), some (.ref μ.length), none, none, none, none, none, none] μ1 ∧ Pt μ n μ.length (z / (hs.length : Nat)) [w] μ1 ∧ μ1.length = μ.length + 1 := by
  have hz : (0 : Int) < (hs.length : Nat) := by omega
  obtain ⟨q1, q2⟩ := emod_bd z hz
  obtain ⟨w, hv, hm⟩ := pick_at q1 q2
  have hn := own_lt ho
  refine ⟨w, hm, T μ n (z / (hs.length : Nat)) [w], ?_, ⟨T_own hn, T_acc, T_take, by omega, Nat.le_refl _⟩, T_len⟩
  unfold pS1
  walk_at "dv"
  simp only [h1, take_ok ho hz (show ((hs.length : Nat) : Int) < 2 ^ 31 by omega)]
  walk_at "dv"
  simp only [hv]
  walk_at "dv"
  rw [if_pos (show [w].length ≤ sizeLine from one_le)]
  walk_at "dv"
  rw [List.length_set]
  rfl
theorem pS2_ok {F : Specs} {fu n most : Nat} (h1 : F "_law_take" = sTake) {d hd w : PyData} {μ μ' : Store} {z : Int} (hp : Pt μ n μ.length z [w] μ') (hl : μ'.length = μ.length + 1) (hw : isWordD w = true) (hn : n < μ.length) :
    ∃ (r : Nat) (w' : PyData) (μ1 : Store) (z' : Int), Dv.exec F fu pS2 [some (.ref n), some (.dat d), some (.dat (.int (most : Nat))), some (.dat hd), some (.ref μ.length), none, none, none, none, none, none] μ' = .nx [some (.ref n), some (.dat d), some (.dat (.int (most : Nat))), some (.dat hd), some (.ref r), none, none, none, none, none, none] μ1 ∧ Pt μ n r z' [w'] μ1 ∧ isWordD w' = true := by
  obtain ⟨t1, t2⟩ := hp.take (show (0 : Int) < 12 by decide) (show (12 : Int) < 2 ^ 31 by decide)
  by_cases c : z % 12 = 0
  · have hll : (μ'.set n (.lst [.int (z / 12)])).length = μ.length + 1 := by rw [List.length_set, hl]
    refine ⟨μ.length + 1, .str (Str.ofString "q"), μ'.set n (.lst [.int (z / 12)]) ++ [.lst [.str (Str.ofString "q")]], z / 12, ?_, ⟨?_, ?_, ?_, by omega, by omega⟩, by decide +kernel⟩
    · unfold pS2
      walk_at "dv"
      simp only [h1, t1]
      walk_at "dv"
      simp only [decide_eq_true c]
      walk_at "dv"
      rw [if_pos (show [PyData.str (Str.ofString "q")].length ≤ sizeLine from one_le)]
      walk_at "dv"
      rw [hll]
    · show (_ ++ _)[n]? = _
      rw [List.getElem?_append_left (by omega)]
      exact t2.own
    · rw [List.getElem?_append_right (by omega), hll]
      simp
    · rw [List.take_append_of_le_length (by omega)]
      exact t2.cut
  · refine ⟨μ.length, w, _, z / 12, ?_, t2, hw⟩
    unfold pS2
    walk_at "dv"
    simp only [h1, t1]
    walk_at "dv"
    simp only [decide_eq_false c]
    walk_at "dv"
theorem run_path {F : Specs} {fu : Nat} (h1 : F "_law_take" = sTake) (h2 : F "_law_value" = sValueAt) {μ : Store} {n most : Nat} {z : Int} {d : PyData} (hd : isWebD d = true) (ho : Own μ n z) (hm : 0 < most ∧ most ≤ 12) :
    ∃ (z' : Int) (acc : List PyData), runD F fu 11 mPath false [.ref n, .dat d, .dat (.int (most : Nat))] μ = .ok (.dat (.tuple acc)) (μ.set n (.lst [.int z'])) ∧ 1 ≤ acc.length ∧ acc.length ≤ 13 ∧ ∀ w ∈ acc, isWordD w = true := by
  obtain ⟨os, ns, P⟩ := web_form hd
  have hn := own_lt ho
  have hhl : (ns.map fstD).length = ns.length := List.length_map ..
  obtain ⟨w0, hw0, μ1, e1, p1, l1⟩ := pS1_ok (F := F) (fu := fu) (most := most) (d := d) h1 ho (by rw [hhl]; exact P.npos) (by rw [hhl]; exact P.nlen)
  have ok0 := heads_word P.rows w0 hw0
  obtain ⟨r, w1, μ2, z2, e2, p2, ok1⟩ := pS2_ok (F := F) (fu := fu) (most := most) (d := d) (hd := .list (ns.map fstD)) h1 p1 l1 ok0 hn
  have one : ∀ y ∈ [w1], isWordD y = true := fun y hy => by rw [List.mem_singleton.mp hy]; exact ok1
  have e3 : Dv.exec F fu pS3 [some (.ref n), some (.dat d), some (.dat (.int (most : Nat))), some (.dat (.list (ns.map fstD))), some (.ref r), none, none, none, none, none, none] μ2 = .nx (env11 n d most (.list (ns.map fstD)) r (valD d (.tuple [w1])) none none) μ2 := by
    unfold pS3 env11
    walk_at "dv"
    rw [blt_tupR false p2.way]
    walk_at "dv"
    simp only [h2, sValueAt, sp2_d, hd, pathD_of (acc := [w1]) (by simp) (by simp) one, Bool.and_true, if_true]
    walk_at "dv"
  have hmz : (0 : Int) < (most : Nat) := by omega
  obtain ⟨t1, t2⟩ := p2.take hmz (show ((most : Nat) : Int) < 2 ^ 31 by omega)
  obtain ⟨q1, q2⟩ := emod_bd z2 hmz
  obtain ⟨k, hk⟩ : ∃ k : Nat, z2 % (most : Nat) = (k : Nat) := ⟨(z2 % (most : Nat)).toNat, by omega⟩
  have hk12 : k < 12 := by omega
  have er : evi F (.rng1 (.cal false "_law_take" (.cons (.var 0) (.cons (.var 2) .nil)))) (env11 n d most (.list (ns.map fstD)) r (valD d (.tuple [w1])) none none) μ2 = .ok (rngL k) (μ2.set n (.lst [.int (z2 / (most : Nat))])) := by
    refine evi_rngE ?_ (by omega)
    rw [← hk]
    walk_at "dv"
    simp only [h1, t1]
  obtain ⟨ρ', μ', e4, z', acc, kk, wd, rfl, p4, a1, a2⟩ := forL_inv (f := turnF F fu (.v 6) bPath) (fun i ρ μ' => ∃ (z : Int) (acc : List PyData) (kk wd : Option W), ρ = env11 n d most (.list (ns.map fstD)) r (valD d (.tuple acc)) kk wd ∧ Pt μ n r z acc μ' ∧ acc.length = i + 1 ∧ ∀ w ∈ acc, isWordD w = true)
    (rngL k) 0 (env11 n d most (.list (ns.map fstD)) r (valD d (.tuple [w1])) none none) _ ⟨_, [w1], none, none, rfl, t2, rfl, one⟩ (fun j x hx ρ μ' hI => by
      obtain ⟨z, acc, kk, wd, rfl, p, a1, a2⟩ := hI
      obtain ⟨hj, rfl⟩ := rng_at hx
      obtain ⟨z', w, wd', μ3, e, p', ok⟩ := path_turn (F := F) (fu := fu) (most := most) (hd := .list (ns.map fstD)) (k := some (.dat (.int (j : Nat)))) (wd := wd) h1 h2 hd (by omega) (by omega) a2 p
      refine ⟨_, μ3, ?_, z', acc ++ [w], some (.dat (.int (j : Nat))), wd', rfl, p', by rw [List.length_append, a1]; rfl, fun y hy => ?_⟩
      · exact e
      · rcases List.mem_append.mp hy with hy | hy
        · exact a2 y hy
        · rw [List.mem_singleton.mp hy]; exact ok)
  rw [rng_len] at a1
  refine ⟨z', acc, ?_, by omega, by omega, a2⟩
  unfold runD mPath
  have e0 : startE 11 [W.ref n, W.dat d, W.dat (.int (most : Nat))] = [some (.ref n), some (.dat d), some (.dat (.int (most : Nat))), none, none, none, none, none, none, none, none] := rfl
  have ex4 : Dv.exec F fu pS4 (env11 n d most (.list (ns.map fstD)) r (valD d (.tuple [w1])) none none) μ2 = .nx (env11 n d most (.list (ns.map fstD)) r (valD d (.tuple acc)) kk wd) μ' := by
    unfold pS4
    rw [x_for, er, fl_ok, e4]
  have ex5 : Dv.exec F fu pS5 (env11 n d most (.list (ns.map fstD)) r (valD d (.tuple acc)) kk wd) μ' = .rt (.dat (.tuple acc)) μ' := by
    unfold pS5 env11
    walk_at "dv"
    rw [blt_tupR false p4.way]
    walk_at "dv"
  rw [e0, xs_cons, pS0_ok P, seq_nx, xs_cons, e1, seq_nx, xs_cons, e2, seq_nx, xs_cons, e3, seq_nx, xs_cons, ex4, seq_nx, xs_cons, ex5, seq_rt, out_rt]
  show Out.ok _ (μ'.take μ.length) = _
  rw [p4.cut]
end Pl

/-! Pl15: k03, the law. -/
namespace Pl
open PySem hiding Env exec execs start
open Dv
local macro_rules | `(tactic| walk_at "dv") => `(tactic| simp only [mkL_f1, mkL_f2, mkL_t1, mkL_t2, c_no, c_so, lcT_s, asg_v, asg_2, asg_3, wipe_0, wipe_s, List.set_cons_zero, List.set_cons_succ, cut_1, xs_nil, xs_cons, x_ite, x_ret, x_asg, x_expr, x_pass, x_par, seq_rt, seq_nx, fl_ok, oFl_s, setsL_0, setsL_s, out_rt, out_nx, close_d, e_var, e_con, e_tup, e_lst, e_bin, e_neg, e_cmp, e_chn, e_not, e_and, e_or, e_ite, e_idx, e_slc, e_cal, e_cak, e_blt, e_mth, e_isi, t_not, t_and, t_or, t_val, s_nil, s_cons, o_no, o_so, i_seq, i_zip, datOf_d, seqD_l, seqD_t, seqD_s, truth_b, rd_d, rdw_d, lift_s, lift_n, nm_f, nm_t, fin_i, fin_b, fin_s, fin_t, fin_n, fin_l, fin_d, finO_s, finO_n, dats_d, dats_0, rds_d, rds_0, bltW_len, blt_all, len_t, len_l, len_d, le_i, lt_i, ge_i, gt_i, eq_i, ne_i, eqv_i, ix0_t, ix1_t, ix2_t, q_none_tuple, q_none_str, q_none_int, q_none_bool, q_none_list, q_none_dict, q_bool_tuple, q_bool_str, q_bool_int, q_bool_bool, q_bool_list, q_bool_dict, q_int_tuple, q_int_str, q_int_int, q_int_bool, q_int_list, q_int_dict, q_str_tuple, q_str_str, q_str_int, q_str_bool, q_str_list, q_str_dict, q_list_tuple, q_list_str, q_list_int, q_list_bool, q_list_list, q_list_dict, q_tuple_tuple, q_tuple_str, q_tuple_int, q_tuple_bool, q_tuple_list, q_tuple_dict, q_dict_tuple, q_dict_str, q_dict_int, q_dict_bool, q_dict_list, q_dict_dict, Option.map_some, Option.bind_some, Out.bind_ok, Out.bind_no, List.getElem?_cons_zero, List.getElem?_cons_succ, if_true, if_false, Bool.false_eq_true, Bool.true_eq_false, Bool.not_false, Bool.not_true])
local macro_rules | `(tactic| walk_at "dvd") => `(tactic| simp (decide := true) only [List.length_cons, List.length_nil, mkL_f1, mkL_f2, mkL_t1, mkL_t2, c_no, c_so, lcT_s, asg_v, asg_2, asg_3, wipe_0, wipe_s, List.set_cons_zero, List.set_cons_succ, cut_1, xs_nil, xs_cons, x_ite, x_ret, x_asg, x_expr, x_pass, x_par, seq_rt, seq_nx, fl_ok, oFl_s, setsL_0, setsL_s, out_rt, out_nx, close_d, e_var, e_con, e_tup, e_lst, e_bin, e_neg, e_cmp, e_chn, e_not, e_and, e_or, e_ite, e_idx, e_slc, e_cal, e_cak, e_blt, e_mth, e_isi, t_not, t_and, t_or, t_val, s_nil, s_cons, o_no, o_so, i_seq, i_zip, datOf_d, seqD_l, seqD_t, seqD_s, truth_b, rd_d, rdw_d, lift_s, lift_n, nm_f, nm_t, fin_i, fin_b, fin_s, fin_t, fin_n, fin_l, fin_d, finO_s, finO_n, dats_d, dats_0, rds_d, rds_0, bltW_len, blt_all, len_t, len_l, len_d, le_i, lt_i, ge_i, gt_i, eq_i, ne_i, eqv_i, ix0_t, ix1_t, ix2_t, q_none_tuple, q_none_str, q_none_int, q_none_bool, q_none_list, q_none_dict, q_bool_tuple, q_bool_str, q_bool_int, q_bool_bool, q_bool_list, q_bool_dict, q_int_tuple, q_int_str, q_int_int, q_int_bool, q_int_list, q_int_dict, q_str_tuple, q_str_str, q_str_int, q_str_bool, q_str_list, q_str_dict, q_list_tuple, q_list_str, q_list_int, q_list_bool, q_list_list, q_list_dict, q_tuple_tuple, q_tuple_str, q_tuple_int, q_tuple_bool, q_tuple_list, q_tuple_dict, q_dict_tuple, q_dict_str, q_dict_int, q_dict_bool, q_dict_list, q_dict_dict, Option.map_some, Option.bind_some, Out.bind_ok, Out.bind_no, List.getElem?_cons_zero, List.getElem?_cons_succ, if_true, if_false, Bool.false_eq_true, Bool.true_eq_false, Bool.not_false, Bool.not_true])
def lB3 : List S := [.ite (.not (.val (.cal false "_law_good" (.cons (.var 7) (.cons (.var 3) .nil))))) [.ret (.con (.bool false))] []]
def lP : S := .asg (.v 4) (.cal false "_law_path" (.cons (.var 5) (.cons (.var 7) (.cons (.idx (.lst false (.cons (.con (.int (3))) (.cons (.con (.int (12))) .nil))) (.bin false .mod (.blt false .int (.cons (.var 8) .nil)) (.con (.int (2))))) .nil))))
def lSome : S := .for (.v 3) (.seq (.lst false (.cons (.var 4) (.cons (.bin false .add (.var 4) (.tup (.cons (.con (.str "n")) .nil))) (.cons (.slc false (.var 4) (.so (.neg (.con (.int (1))))) .no) .nil))))) lB3
def lB2 : List S := [lP, lSome]
def lW : S := .asg (.v 7) (.cal false "_law_web" (.cons (.var 5) (.cons (.idx (.lst false (.cons (.con (.int (4))) (.cons (.con (.int (12))) .nil))) (.var 6)) .nil)))
def lJ : S := .for (.v 8) (.rng1 (.con (.int (12)))) lB2
def lB1 : List S := [lW, lJ]
def lC : S := .asg (.v 5) (.lst true (.cons (.cal false "_law_cell" (.cons (.var 0) (.cons (.var 1) .nil))) .nil))
def lK : S := .for (.v 6) (.rng1 (.con (.int (2)))) lB1
def lB0 : List S := [lC, lK]
def lT : S := .for (.v 1) (.rng1 (.blt false .max2 (.cons (.blt false .min2 (.cons (.blt false .len (.cons (.var 0) .nil)) (.cons (.con (.int (5))) .nil))) (.cons (.con (.int (1))) .nil)))) lB0
def lR : S := .asg (.v 2) (.tup (.cons (.tup (.cons (.tup (.cons (.con (.str "open")) (.cons (.tup (.cons (.tup (.cons (.con (.str "n")) (.cons (.tup (.cons (.con (.int (1))) .nil)) .nil))) (.cons (.tup (.cons (.con (.str "x")) (.cons (.con (.int (5))) .nil))) .nil))) .nil))) (.cons (.tup (.cons (.con (.str "frozen")) (.cons (.tup (.cons (.tup (.cons (.con (.str "n")) (.cons (.tup (.cons (.con (.int (0))) .nil)) .nil))) .nil)) .nil))) .nil))) (.cons (.tup (.cons (.tup (.cons (.con (.str "a")) (.cons (.con (.int (0))) .nil))) (.cons (.tup (.cons (.con (.str "b")) (.cons (.con (.int (1))) .nil))) .nil))) .nil)))
def lL : S := .asg (.v 3) (.lst false (.cons (.bin false .add (.tup (.cons (.con (.str "a")) .nil)) (.bin false .mul (.tup (.cons (.con (.str "n")) .nil)) (.con (.int (63))))) (.cons (.bin false .add (.bin false .add (.tup (.cons (.con (.str "b")) .nil)) (.bin false .mul (.tup (.cons (.con (.str "n")) .nil)) (.con (.int (62))))) (.tup (.cons (.con (.str "x")) .nil))) (.cons (.bin false .add (.bin false .add (.tup (.cons (.con (.str "b")) .nil)) (.bin false .mul (.tup (.cons (.con (.str "n")) .nil)) (.con (.int (61))))) (.tup (.cons (.con (.str "x")) .nil))) .nil))))
def lB4 : List S := [.ite (.not (.val (.cal false "_law_good" (.cons (.var 2) (.cons (.var 4) .nil))))) [.ret (.con (.bool false))] []]
def lF : S := .for (.v 4) (.seq (.bin false .add (.var 3) (.lst false (.cons (.tup (.cons (.con (.str "a")) (.cons (.con (.str "x")) (.cons (.con (.str "n")) .nil)))) (.cons (.tup (.cons (.con (.str "q")) .nil)) .nil))))) lB4
def lI : S := .ite (.val (.cmp .ne (.cal false "look" (.cons (.var 2) (.cons (.bin false .add (.bin false .add (.tup (.cons (.con (.str "a")) .nil)) (.bin false .mul (.tup (.cons (.con (.str "n")) .nil)) (.con (.int (62))))) (.tup (.cons (.con (.str "x")) .nil))) .nil))) (.con (.int (5))))) [.ret (.con (.bool false))] []
def lE : S := .ret (.and (.cmp .is (.cal false "place" (.cons (.var 2) (.cons (.tup (.cons (.con (.str "a")) (.cons (.con (.str "x")) .nil))) .nil))) (.con .none)) (.cmp .eq (.cal false "place" (.cons (.var 2) (.cons (.tup (.cons (.con (.str "b")) (.cons (.con (.str "n")) .nil))) .nil))) (.con (.int (0)))))
def mLaw3 : List S := [lT, lR, lL, lF, lI, lE]

def CellP (f : List W → Store → Out W) : Prop := ∀ (ns : List Int) (k : Nat) (μ : Store), k < 2 ^ 20 → ∃ z : Int, f [.scr ns, .dat (.int (k : Nat))] μ = .ok (.dat (.int z)) μ
def WebF (f : List W → Store → Out W) : Prop := ∀ (μ : Store) (n most : Nat) (z : Int), Own μ n z → 0 < most ∧ most ≤ 30 → ∃ (z' : Int) (w : PyData), f [.ref n, .dat (.int (most : Nat))] μ = .ok (.dat w) (μ.set n (.lst [.int z'])) ∧ isWebD w = true
def PathF (f : List W → Store → Out W) : Prop := ∀ (μ : Store) (n most : Nat) (z : Int) (d : PyData), isWebD d = true → Own μ n z → 0 < most ∧ most ≤ 12 → ∃ (z' : Int) (acc : List PyData), f [.ref n, .dat d, .dat (.int (most : Nat))] μ = .ok (.dat (.tuple acc)) (μ.set n (.lst [.int z'])) ∧ 1 ≤ acc.length ∧ acc.length ≤ 13 ∧ ∀ w ∈ acc, isWordD w = true
def GoodF (f : List W → Store → Out W) : Prop := ∀ (d p : PyData) (μ : Store), isWebD d = true → isPathD p = true → f [.dat d, .dat p] μ = .ok (.dat (.bool true)) μ
abbrev env9 (ns : List Int) (a1 a2 a3 a4 a5 a6 a7 a8 : Option W) : Dv.Env := [some (.scr ns), a1, a2, a3, a4, a5, a6, a7, a8]
section
variable {F : Specs} {fu : Nat}
theorem cut_last {acc : List PyData} (h : 1 ≤ acc.length) : ∃ w ∈ acc, slcD (.tuple acc) (some (-1)) none = some (.tuple [w]) := by
  have hn : acc ≠ [] := fun e => by rw [e] at h; simp at h
  refine ⟨acc.getLast hn, List.getLast_mem hn, ?_⟩
  show some (PyData.tuple (cutD acc (some (-1)) none)) = _
  congr 2
  unfold cutD
  have e1 : HT.sIx acc.length 0 (some (-1)) = acc.length - 1 := by
    show (if (-1 : Int) < 0 then ((-1 : Int) + (acc.length : Int)).toNat else min (-1 : Int).toNat acc.length) = _
    rw [if_pos (by decide)]
    omega
  have e2 : HT.sIx acc.length acc.length none = acc.length := rfl
  rw [e1, e2]
  have e3 : acc.drop (acc.length - 1) = [acc.getLast hn] := by
    have e := List.dropLast_concat_getLast hn
    calc acc.drop (acc.length - 1) = (acc.dropLast ++ [acc.getLast hn]).drop (acc.length - 1) := by rw [e]
      _ = [acc.getLast hn] := List.drop_left' (by simp)
  rw [e3]
  have e4 : acc.length - (acc.length - 1) = 1 := by omega
  rw [e4]
  rfl
theorem add_t {xs ys : List PyData} (h : xs.length + ys.length ≤ sizeLine) : binD .add (.tuple xs) (.tuple ys) = some (.tuple (xs ++ ys)) := if_pos h
/-- one path, thrice -/
theorem some_ok (hG : GoodF (F "_law_good")) {ns : List Int} {a1 a2 a3 a5 a6 a8 : Option W} {d : PyData} {acc : List PyData} {μ : Store} (hd : isWebD d = true) (h1 : 1 ≤ acc.length) (h2 : acc.length ≤ 13) (h3 : ∀ w ∈ acc, isWordD w = true) :
    ∃ a3', Dv.exec F fu lSome (env9 ns a1 a2 a3 (some (.dat (.tuple acc))) a5 a6 (some (.dat d)) a8) μ = .nx (env9 ns a1 a2 a3' (some (.dat (.tuple acc))) a5 a6 (some (.dat d)) a8) μ := by
  obtain ⟨w, hw, ew⟩ := cut_last h1
  have hi : evi F (.seq (.lst false (.cons (.var 4) (.cons (.bin false .add (.var 4) (.tup (.cons (.con (.str "n")) .nil))) (.cons (.slc false (.var 4) (.so (.neg (.con (.int (1))))) .no) .nil))))) (env9 ns a1 a2 a3 (some (.dat (.tuple acc))) a5 a6 (some (.dat d)) a8) μ = .ok [.tuple acc, .tuple (acc ++ [.str (Str.ofString "n")]), .tuple [w]] μ := by
    walk_at "dvd"
    simp only [add_t (show acc.length + [PyData.str (Str.ofString "n")].length ≤ sizeLine by simp; have := line30; omega)]
    walk_at "dvd"
    simp only [ew]
    walk_at "dvd"
  have hn : isWordD (.str (Str.ofString "n")) = true := by decide +kernel
  have paths : ∀ p ∈ [PyData.tuple acc, .tuple (acc ++ [.str (Str.ofString "n")]), .tuple [w]], isPathD p = true := fun p hp => by
    simp only [List.mem_cons, List.not_mem_nil, or_false] at hp
    rcases hp with rfl | rfl | rfl
    · exact pathD_of h1 (by omega) h3
    · refine pathD_of (by rw [List.length_append]; simp) (by rw [List.length_append]; simp; omega) fun y hy => ?_
      rcases List.mem_append.mp hy with hy | hy
      · exact h3 y hy
      · rw [List.mem_singleton.mp hy]; exact hn
    · exact pathD_of (by simp) (by simp) fun y hy => by rw [List.mem_singleton.mp hy]; exact h3 w hw
  obtain ⟨ρ', μ', e, a3', rfl, rfl⟩ := forL_all (f := turnF F fu (.v 3) lB3) (fun ρ μ' => ∃ a3', ρ = env9 ns a1 a2 a3' (some (.dat (.tuple acc))) a5 a6 (some (.dat d)) a8 ∧ μ = μ') _ (env9 ns a1 a2 a3 (some (.dat (.tuple acc))) a5 a6 (some (.dat d)) a8) μ ⟨a3, rfl, rfl⟩ (fun p hp ρ μ' hI => by
    obtain ⟨a3', rfl, rfl⟩ := hI
    refine ⟨_, μ, ?_, some (.dat p), rfl, rfl⟩
    unfold turnF lB3
    walk_at "dv"
    simp only [hG d p μ hd (paths p hp)]
    walk_at "dv")
  refine ⟨a3', ?_⟩
  unfold lSome
  rw [x_for, hi, fl_ok, e]
/-- twelve paths -/
theorem j_ok (hP : PathF (F "_law_path")) (hG : GoodF (F "_law_good")) {ns : List Int} {a1 a2 a3 a4 a6 a8 : Option W} {d : PyData} {n : Nat} {z : Int} {μ : Store} (hd : isWebD d = true) (ho : Own μ n z) :
    ∃ a3' a4' a8' μ' z', Dv.exec F fu lJ (env9 ns a1 a2 a3 a4 (some (.ref n)) a6 (some (.dat d)) a8) μ = .nx (env9 ns a1 a2 a3' a4' (some (.ref n)) a6 (some (.dat d)) a8') μ' ∧ Own μ' n z' := by
  have hi : evi F (.rng1 (.con (.int (12)))) (env9 ns a1 a2 a3 a4 (some (.ref n)) a6 (some (.dat d)) a8) μ = .ok (rngL 12) μ := evi_rngE (sz := 12) (e_con _) (by decide)
  obtain ⟨ρ', μ', e, a3', a4', a8', z', rfl, ho'⟩ := forL_inv (f := turnF F fu (.v 8) lB2) (fun i ρ μ' => ∃ a3' a4' a8' z', ρ = env9 ns a1 a2 a3' a4' (some (.ref n)) a6 (some (.dat d)) a8' ∧ Own μ' n z') (rngL 12) 0 (env9 ns a1 a2 a3 a4 (some (.ref n)) a6 (some (.dat d)) a8) μ ⟨a3, a4, a8, z, rfl, ho⟩ (fun j x hx ρ μ' hI => by
    obtain ⟨a3, a4, a8, z, rfl, ho⟩ := hI
    obtain ⟨hj, rfl⟩ := rng_at hx
    obtain ⟨m, hm, em⟩ : ∃ m : Nat, (0 < m ∧ m ≤ 12) ∧ ∀ μ', ev F (.idx (.lst false (.cons (.con (.int (3))) (.cons (.con (.int (12))) .nil))) (.bin false .mod (.blt false .int (.cons (.var 8) .nil)) (.con (.int (2))))) (env9 ns a1 a2 a3 a4 (some (.ref n)) a6 (some (.dat d)) (some (.dat (.int (j : Nat))))) μ' = .ok (.dat (.int (m : Nat))) μ' := by
      have hb := emod_bd ((j : Nat) : Int) (show (0 : Int) < 2 by decide)
      have hc : ((j : Nat) : Int) % 2 = 0 ∨ ((j : Nat) : Int) % 2 = 1 := by omega
      rcases hc with c | c
      · refine ⟨3, by decide, fun μ' => ?_⟩
        walk_at "dvd"
        simp only [int_i]
        walk_at "dv"
        simp only [mod_i (show (0 : Int) < 2 by decide), c]
        walk_at "dv"
        simp only [ix0_l]
        walk_at "dv"
        rfl
      · refine ⟨12, by decide, fun μ' => ?_⟩
        walk_at "dvd"
        simp only [int_i]
        walk_at "dv"
        simp only [mod_i (show (0 : Int) < 2 by decide), c]
        walk_at "dv"
        simp only [show idxD (.list [.int 3, .int 12]) (.int 1) = some (.int 12) from ixD_n [PyData.int 3, .int 12] 1]
        walk_at "dv"
        rfl
    obtain ⟨z', acc, ep, h1, h2, h3⟩ := hP μ' n m z d hd ho hm
    obtain ⟨a3', es⟩ := some_ok (F := F) (fu := fu) hG (ns := ns) (a1 := a1) (a2 := a2) (a3 := a3) (a5 := some (.ref n)) (a6 := a6) (a8 := some (.dat (.int (j : Nat)))) (μ := μ'.set n (.lst [.int z'])) hd h1 h2 h3
    refine ⟨_, _, ?_, a3', some (.dat (.tuple acc)), some (.dat (.int (j : Nat))), z', rfl, own_set ho z'⟩
    have e1 : Dv.exec F fu lP (env9 ns a1 a2 a3 a4 (some (.ref n)) a6 (some (.dat d)) (some (.dat (.int (j : Nat))))) μ' = .nx (env9 ns a1 a2 a3 (some (.dat (.tuple acc))) (some (.ref n)) a6 (some (.dat d)) (some (.dat (.int (j : Nat))))) (μ'.set n (.lst [.int z'])) := by
      unfold lP
      simp only [x_asg, e_cal, s_cons, s_nil, em]
      walk_at "dv"
      simp only [ep]
      walk_at "dv"
    show Dv.execs F fu lB2 (env9 ns a1 a2 a3 a4 (some (.ref n)) a6 (some (.dat d)) (some (.dat (.int (j : Nat))))) μ' = _
    unfold lB2
    rw [xs_cons, e1, seq_nx, xs_cons, es, seq_nx, xs_nil])
  refine ⟨a3', a4', a8', μ', z', ?_, ho'⟩
  unfold lJ
  rw [x_for, hi, fl_ok, e]
/-- two webs -/
theorem k_ok (hW : WebF (F "_law_web")) (hP : PathF (F "_law_path")) (hG : GoodF (F "_law_good")) {ns : List Int} {a1 a2 a3 a4 a6 a7 a8 : Option W} {n : Nat} {z : Int} {μ : Store} (ho : Own μ n z) :
    ∃ a3' a4' a6' a7' a8' μ', Dv.exec F fu lK (env9 ns a1 a2 a3 a4 (some (.ref n)) a6 a7 a8) μ = .nx (env9 ns a1 a2 a3' a4' (some (.ref n)) a6' a7' a8') μ' := by
  have hi : evi F (.rng1 (.con (.int (2)))) (env9 ns a1 a2 a3 a4 (some (.ref n)) a6 a7 a8) μ = .ok (rngL 2) μ := evi_rngE (sz := 2) (e_con _) (by decide)
  obtain ⟨ρ', μ', e, a3', a4', a6', a7', a8', z', rfl, ho'⟩ := forL_inv (f := turnF F fu (.v 6) lB1) (fun i ρ μ' => ∃ a3' a4' a6' a7' a8' z', ρ = env9 ns a1 a2 a3' a4' (some (.ref n)) a6' a7' a8' ∧ Own μ' n z') (rngL 2) 0 (env9 ns a1 a2 a3 a4 (some (.ref n)) a6 a7 a8) μ ⟨a3, a4, a6, a7, a8, z, rfl, ho⟩ (fun j x hx ρ μ' hI => by
    obtain ⟨a3, a4, a6, a7, a8, z, rfl, ho⟩ := hI
    obtain ⟨hj, rfl⟩ := rng_at hx
    obtain ⟨m, hm, em⟩ : ∃ m : Nat, (0 < m ∧ m ≤ 30) ∧ ∀ μ', ev F (.idx (.lst false (.cons (.con (.int (4))) (.cons (.con (.int (12))) .nil))) (.var 6)) (env9 ns a1 a2 a3 a4 (some (.ref n)) (some (.dat (.int (j : Nat)))) a7 a8) μ' = .ok (.dat (.int (m : Nat))) μ' := by
      have hc : j = 0 ∨ j = 1 := by omega
      rcases hc with rfl | rfl
      · refine ⟨4, by decide, fun μ' => ?_⟩
        walk_at "dvd"
        simp only [ix_l]
        walk_at "dv"
        rfl
      · refine ⟨12, by decide, fun μ' => ?_⟩
        walk_at "dvd"
        simp only [ix_l]
        walk_at "dv"
        rfl
    obtain ⟨z', w, ew, hw⟩ := hW μ' n m z ho hm
    obtain ⟨a3', a4', a8', μ2, z2, ej, ho2⟩ := j_ok (F := F) (fu := fu) hP hG (ns := ns) (a1 := a1) (a2 := a2) (a3 := a3) (a4 := a4) (a6 := some (.dat (.int (j : Nat)))) (a8 := a8) hw (own_set ho z')
    refine ⟨_, μ2, ?_, a3', a4', some (.dat (.int (j : Nat))), some (.dat w), a8', z2, rfl, ho2⟩
    have e1 : Dv.exec F fu lW (env9 ns a1 a2 a3 a4 (some (.ref n)) (some (.dat (.int (j : Nat)))) a7 a8) μ' = .nx (env9 ns a1 a2 a3 a4 (some (.ref n)) (some (.dat (.int (j : Nat)))) (some (.dat w)) a8) (μ'.set n (.lst [.int z'])) := by
      unfold lW
      simp only [x_asg, e_cal, s_cons, s_nil, em]
      walk_at "dv"
      simp only [ew]
      walk_at "dv"
    show Dv.execs F fu lB1 (env9 ns a1 a2 a3 a4 (some (.ref n)) (some (.dat (.int (j : Nat)))) a7 a8) μ' = _
    unfold lB1
    rw [xs_cons, e1, seq_nx, xs_cons, ej, seq_nx, xs_nil])
  refine ⟨a3', a4', a6', a7', a8', μ', ?_⟩
  unfold lK
  rw [x_for, hi, fl_ok, e]
end
end Pl

/-! Pl16: k03, the law's end. -/
namespace Pl
open PySem hiding Env exec execs start
open Dv
local macro_rules | `(tactic| walk_at "dv") => `(tactic| simp only [mkL_f1, mkL_f2, mkL_t1, mkL_t2, c_no, c_so, lcT_s, asg_v, asg_2, asg_3, wipe_0, wipe_s, List.set_cons_zero, List.set_cons_succ, cut_1, xs_nil, xs_cons, x_ite, x_ret, x_asg, x_expr, x_pass, x_par, seq_rt, seq_nx, fl_ok, oFl_s, setsL_0, setsL_s, out_rt, out_nx, close_d, e_var, e_con, e_tup, e_lst, e_bin, e_neg, e_cmp, e_chn, e_not, e_and, e_or, e_ite, e_idx, e_slc, e_cal, e_cak, e_blt, e_mth, e_isi, t_not, t_and, t_or, t_val, s_nil, s_cons, o_no, o_so, i_seq, i_zip, datOf_d, seqD_l, seqD_t, seqD_s, truth_b, rd_d, rdw_d, lift_s, lift_n, nm_f, nm_t, fin_i, fin_b, fin_s, fin_t, fin_n, fin_l, fin_d, finO_s, finO_n, dats_d, dats_0, rds_d, rds_0, bltW_len, blt_all, len_t, len_l, len_d, le_i, lt_i, ge_i, gt_i, eq_i, ne_i, eqv_i, ix0_t, ix1_t, ix2_t, q_none_tuple, q_none_str, q_none_int, q_none_bool, q_none_list, q_none_dict, q_bool_tuple, q_bool_str, q_bool_int, q_bool_bool, q_bool_list, q_bool_dict, q_int_tuple, q_int_str, q_int_int, q_int_bool, q_int_list, q_int_dict, q_str_tuple, q_str_str, q_str_int, q_str_bool, q_str_list, q_str_dict, q_list_tuple, q_list_str, q_list_int, q_list_bool, q_list_list, q_list_dict, q_tuple_tuple, q_tuple_str, q_tuple_int, q_tuple_bool, q_tuple_list, q_tuple_dict, q_dict_tuple, q_dict_str, q_dict_int, q_dict_bool, q_dict_list, q_dict_dict, Option.map_some, Option.bind_some, Out.bind_ok, Out.bind_no, List.getElem?_cons_zero, List.getElem?_cons_succ, if_true, if_false, Bool.false_eq_true, Bool.true_eq_false, Bool.not_false, Bool.not_true])
local macro_rules | `(tactic| walk_at "dvd") => `(tactic| simp (decide := true) only [List.length_cons, List.length_nil, mkL_f1, mkL_f2, mkL_t1, mkL_t2, c_no, c_so, lcT_s, asg_v, asg_2, asg_3, wipe_0, wipe_s, List.set_cons_zero, List.set_cons_succ, cut_1, xs_nil, xs_cons, x_ite, x_ret, x_asg, x_expr, x_pass, x_par, seq_rt, seq_nx, fl_ok, oFl_s, setsL_0, setsL_s, out_rt, out_nx, close_d, e_var, e_con, e_tup, e_lst, e_bin, e_neg, e_cmp, e_chn, e_not, e_and, e_or, e_ite, e_idx, e_slc, e_cal, e_cak, e_blt, e_mth, e_isi, t_not, t_and, t_or, t_val, s_nil, s_cons, o_no, o_so, i_seq, i_zip, datOf_d, seqD_l, seqD_t, seqD_s, truth_b, rd_d, rdw_d, lift_s, lift_n, nm_f, nm_t, fin_i, fin_b, fin_s, fin_t, fin_n, fin_l, fin_d, finO_s, finO_n, dats_d, dats_0, rds_d, rds_0, bltW_len, blt_all, len_t, len_l, len_d, le_i, lt_i, ge_i, gt_i, eq_i, ne_i, eqv_i, ix0_t, ix1_t, ix2_t, q_none_tuple, q_none_str, q_none_int, q_none_bool, q_none_list, q_none_dict, q_bool_tuple, q_bool_str, q_bool_int, q_bool_bool, q_bool_list, q_bool_dict, q_int_tuple, q_int_str, q_int_int, q_int_bool, q_int_list, q_int_dict, q_str_tuple, q_str_str, q_str_int, q_str_bool, q_str_list, q_str_dict, q_list_tuple, q_list_str, q_list_int, q_list_bool, q_list_list, q_list_dict, q_tuple_tuple, q_tuple_str, q_tuple_int, q_tuple_bool, q_tuple_list, q_tuple_dict, q_dict_tuple, q_dict_str, q_dict_int, q_dict_bool, q_dict_list, q_dict_dict, Option.map_some, Option.bind_some, Out.bind_ok, Out.bind_no, List.getElem?_cons_zero, List.getElem?_cons_succ, if_true, if_false, Bool.false_eq_true, Bool.true_eq_false, Bool.not_false, Bool.not_true])
def ringD : PyData := .tuple [.tuple [.tuple [.str "open", .tuple [.tuple [.str "n", .tuple [.int 1]], .tuple [.str "x", .int 5]]], .tuple [.str "frozen", .tuple [.tuple [.str "n", .tuple [.int 0]]]]], .tuple [.tuple [.str "a", .int 0], .tuple [.str "b", .int 1]]]
def nsD (k : Nat) : List PyData := List.replicate k (.str "n")
def p1D : PyData := .tuple (.str "a" :: nsD 63)
def p2D : PyData := .tuple (.str "b" :: (nsD 62 ++ [.str "x"]))
def p3D : PyData := .tuple (.str "b" :: (nsD 61 ++ [.str "x"]))
def p4D : PyData := .tuple [.str "a", .str "x", .str "n"]
def p5D : PyData := .tuple [.str "q"]
def p6D : PyData := .tuple (.str "a" :: (nsD 62 ++ [.str "x"]))
def eR : E := (.tup (.cons (.tup (.cons (.tup (.cons (.con (.str "open")) (.cons (.tup (.cons (.tup (.cons (.con (.str "n")) (.cons (.tup (.cons (.con (.int (1))) .nil)) .nil))) (.cons (.tup (.cons (.con (.str "x")) (.cons (.con (.int (5))) .nil))) .nil))) .nil))) (.cons (.tup (.cons (.con (.str "frozen")) (.cons (.tup (.cons (.tup (.cons (.con (.str "n")) (.cons (.tup (.cons (.con (.int (0))) .nil)) .nil))) .nil)) .nil))) .nil))) (.cons (.tup (.cons (.tup (.cons (.con (.str "a")) (.cons (.con (.int (0))) .nil))) (.cons (.tup (.cons (.con (.str "b")) (.cons (.con (.int (1))) .nil))) .nil))) .nil)))
def eL : E := (.lst false (.cons (.bin false .add (.tup (.cons (.con (.str "a")) .nil)) (.bin false .mul (.tup (.cons (.con (.str "n")) .nil)) (.con (.int (63))))) (.cons (.bin false .add (.bin false .add (.tup (.cons (.con (.str "b")) .nil)) (.bin false .mul (.tup (.cons (.con (.str "n")) .nil)) (.con (.int (62))))) (.tup (.cons (.con (.str "x")) .nil))) (.cons (.bin false .add (.bin false .add (.tup (.cons (.con (.str "b")) .nil)) (.bin false .mul (.tup (.cons (.con (.str "n")) .nil)) (.con (.int (61))))) (.tup (.cons (.con (.str "x")) .nil))) .nil))))
def eF : E := (.bin false .add (.var 3) (.lst false (.cons (.tup (.cons (.con (.str "a")) (.cons (.con (.str "x")) (.cons (.con (.str "n")) .nil)))) (.cons (.tup (.cons (.con (.str "q")) .nil)) .nil))))
def eA : E := (.bin false .add (.bin false .add (.tup (.cons (.con (.str "a")) .nil)) (.bin false .mul (.tup (.cons (.con (.str "n")) .nil)) (.con (.int (62))))) (.tup (.cons (.con (.str "x")) .nil)))
section
variable {F : Specs} {fu : Nat}
theorem mul_t1 (x : PyData) {k : Nat} (h : 2 ≤ k ∧ k ≤ 1000) : binD .mul (.tuple [x]) (.int (k : Nat)) = some (.tuple (List.replicate k x)) := by
  have c : 2 ≤ ((k : Nat) : Int) ∧ ((k : Nat) : Int) ≤ 1000 ∧ [x].length ≤ 1000 ∧ [x].isEmpty = false := ⟨by omega, by omega, by simp, rfl⟩
  show (if 2 ≤ ((k : Nat) : Int) ∧ ((k : Nat) : Int) ≤ 1000 ∧ [x].length ≤ 1000 ∧ [x].isEmpty = false then some (PyData.tuple (List.replicate ((k : Nat) : Int).toNat [x]).flatten) else none) = _
  rw [if_pos c, Int.toNat_natCast]
  congr 2
  clear h c
  induction k with
  | zero => rfl
  | succ k ih => rw [List.replicate_succ, List.replicate_succ, List.flatten_cons, ih]; rfl
theorem m61 (x : PyData) : binD .mul (.tuple [x]) (.int 61) = some (.tuple (List.replicate 61 x)) := mul_t1 x (k := 61) (by decide)
theorem m62 (x : PyData) : binD .mul (.tuple [x]) (.int 62) = some (.tuple (List.replicate 62 x)) := mul_t1 x (k := 62) (by decide)
theorem m63 (x : PyData) : binD .mul (.tuple [x]) (.int 63) = some (.tuple (List.replicate 63 x)) := mul_t1 x (k := 63) (by decide)
theorem add_ts {xs ys : List PyData} (h : xs.length + ys.length ≤ 1000) : binD .add (.tuple xs) (.tuple ys) = some (.tuple (xs ++ ys)) := if_pos (by have := line30; omega)
theorem add_ls {xs ys : List PyData} (h : xs.length + ys.length ≤ 1000) : binD .add (.list xs) (.list ys) = some (.list (xs ++ ys)) := if_pos (by have := line30; omega)
theorem ev_eR (ρ : Dv.Env) (μ : Store) : ev F eR ρ μ = .ok (.dat ringD) μ := by
  unfold eR
  walk_at "dvd"
  rfl
theorem ev_eL (ρ : Dv.Env) (μ : Store) : ev F eL ρ μ = .ok (.dat (.list [p1D, p2D, p3D])) μ := by
  unfold eL
  walk_at "dvd"
  simp only [m61, m62, m63]
  walk_at "dv"
  rw [add_ts (by simp), add_ts (by simp), add_ts (by simp)]
  walk_at "dv"
  rw [add_ts (by simp), add_ts (by simp)]
  walk_at "dvd"
  rfl
theorem ev_eA (ρ : Dv.Env) (μ : Store) : ev F eA ρ μ = .ok (.dat p6D) μ := by
  unfold eA
  walk_at "dvd"
  simp only [m62]
  walk_at "dv"
  rw [add_ts (by simp)]
  walk_at "dv"
  rw [add_ts (by simp)]
  walk_at "dv"
  rfl
theorem evi_eF {ns : List Int} {a1 a2 a4 a5 a6 a7 a8 : Option W} (μ : Store) : evi F (.seq eF) (env9 ns a1 a2 (some (.dat (.list [p1D, p2D, p3D]))) a4 a5 a6 a7 a8) μ = .ok [p1D, p2D, p3D, p4D, p5D] μ := by
  unfold eF
  walk_at "dvd"
  rw [add_ls (by simp)]
  walk_at "dv"
  rfl
theorem ring_ok : isWebD ringD = true := by decide +kernel
theorem paths5 : ∀ p ∈ [p1D, p2D, p3D, p4D, p5D], isPathD p = true := by
  intro p hp
  simp only [List.mem_cons, List.not_mem_nil, or_false] at hp
  rcases hp with rfl | rfl | rfl | rfl | rfl <;> decide +kernel
theorem path6 : isPathD p6D = true := by decide +kernel
theorem ans6 : ansD ringD p6D = .int 5 := by rfl
theorem plcA : plcD ringD (.tuple [.str "a", .str "x"]) = .none := by rfl
theorem plcB : plcD ringD (.tuple [.str "b", .str "n"]) = .int 0 := by rfl
theorem max_i (m : Bool) (i j : Int) {μ : Store} : bltW m .max2 [.dat (.int i), .dat (.int j)] μ = .ok (.dat (.int (if j > i then j else i))) μ := rfl
theorem min_i (m : Bool) (i j : Int) {μ : Store} : bltW m .min2 [.dat (.int i), .dat (.int j)] μ = .ok (.dat (.int (if j < i then j else i))) μ := rfl
theorem t_ok (hC : CellP (F "_law_cell")) (hW : WebF (F "_law_web")) (hP : PathF (F "_law_path")) (hG : GoodF (F "_law_good")) {ns : List Int} {a1 a2 a3 a4 a5 a6 a7 a8 : Option W} {μ : Store} :
    ∃ a1' a3' a4' a5' a6' a7' a8' μ', Dv.exec F fu lT (env9 ns a1 a2 a3 a4 a5 a6 a7 a8) μ = .nx (env9 ns a1' a2 a3' a4' a5' a6' a7' a8') μ' := by
  obtain ⟨k, hk5, hk⟩ : ∃ k : Nat, k ≤ 1000 ∧ ev F (.blt false .max2 (.cons (.blt false .min2 (.cons (.blt false .len (.cons (.var 0) .nil)) (.cons (.con (.int (5))) .nil))) (.cons (.con (.int (1))) .nil))) (env9 ns a1 a2 a3 a4 a5 a6 a7 a8) μ = .ok (.dat (.int (k : Nat))) μ := by
    have hq : ∀ L : Int, 0 ≤ L → ∃ k : Nat, k ≤ 1000 ∧ (if (1 : Int) > (if L > (5 : Int) then (5 : Int) else L) then (1 : Int) else (if L > (5 : Int) then (5 : Int) else L)) = (k : Nat) := fun L hL => by
      by_cases c : L > (5 : Int)
      · rw [if_pos c]; exact ⟨5, by decide, by decide⟩
      · rw [if_neg c]
        by_cases c2 : (1 : Int) > L
        · rw [if_pos c2]; exact ⟨1, by decide, by decide⟩
        · rw [if_neg c2]; exact ⟨L.toNat, by omega, by omega⟩
    have hq := hq ((ns.length : Nat) : Int) (by omega)
    obtain ⟨k, h1, h2⟩ := hq
    refine ⟨k, h1, ?_⟩
    rw [← h2]
    walk_at "dv"
    simp only [len_scr]
    walk_at "dv"
    simp only [min_i]
    walk_at "dv"
    simp only [max_i]
  have hi := evi_rngE hk hk5
  obtain ⟨ρ', μ', e, a1', a3', a4', a5', a6', a7', a8', rfl⟩ := forL_inv (f := turnF F fu (.v 1) lB0) (fun i ρ μ' => ∃ a1' a3' a4' a5' a6' a7' a8', ρ = env9 ns a1' a2 a3' a4' a5' a6' a7' a8') (rngL k) 0 (env9 ns a1 a2 a3 a4 a5 a6 a7 a8) μ ⟨_, _, _, _, _, _, _, rfl⟩ (fun j x hx ρ μ' hI => by
    obtain ⟨a1, a3, a4, a5, a6, a7, a8, rfl⟩ := hI
    obtain ⟨hj, rfl⟩ := rng_at hx
    obtain ⟨z, ec⟩ := hC ns j μ' (by omega)
    have e1 : Dv.exec F fu lC (env9 ns (some (.dat (.int (j : Nat)))) a2 a3 a4 a5 a6 a7 a8) μ' = .nx (env9 ns (some (.dat (.int (j : Nat)))) a2 a3 a4 (some (.ref μ'.length)) a6 a7 a8) (μ' ++ [.lst [.int z]]) := by
      unfold lC
      walk_at "dv"
      simp only [ec]
      walk_at "dvd"
    have ho : Own (μ' ++ [Ob.lst [.int z]]) μ'.length z := by show (_ ++ _)[_]? = _; simp
    obtain ⟨a3', a4', a6', a7', a8', μ2, ek⟩ := k_ok (F := F) (fu := fu) hW hP hG (ns := ns) (a1 := some (.dat (.int (j : Nat)))) (a2 := a2) (a3 := a3) (a4 := a4) (a6 := a6) (a7 := a7) (a8 := a8) ho
    refine ⟨_, μ2, ?_, some (.dat (.int (j : Nat))), a3', a4', some (.ref μ'.length), a6', a7', a8', rfl⟩
    show Dv.execs F fu lB0 (env9 ns (some (.dat (.int (j : Nat)))) a2 a3 a4 a5 a6 a7 a8) μ' = _
    unfold lB0
    rw [xs_cons, e1, seq_nx, xs_cons, ek, seq_nx, xs_nil])
  refine ⟨a1', a3', a4', a5', a6', a7', a8', μ', ?_⟩
  unfold lT
  rw [x_for, hi, fl_ok, e]
/-- five paths round the ring -/
theorem f_ok (hG : GoodF (F "_law_good")) {ns : List Int} {a1 a4 a5 a6 a7 a8 : Option W} {μ : Store} :
    ∃ a4', Dv.exec F fu lF (env9 ns a1 (some (.dat ringD)) (some (.dat (.list [p1D, p2D, p3D]))) a4 a5 a6 a7 a8) μ = .nx (env9 ns a1 (some (.dat ringD)) (some (.dat (.list [p1D, p2D, p3D]))) a4' a5 a6 a7 a8) μ := by
  obtain ⟨ρ', μ', e, a4', rfl, rfl⟩ := forL_all (f := turnF F fu (.v 4) lB4) (fun ρ μ' => ∃ a4', ρ = env9 ns a1 (some (.dat ringD)) (some (.dat (.list [p1D, p2D, p3D]))) a4' a5 a6 a7 a8 ∧ μ = μ') _ (env9 ns a1 (some (.dat ringD)) (some (.dat (.list [p1D, p2D, p3D]))) a4 a5 a6 a7 a8) μ ⟨a4, rfl, rfl⟩ (fun p hp ρ μ' hI => by
    obtain ⟨a4', rfl, rfl⟩ := hI
    refine ⟨_, μ, ?_, some (.dat p), rfl, rfl⟩
    unfold turnF lB4
    walk_at "dv"
    simp only [hG ringD p μ ring_ok (paths5 p hp)]
    walk_at "dv")
  refine ⟨a4', ?_⟩
  show Dv.exec F fu (.for (.v 4) (.seq eF) lB4) _ _ = _
  rw [x_for, evi_eF, fl_ok, e]
theorem run_law3 (hC : CellP (F "_law_cell")) (hW : WebF (F "_law_web")) (hP : PathF (F "_law_path")) (hG : GoodF (F "_law_good")) (hL : F "look" = sLook) (hp : F "place" = sPlace) (ns : List Int) : ∃ μ, runD F fu 9 mLaw3 false [.scr ns] [] = .ok (.dat (.bool true)) μ := by
  obtain ⟨a1, a3, a4, a5, a6, a7, a8, μ1, e1⟩ := t_ok (F := F) (fu := fu) hC hW hP hG (ns := ns) (a1 := none) (a2 := none) (a3 := none) (a4 := none) (a5 := none) (a6 := none) (a7 := none) (a8 := none) (μ := [])
  have e2 : Dv.exec F fu lR (env9 ns a1 none a3 a4 a5 a6 a7 a8) μ1 = .nx (env9 ns a1 (some (.dat ringD)) a3 a4 a5 a6 a7 a8) μ1 := by
    show Dv.exec F fu (.asg (.v 2) eR) _ _ = _
    rw [x_asg, ev_eR]
    rfl
  have e3 : Dv.exec F fu lL (env9 ns a1 (some (.dat ringD)) a3 a4 a5 a6 a7 a8) μ1 = .nx (env9 ns a1 (some (.dat ringD)) (some (.dat (.list [p1D, p2D, p3D]))) a4 a5 a6 a7 a8) μ1 := by
    show Dv.exec F fu (.asg (.v 3) eL) _ _ = _
    rw [x_asg, ev_eL]
    rfl
  obtain ⟨a4', e4⟩ := f_ok (F := F) (fu := fu) hG (ns := ns) (a1 := a1) (a4 := a4) (a5 := a5) (a6 := a6) (a7 := a7) (a8 := a8) (μ := μ1)
  have e5 : Dv.exec F fu lI (env9 ns a1 (some (.dat ringD)) (some (.dat (.list [p1D, p2D, p3D]))) a4' a5 a6 a7 a8) μ1 = .nx (env9 ns a1 (some (.dat ringD)) (some (.dat (.list [p1D, p2D, p3D]))) a4' a5 a6 a7 a8) μ1 := by
    show Dv.exec F fu (.ite (.val (.cmp .ne (.cal false "look" (.cons (.var 2) (.cons eA .nil))) (.con (.int (5))))) [.ret (.con (.bool false))] []) _ _ = _
    simp only [x_ite, t_val, e_cmp, e_cal, s_cons, s_nil, ev_eA]
    walk_at "dv"
    simp only [hL, sLook, onWP_d ring_ok path6, ans6]
    walk_at "dvd"
  have pA : isPathD (.tuple [.str "a", .str "x"]) = true := by decide +kernel
  have pB : isPathD (.tuple [.str "b", .str "n"]) = true := by decide +kernel
  have e6 : Dv.exec F fu lE (env9 ns a1 (some (.dat ringD)) (some (.dat (.list [p1D, p2D, p3D]))) a4' a5 a6 a7 a8) μ1 = .rt (.dat (.bool true)) μ1 := by
    unfold lE
    walk_at "dvd"
    simp only [hp, sPlace, onWP_d ring_ok pA, plcA]
    walk_at "dv"
    simp only [is_nn]
    walk_at "dvd"
    simp only [hp, sPlace, onWP_d ring_ok pB, plcB]
    walk_at "dvd"
    rfl
  refine ⟨[], ?_⟩
  unfold runD mLaw3
  have e0 : startE 9 [W.scr ns] = env9 ns none none none none none none none none := rfl
  rw [e0, xs_cons, e1, seq_nx, xs_cons, e2, seq_nx, xs_cons, e3, seq_nx, xs_cons, e4, seq_nx, xs_cons, e5, seq_nx, xs_cons, e6, seq_rt, out_rt]
  rfl
end
end Pl

namespace Wk03
open PySem PySem.Spec PyProof.Rows L2 Dv
def top (i : Nat) : Stmt := PySem.Challenge.rw_openfrozen_k03_paths_and_what_they_lead.prog.main.body.getD i (.Pass ⟨0, 0, 0, 0⟩)
/-- is_word -/
abbrev s0 : Stmt := top 12
def d0 : He.DefD := ⟨("is_word", none), "is_word", "is_word", defArgs s0, defBody s0, defScope s0, [], []⟩
abbrev N0 : List Str := ["value", "letter"]
abbrev P0 : List Str := ["value"]
abbrev U0 : List Str := []
theorem sc0 : FnScope N0 P0 (defScope s0) := ⟨rfl, rfl, rfl, by decide +kernel, rfl, by decide +kernel, by decide +kernel⟩
/-- is_table -/
abbrev s1 : Stmt := top 16
def d1 : He.DefD := ⟨("is_table", none), "is_table", "is_table", defArgs s1, defBody s1, defScope s1, [], []⟩
abbrev N1 : List Str := ["value", "most", "pair", "one", "other"]
abbrev P1 : List Str := ["value", "most"]
abbrev U1 : List Str := []
theorem sc1 : FnScope N1 P1 (defScope s1) := ⟨rfl, rfl, rfl, by decide +kernel, rfl, by decide +kernel, by decide +kernel⟩
/-- is_integer -/
abbrev s2 : Stmt := top 13
def d2 : He.DefD := ⟨("is_integer", none), "is_integer", "is_integer", defArgs s2, defBody s2, defScope s2, [], []⟩
abbrev N2 : List Str := ["value"]
abbrev P2 : List Str := ["value"]
abbrev U2 : List Str := []
theorem sc2 : FnScope N2 P2 (defScope s2) := ⟨rfl, rfl, rfl, by decide +kernel, rfl, by decide +kernel, by decide +kernel⟩
/-- is_number -/
abbrev s3 : Stmt := top 14
def d3 : He.DefD := ⟨("is_number", none), "is_number", "is_number", defArgs s3, defBody s3, defScope s3, [], []⟩
abbrev N3 : List Str := ["value", "size"]
abbrev P3 : List Str := ["value", "size"]
abbrev U3 : List Str := []
theorem sc3 : FnScope N3 P3 (defScope s3) := ⟨rfl, rfl, rfl, by decide +kernel, rfl, by decide +kernel, by decide +kernel⟩
/-- is_reference -/
abbrev s4 : Stmt := top 15
def d4 : He.DefD := ⟨("is_reference", none), "is_reference", "is_reference", defArgs s4, defBody s4, defScope s4, [], []⟩
abbrev N4 : List Str := ["value", "size"]
abbrev P4 : List Str := ["value", "size"]
abbrev U4 : List Str := []
theorem sc4 : FnScope N4 P4 (defScope s4) := ⟨rfl, rfl, rfl, by decide +kernel, rfl, by decide +kernel, by decide +kernel⟩
/-- is_object -/
abbrev s5 : Stmt := top 17
def d5 : He.DefD := ⟨("is_object", none), "is_object", "is_object", defArgs s5, defBody s5, defScope s5, [], []⟩
abbrev N5 : List Str := ["value", "size", "word", "found"]
abbrev P5 : List Str := ["value", "size"]
abbrev U5 : List Str := []
theorem sc5 : FnScope N5 P5 (defScope s5) := ⟨rfl, rfl, rfl, by decide +kernel, rfl, by decide +kernel, by decide +kernel⟩
/-- is_web -/
abbrev s6 : Stmt := top 18
def d6 : He.DefD := ⟨("is_web", none), "is_web", "is_web", defArgs s6, defBody s6, defScope s6, [], []⟩
abbrev N6 : List Str := ["value", "size", "one", "word", "at"]
abbrev P6 : List Str := ["value"]
abbrev U6 : List Str := []
theorem sc6 : FnScope N6 P6 (defScope s6) := ⟨rfl, rfl, rfl, by decide +kernel, rfl, by decide +kernel, by decide +kernel⟩
/-- check_web -/
abbrev s7 : Stmt := top 20
def d7 : He.DefD := ⟨("check_web", none), "check_web", "check_web", defArgs s7, defBody s7, defScope s7, [], []⟩
abbrev N7 : List Str := ["web"]
abbrev P7 : List Str := ["web"]
abbrev U7 : List Str := []
theorem sc7 : FnScope N7 P7 (defScope s7) := ⟨rfl, rfl, rfl, by decide +kernel, rfl, by decide +kernel, by decide +kernel⟩
/-- is_path -/
abbrev s8 : Stmt := top 19
def d8 : He.DefD := ⟨("is_path", none), "is_path", "is_path", defArgs s8, defBody s8, defScope s8, [], []⟩
abbrev N8 : List Str := ["value", "word"]
abbrev P8 : List Str := ["value"]
abbrev U8 : List Str := []
theorem sc8 : FnScope N8 P8 (defScope s8) := ⟨rfl, rfl, rfl, by decide +kernel, rfl, by decide +kernel, by decide +kernel⟩
/-- check_path -/
abbrev s9 : Stmt := top 21
def d9 : He.DefD := ⟨("check_path", none), "check_path", "check_path", defArgs s9, defBody s9, defScope s9, [], []⟩
abbrev N9 : List Str := ["path"]
abbrev P9 : List Str := ["path"]
abbrev U9 : List Str := []
theorem sc9 : FnScope N9 P9 (defScope s9) := ⟨rfl, rfl, rfl, by decide +kernel, rfl, by decide +kernel, by decide +kernel⟩
/-- value_at -/
abbrev s10 : Stmt := top 22
def d10 : He.DefD := ⟨("value_at", none), "value_at", "value_at", defArgs s10, defBody s10, defScope s10, [], []⟩
abbrev N10 : List Str := ["web", "path", "names", "found", "word"]
abbrev P10 : List Str := ["web", "path"]
abbrev U10 : List Str := []
theorem sc10 : FnScope N10 P10 (defScope s10) := ⟨rfl, rfl, rfl, by decide +kernel, rfl, by decide +kernel, by decide +kernel⟩
/-- answer_at -/
abbrev s11 : Stmt := top 23
def d11 : He.DefD := ⟨("answer_at", none), "answer_at", "answer_at", defArgs s11, defBody s11, defScope s11, [], []⟩
abbrev N11 : List Str := ["web", "path", "found", "kind", "fields", "word", "value"]
abbrev P11 : List Str := ["web", "path"]
abbrev U11 : List Str := []
theorem sc11 : FnScope N11 P11 (defScope s11) := ⟨rfl, rfl, rfl, by decide +kernel, rfl, by decide +kernel, by decide +kernel⟩
/-- look -/
abbrev s12 : Stmt := top 24
def d12 : He.DefD := ⟨("look", none), "look", "look", defArgs s12, defBody s12, defScope s12, [], []⟩
abbrev N12 : List Str := ["web", "path"]
abbrev P12 : List Str := ["web", "path"]
abbrev U12 : List Str := []
theorem sc12 : FnScope N12 P12 (defScope s12) := ⟨rfl, rfl, rfl, by decide +kernel, rfl, by decide +kernel, by decide +kernel⟩
/-- _law_mixed -/
abbrev s13 : Stmt := top 27
def d13 : He.DefD := ⟨("_law_mixed", none), "_law_mixed", "_law_mixed", defArgs s13, defBody s13, defScope s13, [], []⟩
abbrev N13 : List Str := ["cell", "k", "mix"]
abbrev P13 : List Str := ["cell", "k"]
abbrev U13 : List Str := []
theorem sc13 : FnScope N13 P13 (defScope s13) := ⟨rfl, rfl, rfl, by decide +kernel, rfl, by decide +kernel, by decide +kernel⟩
/-- _law_cell -/
abbrev s14 : Stmt := top 28
def d14 : He.DefD := ⟨("_law_cell", none), "_law_cell", "_law_cell", defArgs s14, defBody s14, defScope s14, [], []⟩
abbrev N14 : List Str := ["script", "k", "cell", "found", "j"]
abbrev P14 : List Str := ["script", "k"]
abbrev U14 : List Str := []
theorem sc14 : FnScope N14 P14 (defScope s14) := ⟨rfl, rfl, rfl, by decide +kernel, rfl, by decide +kernel, by decide +kernel⟩
/-- _law_take -/
abbrev s15 : Stmt := top 29
def d15 : He.DefD := ⟨("_law_take", none), "_law_take", "_law_take", defArgs s15, defBody s15, defScope s15, [], []⟩
abbrev N15 : List Str := ["own", "options", "digit"]
abbrev P15 : List Str := ["own", "options"]
abbrev U15 : List Str := ["own"]
theorem sc15 : FnScope N15 P15 (defScope s15) := ⟨rfl, rfl, rfl, by decide +kernel, rfl, by decide +kernel, by decide +kernel⟩
/-- _law_fields -/
abbrev s16 : Stmt := top 30
def d16 : He.DefD := ⟨("_law_fields", none), "_law_fields", "_law_fields", defArgs s16, defBody s16, defScope s16, [], []⟩
abbrev N16 : List Str := ["own", "size_here", "found", "word", "way"]
abbrev P16 : List Str := ["own", "size_here"]
abbrev U16 : List Str := ["own", "found"]
theorem sc16 : FnScope N16 P16 (defScope s16) := ⟨rfl, rfl, rfl, by decide +kernel, rfl, by decide +kernel, by decide +kernel⟩
/-- _law_web -/
abbrev s17 : Stmt := top 31
def d17 : He.DefD := ⟨("_law_web", none), "_law_web", "_law_web", defArgs s17, defBody s17, defScope s17, [], []⟩
abbrev N17 : List Str := ["own", "most", "size_here", "things", "k", "words", "word"]
abbrev P17 : List Str := ["own", "most"]
abbrev U17 : List Str := ["own", "things"]
theorem sc17 : FnScope N17 P17 (defScope s17) := ⟨rfl, rfl, rfl, by decide +kernel, rfl, by decide +kernel, by decide +kernel⟩
/-- _law_value -/
abbrev s18 : Stmt := top 32
def d18 : He.DefD := ⟨("_law_value", none), "_law_value", "_law_value", defArgs s18, defBody s18, defScope s18, [], []⟩
abbrev N18 : List Str := ["sheet", "way", "heads", "found", "word"]
abbrev P18 : List Str := ["sheet", "way"]
abbrev U18 : List Str := []
theorem sc18 : FnScope N18 P18 (defScope s18) := ⟨rfl, rfl, rfl, by decide +kernel, rfl, by decide +kernel, by decide +kernel⟩
/-- place -/
abbrev s19 : Stmt := top 25
def d19 : He.DefD := ⟨("place", none), "place", "place", defArgs s19, defBody s19, defScope s19, [], []⟩
abbrev N19 : List Str := ["web", "path", "found"]
abbrev P19 : List Str := ["web", "path"]
abbrev U19 : List Str := []
theorem sc19 : FnScope N19 P19 (defScope s19) := ⟨rfl, rfl, rfl, by decide +kernel, rfl, by decide +kernel, by decide +kernel⟩
/-- _law_good -/
abbrev s20 : Stmt := top 34
def d20 : He.DefD := ⟨("_law_good", none), "_law_good", "_law_good", defArgs s20, defBody s20, defScope s20, [], []⟩
abbrev N20 : List Str := ["sheet", "way", "kept", "found", "told", "at", "kind", "fields", "word", "value"]
abbrev P20 : List Str := ["sheet", "way"]
abbrev U20 : List Str := []
theorem sc20 : FnScope N20 P20 (defScope s20) := ⟨rfl, rfl, rfl, by decide +kernel, rfl, by decide +kernel, by decide +kernel⟩
/-- _law_path -/
abbrev s21 : Stmt := top 33
def d21 : He.DefD := ⟨("_law_path", none), "_law_path", "_law_path", defArgs s21, defBody s21, defScope s21, [], []⟩
abbrev N21 : List Str := ["own", "sheet", "most", "heads", "way", "found", "k", "words", "word", "number", "value"]
abbrev P21 : List Str := ["own", "sheet", "most"]
abbrev U21 : List Str := ["own", "way"]
theorem sc21 : FnScope N21 P21 (defScope s21) := ⟨rfl, rfl, rfl, by decide +kernel, rfl, by decide +kernel, by decide +kernel⟩
/-- law -/
abbrev s22 : Stmt := top 35
def d22 : He.DefD := ⟨("law", none), "law", "law", defArgs s22, defBody s22, defScope s22, [], []⟩
abbrev N22 : List Str := ["script", "turn", "ring", "some", "way", "own", "k", "sheet", "j"]
abbrev P22 : List Str := ["script"]
abbrev U22 : List Str := ["own"]
theorem sc22 : FnScope N22 P22 (defScope s22) := ⟨rfl, rfl, rfl, by decide +kernel, rfl, by decide +kernel, by decide +kernel⟩
def fn : List He.DefD := [d0, d1, d2, d3, d4, d5, d6, d7, d8, d9, d10, d11, d12, d13, d14, d15, d16, d17, d18, d19, d20, d21, d22]
def fa : List He.Fa := [.glo "is_word", .glo "is_table", .glo "is_integer", .glo "is_number", .glo "is_reference", .glo "is_object", .glo "is_web", .glo "check_web", .glo "is_path", .glo "check_path", .glo "value_at", .glo "answer_at", .glo "look", .glo "_law_mixed", .glo "_law_cell", .glo "_law_take", .glo "_law_fields", .glo "_law_web", .glo "_law_value", .glo "place", .glo "_law_good", .glo "_law_path", .glo "law", .free "isinstance", .free "str", .free "all", .free "len", .free "tuple", .free "zip", .free "int", .free "bool", .free "dict", .free "range", .free "max", .free "min", .int "LONGEST" 8, .int "GREATEST" 999999999, .int "MOST_FIELDS" 4, .int "MOST_NAMES" 6, .int "MOST_OBJECTS" 30, .int "MOST_ENTRIES" 64, .str "LETTERS" "abcdefghijklmnopqrstuvwxyz"]
def lo0 : List PySem.Str := ["WebError", "InvalidWeb", "InvalidPath", "LETTERS", "LONGEST", "GREATEST", "MOST_OBJECTS", "MOST_FIELDS", "MOST_NAMES", "MOST_ENTRIES", "is_word", "is_integer", "is_number", "is_reference", "is_table", "is_object", "is_web", "is_path", "check_web", "check_path", "value_at", "answer_at", "look", "place", "_law_mixed", "_law_cell", "_law_take", "_law_fields", "_law_web", "_law_value"]
def lo1 : List PySem.Str := ["_law_path", "_law_good"]
abbrev loose : List PySem.Str := lo0 ++ lo1
abbrev R : PySem.W.OpenRow := PySem.W.OpenLaw.row PySem.Challenge.rw_openfrozen_k03_paths_and_what_they_lead
abbrev hk : PySem.W.Hook := He.hookD 4 fa fn
def ob (s : PySem.W.SharedT) : He.AlD := He.obsDG 4 fa fn (HandSHeadRun.getT s)
theorem ob_eq (s : PySem.W.SharedT) : ob s = hk.obs s.abs := He.obsDG_eq (HandSHeadRun.getT_eq s)
theorem run (w : World) : HandSHeadRun.RunEq R (PySem.W.view R.prog [35]) hk ob 4000 loose w := by
  intro os
  kernel_rfl
end Wk03

namespace Wk03
open PySem PySem.Spec PyProof.Rows L2 Dv
def G0 : Glob := [("isinstance", .blt), ("str", .blt), ("all", .blt), ("len", .blt), ("tuple", .blt), ("zip", .blt), ("int", .blt), ("bool", .blt), ("dict", .blt), ("range", .blt), ("max", .blt), ("min", .blt), ("LONGEST", .con (.int 8)), ("GREATEST", .con (.int 999999999)), ("MOST_FIELDS", .con (.int 4)), ("MOST_NAMES", .con (.int 6)), ("MOST_OBJECTS", .con (.int 30)), ("MOST_ENTRIES", .con (.int 64)), ("LETTERS", .con (.str "abcdefghijklmnopqrstuvwxyz"))]
def G1 : Glob := (nm false "is_word", .fn "is_word" P0 []) :: G0
def G2 : Glob := (nm false "is_table", .fn "is_table" P1 []) :: G1
def G3 : Glob := (nm false "is_integer", .fn "is_integer" P2 []) :: G2
def G4 : Glob := (nm false "is_number", .fn "is_number" P3 []) :: G3
def G5 : Glob := (nm false "is_reference", .fn "is_reference" P4 []) :: G4
def G6 : Glob := (nm false "is_object", .fn "is_object" P5 []) :: G5
def G7 : Glob := (nm false "is_web", .fn "is_web" P6 []) :: G6
def G8 : Glob := (nm false "check_web", .fn "check_web" P7 []) :: G7
def G9 : Glob := (nm false "is_path", .fn "is_path" P8 []) :: G8
def G10 : Glob := (nm false "check_path", .fn "check_path" P9 []) :: G9
def G11 : Glob := (nm false "value_at", .fn "value_at" P10 []) :: G10
def G12 : Glob := (nm false "answer_at", .fn "answer_at" P11 []) :: G11
def G13 : Glob := (nm false "look", .fn "look" P12 [(["path", "web"], [1, 0])]) :: G12
def G14 : Glob := (nm false "_law_mixed", .fn "_law_mixed" P13 []) :: G13
def G15 : Glob := (nm false "_law_cell", .fn "_law_cell" P14 []) :: G14
def G16 : Glob := (nm false "_law_take", .fn "_law_take" P15 []) :: G15
def G17 : Glob := (nm false "_law_fields", .fn "_law_fields" P16 []) :: G16
def G18 : Glob := (nm false "_law_web", .fn "_law_web" P17 []) :: G17
def G19 : Glob := (nm false "_law_value", .fn "_law_value" P18 []) :: G18
def G20 : Glob := (nm false "place", .fn "place" P19 [(["path", "web"], [1, 0])]) :: G19
def G21 : Glob := (nm false "_law_good", .fn "_law_good" P20 []) :: G20
def G22 : Glob := (nm false "_law_path", .fn "_law_path" P21 []) :: G21
def G23 : Glob := (nm false "law", .fn "law" P22 []) :: G22
end Wk03
namespace Wk03
open PySem PySem.Spec PyProof.Rows L2 Dv
/-- is_word -/
def m0 : List S := [.ret (.and (.isi (.var 0) ["str"]) (.and (.chn .le .le (.con (.int (1))) (.blt false .len (.cons (.var 0) .nil)) (.con (.int (8)))) (.blt false .all (.cons (.lc false (.cmp .isin (.var 1) (.con (.str "abcdefghijklmnopqrstuvwxyz"))) (.v 1) (.seq (.var 0)) .no [1]) .nil))))]
theorem tr0 : trSs G0 N0 U0 false 40 (defScope s0) (defBody s0) = some m0 := by kernel_rfl
/-- is_table -/
def m1 : List S := [.ite (.or (.not (.val (.isi (.var 0) ["tuple"]))) (.val (.cmp .gt (.blt false .len (.cons (.var 0) .nil)) (.var 1)))) [.ret (.con (.bool false))] [], .ite (.not (.val (.blt false .all (.cons (.lc false (.and (.isi (.var 2) ["tuple"]) (.and (.cmp .eq (.blt false .len (.cons (.var 2) .nil)) (.con (.int (2)))) (.cal false "is_word" (.cons (.idx (.var 2) (.con (.int (0)))) .nil)))) (.v 2) (.seq (.var 0)) .no [2]) .nil)))) [.ret (.con (.bool false))] [], .ret (.blt false .all (.cons (.lc false (.cmp .lt (.idx (.var 3) (.con (.int (0)))) (.idx (.var 4) (.con (.int (0))))) (.t2 (.v 3) (.v 4)) (.zip (.var 0) (.slc false (.var 0) (.so (.con (.int (1)))) .no)) .no [3, 4]) .nil))]
theorem tr1 : trSs G1 N1 U1 false 40 (defScope s1) (defBody s1) = some m1 := by kernel_rfl
/-- is_integer -/
def m2 : List S := [.ret (.and (.isi (.var 0) ["int"]) (.and (.not (.isi (.var 0) ["bool"])) (.chn .le .le (.neg (.con (.int (999999999)))) (.var 0) (.con (.int (999999999))))))]
theorem tr2 : trSs G2 N2 U2 false 40 (defScope s2) (defBody s2) = some m2 := by kernel_rfl
/-- is_number -/
def m3 : List S := [.ret (.and (.cal false "is_integer" (.cons (.var 0) .nil)) (.chn .le .lt (.con (.int (0))) (.var 0) (.var 1)))]
theorem tr3 : trSs G3 N3 U3 false 40 (defScope s3) (defBody s3) = some m3 := by kernel_rfl
/-- is_reference -/
def m4 : List S := [.ret (.and (.isi (.var 0) ["tuple"]) (.and (.cmp .eq (.blt false .len (.cons (.var 0) .nil)) (.con (.int (1)))) (.cal false "is_number" (.cons (.idx (.var 0) (.con (.int (0)))) (.cons (.var 1) .nil)))))]
theorem tr4 : trSs G4 N4 U4 false 40 (defScope s4) (defBody s4) = some m4 := by kernel_rfl
/-- is_object -/
def m5 : List S := [.ite (.or (.not (.val (.isi (.var 0) ["tuple"]))) (.or (.val (.cmp .ne (.blt false .len (.cons (.var 0) .nil)) (.con (.int (2))))) (.not (.val (.isi (.idx (.var 0) (.con (.int (0)))) ["str"]))))) [.ret (.con (.bool false))] [], .ite (.or (.val (.cmp .nin (.idx (.var 0) (.con (.int (0)))) (.tup (.cons (.con (.str "open")) (.cons (.con (.str "frozen")) .nil))))) (.not (.val (.cal false "is_table" (.cons (.idx (.var 0) (.con (.int (1)))) (.cons (.con (.int (4))) .nil)))))) [.ret (.con (.bool false))] [], .ret (.blt false .all (.cons (.lc false (.or (.cal false "is_integer" (.cons (.var 3) .nil)) (.cal false "is_reference" (.cons (.var 3) (.cons (.var 1) .nil)))) (.t2 (.v 2) (.v 3)) (.seq (.idx (.var 0) (.con (.int (1))))) .no [2, 3]) .nil))]
theorem tr5 : trSs G5 N5 U5 false 40 (defScope s5) (defBody s5) = some m5 := by kernel_rfl
/-- is_web -/
def m6 : List S := [.ite (.or (.not (.val (.isi (.var 0) ["tuple"]))) (.or (.val (.cmp .ne (.blt false .len (.cons (.var 0) .nil)) (.con (.int (2))))) (.not (.val (.isi (.idx (.var 0) (.con (.int (0)))) ["tuple"]))))) [.ret (.con (.bool false))] [], .asg (.v 1) (.blt false .len (.cons (.idx (.var 0) (.con (.int (0)))) .nil)), .ite (.or (.not (.val (.chn .le .le (.con (.int (1))) (.var 1) (.con (.int (30)))))) (.not (.val (.blt false .all (.cons (.lc false (.cal false "is_object" (.cons (.var 2) (.cons (.var 1) .nil))) (.v 2) (.seq (.idx (.var 0) (.con (.int (0))))) .no [2]) .nil))))) [.ret (.con (.bool false))] [], .ret (.and (.cal false "is_table" (.cons (.idx (.var 0) (.con (.int (1)))) (.cons (.con (.int (6))) .nil))) (.and (.cmp .gt (.blt false .len (.cons (.idx (.var 0) (.con (.int (1)))) .nil)) (.con (.int (0)))) (.blt false .all (.cons (.lc false (.cal false "is_number" (.cons (.var 4) (.cons (.var 1) .nil))) (.t2 (.v 3) (.v 4)) (.seq (.idx (.var 0) (.con (.int (1))))) .no [3, 4]) .nil))))]
theorem tr6 : trSs G6 N6 U6 false 40 (defScope s6) (defBody s6) = some m6 := by kernel_rfl
/-- check_web -/
def m7 : List S := [.ite (.not (.val (.cal false "is_web" (.cons (.var 0) .nil)))) [.rse "" .nil] []]
theorem tr7 : trSs G7 N7 U7 false 40 (defScope s7) (defBody s7) = some m7 := by kernel_rfl
/-- is_path -/
def m8 : List S := [.ret (.and (.isi (.var 0) ["tuple"]) (.and (.chn .le .le (.con (.int (1))) (.blt false .len (.cons (.var 0) .nil)) (.con (.int (64)))) (.blt false .all (.cons (.lc false (.cal false "is_word" (.cons (.var 1) .nil)) (.v 1) (.seq (.var 0)) .no [1]) .nil))))]
theorem tr8 : trSs G8 N8 U8 false 40 (defScope s8) (defBody s8) = some m8 := by kernel_rfl
/-- check_path -/
def m9 : List S := [.ite (.not (.val (.cal false "is_path" (.cons (.var 0) .nil)))) [.rse "" .nil] []]
theorem tr9 : trSs G9 N9 U9 false 40 (defScope s9) (defBody s9) = some m9 := by kernel_rfl
/-- value_at -/
def m10 : List S := [.asg (.v 2) (.blt false .dict (.cons (.idx (.var 0) (.con (.int (1)))) .nil)), .ite (.val (.cmp .nin (.idx (.var 1) (.con (.int (0)))) (.var 2))) [.ret (.con .none)] [], .asg (.v 3) (.tup (.cons (.idx (.var 2) (.idx (.var 1) (.con (.int (0))))) .nil)), .for (.v 4) (.seq (.slc false (.var 1) (.so (.con (.int (1)))) .no)) [.ite (.not (.val (.isi (.var 3) ["tuple"]))) [.ret (.con .none)] [], .asg (.v 3) (.mth false .get1 (.blt false .dict (.cons (.idx (.idx (.idx (.var 0) (.con (.int (0)))) (.idx (.var 3) (.con (.int (0))))) (.con (.int (1)))) .nil)) (.cons (.var 4) .nil))], .ret (.var 3)]
theorem tr10 : trSs G10 N10 U10 false 40 (defScope s10) (defBody s10) = some m10 := by kernel_rfl
/-- answer_at -/
def m11 : List S := [.asg (.v 2) (.cal false "value_at" (.cons (.var 0) (.cons (.var 1) .nil))), .ite (.val (.cmp .is (.var 2) (.con .none))) [.ret (.con (.str "none"))] [], .ite (.not (.val (.isi (.var 2) ["tuple"]))) [.ret (.var 2)] [], .asg (.t2 (.v 3) (.v 4)) (.idx (.idx (.var 0) (.con (.int (0)))) (.idx (.var 2) (.con (.int (0))))), .ret (.tup (.cons (.var 3) (.cons (.blt false .tuple (.cons (.lc false (.var 5) (.t2 (.v 5) (.v 6)) (.seq (.var 4)) .no [5, 6]) .nil)) .nil)))]
theorem tr11 : trSs G11 N11 U11 false 40 (defScope s11) (defBody s11) = some m11 := by kernel_rfl
/-- look -/
def m12 : List S := [.expr (.cal false "check_web" (.cons (.var 0) .nil)), .expr (.cal false "check_path" (.cons (.var 1) .nil)), .ret (.cal false "answer_at" (.cons (.var 0) (.cons (.var 1) .nil)))]
theorem tr12 : trSs G12 N12 U12 false 40 (defScope s12) (defBody s12) = some m12 := by kernel_rfl
/-- _law_mixed -/
def m13 : List S := [.asg (.v 2) (.bin false .mod (.blt false .int (.cons (.bin false .add (.bin false .add (.bin false .mul (.bin false .mod (.blt false .int (.cons (.var 0) .nil)) (.con (.int (2147483647)))) (.con (.int (48271)))) (.bin false .mul (.var 1) (.con (.int (69621))))) (.con (.int (1048583)))) .nil)) (.con (.int (2147483629)))), .asg (.v 2) (.bin false .mod (.blt false .int (.cons (.bin false .mul (.var 2) (.var 2)) .nil)) (.con (.int (2147483587)))), .ret (.bin false .mod (.blt false .int (.cons (.bin false .mul (.var 2) (.bin false .add (.var 2) (.con (.int (2))))) .nil)) (.con (.int (2147483579))))]
theorem tr13 : trSs G13 N13 U13 false 40 (defScope s13) (defBody s13) = some m13 := by kernel_rfl
/-- _law_cell -/
def m14 : List S := [.asg (.v 2) (.con (.int (0))), .ite (.val (.cmp .lt (.var 1) (.blt false .len (.cons (.var 0) .nil)))) [.asg (.v 2) (.idx (.var 0) (.var 1))] [], .ite (.val (.cmp .ge (.var 2) (.bin false .pow (.con (.int (10))) (.con (.int (18)))))) [.ret (.bin false .mod (.blt false .int (.cons (.bin false .sub (.var 2) (.bin false .pow (.con (.int (10))) (.con (.int (18))))) .nil)) (.bin false .mul (.bin false .mul (.bin false .mul (.bin false .pow (.con (.int (10))) (.con (.int (60)))) (.bin false .pow (.con (.int (10))) (.con (.int (60))))) (.bin false .pow (.con (.int (10))) (.con (.int (60))))) (.bin false .pow (.con (.int (10))) (.con (.int (60))))))] [], .asg (.v 3) (.con (.int (0))), .for (.v 4) (.rng1 (.con (.int (24)))) [.asg (.v 3) (.bin false .add (.bin false .mul (.var 3) (.con (.int (2147483579)))) (.cal false "_law_mixed" (.cons (.var 2) (.cons (.bin false .add (.bin false .add (.bin false .mul (.con (.int (7))) (.var 1)) (.bin false .mul (.con (.int (100))) (.var 4))) (.bin false .mul (.var 4) (.var 4))) .nil))))], .ret (.var 3)]
theorem tr14 : trSs G14 N14 U14 false 40 (defScope s14) (defBody s14) = some m14 := by kernel_rfl
/-- _law_take -/
def m15 : List S := [.asg (.v 2) (.bin false .mod (.blt false .int (.cons (.idx (.var 0) (.con (.int (0)))) .nil)) (.var 1)), .put (.var 0) (.con (.int (0))) (.bin false .fdiv (.idx (.var 0) (.con (.int (0)))) (.var 1)), .ret (.var 2)]
theorem tr15 : trSs G15 N15 U15 false 40 (defScope s15) (defBody s15) = some m15 := by kernel_rfl
/-- _law_fields -/
def m16 : List S := [.asg (.v 2) (.lst true .nil), .for (.v 3) (.seq (.lst false (.cons (.con (.str "a")) (.cons (.con (.str "ab")) (.cons (.con (.str "longname")) (.cons (.con (.str "x")) .nil)))))) [.asg (.v 4) (.cal false "_law_take" (.cons (.var 0) (.cons (.con (.int (5))) .nil))), .ite (.val (.cmp .lt (.var 4) (.con (.int (2))))) [.expr (.mth false .append (.var 2) (.cons (.tup (.cons (.var 3) (.cons (.tup (.cons (.cal false "_law_take" (.cons (.var 0) (.cons (.var 1) .nil))) .nil)) .nil))) .nil))] [.ite (.val (.cmp .eq (.var 4) (.con (.int (2))))) [.expr (.mth false .append (.var 2) (.cons (.tup (.cons (.var 3) (.cons (.idx (.lst false (.cons (.con (.int (0))) (.cons (.con (.int (1))) (.cons (.bin false .sub (.con (.int (0))) (.con (.int (1)))) (.cons (.con (.int (7))) (.cons (.con (.int (999999999))) .nil)))))) (.cal false "_law_take" (.cons (.var 0) (.cons (.con (.int (5))) .nil)))) .nil))) .nil))] []]], .ret (.blt false .tuple (.cons (.var 2) .nil))]
theorem tr16 : trSs G16 N16 U16 false 40 (defScope s16) (defBody s16) = some m16 := by kernel_rfl
/-- _law_web -/
def m17 : List S := [.asg (.v 2) (.bin false .add (.con (.int (1))) (.cal false "_law_take" (.cons (.var 0) (.cons (.var 1) .nil)))), .asg (.v 3) (.lst true .nil), .for (.v 4) (.rng1 (.var 2)) [.ite (.and (.val (.cmp .ne (.var 3) (.lst false .nil))) (.val (.cmp .eq (.cal false "_law_take" (.cons (.var 0) (.cons (.con (.int (4))) .nil))) (.con (.int (0)))))) [.expr (.mth false .append (.var 3) (.cons (.idx (.var 3) (.cal false "_law_take" (.cons (.var 0) (.cons (.blt false .len (.cons (.var 3) .nil)) .nil)))) .nil))] [.expr (.mth false .append (.var 3) (.cons (.tup (.cons (.idx (.lst false (.cons (.con (.str "open")) (.cons (.con (.str "frozen")) (.cons (.con (.str "frozen")) .nil)))) (.cal false "_law_take" (.cons (.var 0) (.cons (.con (.int (3))) .nil)))) (.cons (.cal false "_law_fields" (.cons (.var 0) (.cons (.var 2) .nil))) .nil))) .nil))]], .asg (.v 5) (.slc false (.lst false (.cons (.con (.str "a")) (.cons (.con (.str "ab")) (.cons (.con (.str "ca")) (.cons (.con (.str "read")) (.cons (.con (.str "set")) (.cons (.con (.str "zebra")) .nil))))))) .no (.so (.bin false .add (.con (.int (1))) (.cal false "_law_take" (.cons (.var 0) (.cons (.con (.int (6))) .nil)))))), .ret (.tup (.cons (.blt false .tuple (.cons (.var 3) .nil)) (.cons (.blt false .tuple (.cons (.lc false (.tup (.cons (.var 6) (.cons (.cal false "_law_take" (.cons (.var 0) (.cons (.var 2) .nil))) .nil))) (.v 6) (.seq (.var 5)) .no [6]) .nil)) .nil)))]
theorem tr17 : trSs G17 N17 U17 false 40 (defScope s17) (defBody s17) = some m17 := by kernel_rfl
/-- _law_value -/
def m18 : List S := [.asg (.v 2) (.blt false .dict (.cons (.idx (.var 0) (.con (.int (1)))) .nil)), .ite (.val (.cmp .nin (.idx (.var 1) (.con (.int (0)))) (.var 2))) [.ret (.con .none)] [], .asg (.v 3) (.tup (.cons (.idx (.var 2) (.idx (.var 1) (.con (.int (0))))) .nil)), .for (.v 4) (.seq (.slc false (.var 1) (.so (.con (.int (1)))) .no)) [.ite (.not (.val (.isi (.var 3) ["tuple"]))) [.ret (.con .none)] [], .asg (.v 3) (.mth false .get1 (.blt false .dict (.cons (.idx (.idx (.idx (.var 0) (.con (.int (0)))) (.idx (.var 3) (.con (.int (0))))) (.con (.int (1)))) .nil)) (.cons (.var 4) .nil))], .ret (.var 3)]
theorem tr18 : trSs G18 N18 U18 false 40 (defScope s18) (defBody s18) = some m18 := by kernel_rfl
/-- place -/
def m19 : List S := [.expr (.cal false "check_web" (.cons (.var 0) .nil)), .expr (.cal false "check_path" (.cons (.var 1) .nil)), .asg (.v 2) (.cal false "value_at" (.cons (.var 0) (.cons (.var 1) .nil))), .ret (.ite (.val (.isi (.var 2) ["tuple"])) (.idx (.var 2) (.con (.int (0)))) (.con .none))]
theorem tr19 : trSs G19 N19 U19 false 40 (defScope s19) (defBody s19) = some m19 := by kernel_rfl
/-- _law_good -/
def m20 : List S := [.asg (.v 2) (.blt false .str (.cons (.lst false (.cons (.var 0) (.cons (.var 1) .nil))) .nil)), .asg (.v 3) (.cal false "_law_value" (.cons (.var 0) (.cons (.var 1) .nil))), .par [4, 5] (.cons (.cal false "look" (.cons (.var 0) (.cons (.var 1) .nil))) (.cons (.cal false "place" (.cons (.var 0) (.cons (.var 1) .nil))) .nil)), .ite (.or (.val (.cmp .ne (.cak "look" [1, 0] (.cons (.var 1) (.cons (.var 0) .nil))) (.var 4))) (.or (.val (.cmp .ne (.cak "place" [1, 0] (.cons (.var 1) (.cons (.var 0) .nil))) (.var 5))) (.val (.cmp .ne (.blt false .str (.cons (.lst false (.cons (.var 0) (.cons (.var 1) .nil))) .nil)) (.var 2))))) [.ret (.con (.bool false))] [], .ite (.or (.val (.isi (.var 5) ["bool"])) (.val (.isi (.var 4) ["bool"]))) [.ret (.con (.bool false))] [], .ite (.val (.cmp .is (.var 3) (.con .none))) [.ret (.and (.cmp .eq (.var 4) (.con (.str "none"))) (.cmp .is (.var 5) (.con .none)))] [], .ite (.not (.val (.isi (.var 3) ["tuple"]))) [.ret (.and (.cmp .eq (.var 4) (.var 3)) (.cmp .is (.var 5) (.con .none)))] [], .asg (.t2 (.v 6) (.v 7)) (.idx (.idx (.var 0) (.con (.int (0)))) (.idx (.var 3) (.con (.int (0))))), .ret (.and (.cmp .eq (.var 4) (.tup (.cons (.var 6) (.cons (.blt false .tuple (.cons (.lc false (.var 8) (.t2 (.v 8) (.v 9)) (.seq (.var 7)) .no [8, 9]) .nil)) .nil)))) (.cmp .eq (.var 5) (.idx (.var 3) (.con (.int (0))))))]
theorem tr20 : trSs G20 N20 U20 false 40 (defScope s20) (defBody s20) = some m20 := by kernel_rfl
/-- _law_path -/
def m21 : List S := [.asg (.v 3) (.lc false (.var 8) (.t2 (.v 8) (.v 9)) (.seq (.idx (.var 1) (.con (.int (1))))) .no [8, 9]), .asg (.v 4) (.lst true (.cons (.idx (.var 3) (.cal false "_law_take" (.cons (.var 0) (.cons (.blt false .len (.cons (.var 3) .nil)) .nil)))) .nil)), .ite (.val (.cmp .eq (.cal false "_law_take" (.cons (.var 0) (.cons (.con (.int (12))) .nil))) (.con (.int (0))))) [.asg (.v 4) (.lst true (.cons (.con (.str "q")) .nil))] [], .asg (.v 5) (.cal false "_law_value" (.cons (.var 1) (.cons (.blt false .tuple (.cons (.var 4) .nil)) .nil))), .for (.v 6) (.rng1 (.cal false "_law_take" (.cons (.var 0) (.cons (.var 2) .nil)))) [.asg (.v 7) (.lst false (.cons (.con (.str "a")) (.cons (.con (.str "ab")) (.cons (.con (.str "longname")) (.cons (.con (.str "x")) .nil))))), .ite (.and (.val (.isi (.var 5) ["tuple"])) (.and (.val (.cmp .ne (.idx (.idx (.idx (.var 1) (.con (.int (0)))) (.idx (.var 5) (.con (.int (0))))) (.con (.int (1)))) (.tup .nil))) (.val (.cmp .gt (.cal false "_law_take" (.cons (.var 0) (.cons (.con (.int (8))) .nil))) (.con (.int (0))))))) [.asg (.v 7) (.lc false (.var 8) (.t2 (.v 8) (.v 10)) (.seq (.idx (.idx (.idx (.var 1) (.con (.int (0)))) (.idx (.var 5) (.con (.int (0))))) (.con (.int (1))))) .no [8, 10])] [], .expr (.mth false .append (.var 4) (.cons (.idx (.var 7) (.cal false "_law_take" (.cons (.var 0) (.cons (.blt false .len (.cons (.var 7) .nil)) .nil)))) .nil)), .asg (.v 5) (.cal false "_law_value" (.cons (.var 1) (.cons (.blt false .tuple (.cons (.var 4) .nil)) .nil)))], .ret (.blt false .tuple (.cons (.var 4) .nil))]
theorem tr21 : trSs G21 N21 U21 false 40 (defScope s21) (defBody s21) = some m21 := by kernel_rfl
/-- law -/
def m22 : List S := [.for (.v 1) (.rng1 (.blt false .max2 (.cons (.blt false .min2 (.cons (.blt false .len (.cons (.var 0) .nil)) (.cons (.con (.int (5))) .nil))) (.cons (.con (.int (1))) .nil)))) [.asg (.v 5) (.lst true (.cons (.cal false "_law_cell" (.cons (.var 0) (.cons (.var 1) .nil))) .nil)), .for (.v 6) (.rng1 (.con (.int (2)))) [.asg (.v 7) (.cal false "_law_web" (.cons (.var 5) (.cons (.idx (.lst false (.cons (.con (.int (4))) (.cons (.con (.int (12))) .nil))) (.var 6)) .nil))), .for (.v 8) (.rng1 (.con (.int (12)))) [.asg (.v 4) (.cal false "_law_path" (.cons (.var 5) (.cons (.var 7) (.cons (.idx (.lst false (.cons (.con (.int (3))) (.cons (.con (.int (12))) .nil))) (.bin false .mod (.blt false .int (.cons (.var 8) .nil)) (.con (.int (2))))) .nil)))), .for (.v 3) (.seq (.lst false (.cons (.var 4) (.cons (.bin false .add (.var 4) (.tup (.cons (.con (.str "n")) .nil))) (.cons (.slc false (.var 4) (.so (.neg (.con (.int (1))))) .no) .nil))))) [.ite (.not (.val (.cal false "_law_good" (.cons (.var 7) (.cons (.var 3) .nil))))) [.ret (.con (.bool false))] []]]]], .asg (.v 2) (.tup (.cons (.tup (.cons (.tup (.cons (.con (.str "open")) (.cons (.tup (.cons (.tup (.cons (.con (.str "n")) (.cons (.tup (.cons (.con (.int (1))) .nil)) .nil))) (.cons (.tup (.cons (.con (.str "x")) (.cons (.con (.int (5))) .nil))) .nil))) .nil))) (.cons (.tup (.cons (.con (.str "frozen")) (.cons (.tup (.cons (.tup (.cons (.con (.str "n")) (.cons (.tup (.cons (.con (.int (0))) .nil)) .nil))) .nil)) .nil))) .nil))) (.cons (.tup (.cons (.tup (.cons (.con (.str "a")) (.cons (.con (.int (0))) .nil))) (.cons (.tup (.cons (.con (.str "b")) (.cons (.con (.int (1))) .nil))) .nil))) .nil))), .asg (.v 3) (.lst false (.cons (.bin false .add (.tup (.cons (.con (.str "a")) .nil)) (.bin false .mul (.tup (.cons (.con (.str "n")) .nil)) (.con (.int (63))))) (.cons (.bin false .add (.bin false .add (.tup (.cons (.con (.str "b")) .nil)) (.bin false .mul (.tup (.cons (.con (.str "n")) .nil)) (.con (.int (62))))) (.tup (.cons (.con (.str "x")) .nil))) (.cons (.bin false .add (.bin false .add (.tup (.cons (.con (.str "b")) .nil)) (.bin false .mul (.tup (.cons (.con (.str "n")) .nil)) (.con (.int (61))))) (.tup (.cons (.con (.str "x")) .nil))) .nil)))), .for (.v 4) (.seq (.bin false .add (.var 3) (.lst false (.cons (.tup (.cons (.con (.str "a")) (.cons (.con (.str "x")) (.cons (.con (.str "n")) .nil)))) (.cons (.tup (.cons (.con (.str "q")) .nil)) .nil))))) [.ite (.not (.val (.cal false "_law_good" (.cons (.var 2) (.cons (.var 4) .nil))))) [.ret (.con (.bool false))] []], .ite (.val (.cmp .ne (.cal false "look" (.cons (.var 2) (.cons (.bin false .add (.bin false .add (.tup (.cons (.con (.str "a")) .nil)) (.bin false .mul (.tup (.cons (.con (.str "n")) .nil)) (.con (.int (62))))) (.tup (.cons (.con (.str "x")) .nil))) .nil))) (.con (.int (5))))) [.ret (.con (.bool false))] [], .ret (.and (.cmp .is (.cal false "place" (.cons (.var 2) (.cons (.tup (.cons (.con (.str "a")) (.cons (.con (.str "x")) .nil))) .nil))) (.con .none)) (.cmp .eq (.cal false "place" (.cons (.var 2) (.cons (.tup (.cons (.con (.str "b")) (.cons (.con (.str "n")) .nil))) .nil))) (.con (.int (0)))))]
theorem tr22 : trSs G22 N22 U22 false 40 (defScope s22) (defBody s22) = some m22 := by kernel_rfl
end Wk03

namespace Wk03
open PySem PySem.Spec PyProof.Rows L2 Dv
abbrev FU : Nat := 1000
def F0 : Specs := fun _ _ _ => .no
def sp0 : List W → Store → Out W := Pl.sIsWord
theorem le0 : Le sp0 (runD F0 FU N0.length m0 false) := Pl.le_isWord 
def F1 : Specs := updF F0 (nm false "is_word") sp0
def sp1 : List W → Store → Out W := Pl.sIsTable
theorem le1 : Le sp1 (runD F1 FU N1.length m1 false) := Pl.le_isTable (show F1 "is_word" = _ from rfl)
def F2 : Specs := updF F1 (nm false "is_table") sp1
def sp2 : List W → Store → Out W := Pl.sIsInteger
theorem le2 : Le sp2 (runD F2 FU N2.length m2 false) := Pl.le_isInteger 
def F3 : Specs := updF F2 (nm false "is_integer") sp2
def sp3 : List W → Store → Out W := Pl.sIsNumber
theorem le3 : Le sp3 (runD F3 FU N3.length m3 false) := Pl.le_isNumber (show F3 "is_integer" = _ from rfl)
def F4 : Specs := updF F3 (nm false "is_number") sp3
def sp4 : List W → Store → Out W := Pl.sIsReference
theorem le4 : Le sp4 (runD F4 FU N4.length m4 false) := Pl.le_isReference (show F4 "is_number" = _ from rfl)
def F5 : Specs := updF F4 (nm false "is_reference") sp4
def sp5 : List W → Store → Out W := Pl.sIsObject
theorem le5 : Le sp5 (runD F5 FU N5.length m5 false) := Pl.le_isObject (show F5 "is_table" = _ from rfl) (show F5 "is_integer" = _ from rfl) (show F5 "is_reference" = _ from rfl)
def F6 : Specs := updF F5 (nm false "is_object") sp5
def sp6 : List W → Store → Out W := Pl.sIsWeb
theorem le6 : Le sp6 (runD F6 FU N6.length m6 false) := Pl.le_isWeb (show F6 "is_table" = _ from rfl) (show F6 "is_object" = _ from rfl) (show F6 "is_number" = _ from rfl)
def F7 : Specs := updF F6 (nm false "is_web") sp6
def sp7 : List W → Store → Out W := Pl.sOkWeb
theorem le7 : Le sp7 (runD F7 FU N7.length m7 false) := Pl.le_checkWeb (show F7 "is_web" = _ from rfl)
def F8 : Specs := updF F7 (nm false "check_web") sp7
def sp8 : List W → Store → Out W := Pl.sIsPath
theorem le8 : Le sp8 (runD F8 FU N8.length m8 false) := Pl.le_isPath (show F8 "is_word" = _ from rfl)
def F9 : Specs := updF F8 (nm false "is_path") sp8
def sp9 : List W → Store → Out W := Pl.sOkPath
theorem le9 : Le sp9 (runD F9 FU N9.length m9 false) := Pl.le_checkPath (show F9 "is_path" = _ from rfl)
def F10 : Specs := updF F9 (nm false "check_path") sp9
def sp10 : List W → Store → Out W := Pl.sValueAt
theorem le10 : Le sp10 (runD F10 FU N10.length m10 false) := Pl.le_valueAt 
def F11 : Specs := updF F10 (nm false "value_at") sp10
def sp11 : List W → Store → Out W := Pl.sAnswerAt
theorem le11 : Le sp11 (runD F11 FU N11.length m11 false) := Pl.le_answerAt (show F11 "value_at" = _ from rfl)
def F12 : Specs := updF F11 (nm false "answer_at") sp11
def sp12 : List W → Store → Out W := Pl.sLook
theorem le12 : Le sp12 (runD F12 FU N12.length m12 false) := Pl.le_look (show F12 "check_web" = _ from rfl) (show F12 "check_path" = _ from rfl) (show F12 "answer_at" = _ from rfl)
def F13 : Specs := updF F12 (nm false "look") sp12
def sp13 : List W → Store → Out W := Pl.sMixed
theorem le13 : Le sp13 (runD F13 FU N13.length m13 false) := Pl.le_mixed 
def F14 : Specs := updF F13 (nm false "_law_mixed") sp13
def sp14 : List W → Store → Out W := runD F14 FU 5 m14 false
theorem le14 : Le sp14 (runD F14 FU N14.length m14 false) := fun _ _ => .inr rfl
def F15 : Specs := updF F14 (nm false "_law_cell") sp14
def sp15 : List W → Store → Out W := Pl.sTake
theorem le15 : Le sp15 (runD F15 FU N15.length m15 false) := Pl.le_take 
def F16 : Specs := updF F15 (nm false "_law_take") sp15
def sp16 : List W → Store → Out W := runD F16 FU 5 m16 false
theorem le16 : Le sp16 (runD F16 FU N16.length m16 false) := fun _ _ => .inr rfl
def F17 : Specs := updF F16 (nm false "_law_fields") sp16
def sp17 : List W → Store → Out W := runD F17 FU 7 m17 false
theorem le17 : Le sp17 (runD F17 FU N17.length m17 false) := fun _ _ => .inr rfl
def F18 : Specs := updF F17 (nm false "_law_web") sp17
def sp18 : List W → Store → Out W := Pl.sValueAt
theorem le18 : Le sp18 (runD F18 FU N18.length m18 false) := Pl.le_valueAt 
def F19 : Specs := updF F18 (nm false "_law_value") sp18
def sp19 : List W → Store → Out W := Pl.sPlace
theorem le19 : Le sp19 (runD F19 FU N19.length m19 false) := Pl.le_place (show F19 "check_web" = _ from rfl) (show F19 "check_path" = _ from rfl) (show F19 "value_at" = _ from rfl)
def F20 : Specs := updF F19 (nm false "place") sp19
def sp20 : List W → Store → Out W := runD F20 FU 10 m20 false
theorem le20 : Le sp20 (runD F20 FU N20.length m20 false) := fun _ _ => .inr rfl
def F21 : Specs := updF F20 (nm false "_law_good") sp20
def sp21 : List W → Store → Out W := runD F21 FU 11 m21 false
theorem le21 : Le sp21 (runD F21 FU N21.length m21 false) := fun _ _ => .inr rfl
def F22 : Specs := updF F21 (nm false "_law_path") sp21
def sp22 : List W → Store → Out W := runD F22 FU 9 m22 false
theorem le22 : Le sp22 (runD F22 FU N22.length m22 false) := fun _ _ => .inr rfl
def F23 : Specs := updF F22 (nm false "law") sp22
end Wk03

namespace Wk03
open PySem Dv
theorem hCell : Pl.CellP (F22 "_law_cell") := fun ns k μ hk => Pl.run_cell (F := F14) (fu := FU) (show F14 "_law_mixed" = _ from rfl) ns k hk μ
theorem hFields : Pl.FieldsP (F17 "_law_fields") := fun μ n sz z ho hs => Pl.run_fields (F := F16) (fu := FU) (show F16 "_law_take" = _ from rfl) ho hs
theorem hWeb : Pl.WebF (F22 "_law_web") := fun μ n most z ho hm => Pl.run_webOf (F := F17) (fu := FU) (show F17 "_law_take" = _ from rfl) hFields ho hm
theorem hPath : Pl.PathF (F22 "_law_path") := fun μ n most z d hd ho hm => Pl.run_path (F := F21) (fu := FU) (show F21 "_law_take" = _ from rfl) (show F21 "_law_value" = _ from rfl) hd ho hm
theorem hGood : Pl.GoodF (F22 "_law_good") := fun d p μ hd hp => Pl.run_good (F := F20) (fu := FU) (show F20 "_law_value" = _ from rfl) (show F20 "look" = _ from rfl) (show F20 "place" = _ from rfl) hd hp
theorem plain (ns : List Int) (hl : ns.length ≤ 63) : ∃ μ, sp22 [.scr ns] [] = .ok (.dat (.bool true)) μ := Pl.run_law3 (F := F22) (fu := FU) hCell hWeb hPath hGood (show F22 "look" = _ from rfl) (show F22 "place" = _ from rfl) ns
end Wk03
namespace Wk03
open PySem PySem.Spec PyProof.Rows L2 Dv
section
variable {P : Program} {w : World} {K : PySem.W.Frag} {h : Heap} {mg : Str → Option Value} {base : Heap}
theorem fac0 (X : K.In h) (G : h.Ns mainGlobals mg) (c : He.SaysD fa fn K) : Facts P w K mg base 0 G0 F0 :=
  Facts.free (Facts.free (Facts.free (Facts.free (Facts.free (Facts.free (Facts.free (Facts.free (Facts.free (Facts.free (Facts.free (Facts.free (Facts.con (Facts.con (Facts.con (Facts.con (Facts.con (Facts.con (Facts.con (Facts.nil) (let ⟨t, e⟩ := He.str_ok X G (c.fact 41 (f := .str "LETTERS" "abcdefghijklmnopqrstuvwxyz") rfl); ⟨_, e, t, rfl⟩) rfl) (let ⟨t, e⟩ := He.int_ok X G (c.fact 40 (f := .int "MOST_ENTRIES" 64) rfl); ⟨_, e, t, rfl⟩) rfl) (let ⟨t, e⟩ := He.int_ok X G (c.fact 39 (f := .int "MOST_OBJECTS" 30) rfl); ⟨_, e, t, rfl⟩) rfl) (let ⟨t, e⟩ := He.int_ok X G (c.fact 38 (f := .int "MOST_NAMES" 6) rfl); ⟨_, e, t, rfl⟩) rfl) (let ⟨t, e⟩ := He.int_ok X G (c.fact 37 (f := .int "MOST_FIELDS" 4) rfl); ⟨_, e, t, rfl⟩) rfl) (let ⟨t, e⟩ := He.int_ok X G (c.fact 36 (f := .int "GREATEST" 999999999) rfl); ⟨_, e, t, rfl⟩) rfl) (let ⟨t, e⟩ := He.int_ok X G (c.fact 35 (f := .int "LONGEST" 8) rfl); ⟨_, e, t, rfl⟩) rfl) (He.free_ok X G (c.fact 34 (f := .free "min") rfl))) (He.free_ok X G (c.fact 33 (f := .free "max") rfl))) (He.free_ok X G (c.fact 32 (f := .free "range") rfl))) (He.free_ok X G (c.fact 31 (f := .free "dict") rfl))) (He.free_ok X G (c.fact 30 (f := .free "bool") rfl))) (He.free_ok X G (c.fact 29 (f := .free "int") rfl))) (He.free_ok X G (c.fact 28 (f := .free "zip") rfl))) (He.free_ok X G (c.fact 27 (f := .free "tuple") rfl))) (He.free_ok X G (c.fact 26 (f := .free "len") rfl))) (He.free_ok X G (c.fact 25 (f := .free "all") rfl))) (He.free_ok X G (c.fact 24 (f := .free "str") rfl))) (He.free_ok X G (c.fact 23 (f := .free "isinstance") rfl))
theorem fac1 (X : K.In h) (G : h.Ns mainGlobals mg) (c : He.SaysD fa fn K) (FA : Facts P w K mg base 0 G0 F0) : Facts P w K mg base 1 G1 F1 := by
  obtain ⟨fd, FD⟩ := c.def_ 0 (d := d0) rfl
  refine Facts.fn 40 FU false FA FD (He.glo_ok X G (c.fact 0 (f := .glo "is_word") rfl)) sc0 (FD.bindsN (ps := P0) fun _ _ _ _ _ _ us hl => match us, hl with | [_], _ => rfl) (fun ko hk => ?_) tr0 le0
  cases hk
theorem fac2 (X : K.In h) (G : h.Ns mainGlobals mg) (c : He.SaysD fa fn K) (FA : Facts P w K mg base 1 G1 F1) : Facts P w K mg base 2 G2 F2 := by
  obtain ⟨fd, FD⟩ := c.def_ 1 (d := d1) rfl
  refine Facts.fn 40 FU false FA FD (He.glo_ok X G (c.fact 1 (f := .glo "is_table") rfl)) sc1 (FD.bindsN (ps := P1) fun _ _ _ _ _ _ us hl => match us, hl with | [_, _], _ => rfl) (fun ko hk => ?_) tr1 le1
  cases hk
theorem fac3 (X : K.In h) (G : h.Ns mainGlobals mg) (c : He.SaysD fa fn K) (FA : Facts P w K mg base 2 G2 F2) : Facts P w K mg base 3 G3 F3 := by
  obtain ⟨fd, FD⟩ := c.def_ 2 (d := d2) rfl
  refine Facts.fn 40 FU false FA FD (He.glo_ok X G (c.fact 2 (f := .glo "is_integer") rfl)) sc2 (FD.bindsN (ps := P2) fun _ _ _ _ _ _ us hl => match us, hl with | [_], _ => rfl) (fun ko hk => ?_) tr2 le2
  cases hk
theorem fac4 (X : K.In h) (G : h.Ns mainGlobals mg) (c : He.SaysD fa fn K) (FA : Facts P w K mg base 3 G3 F3) : Facts P w K mg base 4 G4 F4 := by
  obtain ⟨fd, FD⟩ := c.def_ 3 (d := d3) rfl
  refine Facts.fn 40 FU false FA FD (He.glo_ok X G (c.fact 3 (f := .glo "is_number") rfl)) sc3 (FD.bindsN (ps := P3) fun _ _ _ _ _ _ us hl => match us, hl with | [_, _], _ => rfl) (fun ko hk => ?_) tr3 le3
  cases hk
theorem fac5 (X : K.In h) (G : h.Ns mainGlobals mg) (c : He.SaysD fa fn K) (FA : Facts P w K mg base 4 G4 F4) : Facts P w K mg base 5 G5 F5 := by
  obtain ⟨fd, FD⟩ := c.def_ 4 (d := d4) rfl
  refine Facts.fn 40 FU false FA FD (He.glo_ok X G (c.fact 4 (f := .glo "is_reference") rfl)) sc4 (FD.bindsN (ps := P4) fun _ _ _ _ _ _ us hl => match us, hl with | [_, _], _ => rfl) (fun ko hk => ?_) tr4 le4
  cases hk
theorem fac6 (X : K.In h) (G : h.Ns mainGlobals mg) (c : He.SaysD fa fn K) (FA : Facts P w K mg base 5 G5 F5) : Facts P w K mg base 6 G6 F6 := by
  obtain ⟨fd, FD⟩ := c.def_ 5 (d := d5) rfl
  refine Facts.fn 40 FU false FA FD (He.glo_ok X G (c.fact 5 (f := .glo "is_object") rfl)) sc5 (FD.bindsN (ps := P5) fun _ _ _ _ _ _ us hl => match us, hl with | [_, _], _ => rfl) (fun ko hk => ?_) tr5 le5
  cases hk
theorem fac7 (X : K.In h) (G : h.Ns mainGlobals mg) (c : He.SaysD fa fn K) (FA : Facts P w K mg base 6 G6 F6) : Facts P w K mg base 7 G7 F7 := by
  obtain ⟨fd, FD⟩ := c.def_ 6 (d := d6) rfl
  refine Facts.fn 40 FU false FA FD (He.glo_ok X G (c.fact 6 (f := .glo "is_web") rfl)) sc6 (FD.bindsN (ps := P6) fun _ _ _ _ _ _ us hl => match us, hl with | [_], _ => rfl) (fun ko hk => ?_) tr6 le6
  cases hk
theorem fac8 (X : K.In h) (G : h.Ns mainGlobals mg) (c : He.SaysD fa fn K) (FA : Facts P w K mg base 7 G7 F7) : Facts P w K mg base 8 G8 F8 := by
  obtain ⟨fd, FD⟩ := c.def_ 7 (d := d7) rfl
  refine Facts.fn 40 FU false FA FD (He.glo_ok X G (c.fact 7 (f := .glo "check_web") rfl)) sc7 (FD.bindsN (ps := P7) fun _ _ _ _ _ _ us hl => match us, hl with | [_], _ => rfl) (fun ko hk => ?_) tr7 le7
  cases hk
theorem fac9 (X : K.In h) (G : h.Ns mainGlobals mg) (c : He.SaysD fa fn K) (FA : Facts P w K mg base 8 G8 F8) : Facts P w K mg base 9 G9 F9 := by
  obtain ⟨fd, FD⟩ := c.def_ 8 (d := d8) rfl
  refine Facts.fn 40 FU false FA FD (He.glo_ok X G (c.fact 8 (f := .glo "is_path") rfl)) sc8 (FD.bindsN (ps := P8) fun _ _ _ _ _ _ us hl => match us, hl with | [_], _ => rfl) (fun ko hk => ?_) tr8 le8
  cases hk
theorem fac10 (X : K.In h) (G : h.Ns mainGlobals mg) (c : He.SaysD fa fn K) (FA : Facts P w K mg base 9 G9 F9) : Facts P w K mg base 10 G10 F10 := by
  obtain ⟨fd, FD⟩ := c.def_ 9 (d := d9) rfl
  refine Facts.fn 40 FU false FA FD (He.glo_ok X G (c.fact 9 (f := .glo "check_path") rfl)) sc9 (FD.bindsN (ps := P9) fun _ _ _ _ _ _ us hl => match us, hl with | [_], _ => rfl) (fun ko hk => ?_) tr9 le9
  cases hk
theorem fac11 (X : K.In h) (G : h.Ns mainGlobals mg) (c : He.SaysD fa fn K) (FA : Facts P w K mg base 10 G10 F10) : Facts P w K mg base 11 G11 F11 := by
  obtain ⟨fd, FD⟩ := c.def_ 10 (d := d10) rfl
  refine Facts.fn 40 FU false FA FD (He.glo_ok X G (c.fact 10 (f := .glo "value_at") rfl)) sc10 (FD.bindsN (ps := P10) fun _ _ _ _ _ _ us hl => match us, hl with | [_, _], _ => rfl) (fun ko hk => ?_) tr10 le10
  cases hk
theorem fac12 (X : K.In h) (G : h.Ns mainGlobals mg) (c : He.SaysD fa fn K) (FA : Facts P w K mg base 11 G11 F11) : Facts P w K mg base 12 G12 F12 := by
  obtain ⟨fd, FD⟩ := c.def_ 11 (d := d11) rfl
  refine Facts.fn 40 FU false FA FD (He.glo_ok X G (c.fact 11 (f := .glo "answer_at") rfl)) sc11 (FD.bindsN (ps := P11) fun _ _ _ _ _ _ us hl => match us, hl with | [_, _], _ => rfl) (fun ko hk => ?_) tr11 le11
  cases hk
theorem fac13 (X : K.In h) (G : h.Ns mainGlobals mg) (c : He.SaysD fa fn K) (FA : Facts P w K mg base 12 G12 F12) : Facts P w K mg base 13 G13 F13 := by
  obtain ⟨fd, FD⟩ := c.def_ 12 (d := d12) rfl
  refine Facts.fn 40 FU false FA FD (He.glo_ok X G (c.fact 12 (f := .glo "look") rfl)) sc12 (FD.bindsN (ps := P12) fun _ _ _ _ _ _ us hl => match us, hl with | [_, _], _ => rfl) (fun ko hk => ?_) tr12 le12
  rcases List.mem_cons.mp hk with rfl | hk
  · exact ⟨kw_of FD fun _ _ _ _ _ _ us hl => match us, hl with | [_, _], _ => rfl, rfl, by decide⟩
  cases hk
theorem fac14 (X : K.In h) (G : h.Ns mainGlobals mg) (c : He.SaysD fa fn K) (FA : Facts P w K mg base 13 G13 F13) : Facts P w K mg base 14 G14 F14 := by
  obtain ⟨fd, FD⟩ := c.def_ 13 (d := d13) rfl
  refine Facts.fn 40 FU false FA FD (He.glo_ok X G (c.fact 13 (f := .glo "_law_mixed") rfl)) sc13 (FD.bindsN (ps := P13) fun _ _ _ _ _ _ us hl => match us, hl with | [_, _], _ => rfl) (fun ko hk => ?_) tr13 le13
  cases hk
theorem fac15 (X : K.In h) (G : h.Ns mainGlobals mg) (c : He.SaysD fa fn K) (FA : Facts P w K mg base 14 G14 F14) : Facts P w K mg base 15 G15 F15 := by
  obtain ⟨fd, FD⟩ := c.def_ 14 (d := d14) rfl
  refine Facts.fn 40 FU false FA FD (He.glo_ok X G (c.fact 14 (f := .glo "_law_cell") rfl)) sc14 (FD.bindsN (ps := P14) fun _ _ _ _ _ _ us hl => match us, hl with | [_, _], _ => rfl) (fun ko hk => ?_) tr14 le14
  cases hk
theorem fac16 (X : K.In h) (G : h.Ns mainGlobals mg) (c : He.SaysD fa fn K) (FA : Facts P w K mg base 15 G15 F15) : Facts P w K mg base 16 G16 F16 := by
  obtain ⟨fd, FD⟩ := c.def_ 15 (d := d15) rfl
  refine Facts.fn 40 FU false FA FD (He.glo_ok X G (c.fact 15 (f := .glo "_law_take") rfl)) sc15 (FD.bindsN (ps := P15) fun _ _ _ _ _ _ us hl => match us, hl with | [_, _], _ => rfl) (fun ko hk => ?_) tr15 le15
  cases hk
theorem fac17 (X : K.In h) (G : h.Ns mainGlobals mg) (c : He.SaysD fa fn K) (FA : Facts P w K mg base 16 G16 F16) : Facts P w K mg base 17 G17 F17 := by
  obtain ⟨fd, FD⟩ := c.def_ 16 (d := d16) rfl
  refine Facts.fn 40 FU false FA FD (He.glo_ok X G (c.fact 16 (f := .glo "_law_fields") rfl)) sc16 (FD.bindsN (ps := P16) fun _ _ _ _ _ _ us hl => match us, hl with | [_, _], _ => rfl) (fun ko hk => ?_) tr16 le16
  cases hk
theorem fac18 (X : K.In h) (G : h.Ns mainGlobals mg) (c : He.SaysD fa fn K) (FA : Facts P w K mg base 17 G17 F17) : Facts P w K mg base 18 G18 F18 := by
  obtain ⟨fd, FD⟩ := c.def_ 17 (d := d17) rfl
  refine Facts.fn 40 FU false FA FD (He.glo_ok X G (c.fact 17 (f := .glo "_law_web") rfl)) sc17 (FD.bindsN (ps := P17) fun _ _ _ _ _ _ us hl => match us, hl with | [_, _], _ => rfl) (fun ko hk => ?_) tr17 le17
  cases hk
theorem fac19 (X : K.In h) (G : h.Ns mainGlobals mg) (c : He.SaysD fa fn K) (FA : Facts P w K mg base 18 G18 F18) : Facts P w K mg base 19 G19 F19 := by
  obtain ⟨fd, FD⟩ := c.def_ 18 (d := d18) rfl
  refine Facts.fn 40 FU false FA FD (He.glo_ok X G (c.fact 18 (f := .glo "_law_value") rfl)) sc18 (FD.bindsN (ps := P18) fun _ _ _ _ _ _ us hl => match us, hl with | [_, _], _ => rfl) (fun ko hk => ?_) tr18 le18
  cases hk
theorem fac20 (X : K.In h) (G : h.Ns mainGlobals mg) (c : He.SaysD fa fn K) (FA : Facts P w K mg base 19 G19 F19) : Facts P w K mg base 20 G20 F20 := by
  obtain ⟨fd, FD⟩ := c.def_ 19 (d := d19) rfl
  refine Facts.fn 40 FU false FA FD (He.glo_ok X G (c.fact 19 (f := .glo "place") rfl)) sc19 (FD.bindsN (ps := P19) fun _ _ _ _ _ _ us hl => match us, hl with | [_, _], _ => rfl) (fun ko hk => ?_) tr19 le19
  rcases List.mem_cons.mp hk with rfl | hk
  · exact ⟨kw_of FD fun _ _ _ _ _ _ us hl => match us, hl with | [_, _], _ => rfl, rfl, by decide⟩
  cases hk
theorem fac21 (X : K.In h) (G : h.Ns mainGlobals mg) (c : He.SaysD fa fn K) (FA : Facts P w K mg base 20 G20 F20) : Facts P w K mg base 21 G21 F21 := by
  obtain ⟨fd, FD⟩ := c.def_ 20 (d := d20) rfl
  refine Facts.fn 40 FU false FA FD (He.glo_ok X G (c.fact 20 (f := .glo "_law_good") rfl)) sc20 (FD.bindsN (ps := P20) fun _ _ _ _ _ _ us hl => match us, hl with | [_, _], _ => rfl) (fun ko hk => ?_) tr20 le20
  cases hk
theorem fac22 (X : K.In h) (G : h.Ns mainGlobals mg) (c : He.SaysD fa fn K) (FA : Facts P w K mg base 21 G21 F21) : Facts P w K mg base 22 G22 F22 := by
  obtain ⟨fd, FD⟩ := c.def_ 21 (d := d21) rfl
  refine Facts.fn 40 FU false FA FD (He.glo_ok X G (c.fact 21 (f := .glo "_law_path") rfl)) sc21 (FD.bindsN (ps := P21) fun _ _ _ _ _ _ us hl => match us, hl with | [_, _, _], _ => rfl) (fun ko hk => ?_) tr21 le21
  cases hk
theorem fac23 (X : K.In h) (G : h.Ns mainGlobals mg) (c : He.SaysD fa fn K) (FA : Facts P w K mg base 22 G22 F22) : Facts P w K mg base 23 G23 F23 := by
  obtain ⟨fd, FD⟩ := c.def_ 22 (d := d22) rfl
  refine Facts.fn 40 FU false FA FD (He.glo_ok X G (c.fact 22 (f := .glo "law") rfl)) sc22 (FD.bindsN (ps := P22) fun _ _ _ _ _ _ us hl => match us, hl with | [_], _ => rfl) (fun ko hk => ?_) tr22 le22
  cases hk
theorem facs (X : K.In h) (G : h.Ns mainGlobals mg) (c : He.SaysD fa fn K) : Facts P w K mg base 22 G22 F22 :=
  fac22 X G c (fac21 X G c (fac20 X G c (fac19 X G c (fac18 X G c (fac17 X G c (fac16 X G c (fac15 X G c (fac14 X G c (fac13 X G c (fac12 X G c (fac11 X G c (fac10 X G c (fac9 X G c (fac8 X G c (fac7 X G c (fac6 X G c (fac5 X G c (fac4 X G c (fac3 X G c (fac2 X G c (fac1 X G c (fac0 X G c))))))))))))))))))))))
theorem facts (X : K.In h) (G : h.Ns mainGlobals mg) (c : He.SaysD fa fn K) {f : Addr} (hfa : mg ("law" : Str) = some (.ref f)) :
    ∃ fd : FuncData, (∀ (s : Shared) (v : Value), BindsTo s fd ⟨[v], []⟩ [("script", v)]) ∧ ∀ base : Heap, K.In base → base.Ns mainGlobals mg → FnG P w K mg base 23 f fd ["script"] (spOf K mg sp22 1) := by
  obtain ⟨fd0, FD⟩ := c.def_ 22 (d := d22) rfl
  have b := FunD.bindsA (ps := ["script"]) FD fun _ _ _ _ _ _ us hl => match us, hl with | [_], _ => rfl
  have e0 := hfa.symm.trans (He.glo_ok X G (c.fact 22 (f := .glo "law") rfl))
  cases e0
  refine ⟨fd0, fun s v => b s [v] rfl, fun base _ _ => ?_⟩
  exact fnG_run (fu := FU) (m := false) (facs X G c) FD sc22 tr22 le22
end
end Wk03
open PySem PySem.W PySem.Calls PyProof.Rows
theorem PySem.Challenge.cw_openfrozen_k03_paths_and_what_they_lead_holds : PySem.Challenge.rw_openfrozen_k03_paths_and_what_they_lead.Holds := by
  w_on; o_law
  refine HandSHeadRun.head_any (r := OpenLaw.row PySem.Challenge.rw_openfrozen_k03_paths_and_what_they_lead) (q := view (OpenLaw.row PySem.Challenge.rw_openfrozen_k03_paths_and_what_they_lead).prog [35]) (H := Wk03.hk) (ob := Wk03.ob) (M := 4000) (loose := Wk03.loose) (d := HandSHeadRun.topDef (OpenLaw.row PySem.Challenge.rw_openfrozen_k03_paths_and_what_they_lead).prog 35) (kwd := []) Wk03.ob_eq
    (by kernel_rfl) (fun s => by kernel_rfl) Wk03.run (by kernel_rfl) (by kernel_rfl) (by kernel_rfl) (by rfl) (by first | assumption | decide +kernel) (by decide +kernel) ⟨rfl, rfl, rfl, rfl, rfl, by decide +kernel⟩ ?hw ?hc
  case hw => w_witness2
  case hc =>
    refine Dv.law_end (l := PySem.Challenge.rw_openfrozen_k03_paths_and_what_they_lead) (n := 63) (k := 23) (x := "script") (spec := Wk03.sp22) rfl (by decide) (by kernel_rfl) ⟨rfl, by decide, by decide⟩ ?F (fun ns hl => Wk03.plain ns hl)
    intro w mg fa h Y G hmg0
    obtain ⟨K, KX, c⟩ := Y
    have hmg : mg ("law" : PySem.Str) = some (.ref fa) := by
      have e : (HandSHeadRun.topDef (OpenLaw.row PySem.Challenge.rw_openfrozen_k03_paths_and_what_they_lead).prog 35).name = ("law" : PySem.Str) := by kernel_rfl
      rw [← e]
      exact hmg0
    obtain ⟨fd, hb, hF⟩ := Wk03.facts (P := (PySem.Challenge.rw_openfrozen_k03_paths_and_what_they_lead).prog) (w := w) KX G c hmg
    exact ⟨K, fd, KX, hb, hF⟩

