import PyProof.Rows.All
import Wide.All
import OpenK.AllK
import Wide.FinOn
import HandS.ForMost
import HandS.Defaults
import HandS.IsInst
import HandS.Deep
import HandS.TupAny
import HandS.Conv
import HandS.NoneIn
import HandS.SortInts
import HandS.AnyAll
import KE.KTupSum
import KE.DataMinMax
import HandS.Strs
import HandS.Style
import HandS.Zip
import HandS.Iter
import PyProof.Draws
import PyProof.EnumMake
import HandS.SetFor
import HandS.Set
import HandS.Ends
import PyProof.GenCompD
import PyProof.TupleOfGen
import PyProof.Rows.CallKwBuiltin
import HandS.HeadEnd
import HandS.Head0
import HandS.Head1
import HandS.Head2
import HandS.HeadHook1
import HandS.HeadHook2
import HandS.HeadHook4
import HandS.HeadWalk
import PySem.Challenge.RW_sealedlink_k41_whole_four_fates_of_a_pac
set_option Elab.async false
set_option linter.all false
section
set_option maxRecDepth 100000
/-! tuples that are known to be plain ones (for their methods): each new tuple is noted with its very object -/
namespace Pyx
open PySem PySem.Spec PyProof.Rows L2
def TupO (o : PySem.Obj) : Prop := o.cls = .type "tuple" ∧ o.dict = none
def TupZ (K : PySem.W.Frag) (H : Hp) (a : Addr) (vs : List V) : Prop :=
  (∃ o, H a = some (.frz o (.tup vs)) ∧ TupO o) ∨
    ∃ (o : PySem.Obj) (its : Array Value) (n : Nat), K.lookup a = some o ∧ TupO o ∧ o.data = .seq its n ∧ its.size ≤ sizeLine ∧ Vals vs its.toList
theorem TupZ.sqT {K : PySem.W.Frag} {H : Hp} {a : Addr} {vs : List V} (h : TupZ K H a vs) : SqT K H a vs := by
  rcases h with ⟨o, h, _⟩ | ⟨o, its, n, h1, h2, h3⟩
  · exact .inl (.inr ⟨o, h⟩)
  · exact .inr ⟨o, its, n, h1, h2.1, h3⟩
section
variable {X : Cx} {pins : List (Addr × PySem.Obj)} {σ : L2.St} {H : Hp} {s : Shared}
theorem laidZ {s' : Shared} (I : Inv X pins σ H s) {xs : List V} {us : List Value} (hz : xs.length ≤ sizeLine) (r : Vals xs us) (t : Nat) :
    Inv X pins σ (upd H s.heap.objs.size (.frz { cls := .type "tuple", data := .seq us.toArray } (.tup xs))) { s with heap := s.heap.push { cls := .type "tuple", data := .seq us.toArray }, toks := t } :=
  I.laid (t' := t) (fun b u e => Heap.get?_push_of_some _ e) (Nat.le_refl _) ⟨Heap.get?_push_size _ rfl, hz, us, r, ⟨_, Heap.get?_push_size _ rfl, rfl, _, rfl⟩⟩
def tTupZ (t : TA) : TE := fun σ H Q => t σ H fun xs H1 => xs.length ≤ sizeLine ∧ ∀ p o, H1 p = none → TupO o → Q (.ref p) (upd H1 p (.frz o (.tup xs)))
theorem pe_tupZ {es : List Expr} {t : TA} {k : Nat} {pos : Pos} (h : PA X es t) : PE X (.Tuple es k pos) (tTupZ t) := by
  refine ⟨fun pins s σ H Q I hq => ?_⟩
  refine wpAny_Tuple_spliced (thn (h.run pos pins s σ H _ I hq) fun us s1 ⟨xs, H1, I1, r, z, q⟩ => ⟨by rw [← r.length]; exact z, ?_⟩)
  exact ⟨.ref s1.heap.objs.size, _, laidZ (s' := s1) I1 z r s1.toks, rfl, q _ _ (I1.hok.fresh (Nat.le_refl _)) ⟨rfl, rfl⟩⟩
def rCatZ (K : PySem.W.Frag) : R2 := fun x y H Q => ∃ a b xs ys, x = .ref a ∧ y = .ref b ∧ SqT K H a xs ∧ SqT K H b ys ∧ xs.length + ys.length ≤ sizeLine ∧
  (xs = [] → Q (.ref b) H) ∧ (xs ≠ [] → ys = [] → Q (.ref a) H) ∧ (xs ≠ [] → ys ≠ [] → ∀ p o, H p = none → TupO o → Q (.ref p) (upd H p (.frz o (.tup (xs ++ ys)))))
theorem op_catZ : OpR X (binaryOp .Add) (rCatZ X.K) := by
  intro pins s σ H x y v u Q I rx ry h
  obtain ⟨a, b, xs, ys, rfl, rfl, ha, hb, hz, q0, q1, q2⟩ := h
  cases rx
  cases ry
  obtain ⟨its, r1, p1, _⟩ := I.tuple ha
  obtain ⟨its2, r2, p2, _⟩ := I.tuple hb
  by_cases hx : xs = []
  · subst hx
    cases r1
    exact cat_tup0 p1 p2 ⟨.ref b, H, I, rfl, q0 rfl⟩
  · refine HT.cat_tup p1 p2 (fun z => hx (r1.nil_iff.mp z)) (fun z => ⟨.ref a, H, I, rfl, q1 hx (r2.nil_iff.mp z)⟩) (fun z => ?_) (by rw [← r1.length, ← r2.length]; exact hz)
    exact ⟨.ref s.heap.objs.size, _, laidZ (s' := s) I (by rw [List.length_append]; exact hz) (r1.append r2) s.toks, rfl, q2 hx (fun w => z (r2.nil_iff.mpr w)) _ _ (I.hok.fresh (Nat.le_refl _)) ⟨rfl, rfl⟩⟩
def rSlZ (K : PySem.W.Frag) : V → Option Int → Option Int → Hp → VK → Prop := fun x lo hi H Q => ∃ a xs, x = .ref a ∧ SqT K H a xs ∧
  (HT.sIx xs.length 0 lo = 0 ∧ HT.sIx xs.length xs.length hi = xs.length → Q (.ref a) H) ∧ (¬ (HT.sIx xs.length 0 lo = 0 ∧ HT.sIx xs.length xs.length hi = xs.length) → ∀ p o, H p = none → TupO o → Q (.ref p) (upd H p (.frz o (.tup (cutV xs lo hi)))))
theorem sl_tupZ : SlR X (rSlZ X.K) := by
  intro pins s σ H x v vl vu lo hi sl Q I rx hs pl pu h
  obtain ⟨a, xs, rfl, hx, q1, q2⟩ := h
  cases rx
  obtain ⟨its, r, ht, hz⟩ := I.tuple hx
  have hlen : its.toArray.size = xs.length := by rw [List.size_toArray]; exact r.length.symm
  refine ⟨"tuple", _, PyProof.Rows.slot_tuple_getitem.lookup, ht.typeIs, ?_⟩
  by_cases hw : HT.sIx xs.length 0 lo = 0 ∧ HT.sIx xs.length xs.length hi = xs.length
  · exact getItem_tuple_whole ht hs pl pu (by rw [hlen]; exact hw) ⟨.ref a, H, I, rfl, q1 hw⟩
  · refine HT.getItem_tuple_cut ht hs pl pu (by rw [hlen]; exact hw) ?_ (by rw [hlen]; exact hz)
    rw [hlen]
    exact ⟨.ref s.heap.objs.size, _, laidZ (s' := s) I (Nat.le_trans (cutV_length xs lo hi) hz) ((r.drop (HT.sIx xs.length 0 lo)).take (HT.sIx xs.length xs.length hi - HT.sIx xs.length 0 lo)) s.toks, rfl, q2 hw _ _ (I.hok.fresh (Nat.le_refl _)) ⟨rfl, rfl⟩⟩
theorem call_tupleZ : CallR X (.type "tuple") (fun xs H Q => ∃ p ys, xs = [.ref p] ∧ ((SqL X.K H p ys ∧ ∀ l o, H l = none → TupO o → Q (.ref l) (upd H l (.frz o (.tup ys)))) ∨ (SqT X.K H p ys ∧ Q (.ref p) H))) := by
  intro pins s σ H xs us Q I r h
  obtain ⟨p, ys, rfl, h⟩ := h
  obtain ⟨u, rfl, rx⟩ := vals1 r
  cases rx
  rcases h with ⟨hq, q⟩ | ⟨hq, q⟩
  · obtain ⟨its, r', pl, hz⟩ := I.list hq
    have hlen := r'.length
    refine call_tuple_list pl.isList (fun h' kp => ?_) (by simp only [List.size_toArray] <;> omega)
    have I1 : Inv X pins σ H { s with heap := h' } := I.kept (t' := s.toks) kp
    exact ⟨.ref h'.objs.size, _, laidZ (s' := s) I1 hz r' s.toks, rfl, q _ _ (I1.hok.fresh (Nat.le_refl _)) ⟨rfl, rfl⟩⟩
  · obtain ⟨its, r', pl, hz⟩ := I.tuple hq
    exact call_tuple_same pl ⟨.ref p, H, I, rfl, q⟩
/-- a plain tuple's object -/
theorem TupZ.obj (I : Inv X pins σ H s) {a : Addr} {vs : List V} (h : TupZ X.K H a vs) : ∃ its n sl, Vals vs its ∧ s.heap.get? a = some { cls := .type "tuple", dict := none, data := .seq its.toArray n, slots := sl } ∧ vs.length ≤ sizeLine := by
  rcases h with ⟨o, h, t⟩ | ⟨o, its, n, h1, t, h3, h4, h5⟩
  · obtain ⟨e, z, its, r, ⟨o', e', c, n, d⟩⟩ := I.hok a _ h
    rw [e] at e'; cases e'
    obtain ⟨cls, dd, data, sl⟩ := o
    obtain ⟨t1, t2⟩ := t
    simp only at t1 t2 d
    subst t1 t2 d
    exact ⟨its, n, sl, r, e, z⟩
  · obtain ⟨cls, dd, data, sl⟩ := o
    obtain ⟨t1, t2⟩ := t
    simp only at t1 t2 h3
    subst t1 t2 h3
    exact ⟨its.toList, n, sl, h5, by simpa using I.kIn a _ h1, by have := h5.length; simp at this; omega⟩
end
end Pyx
end
section
set_option maxRecDepth 100000
/-! the abstract values, the store, how they lie in the layer's heap -/
namespace Pyx
open PySem PySem.Spec PyProof.Rows L2

inductive AV where
  | non | bl (b : Bool) | int (i : Int) | str (x : Str)
  | tup (xs : List AV) | lst (xs : List AV) | ref (n : Nat)
  deriving Inhabited

inductive Slt where
  | val (v : AV) | own (xs : List AV)
  deriving Inhabited
inductive SObj where
  | lst (xs : List AV) | dic (kvs : List (Str × AV))
  deriving Inhabited
structure AS where
  ρ : List (Option Slt)
  S : List SObj
  deriving Inhabited

abbrev Hot := Addr → Prop
/-- a list of the module's own part -/
def KLst (K : PySem.W.Frag) (a : Addr) (xs : List V) : Prop := ∃ (o : PySem.Obj) (its : Array Value) (n : Nat), K.lookup a = some o ∧ o.cls = .type "list" ∧ o.dict = none ∧ o.data = .seq its n ∧ its.size ≤ sizeLine ∧ Vals xs its.toList
mutual
inductive Rp (K : PySem.W.Frag) (H : Hp) (hot : Hot) (m : List Addr) : V → AV → Prop
  | non : Rp K H hot m .non .non
  | bl (b : Bool) : Rp K H hot m (.bl b) (.bl b)
  | int (i : Int) : Rp K H hot m (.int i) (.int i)
  | str (x : Str) : Rp K H hot m (.str x) (.str x)
  | tup {a : Addr} {vs : List V} {xs : List AV} : TupZ K H a vs → Rps K H hot m vs xs → Rp K H hot m (.ref a) (.tup xs)
  | lst {a : Addr} {vs : List V} {xs : List AV} : Rd H a (.lst vs) → ¬ hot a → Rps K H hot m vs xs → Rp K H hot m (.ref a) (.lst xs)
  | lstK {a : Addr} {vs : List V} {xs : List AV} : KLst K a vs → Rps K H hot m vs xs → Rp K H hot m (.ref a) (.lst xs)
  | ref {a : Addr} {n : Nat} : m[n]? = some a → Rp K H hot m (.ref a) (.ref n)
inductive Rps (K : PySem.W.Frag) (H : Hp) (hot : Hot) (m : List Addr) : List V → List AV → Prop
  | nil : Rps K H hot m [] []
  | cons {x : V} {v : AV} {xs : List V} {vs : List AV} : Rp K H hot m x v → Rps K H hot m xs vs → Rps K H hot m (x :: xs) (v :: vs)
end

section
variable {K : PySem.W.Frag} {H H' : Hp} {hot hot' : Hot} {m m' : List Addr}
theorem Rps.length : ∀ {xs : List V} {vs : List AV}, Rps K H hot m xs vs → xs.length = vs.length
  | _, _, .nil => rfl
  | _, _, .cons _ t => by simp [Rps.length t]
theorem Rps.get : ∀ {xs : List V} {vs : List AV} {i : Nat} {v : AV}, Rps K H hot m xs vs → vs[i]? = some v → ∃ x, xs[i]? = some x ∧ Rp K H hot m x v
  | _, _, _, _, .nil, e => by simp at e
  | _, _, 0, _, .cons r _, e => by simp at e; subst e; exact ⟨_, rfl, r⟩
  | _, _, i + 1, v, .cons _ t, e => by
    obtain ⟨u, h1, h2⟩ := Rps.get (i := i) (v := v) t (by simpa using e)
    exact ⟨u, by simpa using h1, h2⟩
theorem Rps.append : ∀ {xs ys : List V} {us ws : List AV}, Rps K H hot m xs us → Rps K H hot m ys ws → Rps K H hot m (xs ++ ys) (us ++ ws)
  | _, _, _, _, .nil, s => s
  | _, _, _, _, .cons r t, s => .cons r (Rps.append t s)
theorem Rps.take : ∀ {xs : List V} {us : List AV} (n : Nat), Rps K H hot m xs us → Rps K H hot m (xs.take n) (us.take n)
  | _, _, 0, _ => .nil
  | _, _, _ + 1, .nil => .nil
  | _, _, n + 1, .cons r t => .cons r (Rps.take n t)
theorem Rps.drop : ∀ {xs : List V} {us : List AV} (n : Nat), Rps K H hot m xs us → Rps K H hot m (xs.drop n) (us.drop n)
  | _, _, 0, r => r
  | _, _, _ + 1, .nil => .nil
  | _, _, n + 1, .cons _ t => Rps.drop n t
theorem Rps.set {x : V} {v : AV} (r : Rp K H hot m x v) : ∀ {xs : List V} {us : List AV} (i : Nat), Rps K H hot m xs us → Rps K H hot m (xs.set i x) (us.set i v)
  | _, _, _, .nil => .nil
  | _, _, 0, .cons _ t => .cons r t
  | _, _, i + 1, .cons q t => .cons q (Rps.set r i t)
theorem Rps.eraseIdx : ∀ {xs : List V} {us : List AV} (i : Nat), Rps K H hot m xs us → Rps K H hot m (xs.eraseIdx i) (us.eraseIdx i)
  | _, _, _, .nil => .nil
  | _, _, 0, .cons _ t => t
  | _, _, i + 1, .cons q t => .cons q (Rps.eraseIdx i t)
theorem Rps.one {x : V} {v : AV} (r : Rp K H hot m x v) : Rps K H hot m [x] [v] := .cons r .nil
theorem Rps.snoc {xs : List V} {us : List AV} {x : V} {v : AV} (q : Rps K H hot m xs us) (r : Rp K H hot m x v) : Rps K H hot m (xs ++ [x]) (us ++ [v]) := q.append (.one r)
theorem Rps.rev : ∀ {xs : List V} {us : List AV}, Rps K H hot m xs us → Rps K H hot m xs.reverse us.reverse
  | _, _, .nil => .nil
  | _, _, .cons r t => by rw [List.reverse_cons, List.reverse_cons]; exact (Rps.rev t).snoc r
theorem Rps.ints : ∀ (ns : List Int), Rps K H hot m (ns.map V.int) (ns.map AV.int)
  | [] => .nil
  | n :: r => .cons (.int n) (Rps.ints r)
theorem Rps.of_ints : ∀ {xs : List V} {ns : List Int}, Rps K H hot m xs (ns.map AV.int) → xs = ns.map V.int
  | _, [], .nil => rfl
  | _, n :: r, .cons h t => by cases h; rw [List.map_cons, Rps.of_ints t]
theorem Rps.bls : ∀ (ns : List Bool), Rps K H hot m (ns.map V.bl) (ns.map AV.bl)
  | [] => .nil
  | n :: r => .cons (.bl n) (Rps.bls r)
theorem Rps.of_bls : ∀ {xs : List V} {ns : List Bool}, Rps K H hot m xs (ns.map AV.bl) → xs = ns.map V.bl
  | _, [], .nil => rfl
  | _, n :: r, .cons h t => by cases h; rw [List.map_cons, Rps.of_bls t]

/-- what keeps a reading: the tuples and the lists that are not hot stand, nothing of them becomes hot, the store's addresses go on -/
structure KeepR (K : PySem.W.Frag) (H H' : Hp) (hot hot' : Hot) (m m' : List Addr) : Prop where
  tup : ∀ a o vs, H a = some (.frz o (.tup vs)) → H' a = some (.frz o (.tup vs))
  lst : ∀ a vs, Rd H a (.lst vs) → ¬ hot a → Rd H' a (.lst vs) ∧ ¬ hot' a
  pre : ∀ (n : Nat) (a : Addr), m[n]? = some a → m'[n]? = some a
mutual
theorem Rp.keep (k : KeepR K H H' hot hot' m m') : ∀ {v : AV} {x : V}, Rp K H hot m x v → Rp K H' hot' m' x v
  | .non, _, .non => .non
  | .bl _, _, .bl b => .bl b
  | .int _, _, .int i => .int i
  | .str _, _, .str x => .str x
  | .tup xs, _, .tup h r => .tup (h.elim (fun ⟨o, h, t⟩ => .inl ⟨o, k.tup _ _ _ h, t⟩) .inr) (Rps.keep k r)
  | .lst xs, _, .lst h n r => .lst (k.lst _ _ h n).1 (k.lst _ _ h n).2 (Rps.keep k r)
  | .lst xs, _, .lstK h r => .lstK h (Rps.keep k r)
  | .ref _, _, .ref h => .ref (k.pre _ _ h)
theorem Rps.keep (k : KeepR K H H' hot hot' m m') : ∀ {vs : List AV} {xs : List V}, Rps K H hot m xs vs → Rps K H' hot' m' xs vs
  | [], _, .nil => .nil
  | _ :: _, _, .cons r t => .cons (Rp.keep k r) (Rps.keep k t)
end
end

/-- a hot thing is a tracked list or dict -/
def IsMut (H : Hp) (p : Addr) : Prop := (∃ vs, H p = some (.lst vs)) ∨ ∃ kvs, H p = some (.dK kvs)
def Own (ρ : List (Option Slt)) (σ : L2.St) (p : Addr) : Prop := ∃ (i : Nat) (xs : List AV), ρ[i]? = some (some (Slt.own xs)) ∧ σ[i]? = some (some (V.ref p))
def Loc' (m : List Addr) (a : AS) (σ : L2.St) (p : Addr) : Prop := p ∈ m ∨ Own a.ρ σ p
def hotOf (F : Hot) (m : List Addr) (a : AS) (σ : L2.St) : Hot := fun p => F p ∨ Loc' m a σ p

abbrev Rp' (K : PySem.W.Frag) (F : Hot) (m : List Addr) (a : AS) (σ : L2.St) (H : Hp) : V → AV → Prop := Rp K H (hotOf F m a σ) m
abbrev Rps' (K : PySem.W.Frag) (F : Hot) (m : List Addr) (a : AS) (σ : L2.St) (H : Hp) : List V → List AV → Prop := Rps K H (hotOf F m a σ) m
def RpD (K : PySem.W.Frag) (H : Hp) (hot : Hot) (m : List Addr) : List (Key × V) → List (Str × AV) → Prop
  | [], [] => True
  | (k, x) :: xs, (s, v) :: vs => k = .inr s ∧ Rp K H hot m x v ∧ RpD K H hot m xs vs
  | _, _ => False
theorem RpD.keep {K : PySem.W.Frag} {H H' : Hp} {hot hot' : Hot} {m m' : List Addr} (k : KeepR K H H' hot hot' m m') : ∀ {xs : List (Key × V)} {vs : List (Str × AV)}, RpD K H hot m xs vs → RpD K H' hot' m' xs vs
  | [], [], _ => trivial
  | (_, _) :: _, (_, _) :: _, ⟨e, r, t⟩ => ⟨e, r.keep k, RpD.keep k t⟩
  | [], _ :: _, h => h.elim
  | _ :: _, [], h => h.elim
def ObRp (K : PySem.W.Frag) (H : Hp) (hot : Hot) (m : List Addr) (p : Addr) : SObj → Prop
  | .lst xs => ∃ vs, H p = some (.lst vs) ∧ Rps K H hot m vs xs
  | .dic kvs => ∃ vs, H p = some (.dK vs) ∧ RpD K H hot m vs kvs

def isTbl : HO → Bool
  | .tbl _ => true
  | _ => false
/-- the code objects that are known, with their tables, which are not known -/
def tabsP (K : PySem.W.Frag) : List (Addr × Addr) := K.filterMap fun q => match q.2.data with
  | .fields vs => (match (vs[11]? : Option Value) with
    | some (.ref P) => if q.2.cls = .type "code" ∧ K.lookup P = none then some (q.1, P) else none
    | _ => none)
  | _ => none
structure Rl (K : PySem.W.Frag) (F : Hot) (m : List Addr) (a : AS) (σ : L2.St) (H : Hp) : Prop where
  len : a.ρ.length = σ.length
  slot : ∀ (i : Nat) (v : AV), a.ρ[i]? = some (some (Slt.val v)) → ∃ x, σ[i]? = some (some x) ∧ Rp' K F m a σ H x v
  own : ∀ (i : Nat) (xs : List AV), a.ρ[i]? = some (some (Slt.own xs)) → ∃ p vs, σ[i]? = some (some (.ref p)) ∧ H p = some (.lst vs) ∧ Rps' K F m a σ H vs xs ∧ ¬ F p ∧ p ∉ m
  inj : ∀ (i j : Nat) (xs ys : List AV) (p : Addr), a.ρ[i]? = some (some (Slt.own xs)) → a.ρ[j]? = some (some (Slt.own ys)) → σ[i]? = some (some (V.ref p)) → σ[j]? = some (some (V.ref p)) → i = j
  mlen : m.length = a.S.length
  obj : ∀ (n : Nat) (o : SObj) (p : Addr), a.S[n]? = some o → m[n]? = some p → ObRp K H (hotOf F m a σ) m p o
  mnd : m.Nodup
  mF : ∀ p ∈ m, ¬ F p
  FH : ∀ p, F p → IsMut H p
  tbs : ∀ q ∈ tabsP K, GxR.TabG H q.2

/-- from one moment to a later one of the same frame -/
structure Stp (m : List Addr) (a : AS) (σ : L2.St) (H : Hp) (m' : List Addr) (a' : AS) (σ' : L2.St) (H' : Hp) : Prop where
  pre : ∀ (n : Nat) (p : Addr), m[n]? = some p → m'[n]? = some p
  keep : ∀ b o, H b = some o → ¬ Loc' m a σ b → (nt : isTbl o = false := by rfl) → H' b = some o
  dom : ∀ b, H b ≠ none → H' b ≠ none
  locs : ∀ b, Loc' m' a' σ' b → Loc' m a σ b ∨ H b = none

section
variable {K : PySem.W.Frag} {F : Hot} {m m1 m2 : List Addr} {a a1 a2 : AS} {σ σ1 σ2 : L2.St} {H H1 H2 : Hp}
theorem Stp.refl : Stp m a σ H m a σ H := ⟨fun _ _ e => e, fun _ _ e _ _ => e, fun _ e => e, fun _ e => .inl e⟩
theorem Stp.trans (s : Stp m a σ H m1 a1 σ1 H1) (t : Stp m1 a1 σ1 H1 m2 a2 σ2 H2) : Stp m a σ H m2 a2 σ2 H2 where
  pre := fun n p e => t.pre n p (s.pre n p e)
  keep := fun b o e n nt => t.keep b o (s.keep b o e n nt) (fun l => (s.locs b l).elim n fun z => by rw [e] at z; cases z) nt
  dom := fun b e => t.dom b (s.dom b e)
  locs := fun b l => by
    rcases t.locs b l with l | z
    · exact s.locs b l
    · refine .inr ?_
      cases q : H b with
      | none => rfl
      | some o => exact absurd z (s.dom b (by rw [q]; simp))
theorem Rl.hotMut (R : Rl K F m a σ H) {p : Addr} (h : hotOf F m a σ p) : IsMut H p := by
  rcases h with h | h | ⟨i, xs, e1, e2⟩
  · exact R.FH p h
  · obtain ⟨n, hn, e⟩ := List.getElem_of_mem h
    have e' : m[n]? = some p := by rw [List.getElem?_eq_getElem hn, e]
    have hs : n < a.S.length := by rw [← R.mlen]; exact hn
    have := R.obj n a.S[n] p (List.getElem?_eq_getElem hs) e'
    cases q : a.S[n] with
    | lst xs => rw [q] at this; obtain ⟨vs, h1, _⟩ := this; exact .inl ⟨vs, h1⟩
    | dic xs => rw [q] at this; obtain ⟨vs, h1, _⟩ := this; exact .inr ⟨vs, h1⟩
  · obtain ⟨p', vs, e3, h1, _⟩ := R.own i xs e1
    rw [e2] at e3; cases e3
    exact .inl ⟨vs, h1⟩
theorem IsMut.ne {p : Addr} {o : HO} (h : IsMut H p) (e : H p = some o) : (∃ vs, o = .lst vs) ∨ ∃ kvs, o = .dK kvs := by
  rcases h with ⟨vs, q⟩ | ⟨vs, q⟩
  · rw [e] at q; cases q; exact .inl ⟨_, rfl⟩
  · rw [e] at q; cases q; exact .inr ⟨_, rfl⟩
/-- a reading is kept over a step -/
theorem Rl.keeps (R : Rl K F m a σ H) (s : Stp m a σ H m1 a1 σ1 H1) : KeepR K H H1 (hotOf F m a σ) (hotOf F m1 a1 σ1) m m1 where
  tup := fun b o vs h => by
    refine s.keep b _ h fun l => ?_
    rcases (R.hotMut (.inr l)).ne h with ⟨_, e⟩ | ⟨_, e⟩ <;> cases e
  lst := fun b vs h n => by
    have nl : ¬ Loc' m a σ b := fun l => n (.inr l)
    refine ⟨?_, fun h1 => ?_⟩
    · rcases h with h | ⟨o, h⟩
      · exact .inl (s.keep b _ h nl)
      · exact .inr ⟨o, s.keep b _ h nl⟩
    · rcases h1 with h1 | h1
      · exact n (.inl h1)
      · rcases s.locs b h1 with l | z
        · exact nl l
        · rcases h with h | ⟨o, h⟩ <;> rw [z] at h <;> cases h
  pre := s.pre
theorem Rp.step (R : Rl K F m a σ H) (s : Stp m a σ H m1 a1 σ1 H1) {x : V} {v : AV} (r : Rp' K F m a σ H x v) : Rp' K F m1 a1 σ1 H1 x v := r.keep (R.keeps s)
theorem Rps.step (R : Rl K F m a σ H) (s : Stp m a σ H m1 a1 σ1 H1) {x : List V} {v : List AV} (r : Rps' K F m a σ H x v) : Rps' K F m1 a1 σ1 H1 x v := r.keep (R.keeps s)

theorem tab_upd {p q : Addr} {o : HO} (t : GxR.TabG H q) (h : ∀ ps, H p ≠ some (.tbl ps)) : GxR.TabG (upd H p o) q := by
  obtain ⟨ps, e, k⟩ := t
  have n : q ≠ p := fun z => h ps (by rw [← z]; exact e)
  exact ⟨ps, by rw [upd_ne n]; exact e, k⟩
theorem tab_new {p q : Addr} {o : HO} (t : GxR.TabG H q) (h : H p = none) : GxR.TabG (upd H p o) q := tab_upd t fun ps e => by rw [h] at e; cases e
theorem tab_mut {p q : Addr} {o : HO} (t : GxR.TabG H q) (h : IsMut H p) : GxR.TabG (upd H p o) q := tab_upd t fun ps e => by
  rcases h with ⟨_, z⟩ | ⟨_, z⟩ <;> rw [e] at z <;> cases z
/-- a new object that is not hot -/
theorem Stp.new {p : Addr} {o : HO} (hp : H p = none) : Stp m a σ H m a σ (upd H p o) where
  pre := fun _ _ e => e
  keep := fun b u e _ _ => by rw [upd_ne (ne_of_none e hp)]; exact e
  dom := fun b e => by
    by_cases q : b = p
    · subst q; exact absurd hp e
    · rw [upd_ne q]; exact e
  locs := fun b l => .inl l
theorem Rl.via (R : Rl K F m a σ H) (s : Stp m a σ H m a σ H1) (hl : ∀ b, Loc' m a σ b → H1 b = H b) (ht : ∀ q ∈ tabsP K, GxR.TabG H1 q.2) : Rl K F m a σ H1 where
  tbs := ht
  len := R.len
  slot := fun i v e => let ⟨x, e1, r⟩ := R.slot i v e; ⟨x, e1, r.step R s⟩
  own := fun i xs e => by
    obtain ⟨p, vs, e1, h1, r, n1, n2⟩ := R.own i xs e
    exact ⟨p, vs, e1, by rw [hl p (.inr ⟨i, xs, e, e1⟩)]; exact h1, r.step R s, n1, n2⟩
  inj := R.inj
  mlen := R.mlen
  obj := fun n o p e1 e2 => by
    have h := R.obj n o p e1 e2
    have e : H1 p = H p := hl p (.inl (List.mem_of_getElem? e2))
    cases o with
    | lst xs => obtain ⟨vs, h1, r⟩ := h; exact ⟨vs, by rw [e]; exact h1, r.step R s⟩
    | dic xs => obtain ⟨vs, h1, r⟩ := h; exact ⟨vs, by rw [e]; exact h1, r.keep (R.keeps s)⟩
  mnd := R.mnd
  mF := R.mF
  FH := fun p h => by
    by_cases l : Loc' m a σ p
    · unfold IsMut
      rw [hl p l]
      exact R.FH p h
    · rcases R.FH p h with ⟨vs, q⟩ | ⟨vs, q⟩
      · exact .inl ⟨vs, s.keep p _ q l⟩
      · exact .inr ⟨vs, s.keep p _ q l⟩
theorem Rl.locSome (R : Rl K F m a σ H) {b : Addr} (l : Loc' m a σ b) : H b ≠ none := by
  rcases R.hotMut (.inr l) with ⟨_, q⟩ | ⟨_, q⟩ <;> rw [q] <;> simp
theorem Rl.new (R : Rl K F m a σ H) {p : Addr} {o : HO} (hp : H p = none) : Rl K F m a σ (upd H p o) :=
  R.via (.new hp) (fun b l => upd_ne fun e => R.locSome l (e ▸ hp)) fun q hq => tab_new (R.tbs q hq) hp
theorem Rl.notHot (R : Rl K F m a σ H) {p : Addr} (hp : H p = none) : ¬ hotOf F m a σ p := fun h => by
  rcases R.hotMut h with ⟨_, q⟩ | ⟨_, q⟩ <;> rw [hp] at q <;> cases q
/-- a new tuple, a new list that nobody changes -/
theorem Rl.newTup (R : Rl K F m a σ H) {p : Addr} {o : PySem.Obj} {vs : List V} {xs : List AV} (hp : H p = none) (ho : TupO o) (r : Rps' K F m a σ H vs xs) : Rp' K F m a σ (upd H p (.frz o (.tup vs))) (.ref p) (.tup xs) :=
  .tup (.inl ⟨o, upd_same, ho⟩) (r.step R (.new hp))
theorem Rl.newLst (R : Rl K F m a σ H) {p : Addr} {vs : List V} {xs : List AV} (hp : H p = none) (r : Rps' K F m a σ H vs xs) : Rp' K F m a σ (upd H p (.lst vs)) (.ref p) (.lst xs) :=
  .lst (Rd.of upd_same) (R.notHot hp) (r.step R (.new hp))
end
end Pyx
end
section
set_option maxRecDepth 100000
namespace Pyx
open PySem PySem.Spec PyProof.Rows L2
section
variable {K : PySem.W.Frag} {F : Hot} {m m1 m2 : List Addr} {a a1 a2 : AS} {σ σ1 σ2 : L2.St} {H H1 H2 : Hp}

theorem get_set {α : Type} {l : List α} {i j : Nat} {x y : α} (h : (l.set i x)[j]? = some y) : (j = i ∧ y = x ∧ i < l.length) ∨ (j ≠ i ∧ l[j]? = some y) := by
  by_cases e : j = i
  · subst e
    rw [List.getElem?_set_self'] at h
    cases q : l[j]? with
    | none => rw [q] at h; cases h
    | some z =>
      rw [q] at h
      cases h
      exact .inl ⟨rfl, rfl, (List.getElem?_eq_some_iff.mp q).1⟩
  · rw [List.getElem?_set_ne (Ne.symm e)] at h
    exact .inr ⟨e, h⟩
theorem set_get {α : Type} {l : List α} {i : Nat} {x : α} (h : i < l.length) : (l.set i x)[i]? = some x := List.getElem?_set_self h

/-- the store's or a frame's own lists elsewhere stand, as readings -/
theorem ObRp.keep {K : PySem.W.Frag} {H H' : Hp} {hot hot' : Hot} {m m' : List Addr} {p : Addr} {o : SObj} (k : KeepR K H H' hot hot' m m') (e : H' p = H p) (h : ObRp K H hot m p o) : ObRp K H' hot' m' p o := by
  cases o with
  | lst xs => obtain ⟨vs, h1, r⟩ := h; exact ⟨vs, e.trans h1, r.keep k⟩
  | dic xs => obtain ⟨vs, h1, r⟩ := h; exact ⟨vs, e.trans h1, r.keep k⟩

/-! ### a name of a list of one's own is read as a value: from now on nobody changes it -/
def AS.frz (a : AS) (i : Nat) (xs : List AV) : AS := { a with ρ := a.ρ.set i (some (.val (.lst xs))) }
theorem Rl.frzStp {i : Nat} {xs : List AV} (h : a.ρ[i]? = some (some (Slt.own xs))) : Stp m a σ H m (a.frz i xs) σ H where
  pre := fun _ _ e => e
  keep := fun _ _ e _ _ => e
  dom := fun _ e => e
  locs := fun b l => by
    rcases l with l | ⟨j, ys, e1, e2⟩
    · exact .inl (.inl l)
    · rcases get_set e1 with ⟨rfl, e, _⟩ | ⟨n, e⟩
      · cases e
      · exact .inl (.inr ⟨j, ys, e, e2⟩)
theorem Rl.frz (R : Rl K F m a σ H) {i : Nat} {xs : List AV} (h : a.ρ[i]? = some (some (Slt.own xs))) :
    Rl K F m (a.frz i xs) σ H ∧ ∃ p, σ[i]? = some (some (V.ref p)) ∧ Rp' K F m (a.frz i xs) σ H (.ref p) (.lst xs) := by
  have s := Rl.frzStp (m := m) (σ := σ) (H := H) h
  obtain ⟨p, vs, e1, h1, r, n1, n2⟩ := R.own i xs h
  have hr : Rp' K F m (a.frz i xs) σ H (.ref p) (.lst xs) := by
    refine .lst (Rd.of h1) (fun hh => ?_) (r.step R s)
    rcases hh with hh | hh | ⟨j, ys, e2, e3⟩
    · exact n1 hh
    · exact n2 hh
    · rcases get_set e2 with ⟨rfl, e, _⟩ | ⟨n, e⟩
      · cases e
      · exact n (R.inj j i ys xs p e h e3 e1)
  refine ⟨⟨by simp [AS.frz, R.len], fun j v e => ?_, fun j ys e => ?_, fun j k ys zs q e1 e2 e3 e4 => ?_, R.mlen, fun n o q e1 e2 => (R.obj n o q e1 e2).keep (R.keeps s) rfl, R.mnd, R.mF, R.FH, R.tbs⟩, p, e1, hr⟩
  · rcases get_set e with ⟨rfl, e, _⟩ | ⟨n, e⟩
    · cases e; exact ⟨_, e1, hr⟩
    · obtain ⟨x, e2, r2⟩ := R.slot j v e; exact ⟨x, e2, r2.step R s⟩
  · rcases get_set e with ⟨rfl, e, _⟩ | ⟨n, e⟩
    · cases e
    · obtain ⟨p', vs', q1, q2, q3, q4⟩ := R.own j ys e
      exact ⟨p', vs', q1, q2, q3.step R s, q4⟩
  · rcases get_set e1 with ⟨rfl, e, _⟩ | ⟨n, e1⟩
    · cases e
    · rcases get_set e2 with ⟨rfl, e, _⟩ | ⟨n, e2⟩
      · cases e
      · exact R.inj j k ys zs q e1 e2 e3 e4

/-! ### a name is stored -/
def AS.put (a : AS) (i : Nat) (v : AV) : AS := { a with ρ := a.ρ.set i (some (.val v)) }
theorem Rl.putStp {i : Nat} {x : V} {v : AV} (hl : a.ρ.length = σ.length) : Stp m a σ H m (a.put i v) (σ.set i (some x)) H where
  pre := fun _ _ e => e
  keep := fun _ _ e _ _ => e
  dom := fun _ e => e
  locs := fun b l => by
    rcases l with l | ⟨j, ys, e1, e2⟩
    · exact .inl (.inl l)
    · rcases get_set e1 with ⟨rfl, e, _⟩ | ⟨n, e⟩
      · cases e
      · rw [List.getElem?_set_ne (Ne.symm n)] at e2
        exact .inl (.inr ⟨j, ys, e, e2⟩)
theorem Rl.put (R : Rl K F m a σ H) {i : Nat} {x : V} {v : AV} (r : Rp' K F m a σ H x v) : Rl K F m (a.put i v) (σ.set i (some x)) H := by
  have s := Rl.putStp (m := m) (H := H) (i := i) (x := x) (v := v) R.len
  refine ⟨by simp [AS.put, R.len], fun j w e => ?_, fun j ys e => ?_, fun j k ys zs q e1 e2 e3 e4 => ?_, R.mlen, fun n o q e1 e2 => (R.obj n o q e1 e2).keep (R.keeps s) rfl, R.mnd, R.mF, R.FH, R.tbs⟩
  · rcases get_set e with ⟨rfl, e, hl⟩ | ⟨n, e⟩
    · cases e
      exact ⟨x, set_get (by rw [← R.len]; exact hl), r.step R s⟩
    · obtain ⟨y, e2, r2⟩ := R.slot j w e
      exact ⟨y, by rw [List.getElem?_set_ne (Ne.symm n)]; exact e2, r2.step R s⟩
  · rcases get_set e with ⟨rfl, e, _⟩ | ⟨n, e⟩
    · cases e
    · obtain ⟨p', vs', q1, q2, q3, q4⟩ := R.own j ys e
      exact ⟨p', vs', by rw [List.getElem?_set_ne (Ne.symm n)]; exact q1, q2, q3.step R s, q4⟩
  · rcases get_set e1 with ⟨rfl, e, _⟩ | ⟨n, e1⟩
    · cases e
    · rcases get_set e2 with ⟨rfl, e, _⟩ | ⟨n', e2⟩
      · cases e
      · rw [List.getElem?_set_ne (Ne.symm n)] at e3
        rw [List.getElem?_set_ne (Ne.symm n')] at e4
        exact R.inj j k ys zs q e1 e2 e3 e4

/-! ### a name is forgotten -/
def AS.drop (a : AS) (i : Nat) : AS := { a with ρ := a.ρ.set i none }
theorem Rl.dropStp {i : Nat} {x : Option V} : Stp m a σ H m (a.drop i) (σ.set i x) H where
  pre := fun _ _ e => e
  keep := fun _ _ e _ _ => e
  dom := fun _ e => e
  locs := fun b l => by
    rcases l with l | ⟨j, ys, e1, e2⟩
    · exact .inl (.inl l)
    · rcases get_set e1 with ⟨rfl, e, _⟩ | ⟨n, e⟩
      · cases e
      · rw [List.getElem?_set_ne (Ne.symm n)] at e2
        exact .inl (.inr ⟨j, ys, e, e2⟩)
theorem Rl.drop (R : Rl K F m a σ H) {i : Nat} {x : Option V} : Rl K F m (a.drop i) (σ.set i x) H := by
  have s := Rl.dropStp (m := m) (a := a) (σ := σ) (H := H) (i := i) (x := x)
  refine ⟨by simp [AS.drop, R.len], fun j w e => ?_, fun j ys e => ?_, fun j k ys zs q e1 e2 e3 e4 => ?_, R.mlen, fun n o q e1 e2 => (R.obj n o q e1 e2).keep (R.keeps s) rfl, R.mnd, R.mF, R.FH, R.tbs⟩
  · rcases get_set e with ⟨rfl, e, hl⟩ | ⟨n, e⟩
    · cases e
    · obtain ⟨y, e2, r2⟩ := R.slot j w e
      exact ⟨y, by rw [List.getElem?_set_ne (Ne.symm n)]; exact e2, r2.step R s⟩
  · rcases get_set e with ⟨rfl, e, _⟩ | ⟨n, e⟩
    · cases e
    · obtain ⟨p', vs', q1, q2, q3, q4⟩ := R.own j ys e
      exact ⟨p', vs', by rw [List.getElem?_set_ne (Ne.symm n)]; exact q1, q2, q3.step R s, q4⟩
  · rcases get_set e1 with ⟨rfl, e, _⟩ | ⟨n, e1⟩
    · cases e
    · rcases get_set e2 with ⟨rfl, e, _⟩ | ⟨n', e2⟩
      · cases e
      · rw [List.getElem?_set_ne (Ne.symm n)] at e3
        rw [List.getElem?_set_ne (Ne.symm n')] at e4
        exact R.inj j k ys zs q e1 e2 e3 e4

/-! ### a fresh list becomes a name's own -/
def AS.putOwn (a : AS) (i : Nat) (xs : List AV) : AS := { a with ρ := a.ρ.set i (some (.own xs)) }
theorem Rl.putOwnStp {i : Nat} {p : Addr} {vs : List V} {xs : List AV} (hp : H p = none) : Stp m a σ H m (a.putOwn i xs) (σ.set i (some (.ref p))) (upd H p (.lst vs)) where
  pre := fun _ _ e => e
  keep := fun b o e _ _ => by rw [upd_ne (ne_of_none e hp)]; exact e
  dom := fun b e => by
    by_cases q : b = p
    · rw [q, upd_same]; simp
    · rw [upd_ne q]; exact e
  locs := fun b l => by
    rcases l with l | ⟨j, ys, e1, e2⟩
    · exact .inl (.inl l)
    · rcases get_set e1 with ⟨rfl, e, hl⟩ | ⟨n, e⟩
      · rcases get_set e2 with ⟨_, e, _⟩ | ⟨n, _⟩
        · cases e; exact .inr hp
        · exact absurd rfl n
      · rw [List.getElem?_set_ne (Ne.symm n)] at e2
        exact .inl (.inr ⟨j, ys, e, e2⟩)
theorem Rl.putOwn (R : Rl K F m a σ H) {i : Nat} {p : Addr} {vs : List V} {xs : List AV} (hp : H p = none) (r : Rps' K F m a σ H vs xs) :
    Rl K F m (a.putOwn i xs) (σ.set i (some (.ref p))) (upd H p (.lst vs)) := by
  have s := Rl.putOwnStp (m := m) (a := a) (σ := σ) (i := i) (vs := vs) (xs := xs) hp
  have nloc : ∀ {b : Addr}, Loc' m a σ b → b ≠ p := fun l e => R.locSome l (e ▸ hp)
  have nF : ¬ F p := fun h => by rcases R.FH p h with ⟨_, q⟩ | ⟨_, q⟩ <;> rw [hp] at q <;> cases q
  refine ⟨by simp [AS.putOwn, R.len], fun j w e => ?_, fun j ys e => ?_, fun j k ys zs q e1 e2 e3 e4 => ?_, R.mlen, fun n o q e1 e2 => ?_, R.mnd, R.mF, fun q h => ?_, fun q hq => tab_new (R.tbs q hq) hp⟩
  · rcases get_set e with ⟨rfl, e, hl⟩ | ⟨n, e⟩
    · cases e
    · obtain ⟨y, e2, r2⟩ := R.slot j w e
      exact ⟨y, by rw [List.getElem?_set_ne (Ne.symm n)]; exact e2, r2.step R s⟩
  · rcases get_set e with ⟨rfl, e, hl⟩ | ⟨n, e⟩
    · cases e
      exact ⟨p, vs, set_get (by rw [← R.len]; exact hl), upd_same, r.step R s, nF, fun h => nloc (.inl h) rfl⟩
    · obtain ⟨p', vs', q1, q2, q3, q4⟩ := R.own j ys e
      exact ⟨p', vs', by rw [List.getElem?_set_ne (Ne.symm n)]; exact q1, by rw [upd_ne (nloc (.inr ⟨j, ys, e, q1⟩))]; exact q2, q3.step R s, q4⟩
  · rcases get_set e1 with ⟨rfl, e, h1⟩ | ⟨n, e9⟩
    · rcases get_set e2 with ⟨rfl, e, _⟩ | ⟨n', e2⟩
      · rfl
      · rw [set_get (by rw [← R.len]; exact h1)] at e3
        rw [List.getElem?_set_ne (Ne.symm n')] at e4
        cases e3
        exact absurd rfl (nloc (.inr ⟨k, zs, e2, e4⟩))
    · rcases get_set e2 with ⟨rfl, e, h1⟩ | ⟨n', e2⟩
      · rw [set_get (by rw [← R.len]; exact h1)] at e4
        rw [List.getElem?_set_ne (Ne.symm n)] at e3
        cases e4
        exact absurd rfl (nloc (.inr ⟨j, ys, e9, e3⟩))
      · rw [List.getElem?_set_ne (Ne.symm n)] at e3
        rw [List.getElem?_set_ne (Ne.symm n')] at e4
        exact R.inj j k ys zs q e9 e2 e3 e4
  · exact (R.obj n o q e1 e2).keep (R.keeps s) (upd_ne (nloc (.inl (List.mem_of_getElem? e2))))
  · have nq : q ≠ p := fun e => nF (e ▸ h)
    unfold IsMut
    rw [upd_ne nq]
    exact R.FH q h

/-! ### a fresh object becomes one of the store -/
def AS.lay (a : AS) (o : SObj) : AS := { a with S := a.S ++ [o] }
theorem Rl.layStp {p : Addr} {u : HO} {o : SObj} (hp : H p = none) : Stp m a σ H (m ++ [p]) (a.lay o) σ (upd H p u) where
  pre := fun n q e => by
    rw [List.getElem?_append_left (List.getElem?_eq_some_iff.mp e).1]; exact e
  keep := fun b o e _ _ => by rw [upd_ne (ne_of_none e hp)]; exact e
  dom := fun b e => by
    by_cases q : b = p
    · rw [q, upd_same]; simp
    · rw [upd_ne q]; exact e
  locs := fun b l => by
    rcases l with l | l
    · rcases List.mem_append.mp l with l | l
      · exact .inl (.inl l)
      · have e : b = p := by simpa using l
        exact .inr (e ▸ hp)
    · exact .inl (.inr l)
theorem Rl.lay (R : Rl K F m a σ H) {p : Addr} {u : HO} {o : SObj} (hp : H p = none)
    (ho : Rl K F m a σ H → ObRp K (upd H p u) (hotOf F (m ++ [p]) (a.lay o) σ) (m ++ [p]) p o) : Rl K F (m ++ [p]) (a.lay o) σ (upd H p u) := by
  have s := Rl.layStp (m := m) (a := a) (σ := σ) (u := u) (o := o) hp
  have nloc : ∀ {b : Addr}, Loc' m a σ b → b ≠ p := fun l e => R.locSome l (e ▸ hp)
  have nF : ¬ F p := fun h => by rcases R.FH p h with ⟨_, q⟩ | ⟨_, q⟩ <;> rw [hp] at q <;> cases q
  refine ⟨R.len, fun j w e => ?_, fun j ys e => ?_, R.inj, by simp [AS.lay, R.mlen], fun n o' q e1 e2 => ?_, ?_, fun q h => ?_, fun q h => ?_, fun q hq => tab_new (R.tbs q hq) hp⟩
  · obtain ⟨y, e2, r2⟩ := R.slot j w e
    exact ⟨y, e2, r2.step R s⟩
  · obtain ⟨p', vs', q1, q2, q3, q4, q5⟩ := R.own j ys e
    have np := nloc (.inr ⟨j, ys, e, q1⟩)
    exact ⟨p', vs', q1, by rw [upd_ne np]; exact q2, q3.step R s, q4, fun h => (List.mem_append.mp h).elim q5 fun h => np (by simpa using h)⟩
  · by_cases hn : n < a.S.length
    · have e1' : a.S[n]? = some o' := by
        have : (a.S ++ [o])[n]? = some o' := e1
        rwa [List.getElem?_append_left hn] at this
      rw [List.getElem?_append_left (by rw [R.mlen]; exact hn)] at e2
      exact (R.obj n o' q e1' e2).keep (R.keeps s) (upd_ne (nloc (.inl (List.mem_of_getElem? e2))))
    · have e1' : (a.S ++ [o])[n]? = some o' := e1
      have hn' : n = a.S.length := by
        have := (List.getElem?_eq_some_iff.mp e1').1
        simp at this
        omega
      subst hn'
      rw [List.getElem?_append_right (Nat.le_refl _)] at e1'
      rw [List.getElem?_append_right (by rw [R.mlen]; exact Nat.le_refl _)] at e2
      simp [R.mlen] at e1' e2
      subst e1' e2
      exact ho R
  · rw [List.nodup_append]
    exact ⟨R.mnd, by simp, fun x hx y hy e => by
      have : y = p := by simpa using hy
      exact nloc (.inl hx) (e.trans this)⟩
  · rcases List.mem_append.mp h with h | h
    · exact R.mF q h
    · have : q = p := by simpa using h
      rw [this]; exact nF
  · have nq : q ≠ p := fun e => nF (e ▸ h)
    unfold IsMut
    rw [upd_ne nq]
    exact R.FH q h
theorem Rl.layLst (R : Rl K F m a σ H) {p : Addr} {vs : List V} {xs : List AV} (hp : H p = none) (r : Rps' K F m a σ H vs xs) : Rl K F (m ++ [p]) (a.lay (.lst xs)) σ (upd H p (.lst vs)) :=
  R.lay hp fun R => ⟨vs, upd_same, r.step R (Rl.layStp hp)⟩
theorem Rl.layRef (R : Rl K F m a σ H) {p : Addr} {o : SObj} {H' : Hp} : Rp' K F (m ++ [p]) (a.lay o) σ H' (.ref p) (.ref a.S.length) :=
  .ref (by rw [← R.mlen]; simp)

/-! ### an own list, a store's object is changed -/
theorem Rl.setOwnStp {i : Nat} {p : Addr} {vs : List V} {xs ys : List AV} (h : a.ρ[i]? = some (some (Slt.own xs))) (hp : σ[i]? = some (some (V.ref p))) : Stp m a σ H m (a.putOwn i ys) σ (upd H p (.lst vs)) where
  pre := fun _ _ e => e
  keep := fun b o e n _ => by
    rw [upd_ne]
    · exact e
    · rintro rfl; exact n (.inr ⟨i, xs, h, hp⟩)
  dom := fun b e => by
    by_cases q : b = p
    · rw [q, upd_same]; simp
    · rw [upd_ne q]; exact e
  locs := fun b l => by
    rcases l with l | ⟨j, zs, e1, e2⟩
    · exact .inl (.inl l)
    · rcases get_set e1 with ⟨rfl, e, hl⟩ | ⟨n, e⟩
      · exact .inl (.inr ⟨j, xs, h, e2⟩)
      · exact .inl (.inr ⟨j, zs, e, e2⟩)
theorem Rl.setOwn (R : Rl K F m a σ H) {i : Nat} {p : Addr} {vs : List V} {xs ys : List AV} (h : a.ρ[i]? = some (some (Slt.own xs))) (hp : σ[i]? = some (some (V.ref p))) (r : Rps' K F m a σ H vs ys) :
    Rl K F m (a.putOwn i ys) σ (upd H p (.lst vs)) := by
  have s := Rl.setOwnStp (m := m) (H := H) (vs := vs) (ys := ys) h hp
  obtain ⟨p0, vs0, g1, g2, g3, g4, g5⟩ := R.own i xs h
  rw [hp] at g1; cases g1
  refine ⟨by simp [AS.putOwn, R.len], fun j w e => ?_, fun j zs e => ?_, fun j k us ws q e1 e2 e3 e4 => ?_, R.mlen, fun n o q e1 e2 => ?_, R.mnd, R.mF, fun q hq => ?_, fun q hq => tab_mut (R.tbs q hq) (.inl ⟨_, g2⟩)⟩
  · rcases get_set e with ⟨rfl, e, hl⟩ | ⟨n, e⟩
    · cases e
    · obtain ⟨y, e2, r2⟩ := R.slot j w e
      exact ⟨y, e2, r2.step R s⟩
  · rcases get_set e with ⟨rfl, e, hl⟩ | ⟨n, e⟩
    · cases e
      exact ⟨p, vs, hp, upd_same, r.step R s, g4, g5⟩
    · obtain ⟨p', vs', q1, q2, q3, q4⟩ := R.own j zs e
      refine ⟨p', vs', q1, ?_, q3.step R s, q4⟩
      rw [upd_ne]
      · exact q2
      · rintro rfl; exact n (R.inj j i zs xs _ e h q1 hp)
  · have old : ∀ {j : Nat} {us : List AV}, (a.putOwn i ys).ρ[j]? = some (some (Slt.own us)) → ∃ us', a.ρ[j]? = some (some (Slt.own us')) := by
      intro j us e
      rcases get_set e with ⟨rfl, _, _⟩ | ⟨_, e⟩
      · exact ⟨_, h⟩
      · exact ⟨_, e⟩
    obtain ⟨us', e1'⟩ := old e1
    obtain ⟨ws', e2'⟩ := old e2
    exact R.inj j k us' ws' q e1' e2' e3 e4
  · exact (R.obj n o q e1 e2).keep (R.keeps s) (upd_ne (by rintro rfl; exact g5 (List.mem_of_getElem? e2)))
  · unfold IsMut
    rw [upd_ne (by rintro rfl; exact g4 hq)]
    exact R.FH q hq
def AS.setS (a : AS) (n : Nat) (o : SObj) : AS := { a with S := a.S.set n o }
theorem Rl.setSStp {n : Nat} {p : Addr} {u : HO} {o : SObj} (hp : m[n]? = some p) : Stp m a σ H m (a.setS n o) σ (upd H p u) where
  pre := fun _ _ e => e
  keep := fun b o e nl _ => by
    rw [upd_ne]
    · exact e
    · rintro rfl; exact nl (.inl (List.mem_of_getElem? hp))
  dom := fun b e => by
    by_cases q : b = p
    · rw [q, upd_same]; simp
    · rw [upd_ne q]; exact e
  locs := fun b l => .inl l
theorem Rl.setS (R : Rl K F m a σ H) {n : Nat} {p : Addr} {u : HO} {o : SObj} (hp : m[n]? = some p) (ho : ObRp K (upd H p u) (hotOf F m (a.setS n o) σ) m p o) (hu : IsMut (upd H p u) p) :
    Rl K F m (a.setS n o) σ (upd H p u) := by
  have s := Rl.setSStp (m := m) (a := a) (σ := σ) (H := H) (u := u) (o := o) hp
  have pm := List.mem_of_getElem? hp
  refine ⟨R.len, fun j w e => ?_, fun j zs e => ?_, R.inj, by simp [AS.setS, R.mlen], fun k o' q e1 e2 => ?_, R.mnd, R.mF, fun q hq => ?_, fun q hq => tab_mut (R.tbs q hq) (R.hotMut (.inr (.inl pm)))⟩
  · obtain ⟨y, e2, r2⟩ := R.slot j w e
    exact ⟨y, e2, r2.step R s⟩
  · obtain ⟨p', vs', q1, q2, q3, q4, q5⟩ := R.own j zs e
    exact ⟨p', vs', q1, by rw [upd_ne (by rintro rfl; exact q5 pm)]; exact q2, q3.step R s, q4, q5⟩
  · rcases get_set e1 with ⟨rfl, rfl, hl⟩ | ⟨ne, e1⟩
    · rw [hp] at e2; cases e2
      exact ho
    · refine (R.obj k o' q e1 e2).keep (R.keeps s) (upd_ne ?_)
      rintro rfl
      exact ne (nodup_ix_addr R.mnd e2 hp)
  · unfold IsMut
    rw [upd_ne (by rintro rfl; exact R.mF _ pm hq)]
    exact R.FH q hq
where
  nodup_ix_addr {N : List Addr} (hN : N.Nodup) {i j : Nat} {x : Addr} (a : N[i]? = some x) (b : N[j]? = some x) : i = j := by
    obtain ⟨h1, e1⟩ := List.getElem?_eq_some_iff.mp a
    obtain ⟨h2, e2⟩ := List.getElem?_eq_some_iff.mp b
    exact (List.getElem_inj hN).mp (e1.trans e2.symm)
theorem Rl.setLst (R : Rl K F m a σ H) {n : Nat} {p : Addr} {vs : List V} {xs : List AV} (hp : m[n]? = some p) (r : Rps' K F m a σ H vs xs) : Rl K F m (a.setS n (.lst xs)) σ (upd H p (.lst vs)) :=
  R.setS hp ⟨vs, upd_same, r.step R (Rl.setSStp hp)⟩ (.inl ⟨vs, upd_same⟩)
end
end Pyx
end
section
set_option maxRecDepth 100000
namespace Pyx
open PySem PySem.Spec PyProof.Rows L2

/-! ### the abstract values as plain data -/
mutual
def AV.pd : AV → PyData
  | .non => .none | .bl b => .bool b | .int i => .int i | .str x => .str x
  | .tup xs => .tuple (AV.pds xs) | .lst xs => .list (AV.pds xs) | .ref _ => .none
def AV.pds : List AV → List PyData
  | [] => [] | x :: xs => x.pd :: AV.pds xs
end
mutual
/-- no reference in it, its texts' signs are signs -/
def AV.okD : AV → Bool
  | .str x => PyData.strOk x
  | .tup xs => AV.okDs xs | .lst xs => AV.okDs xs | .ref _ => false
  | _ => true
def AV.okDs : List AV → Bool
  | [] => true | x :: xs => x.okD && AV.okDs xs
end
def AV.dep (x : AV) : Nat := x.pd.depth
def AV.eqb (x y : AV) : Bool := PyData.eqv x.pd y.pd
mutual
theorem AV.okD_lay : ∀ x : AV, x.okD = true → x.pd.canLay0 = true
  | .non, _ => rfl | .bl _, _ => rfl | .int _, _ => rfl
  | .str x, h => h
  | .tup xs, h => AV.okDs_lay xs h
  | .lst xs, h => AV.okDs_lay xs h
  | .ref _, h => by cases h
theorem AV.okDs_lay : ∀ xs : List AV, AV.okDs xs = true → PyData.canLayAll0 (AV.pds xs) = true
  | [], _ => rfl
  | x :: xs, h => by
    have h' : (x.okD && AV.okDs xs) = true := h
    rw [Bool.and_eq_true] at h'
    show (x.pd.canLay0 && PyData.canLayAll0 (AV.pds xs)) = true
    rw [AV.okD_lay x h'.1, AV.okDs_lay xs h'.2]; rfl
end
theorem AV.pds_map : ∀ xs : List AV, AV.pds xs = xs.map AV.pd
  | [] => rfl
  | x :: xs => by rw [AV.pds, AV.pds_map xs]; rfl
theorem AV.okDs_all : ∀ xs : List AV, AV.okDs xs = xs.all AV.okD
  | [] => rfl
  | x :: xs => by rw [AV.okDs, AV.okDs_all xs]; rfl

section
variable {K : PySem.W.Frag} {H : Hp} {hot : Hot} {m : List Addr}
mutual
theorem Rp.dp : ∀ {v : AV} {x : V}, Rp K H hot m x v → v.okD = true → Dp K H x v.pd
  | .non, _, .non, _ => .non
  | .bl _, _, .bl b, _ => .bl b
  | .int _, _, .int i, _ => .int i
  | .str _, _, .str x, _ => .str x
  | .tup xs, _, .tup h r, k => .tup h.sqT (Rps.dp r k)
  | .lst xs, _, .lst h n r, k => .lst (.inl h) (Rps.dp r k)
  | .lst xs, _, .lstK h r, k => .lst (.inr h) (Rps.dp r k)
theorem Rps.dp : ∀ {vs : List AV} {xs : List V}, Rps K H hot m xs vs → AV.okDs vs = true → DpAll K H xs (AV.pds vs)
  | [], _, .nil, _ => .nil
  | v :: vs, _, .cons r t, k => by
    have h' : (v.okD && AV.okDs vs) = true := k
    rw [Bool.and_eq_true] at h'
    exact .cons (Rp.dp r h'.1) (Rps.dp t h'.2)
end
end

/-! ### values that may be hot at their head: what an operation reads -/
def RB (K : PySem.W.Frag) (H : Hp) (hot : Hot) (m : List Addr) (x : V) (v : AV) : Prop :=
  Rp K H hot m x v ∨ ∃ p vs xs, x = .ref p ∧ v = .lst xs ∧ H p = some (.lst vs) ∧ Rps K H hot m vs xs
section
variable {K : PySem.W.Frag} {H : Hp} {hot : Hot} {m : List Addr} {x : V}
theorem RB.non (h : RB K H hot m x .non) : x = .non := by
  rcases h with h | ⟨_, _, _, _, e, _⟩
  · cases h; rfl
  · cases e
theorem RB.bl {b : Bool} (h : RB K H hot m x (.bl b)) : x = .bl b := by
  rcases h with h | ⟨_, _, _, _, e, _⟩
  · cases h; rfl
  · cases e
theorem RB.int {b : Int} (h : RB K H hot m x (.int b)) : x = .int b := by
  rcases h with h | ⟨_, _, _, _, e, _⟩
  · cases h; rfl
  · cases e
theorem RB.str {b : Str} (h : RB K H hot m x (.str b)) : x = .str b := by
  rcases h with h | ⟨_, _, _, _, e, _⟩
  · cases h; rfl
  · cases e
theorem RB.tup {xs : List AV} (h : RB K H hot m x (.tup xs)) : ∃ p vs, x = .ref p ∧ TupZ K H p vs ∧ Rps K H hot m vs xs := by
  rcases h with h | ⟨_, _, _, _, e, _⟩
  · cases h with | tup a b => exact ⟨_, _, rfl, a, b⟩
  · cases e
theorem RB.lst {xs : List AV} (h : RB K H hot m x (.lst xs)) : ∃ p vs, x = .ref p ∧ SqL K H p vs ∧ Rps K H hot m vs xs := by
  rcases h with h | ⟨p, vs, ys, e1, e, h1, r⟩
  · cases h with
    | lst a n b => exact ⟨_, _, rfl, .inl a, b⟩
    | lstK a b => exact ⟨_, _, rfl, .inr a, b⟩
  · cases e; exact ⟨p, vs, e1, .inl (.inl h1), r⟩
theorem RB.dp {v : AV} (h : RB K H hot m x v) (k : v.okD = true) : Dp K H x v.pd := by
  rcases h with h | ⟨p, vs, ys, e1, e, h1, r⟩
  · exact h.dp k
  · subst e e1; exact .lst (.inl (.inl h1)) (r.dp k)
end
/-- behind an operation: the value's reading in a heap that keeps all -/
def Aft (K : PySem.W.Frag) (F : Hot) (m : List Addr) (a : AS) (σ : L2.St) (H : Hp) (v : AV) (Q : VK) : Prop :=
  ∀ z H', Rl K F m a σ H' → Stp m a σ H m a σ H' → Rp' K F m a σ H' z v → Q z H'
section
variable {K : PySem.W.Frag} {F : Hot} {m : List Addr} {a : AS} {σ : L2.St} {H : Hp} {v : AV} {Q : VK} {x y : V}
theorem Aft.here (A : Aft K F m a σ H v Q) (R : Rl K F m a σ H) (r : Rp' K F m a σ H x v) : Q x H := A x H R .refl r
theorem Aft.tup {vs : List V} {xs : List AV} {p : Addr} {o : PySem.Obj} (A : Aft K F m a σ H (.tup xs) Q) (R : Rl K F m a σ H) (r : Rps' K F m a σ H vs xs) (hp : H p = none) (ho : TupO o) : Q (.ref p) (upd H p (.frz o (.tup vs))) :=
  A _ _ (R.new hp) (.new hp) (R.newTup hp ho r)
theorem Aft.lst {vs : List V} {xs : List AV} {p : Addr} (A : Aft K F m a σ H (.lst xs) Q) (R : Rl K F m a σ H) (r : Rps' K F m a σ H vs xs) (hp : H p = none) : Q (.ref p) (upd H p (.lst vs)) :=
  A _ _ (R.new hp) (.new hp) (R.newLst hp r)
end

abbrev Op2 := List SObj → AV → AV → Option AV
/-- an operation's reading by the abstract values -/
def rOp (K : PySem.W.Frag) (f : Op2) : R2 := fun x y H Q => ∃ F m a σ cx cy v, Rl K F m a σ H ∧ RB K H (hotOf F m a σ) m x cx ∧ RB K H (hotOf F m a σ) m y cy ∧ f a.S cx cy = some v ∧ Aft K F m a σ H v Q

/-! ### + - * // % ** -/
def opAdd : Op2
  | _, .int i, .int j => some (.int (i + j))
  | _, .str x, .str y => if x.length + y.length ≤ sizeLine then some (.str (x ++ y)) else none
  | _, .tup xs, .tup ys => if xs.length + ys.length ≤ sizeLine then some (.tup (xs ++ ys)) else none
  | _, .lst xs, .lst ys => if xs.length + ys.length ≤ sizeLine then some (.lst (xs ++ ys)) else none
  | _, _, _ => none
def opSub : Op2
  | _, .int i, .int j => some (.int (i - j))
  | _, _, _ => none
/-- a text, so many times -/
def rptS (z : Str) (n : Nat) : Str := if (n == 1 || z.length == 0) = true then z else ⟨(List.replicate n z.cps).foldl (· ++ ·) #[]⟩
def opMul : Op2
  | _, .int i, .int j => if (-(2 ^ 64) < i ∧ i < 2 ^ 64) ∨ (-(2 ^ 64) < j ∧ j < 2 ^ 64) then some (.int (i * j)) else none
  | _, .str z, .int k => if 1 ≤ k ∧ k ≤ 1000 ∧ z.length ≤ 1000 ∧ (rptS z k.toNat).length ≤ sizeLine then some (.str (rptS z k.toNat)) else none
  | _, _, _ => none
def opFdiv : Op2
  | _, .int i, .int j => if 0 < j ∧ j < 1073741824 then some (.int (i / j)) else none
  | _, _, _ => none
def opMod : Op2
  | _, .int i, .int j => if 0 < j then some (.int (i % j)) else none
  | _, _, _ => none
def opPow : Op2
  | _, .int i, .int j => if 0 ≤ j ∧ j ≤ 1000000 ∧ i.natAbs < 2 ^ 64 then some (.int (i ^ j.toNat)) else none
  | _, _, _ => none

theorem sqlM {X : Cx} {pins : List (Addr × PySem.Obj)} {σ : L2.St} {H : Hp} {s : Shared} {l : Addr} {xs : List V} (I : Inv X pins σ H s) (h : SqL X.K H l xs) :
    xs.length ≤ sizeLine ∧ ∃ (its : List Value) (n : Nat) (dd : Option Addr) (sl : Array (Option Value)), Vals xs its ∧ xs.length = its.length ∧ s.heap.get? l = some { cls := .type "list", dict := dd, data := .seq its.toArray n, slots := sl } := by
  obtain ⟨its, r, ⟨⟨cls, dd, data, sl⟩, n, e, hc, hd, hq⟩, z⟩ := I.list h
  simp only at hc hd hq
  subst hc hd hq
  exact ⟨z, its, n, _, sl, r, r.length, e⟩
section
variable {X : Cx}
def rCatR (K : PySem.W.Frag) : R2 := fun x y H Q => ∃ l b xs zs, x = .ref l ∧ y = .ref b ∧ SqL K H l xs ∧ SqL K H b zs ∧ xs.length + zs.length ≤ sizeLine ∧ ∀ p, H p = none → Q (.ref p) (upd H p (.lst (xs ++ zs)))
theorem op_catR : OpR X (binaryOp .Add) (rCatR X.K) := by
  intro pins s σ H x y v u Q I rx ry h
  obtain ⟨l, b, xs, zs, rfl, rfl, hH, hB, hz, q⟩ := h
  cases rx
  cases ry
  obtain ⟨z, its, n, dd, sl, r, hl, e⟩ := sqlM I hH
  obtain ⟨z2, its2, n2, dd2, sl2, r2, hl2, e2⟩ := sqlM I hB
  refine concat_meets ⟨_, e, rfl⟩ ⟨_, e2, rfl⟩ noFill_list_add seq_list_add PySem.F.slot_list_add PySem.F.entry_list_add (PySem.F.args_list_add_2 _ _) (list_addW l b its.toArray its2.toArray n n2 dd dd2 sl sl2 (by rw [List.size_toArray, List.size_toArray]; omega)) ⟨e, e2, ?_⟩
  have ea : its.toArray ++ its2.toArray = (its ++ its2).toArray := by simp
  rw [ea]
  exact ⟨.ref _, _, I.lnew (t' := s.toks) (r.append r2) (by rw [List.length_append]; omega), rfl, q _ I.fresh⟩

theorem opAdd_ok : OpR X (binaryOp .Add) (rOp X.K opAdd) := by
  intro pins s σ H x y v u Q I rx ry ⟨F, m, a, σ', cx, cy, w, R, bx, by_, e, A⟩
  unfold opAdd at e
  split at e
  · cases e
    rw [bx.int] at rx; rw [by_.int] at ry
    exact op_add pins s σ H _ _ v u Q I rx ry ⟨_, _, rfl, rfl, A.here R (.int _)⟩
  · split at e
    · cases e
      rw [bx.str] at rx; rw [by_.str] at ry
      exact op_add_str pins s σ H _ _ v u Q I rx ry ⟨_, _, rfl, rfl, by assumption, A.here R (.str _)⟩
    · cases e
  · split at e
    · cases e
      rename_i xs ys hlen
      obtain ⟨p, vs, rfl, h1, r1⟩ := bx.tup
      obtain ⟨q, ws, rfl, h2, r2⟩ := by_.tup
      refine op_catZ pins s σ H _ _ v u Q I rx ry ⟨p, q, vs, ws, rfl, rfl, h1.sqT, h2.sqT, by rw [r1.length, r2.length]; exact hlen, fun e => ?_, fun _ e => ?_, fun _ _ p' o hp ho => A.tup R (r1.append r2) hp ho⟩
      · subst e
        cases r1
        exact A.here R (.tup h2 r2)
      · subst e
        cases r2
        rw [List.append_nil] at A
        exact A.here R (.tup h1 r1)
    · cases e
  · split at e
    · cases e
      rename_i xs ys hlen
      obtain ⟨p, vs, rfl, h1, r1⟩ := bx.lst
      obtain ⟨q, ws, rfl, h2, r2⟩ := by_.lst
      exact op_catR pins s σ H _ _ v u Q I rx ry ⟨p, q, vs, ws, rfl, rfl, h1, h2, by rw [r1.length, r2.length]; exact hlen, fun p' hp => A.lst R (r1.append r2) hp⟩
    · cases e
  · cases e
theorem opSub_ok : OpR X (binaryOp .Sub) (rOp X.K opSub) := by
  intro pins s σ H x y v u Q I rx ry ⟨F, m, a, σ', cx, cy, w, R, bx, by_, e, A⟩
  unfold opSub at e
  split at e
  · cases e
    rw [bx.int] at rx; rw [by_.int] at ry
    exact op_sub pins s σ H _ _ v u Q I rx ry ⟨_, _, rfl, rfl, A.here R (.int _)⟩
  · cases e
theorem opMul_ok : OpR X (binaryOp .Mult) (rOp X.K opMul) := by
  intro pins s σ H x y v u Q I rx ry ⟨F, m, a, σ', cx, cy, w, R, bx, by_, e, A⟩
  unfold opMul at e
  split at e
  · split at e
    · cases e
      rw [bx.int] at rx; rw [by_.int] at ry
      exact op_mul pins s σ H _ _ v u Q I rx ry ⟨_, _, rfl, rfl, by assumption, A.here R (.int _)⟩
    · cases e
  · rename_i z k
    split at e
    · rename_i h
      obtain ⟨h1, h2, h3, h4⟩ := h
      cases e
      rw [bx.str] at rx; rw [by_.int] at ry
      obtain ⟨t, rfl⟩ := rx
      obtain ⟨t', rfl⟩ := ry
      have hk : ¬ k < 1 := by omega
      refine P.mul_str ?_ (fun _ _ hb => ?_) (fun _ _ => ?_) ?_
      · rw [decide_eq_false (by omega), decide_eq_false (by omega)]; rfl
      · have : (1001 : Int) ≤ (2 ^ 63 - 1) / k := by
          rw [Int.le_ediv_iff_mul_le (by omega)]
          omega
        omega
      · have h5 : z.length * k.toNat ≤ 1000 * 1000 := Nat.mul_le_mul h3 (by omega)
        unfold Builtin.Str.tooLong
        exact decide_eq_false (by show ¬ (z.length * k.toNat > 2 ^ 24); omega)
      · rw [if_neg hk]
        have ek : (k == 1) = (k.toNat == 1) := by
          rw [Bool.eq_iff_iff, beq_iff_eq, beq_iff_eq]
          omega
        have fin : ∀ y : Str, y = rptS z k.toNat → ∀ (t : Tok) (s' : Shared), Inv X pins σ H s' → EP X pins σ Q (.str y t) s' := fun y e t s' I' => by
          rw [e]
          exact ⟨.str (rptS z k.toNat), H, I', ⟨t, rfl⟩, A.here R (.str _)⟩
        by_cases hb : (k == 1 || z.length == 0) = true
        · rw [if_pos hb]
          exact fin z (by unfold rptS; rw [← ek, if_pos hb]) _ _ I
        · rw [if_neg hb]
          have e9 : (⟨(List.replicate k.toNat z.cps).foldl (· ++ ·) #[]⟩ : Str) = rptS z k.toNat := by unfold rptS; rw [← ek, if_neg hb]
          refine ⟨by rw [e9]; exact h4, fin _ e9 _ _ (I.tok _)⟩
    · cases e
  · cases e
theorem opFdiv_ok : OpR X (binaryOp .FloorDiv) (rOp X.K opFdiv) := by
  intro pins s σ H x y v u Q I rx ry ⟨F, m, a, σ', cx, cy, w, R, bx, by_, e, A⟩
  unfold opFdiv at e
  split at e
  · split at e
    · cases e
      rw [bx.int] at rx; rw [by_.int] at ry
      exact op_fdiv pins s σ H _ _ v u Q I rx ry ⟨_, _, rfl, rfl, by assumption, A.here R (.int _)⟩
    · cases e
  · cases e
theorem opMod_ok : OpR X (binaryOp .Mod) (rOp X.K opMod) := by
  intro pins s σ H x y v u Q I rx ry ⟨F, m, a, σ', cx, cy, w, R, bx, by_, e, A⟩
  unfold opMod at e
  split at e
  · split at e
    · cases e
      rw [bx.int] at rx; rw [by_.int] at ry
      exact op_mod pins s σ H _ _ v u Q I rx ry ⟨_, _, rfl, rfl, by assumption, A.here R (.int _)⟩
    · cases e
  · cases e
theorem opPow_ok : OpR X (binaryOp .Pow) (rOp X.K opPow) := by
  intro pins s σ H x y v u Q I rx ry ⟨F, m, a, σ', cx, cy, w, R, bx, by_, e, A⟩
  unfold opPow at e
  split at e
  · split at e
    · cases e
      rw [bx.int] at rx; rw [by_.int] at ry
      exact op_pow pins s σ H _ _ v u Q I rx ry ⟨_, _, rfl, rfl, by assumption, A.here R (.int _)⟩
    · cases e
  · cases e
/-- the binary operators of the fragment -/
def binF : Operator → Option Op2
  | .Add => some opAdd | .Sub => some opSub | .Mult => some opMul | .FloorDiv => some opFdiv | .Mod => some opMod | .Pow => some opPow
  | _ => none
theorem binF_ok {op : Operator} {f : Op2} (h : binF op = some f) : OpR X (binaryOp op) (rOp X.K f) := by
  cases op <;> simp [binF] at h <;> subst h
  · exact opAdd_ok
  · exact opSub_ok
  · exact opMul_ok
  · exact opMod_ok
  · exact opPow_ok
  · exact opFdiv_ok

/-! ### comparisons -/
def opEq : Op2 := fun _ x y => if x.okD = true ∧ y.okD = true ∧ min x.dep y.dep ≤ 64 then some (.bl (x.eqb y)) else none
def opNe : Op2 := fun _ x y => if x.okD = true ∧ y.okD = true ∧ min x.dep y.dep ≤ 64 then some (.bl (!x.eqb y)) else none
def opI (g : Int → Int → Bool) : Op2
  | _, .int i, .int j => some (.bl (g i j))
  | _, _, _ => none
def isNon : AV → Bool
  | .non => true | _ => false
def opIs : Op2
  | _, x, .non => some (.bl (isNon x))
  | _, _, _ => none
def opIsN : Op2
  | _, x, .non => some (.bl (!isNon x))
  | _, _, _ => none
def dHas (kvs : List (Str × AV)) (k : Str) : Bool := kvs.any fun kv => decide (kv.1 = k)
def inSeq (x : AV) (ys : List AV) : Option Bool :=
  if x.okD = true ∧ AV.okDs ys = true ∧ min (PyData.depthAll (AV.pds ys)) x.dep ≤ 64 then some (ys.any fun y => y.eqb x) else none
/-- the one text within the other -/
def inT (x y : Str) : Bool := !(Builtin.Str.occurrences y x 0 y.length 1).isEmpty
def inB : List SObj → AV → AV → Option Bool
  | _, x, .lst ys => inSeq x ys
  | _, x, .tup ys => inSeq x ys
  | _, .str x, .str y => some (inT x y)
  | S, .str k, .ref n => match S[n]? with
    | some (.dic kvs) => some (dHas kvs k)
    | _ => none
  | _, _, _ => none
def opIn : Op2 := fun S x y => (inB S x y).map .bl
def opNotIn : Op2 := fun S x y => (inB S x y).map fun b => .bl (!b)

theorem isNon_eq {K : PySem.W.Frag} {H : Hp} {hot : Hot} {m : List Addr} {x : V} {c : AV} (h : RB K H hot m x c) : decide (x = .non) = isNon c := by
  rcases h with h | ⟨_, _, _, e1, e2, _⟩
  · cases h <;> rfl
  · subst e1 e2; rfl
theorem opEq_ok (hu : X.A.units + 100 < cLine) : OpR X (compareOp .Eq) (rOp X.K opEq) := by
  intro pins s σ H x y v u Q I rx ry ⟨F, m, a, σ', cx, cy, w, R, bx, by_, e, A⟩
  unfold opEq at e
  split at e
  · rename_i h
    obtain ⟨h1, h2, h3⟩ := h
    cases e
    obtain ⟨as, r1⟩ := Dp.reads I _ _ _ (bx.dp h1) rx
    obtain ⟨bs, r2⟩ := Dp.reads I _ _ _ (by_.dp h2) ry
    exact SeqAt.compareEq_reads r1 r2 (AV.okD_lay _ h1) (AV.okD_lay _ h2) (by unfold AV.dep at h3; omega) ⟨.bl _, H, I, rfl, A.here R (.bl _)⟩
  · cases e
theorem opNe_ok (hu : X.A.units + 100 < cLine) : OpR X (compareOp .NotEq) (rOp X.K opNe) := by
  intro pins s σ H x y v u Q I rx ry ⟨F, m, a, σ', cx, cy, w, R, bx, by_, e, A⟩
  unfold opNe at e
  split at e
  · rename_i h
    obtain ⟨h1, h2, h3⟩ := h
    cases e
    obtain ⟨as, r1⟩ := Dp.reads I _ _ _ (bx.dp h1) rx
    obtain ⟨bs, r2⟩ := Dp.reads I _ _ _ (by_.dp h2) ry
    exact SeqAt.compareNe_reads r1 r2 (AV.okD_lay _ h1) (AV.okD_lay _ h2) (by unfold AV.dep at h3; omega) ⟨.bl _, H, I, rfl, A.here R (.bl _)⟩
  · cases e
theorem opI_ok {op : CmpOp} {g : Int → Int → Bool} (h : OpR X (compareOp op) (rI0 fun i j => .bl (g i j))) : OpR X (compareOp op) (rOp X.K (opI g)) := by
  intro pins s σ H x y v u Q I rx ry ⟨F, m, a, σ', cx, cy, w, R, bx, by_, e, A⟩
  unfold opI at e
  split at e
  · cases e
    rw [bx.int] at rx; rw [by_.int] at ry
    exact h pins s σ H _ _ v u Q I rx ry ⟨_, _, rfl, rfl, A.here R (.bl _)⟩
  · cases e
theorem opIs_ok : OpR X (compareOp .Is) (rOp X.K opIs) := by
  intro pins s σ H x y v u Q I rx ry ⟨F, m, a, σ', cx, cy, w, R, bx, by_, e, A⟩
  unfold opIs at e
  split at e
  · cases e
    rw [by_.non] at ry
    exact op_isN pins s σ H _ _ v u Q I rx ry ⟨rfl, by rw [isNon_eq bx]; exact A.here R (.bl _)⟩
  · cases e
theorem opIsN_ok : OpR X (compareOp .IsNot) (rOp X.K opIsN) := by
  intro pins s σ H x y v u Q I rx ry ⟨F, m, a, σ', cx, cy, w, R, bx, by_, e, A⟩
  unfold opIsN at e
  split at e
  · cases e
    rw [by_.non] at ry
    exact op_notN pins s σ H _ _ v u Q I rx ry ⟨rfl, by rw [isNon_eq bx]; exact A.here R (.bl _)⟩
  · cases e
theorem pds_any (x : AV) : ∀ ys : List AV, ((AV.pds ys).any fun z => PyData.eqv z x.pd) = ys.any fun y => y.eqb x
  | [] => rfl
  | y :: ys => by rw [AV.pds, List.any_cons, List.any_cons, pds_any x ys]; rfl
theorem RpD.has {K : PySem.W.Frag} {H : Hp} {hot : Hot} {m : List Addr} {k : Str} : ∀ {xs : List (Key × V)} {vs : List (Str × AV)}, RpD K H hot m xs vs → (valV xs (Sum.inr k)).isSome = dHas vs k
  | [], [], _ => rfl
  | (k', x) :: xs, (s, v) :: vs, ⟨e, r, t⟩ => by
    subst e
    by_cases h : s = k
    · rw [valV_pos (show ((Sum.inr s : Key), x).1 = Sum.inr k by rw [h])]
      simp [dHas, h]
    · rw [valV_neg (fun q => h (Sum.inr.inj q)), RpD.has t]
      simp [dHas, h]
theorem RB.dic {F : Hot} {m : List Addr} {a : AS} {σ : L2.St} {H : Hp} {y : V} {n : Nat} {kvs : List (Str × AV)} (R : Rl X.K F m a σ H) (b : RB X.K H (hotOf F m a σ) m y (.ref n)) (e : a.S[n]? = some (.dic kvs)) :
    ∃ p vs, y = .ref p ∧ m[n]? = some p ∧ H p = some (.dK vs) ∧ RpD X.K H (hotOf F m a σ) m vs kvs := by
  rcases b with b | ⟨_, _, _, _, e, _⟩
  · cases b with
    | ref h =>
      obtain ⟨vs, h1, r⟩ := R.obj n _ _ e h
      exact ⟨_, vs, rfl, h, h1, r⟩
  · cases e
theorem inB_ok (hu : X.A.units + 100 < cLine) {pins : List (Addr × PySem.Obj)} {s : Shared} {σ : L2.St} {H : Hp} {x y : V} {v u : Value} (I : Inv X pins σ H s) (rx : RelV x v) (ry : RelV y u)
    {F : Hot} {m : List Addr} {a : AS} {σ' : L2.St} {cx cy : AV} {b : Bool} (R : Rl X.K F m a σ' H) (bx : RB X.K H (hotOf F m a σ') m x cx) (by_ : RB X.K H (hotOf F m a σ') m y cy) (e : inB a.S cx cy = some b)
    {Q Q' : Value → Shared → Prop} (hQ : ∀ s', Inv X pins σ H s' → Q (.bool b) s') (hQ' : ∀ s', Inv X pins σ H s' → Q' (.bool (!b)) s') :
    wpAny (model X.prog X.w) X.A (compareOp .In v u) Q X.xe s ∧ wpAny (model X.prog X.w) X.A (compareOp .NotIn v u) Q' X.xe s := by
  unfold inB at e
  split at e
  · unfold inSeq at e
    split at e
    · rename_i h
      obtain ⟨h1, h2, h3⟩ := h
      cases e
      obtain ⟨as, r1⟩ := Dp.reads I _ _ _ (bx.dp h1) rx
      obtain ⟨bs, r2⟩ := Dp.reads I _ _ _ (by_.dp (show AV.okD (.lst _) = true from h2)) ry
      refine ⟨SeqAt.in_list_reads r2 r1 (AV.okDs_lay _ h2) (AV.okD_lay _ h1) (by unfold AV.dep at h3; omega) ?_, SeqAt.notIn_list_reads r2 r1 (AV.okDs_lay _ h2) (AV.okD_lay _ h1) (by unfold AV.dep at h3; omega) ?_⟩
      · rw [pds_any]; exact hQ _ I
      · rw [pds_any]; exact hQ' _ I
    · cases e
  · unfold inSeq at e
    split at e
    · rename_i h
      obtain ⟨h1, h2, h3⟩ := h
      cases e
      obtain ⟨as, r1⟩ := Dp.reads I _ _ _ (bx.dp h1) rx
      obtain ⟨bs, r2⟩ := Dp.reads I _ _ _ (by_.dp (show AV.okD (.tup _) = true from h2)) ry
      refine ⟨SeqAt.in_tuple_reads r2 r1 (AV.okDs_lay _ h2) (AV.okD_lay _ h1) (by unfold AV.dep at h3; omega) ?_, SeqAt.notIn_tuple_reads r2 r1 (AV.okDs_lay _ h2) (AV.okD_lay _ h1) (by unfold AV.dep at h3; omega) ?_⟩
      · rw [pds_any]; exact hQ _ I
      · rw [pds_any]; exact hQ' _ I
    · cases e
  · rename_i z y'
    cases e
    rw [bx.str] at rx; rw [by_.str] at ry
    obtain ⟨t, rfl⟩ := rx
    obtain ⟨t', rfl⟩ := ry
    exact ⟨in_str (hQ _ I), notIn_str (hQ' _ I)⟩
  · split at e
    · rename_i k n _ kvs es
      cases e
      obtain ⟨p, vs, rfl, hm, h1, r⟩ := by_.dic R es
      have := bx.str
      subst this
      cases ry
      have g : DGet H p (kV (Sum.inr k)) (valV vs (Sum.inr k)) := DGet.k h1
      refine ⟨d_in (o := valV vs (Sum.inr k)) (by omega) I g rx fun s' I' => ?_, d_notIn (o := valV vs (Sum.inr k)) (by omega) I g rx fun s' I' => ?_⟩
      · rw [r.has]; exact hQ _ I'
      · rw [r.has]; exact hQ' _ I'
    · cases e
  · cases e
theorem opIn_ok (hu : X.A.units + 100 < cLine) : OpR X (compareOp .In) (rOp X.K opIn) := by
  intro pins s σ H x y v u Q I rx ry ⟨F, m, a, σ', cx, cy, w, R, bx, by_, e, A⟩
  obtain ⟨b, e1, e2⟩ := Option.map_eq_some_iff.mp e
  subst e2
  exact (inB_ok hu I rx ry R bx by_ e1 (Q := EP X pins σ Q) (Q' := fun _ _ => True) (fun s' I' => ⟨.bl _, H, I', rfl, A.here R (.bl _)⟩) fun _ _ => trivial).1
theorem opNotIn_ok (hu : X.A.units + 100 < cLine) : OpR X (compareOp .NotIn) (rOp X.K opNotIn) := by
  intro pins s σ H x y v u Q I rx ry ⟨F, m, a, σ', cx, cy, w, R, bx, by_, e, A⟩
  obtain ⟨b, e1, e2⟩ := Option.map_eq_some_iff.mp e
  subst e2
  exact (inB_ok hu I rx ry R bx by_ e1 (Q := fun _ _ => True) (Q' := EP X pins σ Q) (fun _ _ => trivial) (fun s' I' => ⟨.bl _, H, I', rfl, A.here R (.bl _)⟩)).2
def cmpF : CmpOp → Option Op2
  | .Eq => some opEq | .NotEq => some opNe
  | .Lt => some (opI fun i j => decide (i < j)) | .LtE => some (opI fun i j => decide (i ≤ j)) | .Gt => some (opI fun i j => decide (j < i)) | .GtE => some (opI fun i j => decide (j ≤ i))
  | .Is => some opIs | .IsNot => some opIsN | .In => some opIn | .NotIn => some opNotIn
theorem cmpF_ok (hu : X.A.units + 100 < cLine) {op : CmpOp} {f : Op2} (h : cmpF op = some f) : OpR X (compareOp op) (rOp X.K f) := by
  cases op <;> simp [cmpF] at h <;> subst h
  · exact opEq_ok hu
  · exact opNe_ok hu
  · exact opI_ok op_lt
  · exact opI_ok op_le
  · exact opI_ok op_gt
  · exact opI_ok op_ge
  · exact opIs_ok
  · exact opIsN_ok
  · exact opIn_ok hu
  · exact opNotIn_ok hu
end
end Pyx
end
section
set_option maxRecDepth 100000
namespace Pyx
open PySem PySem.Spec PyProof.Rows L2

/-! ### the evaluator's kinds -/
abbrev Gm := Str → List AV → List SObj → Option (AV × List SObj)
abbrev ME := Gm → AS → Option (AV × AS)
inductive Hd where
  | val (v : AV) | slot (i : Nat)
  deriving Inhabited
abbrev MO := Gm → AS → Option (Hd × AS)
abbrev MOs := Gm → AS → Option (List Hd × AS)
abbrev MAs := Gm → AS → Option (List AV × AS)
abbrev MT := Gm → AS → Option (Bool × AS)

def resL (n : Nat) : Option SObj → AV
  | some (.lst xs) => .lst xs
  | _ => .ref n
def res (S : List SObj) : AV → AV
  | .ref n => resL n S[n]?
  | v => v
def slotV (S : List SObj) : Option (Option Slt) → Option AV
  | some (some (.own xs)) => some (.lst xs)
  | some (some (.val v)) => some (res S v)
  | _ => none
def cont (a : AS) : Hd → Option AV
  | .val v => some (res a.S v)
  | .slot i => slotV a.S a.ρ[i]?
def conts (a : AS) : List Hd → Option (List AV)
  | [] => some []
  | h :: hs => (cont a h).bind fun v => (conts a hs).map fun vs => v :: vs

def RHd (K : PySem.W.Frag) (F : Hot) (m : List Addr) (a : AS) (σ : L2.St) (H : Hp) (x : V) : Hd → Prop
  | .val v => Rp' K F m a σ H x v
  | .slot i => σ[i]? = some (some x)
def RHds (K : PySem.W.Frag) (F : Hot) (m : List Addr) (a : AS) (σ : L2.St) (H : Hp) : List V → List Hd → Prop
  | [], [] => True
  | x :: xs, h :: hs => RHd K F m a σ H x h ∧ RHds K F m a σ H xs hs
  | _, _ => False
def RBs (K : PySem.W.Frag) (H : Hp) (hot : Hot) (m : List Addr) : List V → List AV → Prop
  | [], [] => True
  | x :: xs, h :: hs => RB K H hot m x h ∧ RBs K H hot m xs hs
  | _, _ => False
section
variable {K : PySem.W.Frag} {F : Hot} {m m1 m2 : List Addr} {a a1 a2 : AS} {σ σ1 σ2 : L2.St} {H H1 H2 : Hp} {x : V}
theorem RHd.step (R : Rl K F m a σ H) (s : Stp m a σ H m1 a1 σ H1) : ∀ {h : Hd}, RHd K F m a σ H x h → RHd K F m1 a1 σ H1 x h
  | .val _, r => Rp.step R s r
  | .slot _, r => r
theorem RHds.step (R : Rl K F m a σ H) (s : Stp m a σ H m1 a1 σ H1) : ∀ {xs : List V} {h : List Hd}, RHds K F m a σ H xs h → RHds K F m1 a1 σ H1 xs h
  | [], [], r => trivial
  | _ :: _, _ :: _, ⟨r, t⟩ => ⟨r.step R s, RHds.step R s t⟩
  | [], _ :: _, h => h.elim
  | _ :: _, [], h => h.elim
theorem Rp.res (R : Rl K F m a σ H) {v : AV} (r : Rp' K F m a σ H x v) : RB K H (hotOf F m a σ) m x (res a.S v) := by
  cases v with
  | ref n =>
    cases r with
    | ref hm =>
      rename_i p
      show RB K H (hotOf F m a σ) m (.ref p) (resL n a.S[n]?)
      cases q : a.S[n]? with
      | none => exact .inl (.ref hm)
      | some o =>
        cases o with
        | lst xs =>
          obtain ⟨vs, h1, r1⟩ := R.obj n _ _ q hm
          exact .inr ⟨p, vs, xs, rfl, rfl, h1, r1⟩
        | dic kvs => exact .inl (.ref hm)
  | _ => exact .inl r
theorem RHd.cont (R : Rl K F m a σ H) : ∀ {h : Hd} {c : AV}, RHd K F m a σ H x h → Pyx.cont a h = some c → RB K H (hotOf F m a σ) m x c
  | .val v, c, r, e => by cases e; exact Rp.res R r
  | .slot i, c, r, e => by
    have r' : σ[i]? = some (some x) := r
    have e' : slotV a.S a.ρ[i]? = some c := e
    cases q : a.ρ[i]? with
    | none => rw [q] at e'; cases e'
    | some o =>
      cases o with
      | none => rw [q] at e'; cases e'
      | some sl =>
        rw [q] at e'
        cases sl with
        | own xs =>
          cases e'
          obtain ⟨p, vs, e1, h1, r1, _, _⟩ := R.own i _ q
          rw [r'] at e1; cases e1
          exact .inr ⟨p, vs, _, rfl, rfl, h1, r1⟩
        | val v =>
          cases e'
          obtain ⟨y, e1, r1⟩ := R.slot i _ q
          rw [r'] at e1; cases e1
          exact Rp.res R r1
theorem RHds.conts (R : Rl K F m a σ H) : ∀ {xs : List V} {h : List Hd} {c : List AV}, RHds K F m a σ H xs h → Pyx.conts a h = some c → RBs K H (hotOf F m a σ) m xs c
  | [], [], _, _, e => by cases e; trivial
  | _ :: _, h :: hs, c, ⟨r, t⟩, e => by
    obtain ⟨v, e1, e2⟩ := Option.bind_eq_some_iff.mp e
    obtain ⟨vs, e3, e4⟩ := Option.map_eq_some_iff.mp e2
    subst e4
    exact ⟨r.cont R e1, RHds.conts R t e3⟩
  | [], _ :: _, _, h, _ => h.elim
  | _ :: _, [], _, h, _ => h.elim
end

/-! ### readings -/
section
variable (K : PySem.W.Frag) (F : Hot) (G : Gm)
def tE (e : ME) : TE := fun σ H Q => ∃ m a r, Rl K F m a σ H ∧ e G a = some r ∧ ∀ x H' m', Rl K F m' r.2 σ H' → Stp m a σ H m' r.2 σ H' → Rp' K F m' r.2 σ H' x r.1 → Q x H'
def tO (e : MO) : TE := fun σ H Q => ∃ m a r, Rl K F m a σ H ∧ e G a = some r ∧ ∀ x H' m', Rl K F m' r.2 σ H' → Stp m a σ H m' r.2 σ H' → RHd K F m' r.2 σ H' x r.1 → Q x H'
def tOs (e : MOs) : TA := fun σ H Q => ∃ m a r, Rl K F m a σ H ∧ e G a = some r ∧ ∀ x H' m', Rl K F m' r.2 σ H' → Stp m a σ H m' r.2 σ H' → RHds K F m' r.2 σ H' x r.1 → Q x H'
def tAs (e : MAs) : TA := fun σ H Q => ∃ m a r, Rl K F m a σ H ∧ e G a = some r ∧ ∀ x H' m', Rl K F m' r.2 σ H' → Stp m a σ H m' r.2 σ H' → Rps' K F m' r.2 σ H' x r.1 → Q x H'
def tM (e : MT) : TT := fun σ H Q => ∃ m a r, Rl K F m a σ H ∧ e G a = some r ∧ ∀ H' m', Rl K F m' r.2 σ H' → Stp m a σ H m' r.2 σ H' → Q r.1 H'
/-- a fresh list -/
def tF (e : MAs) : TE := fun σ H Q => ∃ m a r, Rl K F m a σ H ∧ e G a = some r ∧ ∀ p vs H' m', Rl K F m' r.2 σ H' → Stp m a σ H m' r.2 σ H' → H' p = none → Rps' K F m' r.2 σ H' vs r.1 → Q (.ref p) (upd H' p (.lst vs))
end
theorem _root_.L2.PE.weak {X : Cx} {e : Expr} {t t' : TE} (h : PE X e t) (w : ∀ σ H Q, t' σ H Q → t σ H Q) : PE X e t' := ⟨fun pins s σ H Q I q => h.run pins s σ H Q I (w σ H Q q)⟩
theorem _root_.L2.PT.weak {X : Cx} {e : Expr} {t t' : TT} (h : PT X e t) (w : ∀ σ H Q, t' σ H Q → t σ H Q) : PT X e t' := ⟨fun pins s σ H Q I q => h.run pins s σ H Q I (w σ H Q q)⟩
theorem _root_.L2.PW.weak {X : Cx} {e : Expr} {t t' : TT} (h : PW X e t) (w : ∀ σ H Q, t' σ H Q → t σ H Q) : PW X e t' := ⟨fun wh pins s σ H Q I q => h.run wh pins s σ H Q I (w σ H Q q)⟩
theorem _root_.L2.PA.weak {X : Cx} {e : List Expr} {t t' : TA} (h : PA X e t) (w : ∀ σ H Q, t' σ H Q → t σ H Q) : PA X e t' := ⟨fun p pins s σ H Q I q => h.run p pins s σ H Q I (w σ H Q q)⟩
theorem _root_.L2.PS.weak {X : Cx} {e : Stmt} {t t' : TS} (h : PS X e t) (w : ∀ D σ H, t' D σ H → t D σ H) : PS X e t' := ⟨fun pins s σ H D I q => h.run pins s σ H D I (w D σ H q)⟩
theorem _root_.L2.PSs.weak {X : Cx} {e : List Stmt} {t t' : TS} (h : PSs X e t) (w : ∀ D σ H, t' D σ H → t D σ H) : PSs X e t' := ⟨fun pins s σ H D I q => h.run pins s σ H D I (w D σ H q)⟩

/-! ### names, constants -/
def oVar (i : Nat) : MO := fun _ a => match a.ρ[i]? with
  | some (some _) => some (.slot i, a)
  | _ => none
def eVar (i : Nat) : ME := fun _ a => match a.ρ[i]? with
  | some (some (.val v)) => some (v, a)
  | some (some (.own xs)) => some (.lst xs, a.frz i xs)
  | _ => none
def oE (e : ME) : MO := fun G a => (e G a).map fun r => (.val r.1, r.2)
def eCon (v : AV) : ME := fun _ a => some (v, a)
section
variable {X : Cx} {F : Hot} {G : Gm}
theorem pe_oVar {i : Nat} {x : Str} {pos : Pos} (hN : X.N[i]? = some x) (hv : Vis X.env.scope x) (hd : (x == ("__debug__" : Str)) = false) (hcd : (x == ("__classdict__" : Str)) = false) : PE X (.Name x pos) (tO X.K F G (oVar i)) := by
  refine PE.weak (pe_var hN hv hd hcd) fun σ H Q ⟨m, a, r, R, e, k⟩ => ?_
  unfold oVar at e
  split at e
  · rename_i s q
    cases e
    cases s with
    | val v =>
      obtain ⟨y, e1, r1⟩ := R.slot i v q
      exact ⟨y, e1, k y H m R .refl e1⟩
    | own xs =>
      obtain ⟨p, vs, e1, _⟩ := R.own i xs q
      exact ⟨_, e1, k _ H m R .refl e1⟩
  · cases e
theorem pe_eVar {i : Nat} {x : Str} {pos : Pos} (hN : X.N[i]? = some x) (hv : Vis X.env.scope x) (hd : (x == ("__debug__" : Str)) = false) (hcd : (x == ("__classdict__" : Str)) = false) : PE X (.Name x pos) (tE X.K F G (eVar i)) := by
  refine PE.weak (pe_var hN hv hd hcd) fun σ H Q ⟨m, a, r, R, e, k⟩ => ?_
  unfold eVar at e
  split at e
  · rename_i v q
    cases e
    obtain ⟨y, e1, r1⟩ := R.slot i v q
    exact ⟨y, e1, k y H m R .refl r1⟩
  · rename_i xs q
    cases e
    obtain ⟨R', p, e1, r1⟩ := R.frz q
    exact ⟨_, e1, k _ H m R' (Rl.frzStp q) r1⟩
  · cases e
theorem pe_oE {e : Expr} {me : ME} (h : PE X e (tE X.K F G me)) : PE X e (tO X.K F G (oE me)) := by
  refine h.weak fun σ H Q ⟨m, a, r, R, e, k⟩ => ?_
  obtain ⟨q, e1, e2⟩ := Option.map_eq_some_iff.mp e
  subst e2
  exact ⟨m, a, q, R, e1, fun x H' m' R' s r => k x H' m' R' s r⟩
/-- a constant's value, whatever the heap is -/
def ConV (K : PySem.W.Frag) (x : V) (v : AV) : Prop := ∀ H hot m, Rp K H hot m x v
theorem pe_con {e : Expr} {x : V} {v : AV} (h : PE X e (tC x)) (c : ConV X.K x v) : PE X e (tE X.K F G (eCon v)) := by
  refine h.weak fun σ H Q ⟨m, a, r, R, e, k⟩ => ?_
  cases e
  exact k x H m R .refl (c _ _ _)

/-! ### two operands -/
def eBin (f : Op2) (oa ob : MO) : ME := fun G a => (oa G a).bind fun r1 => (ob G r1.2).bind fun r2 => (cont r2.2 r1.1).bind fun x => (cont r2.2 r2.1).bind fun y => (f r2.2.S x y).map fun v => (v, r2.2)
theorem op2_read {f : Op2} {oa ob : MO} {σ : L2.St} {H : Hp} {Q : VK} (h : tE X.K F G (eBin f oa ob) σ H Q) : tOp (rOp X.K f) (tO X.K F G oa) (tO X.K F G ob) σ H Q := by
  obtain ⟨m, a, r, R, e, k⟩ := h
  obtain ⟨r1, e1, e⟩ := Option.bind_eq_some_iff.mp e
  obtain ⟨r2, e2, e⟩ := Option.bind_eq_some_iff.mp e
  obtain ⟨cx, e3, e⟩ := Option.bind_eq_some_iff.mp e
  obtain ⟨cy, e4, e⟩ := Option.bind_eq_some_iff.mp e
  obtain ⟨v, e5, e6⟩ := Option.map_eq_some_iff.mp e
  subst e6
  refine ⟨m, a, r1, R, e1, fun x H1 m1 R1 s1 h1 => ⟨m1, r1.2, r2, R1, e2, fun y H2 m2 R2 s2 h2 => ?_⟩⟩
  exact ⟨F, m2, r2.2, σ, cx, cy, v, R2, (h1.step R1 s2).cont R2 e3, h2.cont R2 e4, e5, fun z H' R' s' r' => k z H' m2 R' ((s1.trans s2).trans s') r'⟩
theorem pe_bin {op : Operator} {f : Op2} {x y : Expr} {oa ob : MO} {pos : Pos} (hf : binF op = some f) (ha : PE X x (tO X.K F G oa)) (hb : PE X y (tO X.K F G ob)) : PE X (.BinOp x op y pos) (tE X.K F G (eBin f oa ob)) :=
  (pe_op (binF_ok hf) ha hb).weak fun _ _ _ => op2_read
theorem pe_cmp2 {op : CmpOp} {f : Op2} {x y : Expr} {oa ob : MO} {pos : Pos} (hu : X.A.units + 100 < cLine) (hf : cmpF op = some f) (ha : PE X x (tO X.K F G oa)) (hb : PE X y (tO X.K F G ob)) (hm : behindInMarks op y = false) :
    PE X (.Compare x [op] [y] pos) (tE X.K F G (eBin f oa ob)) :=
  (pe_cmpR (cmpF_ok hu hf) ha hb hm).weak fun _ _ _ => op2_read
/-- as a test -/
def mBool (e : ME) : MT := fun G a => (e G a).bind fun r => match r.1 with
  | .bl b => some (b, r.2)
  | _ => none
theorem bool_read {e : ME} {σ : L2.St} {H : Hp} {Q : Bool → Hp → Prop} (h : tM X.K F G (mBool e) σ H Q) : tTest (tE X.K F G e) σ H Q := by
  obtain ⟨m, a, r, R, e, k⟩ := h
  obtain ⟨q, e1, e2⟩ := Option.bind_eq_some_iff.mp e
  split at e2
  · rename_i b hb
    cases e2
    refine ⟨m, a, q, R, e1, fun x H' m' R' s r => ?_⟩
    rw [hb] at r
    cases r
    exact ⟨_, rfl, k H' m' R' s⟩
  · cases e2
theorem pt_cmp2 {op : CmpOp} {f : Op2} {x y : Expr} {oa ob : MO} {pos : Pos} (hu : X.A.units + 100 < cLine) (hf : cmpF op = some f) (ha : PE X x (tO X.K F G oa)) (hb : PE X y (tO X.K F G ob)) (hm : behindInMarks op y = false) :
    PT X (.Compare x [op] [y] pos) (tM X.K F G (mBool (eBin f oa ob))) :=
  (pt_cmpR (cmpF_ok hu hf) ha hb hm).weak fun σ H Q h => by
    have h' := bool_read h
    obtain ⟨m, a, r, R, e, k⟩ := h'
    exact op2_read ⟨m, a, r, R, e, k⟩
/-- a < b < c -/
def eChain (f f' : Op2) (oa ob oc : MO) : ME := fun G a => (oa G a).bind fun r1 => (ob G r1.2).bind fun r2 => (cont r2.2 r1.1).bind fun x => (cont r2.2 r2.1).bind fun y => (f r2.2.S x y).bind fun v => match v with
  | .bl true => (oc G r2.2).bind fun r3 => (cont r3.2 r2.1).bind fun y' => (cont r3.2 r3.1).bind fun z => (f' r3.2.S y' z).map fun w => (w, r3.2)
  | .bl false => some (.bl false, r2.2)
  | _ => none
theorem chain_read {f f' : Op2} {oa ob oc : MO} {σ : L2.St} {H : Hp} {Q : VK} (h : tE X.K F G (eChain f f' oa ob oc) σ H Q) : tChain (rOp X.K f) (rOp X.K f') (tO X.K F G oa) (tO X.K F G ob) (tO X.K F G oc) σ H Q := by
  obtain ⟨m, a, r, R, e, k⟩ := h
  obtain ⟨r1, e1, e⟩ := Option.bind_eq_some_iff.mp e
  obtain ⟨r2, e2, e⟩ := Option.bind_eq_some_iff.mp e
  obtain ⟨cx, e3, e⟩ := Option.bind_eq_some_iff.mp e
  obtain ⟨cy, e4, e⟩ := Option.bind_eq_some_iff.mp e
  obtain ⟨v, e5, e⟩ := Option.bind_eq_some_iff.mp e
  refine ⟨m, a, r1, R, e1, fun x H1 m1 R1 s1 h1 => ⟨m1, r1.2, r2, R1, e2, fun y H2 m2 R2 s2 h2 => ?_⟩⟩
  refine ⟨F, m2, r2.2, σ, cx, cy, v, R2, (h1.step R1 s2).cont R2 e3, h2.cont R2 e4, e5, fun z H3 R3 s3 r3 => ?_⟩
  split at e
  · cases r3
    refine ⟨true, rfl, ?_⟩
    rw [if_pos rfl]
    obtain ⟨r3, e6, e⟩ := Option.bind_eq_some_iff.mp e
    obtain ⟨cy', e7, e⟩ := Option.bind_eq_some_iff.mp e
    obtain ⟨cz, e8, e⟩ := Option.bind_eq_some_iff.mp e
    obtain ⟨w, e9, e10⟩ := Option.map_eq_some_iff.mp e
    subst e10
    refine ⟨m2, r2.2, r3, R3, e6, fun w' H4 m4 R4 s4 h4 => ?_⟩
    exact ⟨F, m4, r3.2, σ, cy', cz, w, R4, ((h2.step R2 s3).step R3 s4).cont R4 e7, h4.cont R4 e8, e9, fun z H' R' s' r' => k z H' m4 R' ((((s1.trans s2).trans s3).trans s4).trans s') r'⟩
  · cases r3
    cases e
    refine ⟨false, rfl, ?_⟩
    rw [if_neg (by simp)]
    exact k _ H3 m2 R3 ((s1.trans s2).trans s3) (.bl _)
  · cases e
theorem pe_chn {op op' : CmpOp} {f f' : Op2} {x y z : Expr} {oa ob oc : MO} {pos : Pos} (hu : X.A.units + 100 < cLine) (hf : cmpF op = some f) (hf' : cmpF op' = some f') (ha : PE X x (tO X.K F G oa)) (hb : PE X y (tO X.K F G ob)) (hc : PE X z (tO X.K F G oc))
    (hm : lastMarks [op, op'] [y, z] = false) : PE X (.Compare x [op, op'] [y, z] pos) (tE X.K F G (eChain f f' oa ob oc)) :=
  (pe_chain (cmpF_ok hu hf) (cmpF_ok hu hf') ha hb hc hm).weak fun _ _ _ => chain_read
theorem pt_chn {op op' : CmpOp} {f f' : Op2} {x y z : Expr} {oa ob oc : MO} {pos : Pos} (hu : X.A.units + 100 < cLine) (hf : cmpF op = some f) (hf' : cmpF op' = some f') (ha : PE X x (tO X.K F G oa)) (hb : PE X y (tO X.K F G ob)) (hc : PE X z (tO X.K F G oc))
    (hm : lastMarks [op, op'] [y, z] = false) : PT X (.Compare x [op, op'] [y, z] pos) (tM X.K F G (mBool (eChain f f' oa ob oc))) :=
  (pt_chain (cmpF_ok hu hf) (cmpF_ok hu hf') ha hb hc hm).weak fun σ H Q h => by
    obtain ⟨m, a, r, R, e, k⟩ := bool_read h
    exact chain_read ⟨m, a, r, R, e, k⟩

/-! ### and, or, not, if else -/
def eAnd (e f : ME) : ME := fun G a => (e G a).bind fun r => match r.1 with
  | .bl true => f G r.2
  | .bl false => some (.bl false, r.2)
  | _ => none
def eOr (e f : ME) : ME := fun G a => (e G a).bind fun r => match r.1 with
  | .bl false => f G r.2
  | .bl true => some (.bl true, r.2)
  | _ => none
def eNot (e : ME) : ME := fun G a => (e G a).bind fun r => match r.1 with
  | .bl b => some (.bl (!b), r.2)
  | _ => none
def mAnd (e f : MT) : MT := fun G a => (e G a).bind fun r => if r.1 = true then f G r.2 else some (false, r.2)
def mOr (e f : MT) : MT := fun G a => (e G a).bind fun r => if r.1 = true then some (true, r.2) else f G r.2
def mNot (e : MT) : MT := fun G a => (e G a).map fun r => (!r.1, r.2)
def eIte (c : MT) (e f : ME) : ME := fun G a => (c G a).bind fun r => if r.1 = true then e G r.2 else f G r.2
variable {x y : Expr} {rest : List Expr} {pos : Pos} {e f : ME} {c t u : MT}
theorem pe_eAnd (ha : PE X x (tE X.K F G e)) (hb : PE X (.BoolOp .And (y :: rest) pos) (tE X.K F G f)) : PE X (.BoolOp .And (x :: y :: rest) pos) (tE X.K F G (eAnd e f)) := by
  refine (pe_and ha hb).weak fun σ H Q ⟨m, a, r, R, e, k⟩ => ?_
  obtain ⟨q, e1, e2⟩ := Option.bind_eq_some_iff.mp e
  refine ⟨m, a, q, R, e1, fun x H' m' R' s r' => ?_⟩
  split at e2
  · rename_i hb
    rw [hb] at r'; cases r'
    refine ⟨true, rfl, ?_⟩
    rw [if_pos rfl]
    exact ⟨m', q.2, r, R', e2, fun z H2 m2 R2 s2 r2 => k z H2 m2 R2 (s.trans s2) r2⟩
  · rename_i hb
    rw [hb] at r'; cases r'; cases e2
    refine ⟨false, rfl, ?_⟩
    rw [if_neg (by simp)]
    exact k _ H' m' R' s (.bl _)
  · cases e2
theorem pe_eOr (ha : PE X x (tE X.K F G e)) (hb : PE X (.BoolOp .Or (y :: rest) pos) (tE X.K F G f)) : PE X (.BoolOp .Or (x :: y :: rest) pos) (tE X.K F G (eOr e f)) := by
  refine (pe_or ha hb).weak fun σ H Q ⟨m, a, r, R, e, k⟩ => ?_
  obtain ⟨q, e1, e2⟩ := Option.bind_eq_some_iff.mp e
  refine ⟨m, a, q, R, e1, fun x H' m' R' s r' => ?_⟩
  split at e2
  · rename_i hb
    rw [hb] at r'; cases r'
    refine ⟨false, rfl, ?_⟩
    rw [if_neg (by simp)]
    exact ⟨m', q.2, r, R', e2, fun z H2 m2 R2 s2 r2 => k z H2 m2 R2 (s.trans s2) r2⟩
  · rename_i hb
    rw [hb] at r'; cases r'; cases e2
    refine ⟨true, rfl, ?_⟩
    rw [if_pos rfl]
    exact k _ H' m' R' s (.bl _)
  · cases e2
theorem pe_eNot (ha : PE X x (tE X.K F G e)) : PE X (.UnaryOp .Not x pos) (tE X.K F G (eNot e)) := by
  refine (pe_not ha).weak fun σ H Q ⟨m, a, r, R, e, k⟩ => ?_
  obtain ⟨q, e1, e2⟩ := Option.bind_eq_some_iff.mp e
  refine ⟨m, a, q, R, e1, fun x H' m' R' s r' => ?_⟩
  split at e2
  · rename_i b hb
    rw [hb] at r'; cases r'; cases e2
    exact ⟨b, rfl, k _ H' m' R' s (.bl _)⟩
  · cases e2
theorem pw_mAnd (ha : PT X x (tM X.K F G t)) (hb : PW X (.BoolOp .And (y :: rest) pos) (tM X.K F G u)) : PW X (.BoolOp .And (x :: y :: rest) pos) (tM X.K F G (mAnd t u)) := by
  refine (pw_and ha hb).weak fun σ H Q ⟨m, a, r, R, e, k⟩ => ?_
  obtain ⟨q, e1, e2⟩ := Option.bind_eq_some_iff.mp e
  refine ⟨m, a, q, R, e1, fun H' m' R' s => ?_⟩
  split at e2
  · rename_i hb
    rw [if_pos hb]
    exact ⟨m', q.2, r, R', e2, fun H2 m2 R2 s2 => k H2 m2 R2 (s.trans s2)⟩
  · rename_i hb
    rw [if_neg hb]
    cases e2
    exact k H' m' R' s
theorem pw_mOr (ha : PT X x (tM X.K F G t)) (hb : PW X (.BoolOp .Or (y :: rest) pos) (tM X.K F G u)) : PW X (.BoolOp .Or (x :: y :: rest) pos) (tM X.K F G (mOr t u)) := by
  refine (pw_or ha hb).weak fun σ H Q ⟨m, a, r, R, e, k⟩ => ?_
  obtain ⟨q, e1, e2⟩ := Option.bind_eq_some_iff.mp e
  refine ⟨m, a, q, R, e1, fun H' m' R' s => ?_⟩
  split at e2
  · rename_i hb
    rw [if_pos hb]
    cases e2
    exact k H' m' R' s
  · rename_i hb
    rw [if_neg hb]
    exact ⟨m', q.2, r, R', e2, fun H2 m2 R2 s2 => k H2 m2 R2 (s.trans s2)⟩
theorem pt_mNot (ha : PT X x (tM X.K F G t)) : PT X (.UnaryOp .Not x pos) (tM X.K F G (mNot t)) := by
  refine (pt_not ha).weak fun σ H Q ⟨m, a, r, R, e, k⟩ => ?_
  obtain ⟨q, e1, e2⟩ := Option.map_eq_some_iff.mp e
  subst e2
  exact ⟨m, a, q, R, e1, fun H' m' R' s => k H' m' R' s⟩
theorem pe_eIte {z : Expr} (hc : PT X z (tM X.K F G c)) (ha : PE X x (tE X.K F G e)) (hb : PE X y (tE X.K F G f)) : PE X (.IfExp z x y pos) (tE X.K F G (eIte c e f)) := by
  refine (pe_ifExp hc ha hb).weak fun σ H Q ⟨m, a, r, R, e, k⟩ => ?_
  obtain ⟨q, e1, e2⟩ := Option.bind_eq_some_iff.mp e
  refine ⟨m, a, q, R, e1, fun H' m' R' s => ?_⟩
  split at e2
  · rename_i hb
    rw [if_pos hb]
    exact ⟨m', q.2, r, R', e2, fun z H2 m2 R2 s2 r2 => k z H2 m2 R2 (s.trans s2) r2⟩
  · rename_i hb
    rw [if_neg hb]
    exact ⟨m', q.2, r, R', e2, fun z H2 m2 R2 s2 r2 => k z H2 m2 R2 (s.trans s2) r2⟩

/-! ### truth of a value -/
def truD : Option SObj → Option Bool
  | some (.dic kvs) => some (!kvs.isEmpty)
  | _ => none
def truV (S : List SObj) : AV → Option Bool
  | .non => some false
  | .bl b => some b
  | .int i => some (i != 0)
  | .str x => if x.length ≤ sizeLine then some ((x.length : Int) != 0) else none
  | .tup xs => some (!xs.isEmpty)
  | .lst xs => some (!xs.isEmpty)
  | .ref n => truD S[n]?
def mTru (o : MO) : MT := fun G a => (o G a).bind fun r => (cont r.2 r.1).bind fun c => (truV r.2.S c).map fun b => (b, r.2)
theorem Rps.empty {K : PySem.W.Frag} {H : Hp} {hot : Hot} {m : List Addr} {xs : List V} {vs : List AV} (r : Rps K H hot m xs vs) : xs.isEmpty = vs.isEmpty := by cases r <;> rfl
theorem RpD.empty {K : PySem.W.Frag} {H : Hp} {hot : Hot} {m : List Addr} : ∀ {xs : List (Key × V)} {vs : List (Str × AV)}, RpD K H hot m xs vs → xs.isEmpty = vs.isEmpty
  | [], [], _ => rfl
  | _ :: _, _ :: _, _ => rfl
  | [], _ :: _, h => h.elim
  | _ :: _, [], h => h.elim
theorem tru_read {a : AS} {m : List Addr} {σ : L2.St} {H : Hp} {v : AV} {x : V} {b : Bool} (R : Rl X.K F m a σ H) (h : RB X.K H (hotOf F m a σ) m x v) (e : truV a.S v = some b) : TruV X.K x H b := by
  cases v with
  | non => cases e; rw [h.non]; rfl
  | bl k => cases e; rw [h.bl]; rfl
  | int k => cases e; rw [h.int]; rfl
  | str k =>
    have e' : (if k.length ≤ sizeLine then some ((k.length : Int) != 0) else none) = some b := e
    split at e'
    · rename_i hl; cases e'; rw [h.str]; exact ⟨hl, rfl⟩
    · cases e'
  | tup xs =>
    cases e
    obtain ⟨p, vs, rfl, h1, r⟩ := h.tup
    exact .inr (.inl ⟨vs, h1.sqT, by rw [r.empty]⟩)
  | lst xs =>
    cases e
    obtain ⟨p, vs, rfl, h1, r⟩ := h.lst
    exact .inl ⟨vs, h1, by rw [r.empty]⟩
  | ref n =>
    have e' : truD a.S[n]? = some b := e
    cases q : a.S[n]? with
    | none => rw [q] at e'; cases e'
    | some o =>
      rw [q] at e'
      cases o with
      | lst _ => cases e'
      | dic kvs =>
        cases e'
        obtain ⟨p, vs, rfl, _, h1, r⟩ := RB.dic R h q
        exact .inr (.inr ⟨vs, h1, by rw [r.empty]⟩)
theorem pt_mTru {o : MO} (ha : PE X x (tO X.K F G o)) (he : ∀ whole, isTrue x X.env whole = (do let v ← whole; standAt x.pos; holding [v] (truthy v))) : PT X x (tM X.K F G (mTru o)) := by
  refine (pt_truth ha he).weak fun σ H Q ⟨m, a, r, R, e, k⟩ => ?_
  obtain ⟨q, e1, e⟩ := Option.bind_eq_some_iff.mp e
  obtain ⟨c, e2, e⟩ := Option.bind_eq_some_iff.mp e
  obtain ⟨b, e3, e4⟩ := Option.map_eq_some_iff.mp e
  subst e4
  exact ⟨m, a, q, R, e1, fun x H' m' R' s h => ⟨b, tru_read R' (h.cont R' e2) e3, k H' m' R' s⟩⟩

/-! ### argument lists -/
def aNil : MAs := fun _ a => some ([], a)
def aCons (e : ME) (t : MAs) : MAs := fun G a => (e G a).bind fun r => (t G r.2).map fun q => (r.1 :: q.1, q.2)
def osNil : MOs := fun _ a => some ([], a)
def osCons (e : MO) (t : MOs) : MOs := fun G a => (e G a).bind fun r => (t G r.2).map fun q => (r.1 :: q.1, q.2)
theorem pa_aNil : PA X [] (tAs X.K F G aNil) := pa_nil.weak fun σ H Q ⟨m, a, r, R, e, k⟩ => by cases e; exact k [] H m R .refl .nil
theorem pa_aCons {es : List Expr} {t : MAs} (ha : PE X x (tE X.K F G e)) (hr : PA X es (tAs X.K F G t)) (hs : starEach (x :: es) X.env = (false, eval x X.env) :: starEach es X.env) : PA X (x :: es) (tAs X.K F G (aCons e t)) := by
  refine (pa_cons ha hr hs).weak fun σ H Q ⟨m, a, r, R, e, k⟩ => ?_
  obtain ⟨q, e1, e⟩ := Option.bind_eq_some_iff.mp e
  obtain ⟨q', e2, e3⟩ := Option.map_eq_some_iff.mp e
  subst e3
  exact ⟨m, a, q, R, e1, fun x H1 m1 R1 s1 r1 => ⟨m1, q.2, q', R1, e2, fun xs H2 m2 R2 s2 r2 => k _ H2 m2 R2 (s1.trans s2) (.cons (r1.step R1 s2) r2)⟩⟩
theorem pa_osNil : PA X [] (tOs X.K F G osNil) := pa_nil.weak fun σ H Q ⟨m, a, r, R, e, k⟩ => by cases e; exact k [] H m R .refl trivial
theorem pa_osCons {es : List Expr} {o : MO} {t : MOs} (ha : PE X x (tO X.K F G o)) (hr : PA X es (tOs X.K F G t)) (hs : starEach (x :: es) X.env = (false, eval x X.env) :: starEach es X.env) : PA X (x :: es) (tOs X.K F G (osCons o t)) := by
  refine (pa_cons ha hr hs).weak fun σ H Q ⟨m, a, r, R, e, k⟩ => ?_
  obtain ⟨q, e1, e⟩ := Option.bind_eq_some_iff.mp e
  obtain ⟨q', e2, e3⟩ := Option.map_eq_some_iff.mp e
  subst e3
  exact ⟨m, a, q, R, e1, fun x H1 m1 R1 s1 r1 => ⟨m1, q.2, q', R1, e2, fun xs H2 m2 R2 s2 r2 => k _ H2 m2 R2 (s1.trans s2) ⟨r1.step R1 s2, r2⟩⟩⟩

/-! ### displays -/
def eTup (t : MAs) : ME := fun G a => (t G a).bind fun r => if r.1.length ≤ sizeLine then some (.tup r.1, r.2) else none
/-- a fresh list: frozen, or one of the store -/
def eFrz (t : MAs) : ME := fun G a => (t G a).map fun r => (.lst r.1, r.2)
def eLay (t : MAs) : ME := fun G a => (t G a).map fun r => (.ref r.2.S.length, r.2.lay (.lst r.1))
def fLst (t : MAs) : MAs := fun G a => (t G a).bind fun r => if r.1.length ≤ sizeLine then some r else none
theorem pe_eTup {es : List Expr} {t : MAs} {k : Nat} (h : PA X es (tAs X.K F G t)) : PE X (.Tuple es k pos) (tE X.K F G (eTup t)) := by
  refine (pe_tupZ h).weak fun σ H Q ⟨m, a, r, R, e, k⟩ => ?_
  obtain ⟨q, e1, e⟩ := Option.bind_eq_some_iff.mp e
  split at e
  · rename_i hl
    cases e
    exact ⟨m, a, q, R, e1, fun xs H1 m1 R1 s1 r1 => ⟨by rw [r1.length]; exact hl, fun p o hp ho => k _ _ m1 (R1.new hp) (s1.trans (.new hp)) (R1.newTup hp ho r1)⟩⟩
  · cases e
theorem pe_fLst {es : List Expr} {t : MAs} (h : PA X es (tAs X.K F G t)) : PE X (.List es pos) (tF X.K F G (fLst t)) := by
  refine (pe_lst h).weak fun σ H Q ⟨m, a, r, R, e, k⟩ => ?_
  obtain ⟨q, e1, e⟩ := Option.bind_eq_some_iff.mp e
  split at e
  · rename_i hl
    cases e
    exact ⟨m, a, r, R, e1, fun xs H1 m1 R1 s1 r1 => ⟨by rw [r1.length]; exact hl, fun p hp => k p xs H1 m1 R1 s1 hp r1⟩⟩
  · cases e
theorem pe_eFrz {t : MAs} (h : PE X x (tF X.K F G t)) : PE X x (tE X.K F G (eFrz t)) := by
  refine h.weak fun σ H Q ⟨m, a, r, R, e, k⟩ => ?_
  obtain ⟨q, e1, e2⟩ := Option.map_eq_some_iff.mp e
  subst e2
  exact ⟨m, a, q, R, e1, fun p vs H' m' R' s hp r => k _ _ m' (R'.new hp) (s.trans (.new hp)) (R'.newLst hp r)⟩
theorem pe_eLay {t : MAs} (h : PE X x (tF X.K F G t)) : PE X x (tE X.K F G (eLay t)) := by
  refine h.weak fun σ H Q ⟨m, a, r, R, e, k⟩ => ?_
  obtain ⟨q, e1, e2⟩ := Option.map_eq_some_iff.mp e
  subst e2
  exact ⟨m, a, q, R, e1, fun p vs H' m' R' s hp r => k _ _ (m' ++ [p]) (R'.layLst hp r) (s.trans (Rl.layStp hp)) R'.layRef⟩
end
end Pyx
end
section
set_option maxRecDepth 100000
namespace Pyx
open PySem PySem.Spec PyProof.Rows L2

/-! ### subscripts -/
def dGet (kvs : List (Str × AV)) (k : Str) : Option AV := (kvs.find? fun kv => decide (kv.1 = k)).map (·.2)
def ixD (k : Str) : Option SObj → Option AV
  | some (.dic kvs) => dGet kvs k
  | _ => none
def ixS (z : Str) (k : Int) : Option AV := if z.length ≤ sizeLine then (atI z.cps.toList k).map fun c => .str ⟨#[c]⟩ else none
def opIx : Op2
  | _, .lst xs, .int k => atI xs k
  | _, .tup xs, .int k => atI xs k
  | _, .str z, .int k => ixS z k
  | S, .ref n, .str k => ixD k S[n]?
  | _, _, _ => none
section
variable {X : Cx}
def rIxD : R2 := fun x y H Q => ∃ a v, x = .ref a ∧ DGet H a y (some v) ∧ Q v H
theorem ix_dict (hu : X.A.units + 1 < cLine) : IxR X rIxD := by
  intro value slice pins s σ H x y v u Q I rx ry h hs
  obtain ⟨a, z, rfl, g, q⟩ := h
  cases rx
  have hT := dict_typeIs I g
  unfold subscriptTail
  refine wpAny_bind ?_
  rw [getitemInPython_of_ne hT.not_modules]
  refine wpAny_bind (wpAny_specialOf hT PySem.F.slot_dict_getitem.lookup ?_)
  have fin : wpAny (model X.prog X.w) X.A (subscripted slice false (.ref a) u) (fun r s₃ => wpAny (model X.prog X.w) X.A (letTemporaryGo value (.ref a) r >>= fun _ => pure r) (EP X pins σ Q) X.xe s₃) X.xe s := by
    rw [hs]
    exact wpAny_operating (wpAny_mono (d_getItem (A := X.A) (E := X.xe) hu I g ry fun w' s3 I3 rw' => (⟨z, H, I3, rw', q⟩ : EP X pins σ Q w' s3)) (fun r s₃ h₃ => wpAny_bind (wpAny_letTemporaryGo (wpAny_pure h₃))) fun _ _ x => x)
  first
    | exact wpAny_pure (wpAny_bind fin)
    | exact wpAny_bind fin
    | exact fin
theorem atI_map {α β : Type} {xs : List α} {ys : List β} (hl : ys.length = xs.length) {i : Int} {v : α} (h : atI xs i = some v) : ∃ j : Nat, xs[j]? = some v ∧ ∀ w, ys[j]? = some w → atI ys i = some w := by
  unfold atI at h ⊢
  obtain ⟨j, e1, e2⟩ := Option.bind_eq_some_iff.mp h
  refine ⟨j, e2, fun w e3 => ?_⟩
  rw [hl, e1]
  exact e3
theorem Rps.atI {K : PySem.W.Frag} {H : Hp} {hot : Hot} {m : List Addr} {xs : List V} {vs : List AV} (r : Rps K H hot m xs vs) {i : Int} {v : AV} (h : L2.atI vs i = some v) : ∃ x, L2.atI xs i = some x ∧ Rp K H hot m x v := by
  obtain ⟨j, e1, e2⟩ := atI_map r.length h
  obtain ⟨x, e3, r1⟩ := r.get e1
  exact ⟨x, e2 x e3, r1⟩
theorem RpD.get {K : PySem.W.Frag} {H : Hp} {hot : Hot} {m : List Addr} {k : Str} {v : AV} : ∀ {xs : List (Key × V)} {vs : List (Str × AV)}, RpD K H hot m xs vs → dGet vs k = some v → ∃ x, valV xs (Sum.inr k) = some x ∧ Rp K H hot m x v
  | [], [], _, h => by cases h
  | (k', x) :: xs, (s, w) :: vs, ⟨e, r, t⟩, h => by
    subst e
    by_cases q : s = k
    · refine ⟨x, valV_pos (show ((Sum.inr s : Key), x).1 = Sum.inr k by rw [q]), ?_⟩
      have : w = v := by simpa [dGet, q] using h
      exact this ▸ r
    · rw [valV_neg (fun z => q (Sum.inr.inj z))]
      exact RpD.get t (by simpa [dGet, q] using h)
  | [], _ :: _, h, _ => h.elim
  | _ :: _, [], h, _ => h.elim
theorem opIx_ok (hu : X.A.units + 100 < cLine) : IxR X (rOp X.K opIx) := by
  intro value slice pins s σ H x y v u Q I rx ry ⟨F, m, a, σ', cx, cy, w, R, bx, by_, e, A⟩ hs
  have key : ∀ {c d}, cx = c → cy = d → True := fun _ _ => trivial
  cases cx with
  | lst xs =>
    cases cy with
    | int k =>
      have e' : L2.atI xs k = some w := e
      obtain ⟨p, vs, rfl, h1, r⟩ := bx.lst
      obtain ⟨z, h2, r2⟩ := r.atI e'
      rw [by_.int] at ry
      exact ix_list value slice pins s σ H _ _ v u Q I rx ry ⟨p, vs, k, z, rfl, rfl, h1, h2, A.here R r2⟩ hs
    | _ => cases e
  | tup xs =>
    cases cy with
    | int k =>
      have e' : L2.atI xs k = some w := e
      obtain ⟨p, vs, rfl, h1, r⟩ := bx.tup
      obtain ⟨z, h2, r2⟩ := r.atI e'
      rw [by_.int] at ry
      exact ix_tup value slice pins s σ H _ _ v u Q I rx ry ⟨p, vs, k, z, rfl, rfl, h1.sqT, h2, A.here R r2⟩ hs
    | _ => cases e
  | str z =>
    cases cy with
    | int k =>
      have e' : (if z.length ≤ sizeLine then (L2.atI z.cps.toList k).map fun c => AV.str ⟨#[c]⟩ else none) = some w := e
      split at e'
      · rename_i hl
        obtain ⟨c, e1, e2⟩ := Option.map_eq_some_iff.mp e'
        subst e2
        rw [bx.str] at rx
        rw [by_.int] at ry
        exact ix_str value slice pins s σ H _ _ v u Q I rx ry ⟨z, k, c, rfl, rfl, hl, e1, A.here R (.str _)⟩ hs
      · cases e'
    | _ => cases e
  | ref n =>
    cases cy with
    | str k =>
      have e' : ixD k a.S[n]? = some w := e
      cases q : a.S[n]? with
      | none => rw [q] at e'; cases e'
      | some o =>
        rw [q] at e'
        cases o with
        | lst _ => cases e'
        | dic kvs =>
          obtain ⟨p, vs, rfl, hm, h1, r⟩ := RB.dic R bx q
          obtain ⟨z, h2, r2⟩ := r.get e'
          have g : DGet H p (kV (Sum.inr k)) (valV vs (Sum.inr k)) := DGet.k h1
          rw [h2] at g
          rw [by_.str] at ry
          exact ix_dict (by omega) value slice pins s σ H _ _ v u Q I rx ry ⟨p, z, rfl, g, A.here R r2⟩ hs
    | _ => cases e
  | _ => cases e
variable {F : Hot} {G : Gm} {x y : Expr} {pos : Pos}
theorem pe_sub2 {oa ob : MO} (hu : X.A.units + 100 < cLine) (ha : PE X x (tO X.K F G oa)) (hb : PE X y (tO X.K F G ob)) (hs : PlainIx y) : PE X (.Subscript x y pos) (tE X.K F G (eBin opIx oa ob)) :=
  (pe_ix (opIx_ok hu) ha hb hs).weak fun _ _ _ => op2_read

/-! ### slices -/
def cutA (xs : List AV) (lo hi : Option Int) : List AV := (xs.drop (HT.sIx xs.length 0 lo)).take (HT.sIx xs.length xs.length hi - HT.sIx xs.length 0 lo)
theorem Rps.cut {K : PySem.W.Frag} {H : Hp} {hot : Hot} {m : List Addr} {xs : List V} {vs : List AV} (r : Rps K H hot m xs vs) (lo hi : Option Int) : Rps K H hot m (cutV xs lo hi) (cutA vs lo hi) := by
  unfold cutV cutA
  rw [r.length]
  exact (r.drop _).take _
abbrev MP := Gm → AS → Option (Option Int × AS)
def pNone : MP := fun _ a => some (none, a)
def asInt : AV → Option Int
  | .int i => some i
  | _ => none
def pSome (e : ME) : MP := fun G a => (e G a).bind fun r => (asInt r.1).map fun i => (some i, r.2)
def tP (K : PySem.W.Frag) (F : Hot) (G : Gm) (e : MP) : TO := fun σ H Q => ∃ m a r, Rl K F m a σ H ∧ e G a = some r ∧ ∀ H' m', Rl K F m' r.2 σ H' → Stp m a σ H m' r.2 σ H' → Q r.1 H'
theorem po_pNone : PO X none (tP X.K F G pNone) := ⟨fun pins s σ H Q I ⟨m, a, r, R, e, k⟩ => by
  cases e
  exact po_none.run pins s σ H Q I (k H m R .refl)⟩
theorem asInt_of {v : AV} {i : Int} (h : asInt v = some i) : v = .int i := by cases v <;> cases h; rfl
theorem po_pSome {e : ME} (h : PE X x (tE X.K F G e)) : PO X (some x) (tP X.K F G (pSome e)) := ⟨fun pins s σ H Q I ⟨m, a, r, R, e, k⟩ => by
  obtain ⟨q, e1, e2⟩ := Option.bind_eq_some_iff.mp e
  obtain ⟨i, e3, e4⟩ := Option.map_eq_some_iff.mp e2
  subst e4
  refine (po_some h).run pins s σ H Q I ⟨m, a, q, R, e1, fun x H' m' R' s r' => ?_⟩
  rw [asInt_of e3] at r'
  cases r'
  exact ⟨i, rfl, k H' m' R' s⟩⟩
def slF : AV → Option Int → Option Int → Option AV
  | .lst xs, lo, hi => some (.lst (cutA xs lo hi))
  | .tup xs, lo, hi => some (.tup (cutA xs lo hi))
  | _, _, _ => none
def eSl (o : MO) (lo hi : MP) : ME := fun G a => (o G a).bind fun r => (lo G r.2).bind fun r1 => (hi G r1.2).bind fun r2 => (cont r2.2 r.1).bind fun c => (slF c r1.1 r2.1).map fun v => (v, r2.2)
def slL : AV → Option Int → Option Int → Option (List AV)
  | .lst xs, lo, hi => some (cutA xs lo hi)
  | _, _, _ => none
def fSl (o : MO) (lo hi : MP) : MAs := fun G a => (o G a).bind fun r => (lo G r.2).bind fun r1 => (hi G r1.2).bind fun r2 => (cont r2.2 r.1).bind fun c => (slL c r1.1 r2.1).map fun v => (v, r2.2)
def rSlG (K : PySem.W.Frag) : V → Option Int → Option Int → Hp → VK → Prop := fun x lo hi H Q => rSlL K x lo hi H Q ∨ rSlZ K x lo hi H Q
theorem sl_g : SlR X (rSlG X.K) := sl_list.or sl_tupZ
theorem pe_eSl {o : MO} {lo hi : Option Expr} {ml mh : MP} {p2 : Pos} (ho : PE X x (tO X.K F G o)) (hl : PO X lo (tP X.K F G ml)) (hh : PO X hi (tP X.K F G mh)) : PE X (.Subscript x (.Slice lo hi none p2) pos) (tE X.K F G (eSl o ml mh)) := by
  refine (pe_slice sl_g ho hl hh).weak fun σ H Q ⟨m, a, r, R, e, k⟩ => ?_
  obtain ⟨q, e1, e⟩ := Option.bind_eq_some_iff.mp e
  obtain ⟨q1, e2, e⟩ := Option.bind_eq_some_iff.mp e
  obtain ⟨q2, e3, e⟩ := Option.bind_eq_some_iff.mp e
  obtain ⟨c, e4, e⟩ := Option.bind_eq_some_iff.mp e
  obtain ⟨v, e5, e6⟩ := Option.map_eq_some_iff.mp e
  subst e6
  refine ⟨m, a, q, R, e1, fun x H1 m1 R1 s1 r1 => ⟨m1, q.2, q1, R1, e2, fun H2 m2 R2 s2 => ⟨m2, q1.2, q2, R2, e3, fun H3 m3 R3 s3 => ?_⟩⟩⟩
  have bx := ((r1.step R1 s2).step R2 s3).cont R3 e4
  have s := (s1.trans s2).trans s3
  cases c with
  | lst xs =>
    cases e5
    obtain ⟨p, vs, rfl, h1, r⟩ := bx.lst
    exact .inl ⟨p, vs, rfl, h1, fun p' hp => k _ _ m3 (R3.new hp) (s.trans (.new hp)) (R3.newLst hp (r.cut _ _))⟩
  | tup xs =>
    cases e5
    obtain ⟨p, vs, rfl, h1, r⟩ := bx.tup
    refine .inr ⟨p, vs, rfl, h1.sqT, fun hw => ?_, fun _ p' o hp ho => k _ _ m3 (R3.new hp) (s.trans (.new hp)) (R3.newTup hp ho (r.cut _ _))⟩
    refine k _ _ m3 R3 s ?_
    have e7 : cutA xs q1.1 q2.1 = xs := by
      unfold cutA
      rw [r.length] at hw
      rw [hw.1, hw.2]
      simp
    rw [e7]
    exact .tup h1 r
  | _ => cases e5
theorem pe_fSl {o : MO} {lo hi : Option Expr} {ml mh : MP} {p2 : Pos} (ho : PE X x (tO X.K F G o)) (hl : PO X lo (tP X.K F G ml)) (hh : PO X hi (tP X.K F G mh)) : PE X (.Subscript x (.Slice lo hi none p2) pos) (tF X.K F G (fSl o ml mh)) := by
  refine (pe_slice sl_list ho hl hh).weak fun σ H Q ⟨m, a, r, R, e, k⟩ => ?_
  obtain ⟨q, e1, e⟩ := Option.bind_eq_some_iff.mp e
  obtain ⟨q1, e2, e⟩ := Option.bind_eq_some_iff.mp e
  obtain ⟨q2, e3, e⟩ := Option.bind_eq_some_iff.mp e
  obtain ⟨c, e4, e⟩ := Option.bind_eq_some_iff.mp e
  obtain ⟨v, e5, e6⟩ := Option.map_eq_some_iff.mp e
  subst e6
  refine ⟨m, a, q, R, e1, fun x H1 m1 R1 s1 r1 => ⟨m1, q.2, q1, R1, e2, fun H2 m2 R2 s2 => ⟨m2, q1.2, q2, R2, e3, fun H3 m3 R3 s3 => ?_⟩⟩⟩
  have bx := ((r1.step R1 s2).step R2 s3).cont R3 e4
  have s := (s1.trans s2).trans s3
  cases c with
  | lst xs =>
    cases e5
    obtain ⟨p, vs, rfl, h1, r⟩ := bx.lst
    exact ⟨p, vs, rfl, h1, fun p' hp => k _ _ _ m3 R3 s hp (r.cut _ _)⟩
  | _ => cases e5
/-- a sum of two lists, fresh -/
def catL : AV → AV → Option (List AV)
  | .lst xs, .lst ys => if xs.length + ys.length ≤ sizeLine then some (xs ++ ys) else none
  | _, _ => none
def fCat (oa ob : MO) : MAs := fun G a => (oa G a).bind fun r1 => (ob G r1.2).bind fun r2 => (cont r2.2 r1.1).bind fun x => (cont r2.2 r2.1).bind fun y => (catL x y).map fun v => (v, r2.2)
theorem pe_fCat {oa ob : MO} (ha : PE X x (tO X.K F G oa)) (hb : PE X y (tO X.K F G ob)) : PE X (.BinOp x .Add y pos) (tF X.K F G (fCat oa ob)) := by
  refine (pe_op op_catR ha hb).weak fun σ H Q ⟨m, a, r, R, e, k⟩ => ?_
  obtain ⟨r1, e1, e⟩ := Option.bind_eq_some_iff.mp e
  obtain ⟨r2, e2, e⟩ := Option.bind_eq_some_iff.mp e
  obtain ⟨cx, e3, e⟩ := Option.bind_eq_some_iff.mp e
  obtain ⟨cy, e4, e⟩ := Option.bind_eq_some_iff.mp e
  obtain ⟨v, e5, e6⟩ := Option.map_eq_some_iff.mp e
  subst e6
  refine ⟨m, a, r1, R, e1, fun x H1 m1 R1 s1 h1 => ⟨m1, r1.2, r2, R1, e2, fun y H2 m2 R2 s2 h2 => ?_⟩⟩
  have bx := (h1.step R1 s2).cont R2 e3
  have by_ := h2.cont R2 e4
  cases cx with
  | lst xs =>
    cases cy with
    | lst ys =>
      have e5' : (if xs.length + ys.length ≤ sizeLine then some (xs ++ ys) else none) = some v := e5
      split at e5'
      · rename_i hl
        cases e5'
        obtain ⟨p, vs, rfl, g1, q1⟩ := bx.lst
        obtain ⟨q, ws, rfl, g2, q2⟩ := by_.lst
        exact ⟨p, q, vs, ws, rfl, rfl, g1, g2, by rw [q1.length, q2.length]; exact hl, fun p' hp => k _ _ _ m2 R2 (s1.trans s2) hp (q1.append q2)⟩
      · cases e5'
    | _ => cases e5
  | _ => cases e5
end
end Pyx
end
section
set_option maxRecDepth 100000
namespace Pyx
open PySem PySem.Spec PyProof.Rows L2

/-! ### calls of built-ins, by the abstract values -/
abbrev Bi := List SObj → List AV → Option AV
abbrev BiF := List SObj → List AV → Option (List AV)
def rCa (K : PySem.W.Frag) (f : Bi) : List V → Hp → VK → Prop := fun xs H Q => ∃ F m a σ cs v, Rl K F m a σ H ∧ RBs K H (hotOf F m a σ) m xs cs ∧ f a.S cs = some v ∧ Aft K F m a σ H v Q
def rCaF (K : PySem.W.Frag) (f : BiF) : List V → Hp → VK → Prop := fun xs H Q => ∃ F m a σ cs v, Rl K F m a σ H ∧ RBs K H (hotOf F m a σ) m xs cs ∧ f a.S cs = some v ∧ ∀ p vs, H p = none → Rps' K F m a σ H vs v → Q (.ref p) (upd H p (.lst vs))
def eBi (f : Bi) (os : MOs) : ME := fun G a => (os G a).bind fun r => (conts r.2 r.1).bind fun cs => (f r.2.S cs).map fun v => (v, r.2)
def fBi (f : BiF) (os : MOs) : MAs := fun G a => (os G a).bind fun r => (conts r.2 r.1).bind fun cs => (f r.2.S cs).map fun v => (v, r.2)
section
variable {X : Cx} {F : Hot} {G : Gm}
theorem bi_read {f : Bi} {os : MOs} {σ : L2.St} {H : Hp} {Q : VK} (h : tE X.K F G (eBi f os) σ H Q) : tCB (rCa X.K f) (tOs X.K F G os) σ H Q := by
  obtain ⟨m, a, r, R, e, k⟩ := h
  obtain ⟨q, e1, e⟩ := Option.bind_eq_some_iff.mp e
  obtain ⟨cs, e2, e⟩ := Option.bind_eq_some_iff.mp e
  obtain ⟨v, e3, e4⟩ := Option.map_eq_some_iff.mp e
  subst e4
  exact ⟨m, a, q, R, e1, fun xs H1 m1 R1 s1 h1 => ⟨F, m1, q.2, σ, cs, v, R1, h1.conts R1 e2, e3, fun z H' R' s' r' => k z H' m1 R' (s1.trans s') r'⟩⟩
theorem fbi_read {f : BiF} {os : MOs} {σ : L2.St} {H : Hp} {Q : VK} (h : tF X.K F G (fBi f os) σ H Q) : tCB (rCaF X.K f) (tOs X.K F G os) σ H Q := by
  obtain ⟨m, a, r, R, e, k⟩ := h
  obtain ⟨q, e1, e⟩ := Option.bind_eq_some_iff.mp e
  obtain ⟨cs, e2, e⟩ := Option.bind_eq_some_iff.mp e
  obtain ⟨v, e3, e4⟩ := Option.map_eq_some_iff.mp e
  subst e4
  exact ⟨m, a, q, R, e1, fun xs H1 m1 R1 s1 h1 => ⟨F, m1, q.2, σ, cs, v, R1, h1.conts R1 e2, e3, fun p vs hp r => k p vs H1 m1 R1 s1 hp r⟩⟩
theorem RBs.one {K : PySem.W.Frag} {H : Hp} {hot : Hot} {m : List Addr} {xs : List V} {c : AV} (h : RBs K H hot m xs [c]) : ∃ x, xs = [x] ∧ RB K H hot m x c := by
  match xs, h with
  | [x], ⟨h, _⟩ => exact ⟨x, rfl, h⟩
  | x :: y :: r, ⟨_, h⟩ => exact h.elim
theorem RBs.two {K : PySem.W.Frag} {H : Hp} {hot : Hot} {m : List Addr} {xs : List V} {c d : AV} (h : RBs K H hot m xs [c, d]) : ∃ x y, xs = [x, y] ∧ RB K H hot m x c ∧ RB K H hot m y d := by
  match xs, h with
  | [x], ⟨_, h⟩ => exact h.elim
  | [x, y], ⟨h, h', _⟩ => exact ⟨x, y, rfl, h, h'⟩
  | x :: y :: z :: r, ⟨_, _, h⟩ => exact h.elim

/-! ### ints among the values -/
def asInts : List AV → Option (List Int)
  | [] => some []
  | .int i :: r => (asInts r).map (i :: ·)
  | _ => none
theorem asInts_of : ∀ {xs : List AV} {ns : List Int}, asInts xs = some ns → xs = ns.map AV.int
  | [], _, h => by cases h; rfl
  | .int i :: r, ns, h => by
    obtain ⟨ms, e1, e2⟩ := Option.map_eq_some_iff.mp h
    subst e2
    rw [asInts_of e1]; rfl
  | .non :: _, _, h | .bl _ :: _, _, h | .str _ :: _, _, h | .tup _ :: _, _, h | .lst _ :: _, _, h | .ref _ :: _, _, h => by cases h
theorem asInts_map : ∀ ns : List Int, asInts (ns.map AV.int) = some ns
  | [] => rfl
  | n :: r => by show (asInts (r.map AV.int)).map (n :: ·) = _; rw [asInts_map r]; rfl
def asBls : List AV → Option (List Bool)
  | [] => some []
  | .bl i :: r => (asBls r).map (i :: ·)
  | _ => none
theorem asBls_of : ∀ {xs : List AV} {ns : List Bool}, asBls xs = some ns → xs = ns.map AV.bl
  | [], _, h => by cases h; rfl
  | .bl i :: r, ns, h => by
    obtain ⟨ms, e1, e2⟩ := Option.map_eq_some_iff.mp h
    subst e2
    rw [asBls_of e1]; rfl
  | .non :: _, _, h | .int _ :: _, _, h | .str _ :: _, _, h | .tup _ :: _, _, h | .lst _ :: _, _, h | .ref _ :: _, _, h => by cases h
theorem asBls_map : ∀ ns : List Bool, asBls (ns.map AV.bl) = some ns
  | [] => rfl
  | n :: r => by show (asBls (r.map AV.bl)).map (n :: ·) = _; rw [asBls_map r]; rfl
def maxI : List Int → Int
  | [] => 0
  | x :: xs => xs.foldl max x
def minI : List Int → Int
  | [] => 0
  | x :: xs => xs.foldl min x
theorem foldl_max : ∀ (xs : List Int) (x : Int), (xs.foldl max x = x ∨ xs.foldl max x ∈ xs) ∧ x ≤ xs.foldl max x ∧ ∀ y ∈ xs, y ≤ xs.foldl max x
  | [], x => ⟨.inl rfl, Int.le_refl _, fun y h => by cases h⟩
  | z :: xs, x => by
    obtain ⟨h1, h2, h3⟩ := foldl_max xs (max x z)
    have e : (z :: xs).foldl max x = xs.foldl max (max x z) := rfl
    rw [e]
    refine ⟨?_, by omega, fun y hy => ?_⟩
    · rcases h1 with h1 | h1
      · rw [h1]
        by_cases q : x ≤ z
        · rw [Int.max_eq_right q]; exact .inr List.mem_cons_self
        · rw [Int.max_eq_left (by omega)]; exact .inl rfl
      · exact .inr (List.mem_cons_of_mem _ h1)
    · rcases List.mem_cons.mp hy with rfl | hy
      · omega
      · exact h3 y hy
theorem foldl_min : ∀ (xs : List Int) (x : Int), (xs.foldl min x = x ∨ xs.foldl min x ∈ xs) ∧ xs.foldl min x ≤ x ∧ ∀ y ∈ xs, xs.foldl min x ≤ y
  | [], x => ⟨.inl rfl, Int.le_refl _, fun y h => by cases h⟩
  | z :: xs, x => by
    obtain ⟨h1, h2, h3⟩ := foldl_min xs (min x z)
    have e : (z :: xs).foldl min x = xs.foldl min (min x z) := rfl
    rw [e]
    refine ⟨?_, by omega, fun y hy => ?_⟩
    · rcases h1 with h1 | h1
      · rw [h1]
        by_cases q : x ≤ z
        · rw [Int.min_eq_left q]; exact .inl rfl
        · rw [Int.min_eq_right (by omega)]; exact .inr List.mem_cons_self
      · exact .inr (List.mem_cons_of_mem _ h1)
    · rcases List.mem_cons.mp hy with rfl | hy
      · omega
      · exact h3 y hy
theorem maxI_mem {ns : List Int} (h : ns ≠ []) : maxI ns ∈ ns := by
  cases ns with
  | nil => exact absurd rfl h
  | cons x xs =>
    rcases (foldl_max xs x).1 with e | e
    · show List.foldl max x xs ∈ _
      rw [e]; exact List.mem_cons_self
    · exact List.mem_cons_of_mem _ e
theorem maxI_ge {ns : List Int} : ∀ y ∈ ns, y ≤ maxI ns := by
  cases ns with
  | nil => intro y h; cases h
  | cons x xs =>
    intro y hy
    rcases List.mem_cons.mp hy with rfl | hy
    · exact (foldl_max xs y).2.1
    · exact (foldl_max xs x).2.2 y hy
theorem minI_mem {ns : List Int} (h : ns ≠ []) : minI ns ∈ ns := by
  cases ns with
  | nil => exact absurd rfl h
  | cons x xs =>
    rcases (foldl_min xs x).1 with e | e
    · show List.foldl min x xs ∈ _
      rw [e]; exact List.mem_cons_self
    · exact List.mem_cons_of_mem _ e
theorem minI_le {ns : List Int} : ∀ y ∈ ns, minI ns ≤ y := by
  cases ns with
  | nil => intro y h; cases h
  | cons x xs =>
    intro y hy
    rcases List.mem_cons.mp hy with rfl | hy
    · exact (foldl_min xs y).2.1
    · exact (foldl_min xs x).2.2 y hy
theorem maxI_uniq {ns : List Int} {m : Int} (h : m ∈ ns) (g : ∀ y ∈ ns, y ≤ m) : m = maxI ns :=
  Int.le_antisymm (maxI_ge m h) (g _ (maxI_mem fun e => by subst e; cases h))
theorem minI_uniq {ns : List Int} {m : Int} (h : m ∈ ns) (g : ∀ y ∈ ns, m ≤ y) : m = minI ns :=
  Int.le_antisymm (g _ (minI_mem fun e => by subst e; cases h)) (minI_le m h)

/-! ### len, int, abs, sum, max, min, any, all, tuple -/
def biLen : Bi
  | _, [.lst xs] => some (.int xs.length)
  | _, [.tup xs] => some (.int xs.length)
  | _, [.str z] => if z.length ≤ sizeLine then some (.int z.length) else none
  | _, _ => none
def biInt : Bi
  | _, [.int i] => some (.int i)
  | _, [.bl b] => some (.int (if b then 1 else 0))
  | _, _ => none
def biAbs : Bi
  | _, [.int i] => some (.int (if i < 0 then -i else i))
  | _, _ => none
def biSum : Bi
  | _, [.lst xs] => (asInts xs).map fun ns => .int ns.sum
  | _, [.tup xs] => (asInts xs).map fun ns => .int ns.sum
  | _, _ => none
def pickI (f : List Int → Int) (xs : List AV) : Option AV := (asInts xs).bind fun ns => if ns.isEmpty then none else some (.int (f ns))
def biMax : Bi
  | _, [.int i, .int j] => some (.int (if j > i then j else i))
  | _, [.lst xs] => pickI maxI xs
  | _, [.tup xs] => pickI maxI xs
  | _, _ => none
def biMin : Bi
  | _, [.int i, .int j] => some (.int (if j < i then j else i))
  | _, [.lst xs] => pickI minI xs
  | _, _ => none
def biAny : Bi
  | _, [.lst xs] => (asBls xs).map fun bs => .bl (bs.any id)
  | _, _ => none
def biAll : Bi
  | _, [.lst xs] => (asBls xs).map fun bs => .bl (bs.all id)
  | _, _ => none
def biTuple : Bi
  | _, [.lst xs] => some (.tup xs)
  | _, [.tup xs] => some (.tup xs)
  | _, _ => none

theorem biLen_ok : CallR X (.builtin "len") (rCa X.K biLen) := by
  intro pins s σ H xs us Q I r ⟨F, m, a, σ', cs, v, R, b, e, A⟩
  unfold biLen at e
  split at e
  · cases e
    obtain ⟨x, rfl, b1⟩ := b.one
    obtain ⟨p, vs, rfl, h1, r1⟩ := b1.lst
    exact call_len pins s σ H _ us Q I r ⟨_, _, rfl, .inl ⟨vs, h1, r1.length.symm⟩, A.here R (.int _)⟩
  · cases e
    obtain ⟨x, rfl, b1⟩ := b.one
    obtain ⟨p, vs, rfl, h1, r1⟩ := b1.tup
    exact call_len pins s σ H _ us Q I r ⟨_, _, rfl, .inr ⟨vs, h1.sqT, r1.length.symm⟩, A.here R (.int _)⟩
  · split at e
    · rename_i hl
      cases e
      obtain ⟨x, rfl, b1⟩ := b.one
      rw [b1.str] at r
      exact call_len pins s σ H _ us Q I r ⟨_, _, rfl, ⟨hl, rfl⟩, A.here R (.int _)⟩
    · cases e
  · cases e
theorem biInt_ok : CallR X (.type "int") (rCa X.K biInt) := by
  intro pins s σ H xs us Q I r ⟨F, m, a, σ', cs, v, R, b, e, A⟩
  unfold biInt at e
  split at e
  · cases e
    obtain ⟨x, rfl, b1⟩ := b.one
    rw [b1.int] at r
    exact call_int1 pins s σ H _ us Q I r (.inl ⟨_, rfl, A.here R (.int _)⟩)
  · cases e
    obtain ⟨x, rfl, b1⟩ := b.one
    rw [b1.bl] at r
    exact call_int1 pins s σ H _ us Q I r (.inr ⟨_, rfl, A.here R (.int _)⟩)
  · cases e
theorem biAbs_ok : CallR X (.builtin "abs") (rCa X.K biAbs) := by
  intro pins s σ H xs us Q I r ⟨F, m, a, σ', cs, v, R, b, e, A⟩
  unfold biAbs at e
  split at e
  · cases e
    obtain ⟨x, rfl, b1⟩ := b.one
    rw [b1.int] at r
    exact call_abs pins s σ H _ us Q I r ⟨_, rfl, A.here R (.int _)⟩
  · cases e
theorem sum_tup (hc : X.calm = true) {pins : List (Addr × PySem.Obj)} {s : Shared} {σ : L2.St} {H : Hp} {p : Addr} {ns : List Int} {Q : Value → Shared → Prop} (I : Inv X pins σ H s) (h : SqT X.K H p (ns.map V.int))
    (hQ : ∀ s' t, Inv X pins σ H s' → Q (.int ns.sum t) s') : wpAny (model X.prog X.w) X.A (call (.builtin "sum") [.ref p]) Q X.xe s := by
  obtain ⟨its, rv, ht, _⟩ := I.tuple h
  have hi := rv.ints
  obtain ⟨xs, hx⟩ := hi.allInts.items
  have hn : numsOf its.toArray.toList = ns := by rw [show its.toArray.toList = its from rfl, hi.numsOf]
  obtain ⟨o, ho, hcl, n, hd⟩ := ht
  have hl : s.heap.IsTuple p its.toArray := ⟨o, ho, hcl, n, hd⟩
  rw [hx] at hl hn
  rw [nums_intItems] at hn
  refine PySem.W.ktm_sumG (I.ok.hd hc) hl fun h' tk t' hk => ?_
  rw [preSum_eq, List.take_of_length_le (by simp), hn]
  exact hQ _ t' (I.kept (t' := tk) hk)
theorem biSum_ok (hc : X.calm = true) : CallR X (.builtin "sum") (rCa X.K biSum) := by
  intro pins s σ H xs us Q I r ⟨F, m, a, σ', cs, v, R, b, e, A⟩
  unfold biSum at e
  split at e
  · obtain ⟨ns, e1, e2⟩ := Option.map_eq_some_iff.mp e
    subst e2
    have := asInts_of e1; subst this
    obtain ⟨x, rfl, b1⟩ := b.one
    obtain ⟨p, vs, rfl, h1, r1⟩ := b1.lst
    rw [r1.of_ints] at h1
    exact cr_sum hc pins s σ H _ us Q I r ⟨p, ns, rfl, h1, A.here R (.int _)⟩
  · obtain ⟨ns, e1, e2⟩ := Option.map_eq_some_iff.mp e
    subst e2
    have := asInts_of e1; subst this
    obtain ⟨x, rfl, b1⟩ := b.one
    obtain ⟨p, vs, rfl, h1, r1⟩ := b1.tup
    rw [r1.of_ints] at h1
    rw [Vals.ref1 r]
    exact sum_tup hc I h1.sqT fun s' t I' => ⟨.int _, H, I', ⟨_, rfl⟩, A.here R (.int _)⟩
  · cases e
theorem dpAll_ints {K : PySem.W.Frag} {H : Hp} : ∀ ns : List Int, DpAll K H (ns.map V.int) (ns.map PyData.int)
  | [] => .nil
  | n :: r => .cons (.int n) (dpAll_ints r)
theorem depthAll_ints : ∀ ns : List Int, PyData.depthAll (ns.map PyData.int) = 0
  | [] => rfl
  | n :: r => by rw [List.map_cons, PyData.depthAll, depthAll_ints r]; rfl
theorem alike_ints (ns : List Int) : PySem.W.AlikeAll (ns.map PyData.int) :=
  ⟨fun x hx y hy => by
    obtain ⟨i, _, rfl⟩ := List.mem_map.mp hx
    obtain ⟨j, _, rfl⟩ := List.mem_map.mp hy
    rfl, fun x hx e => by
    obtain ⟨i, _, rfl⟩ := List.mem_map.mp hx
    cases e⟩
theorem max_tup (hc : X.calm = true) (hu : X.A.units + 100 < cLine) {pins : List (Addr × PySem.Obj)} {s : Shared} {σ : L2.St} {H : Hp} {p : Addr} {ns : List Int} {Q : Value → Shared → Prop} (I : Inv X pins σ H s) (h : SqT X.K H p (ns.map V.int)) (hne : ns ≠ [])
    (hQ : ∀ s' t, Inv X pins σ H s' → Q (.int (maxI ns) t) s') : wpAny (model X.prog X.w) X.A (call (.builtin "max") [.ref p]) Q X.xe s := by
  obtain ⟨its, rv, ⟨o, ho, hcl, n, hd⟩, _⟩ := I.tuple h
  have hl : s.heap.IsTuple p its.toArray := ⟨o, ho, hcl, n, hd⟩
  obtain ⟨as, hr⟩ := Dp.readsAll I _ _ _ (dpAll_ints (K := X.K) (H := H) ns) rv
  cases ns with
  | nil => exact absurd rfl hne
  | cons x xs =>
    refine PySem.W.max_tuple_data (I.ok.hd hc) hl hr (alike_ints (x :: xs)) (by rw [show (PyData.int x :: xs.map PyData.int) = (x :: xs).map PyData.int from rfl, depthAll_ints]; omega) fun i v h' tk bs _ hv hk => ?_
    rw [PySem.W.maxD_ints] at hv
    cases hv
    exact hQ _ _ (I.kept (t' := tk) hk)
theorem biMax_ok (hc : X.calm = true) (hu : X.A.units + 100 < cLine) : CallR X (.builtin "max") (rCa X.K biMax) := by
  intro pins s σ H xs us Q I r ⟨F, m, a, σ', cs, v, R, b, e, A⟩
  unfold biMax at e
  split at e
  · cases e
    obtain ⟨x, y, rfl, b1, b2⟩ := b.two
    rw [b1.int, b2.int] at r
    exact call_max2 hc pins s σ H _ us Q I r ⟨_, _, rfl, A.here R (.int _)⟩
  · obtain ⟨ns, e1, e2⟩ := Option.bind_eq_some_iff.mp e
    split at e2
    · cases e2
    · rename_i hne
      cases e2
      have := asInts_of e1; subst this
      obtain ⟨x, rfl, b1⟩ := b.one
      obtain ⟨p, vs, rfl, h1, r1⟩ := b1.lst
      rw [r1.of_ints] at h1
      refine cr_max hc pins s σ H _ us Q I r ⟨p, ns, rfl, h1, ?_, fun k h1 h2 => ?_⟩
      · cases ns with
        | nil => simp at hne
        | cons _ _ => simp
      · rw [maxI_uniq h1 h2]; exact A.here R (.int _)
  · obtain ⟨ns, e1, e2⟩ := Option.bind_eq_some_iff.mp e
    split at e2
    · cases e2
    · rename_i hne
      cases e2
      have := asInts_of e1; subst this
      obtain ⟨x, rfl, b1⟩ := b.one
      obtain ⟨p, vs, rfl, h1, r1⟩ := b1.tup
      rw [r1.of_ints] at h1
      rw [Vals.ref1 r]
      exact max_tup hc hu I h1.sqT (fun e => by subst e; simp at hne) fun s' t I' => ⟨.int _, H, I', ⟨_, rfl⟩, A.here R (.int _)⟩
  · cases e
theorem biMin_ok (hc : X.calm = true) : CallR X (.builtin "min") (rCa X.K biMin) := by
  intro pins s σ H xs us Q I r ⟨F, m, a, σ', cs, v, R, b, e, A⟩
  unfold biMin at e
  split at e
  · cases e
    obtain ⟨x, y, rfl, b1, b2⟩ := b.two
    rw [b1.int, b2.int] at r
    exact call_min2 hc pins s σ H _ us Q I r ⟨_, _, rfl, A.here R (.int _)⟩
  · obtain ⟨ns, e1, e2⟩ := Option.bind_eq_some_iff.mp e
    split at e2
    · cases e2
    · rename_i hne
      cases e2
      have := asInts_of e1; subst this
      obtain ⟨x, rfl, b1⟩ := b.one
      obtain ⟨p, vs, rfl, h1, r1⟩ := b1.lst
      rw [r1.of_ints] at h1
      refine cr_min hc pins s σ H _ us Q I r ⟨p, ns, rfl, h1, ?_, fun k h1 h2 => ?_⟩
      · cases ns with
        | nil => simp at hne
        | cons _ _ => simp
      · rw [minI_uniq h1 h2]; exact A.here R (.int _)
  · cases e
theorem biAny_ok (hc : X.calm = true) : CallR X (.builtin "any") (rCa X.K biAny) := by
  intro pins s σ H xs us Q I r ⟨F, m, a, σ', cs, v, R, b, e, A⟩
  unfold biAny at e
  split at e
  · obtain ⟨ns, e1, e2⟩ := Option.map_eq_some_iff.mp e
    subst e2
    have := asBls_of e1; subst this
    obtain ⟨x, rfl, b1⟩ := b.one
    obtain ⟨p, vs, rfl, h1, r1⟩ := b1.lst
    rw [r1.of_bls] at h1
    exact cr_any hc pins s σ H _ us Q I r ⟨p, ns, rfl, h1, A.here R (.bl _)⟩
  · cases e
theorem biAll_ok (hc : X.calm = true) : CallR X (.builtin "all") (rCa X.K biAll) := by
  intro pins s σ H xs us Q I r ⟨F, m, a, σ', cs, v, R, b, e, A⟩
  unfold biAll at e
  split at e
  · obtain ⟨ns, e1, e2⟩ := Option.map_eq_some_iff.mp e
    subst e2
    have := asBls_of e1; subst this
    obtain ⟨x, rfl, b1⟩ := b.one
    obtain ⟨p, vs, rfl, h1, r1⟩ := b1.lst
    rw [r1.of_bls] at h1
    exact cr_all hc pins s σ H _ us Q I r ⟨p, ns, rfl, h1, A.here R (.bl _)⟩
  · cases e
theorem biTuple_ok : CallR X (.type "tuple") (rCa X.K biTuple) := by
  intro pins s σ H xs us Q I r ⟨F, m, a, σ', cs, v, R, b, e, A⟩
  unfold biTuple at e
  split at e
  · cases e
    obtain ⟨x, rfl, b1⟩ := b.one
    obtain ⟨p, vs, rfl, h1, r1⟩ := b1.lst
    exact call_tupleZ pins s σ H _ us Q I r ⟨p, vs, rfl, .inl ⟨h1, fun l o hl ho => A.tup R r1 hl ho⟩⟩
  · cases e
    obtain ⟨x, rfl, b1⟩ := b.one
    obtain ⟨p, vs, rfl, h1, r1⟩ := b1.tup
    exact call_tupleZ pins s σ H _ us Q I r ⟨p, vs, rfl, .inr ⟨h1.sqT, A.here R (.tup h1 r1)⟩⟩
  · cases e
/-- list(..), sorted(..): fresh -/
def bfList : BiF
  | _, [.lst xs] => some xs
  | _, [.tup xs] => some xs
  | _, _ => none
theorem bfList_ok : CallR X (.type "list") (rCaF X.K bfList) := by
  intro pins s σ H xs us Q I r ⟨F, m, a, σ', cs, v, R, b, e, A⟩
  unfold bfList at e
  split at e
  · cases e
    obtain ⟨x, rfl, b1⟩ := b.one
    obtain ⟨p, vs, rfl, h1, r1⟩ := b1.lst
    exact call_list_of pins s σ H _ us Q I r ⟨p, vs, rfl, .inl h1, fun l hl => A l vs hl r1⟩
  · cases e
    obtain ⟨x, rfl, b1⟩ := b.one
    obtain ⟨p, vs, rfl, h1, r1⟩ := b1.tup
    exact call_list_of pins s σ H _ us Q I r ⟨p, vs, rfl, .inr h1.sqT, fun l hl => A l vs hl r1⟩
  · cases e
def insI (x : Int) : List Int → List Int
  | [] => [x]
  | y :: r => if x ≤ y then x :: y :: r else y :: insI x r
def sortI : List Int → List Int
  | [] => []
  | x :: r => insI x (sortI r)
theorem insI_perm (x : Int) : ∀ ys : List Int, (insI x ys).Perm (x :: ys)
  | [] => .refl _
  | y :: r => by
    unfold insI
    split
    · exact .refl _
    · exact (List.Perm.cons y (insI_perm x r)).trans (List.Perm.swap x y r)
theorem sortI_perm : ∀ xs : List Int, (sortI xs).Perm xs
  | [] => .refl _
  | x :: r => (insI_perm x _).trans (.cons x (sortI_perm r))
theorem insI_sorted (x : Int) : ∀ ys : List Int, ys.Pairwise (· ≤ ·) → (insI x ys).Pairwise (· ≤ ·)
  | [], _ => by simp [insI]
  | y :: r, h => by
    unfold insI
    obtain ⟨h1, h2⟩ := List.pairwise_cons.mp h
    split
    · rename_i hx
      refine List.pairwise_cons.mpr ⟨fun z hz => ?_, h⟩
      rcases List.mem_cons.mp hz with rfl | hz
      · exact hx
      · exact Int.le_trans hx (h1 z hz)
    · rename_i hx
      refine List.pairwise_cons.mpr ⟨fun z hz => ?_, insI_sorted x r h2⟩
      have := (insI_perm x r).mem_iff.mp hz
      rcases List.mem_cons.mp this with rfl | hz
      · omega
      · exact h1 z hz
theorem sortI_sorted : ∀ xs : List Int, (sortI xs).Pairwise (· ≤ ·)
  | [] => .nil
  | x :: r => insI_sorted x _ (sortI_sorted r)
theorem sorted_uniq : ∀ {xs ys : List Int}, xs.Perm ys → xs.Pairwise (· ≤ ·) → ys.Pairwise (· ≤ ·) → xs = ys
  | [], ys, p, _, _ => by rw [List.nil_perm.mp p]
  | x :: xs, ys, p, h1, h2 => by
    cases ys with
    | nil => exact absurd (List.perm_nil.mp p) (by simp)
    | cons y ys =>
      obtain ⟨a1, a2⟩ := List.pairwise_cons.mp h1
      obtain ⟨b1, b2⟩ := List.pairwise_cons.mp h2
      have hx : y ≤ x := by
        rcases List.mem_cons.mp (p.mem_iff.mp (List.mem_cons_self (a := x) (l := xs))) with e | e
        · rw [e]; exact Int.le_refl _
        · exact b1 x e
      have hy : x ≤ y := by
        rcases List.mem_cons.mp (p.mem_iff.mpr (List.mem_cons_self (a := y) (l := ys))) with e | e
        · rw [e]; exact Int.le_refl _
        · exact a1 y e
      have e : x = y := Int.le_antisymm hy hx
      subst e
      rw [sorted_uniq (List.Perm.cons_inv p) a2 b2]
def bfSorted : BiF
  | _, [.lst xs] => (asInts xs).map fun ns => (sortI ns).map .int
  | _, _ => none
theorem bfSorted_ok : CallR X (.builtin "sorted") (rCaF X.K bfSorted) := by
  intro pins s σ H xs us Q I r ⟨F, m, a, σ', cs, v, R, b, e, A⟩
  unfold bfSorted at e
  split at e
  · obtain ⟨ns, e1, e2⟩ := Option.map_eq_some_iff.mp e
    subst e2
    have := asInts_of e1; subst this
    obtain ⟨x, rfl, b1⟩ := b.one
    obtain ⟨p, vs, rfl, h1, r1⟩ := b1.lst
    rw [r1.of_ints] at h1
    refine cr_sortedI pins s σ H _ us Q I r ⟨p, ns, rfl, h1, fun ns' q hp hs hq => ?_⟩
    rw [sorted_uniq (hp.trans (sortI_perm ns).symm) hs (sortI_sorted ns)]
    exact A q _ hq (.ints _)
  · cases e

/-! ### isinstance with one built-in class -/
def tyN : AV → Option String
  | .non => some "NoneType" | .bl _ => some "bool" | .int _ => some "int" | .str _ => some "str" | .tup _ => some "tuple" | .lst _ => none
  | .ref _ => none
def isiB (t T : String) : Bool := t == T || (t == "bool" && T == "int")
def isiOk (T : String) : Bool := T == "tuple" || T == "int" || T == "bool" || T == "str" || T == "list"
def eIsi (T : String) (o : MO) : ME := fun G a => (o G a).bind fun r => (cont r.2 r.1).bind fun c => (tyN c).map fun t => (.bl (isiB t T), r.2)
theorem kit_isi {K : PySem.W.Frag} {c : AV} {t T : String} (h : tyN c = some t) (hT : isiOk T = true) : PySem.W.kitOne K (.type t) (.type T) = some (isiB t T) := by
  have hT' : T = "tuple" ∨ T = "int" ∨ T = "bool" ∨ T = "str" ∨ T = "list" := by simpa [isiOk, or_assoc] using hT
  apply kit_ty
  cases c <;> cases h <;> rcases hT' with rfl | rfl | rfl | rfl | rfl <;> decide +kernel
theorem tyX_of {F : Hot} {m : List Addr} {a : AS} {σ : L2.St} {H : Hp} {x : V} {c : AV} {t : String} (b : RB X.K H (hotOf F m a σ) m x c) (h : tyN c = some t) : TyX X.K H x (.type t) := by
  cases c with
  | non => cases h; rw [b.non]; exact .base .non
  | bl _ => cases h; rw [b.bl]; exact .base (.bl _)
  | int _ => cases h; rw [b.int]; exact .base (.int _)
  | str _ => cases h; rw [b.str]; exact .base (.str _)
  | tup xs =>
    cases h
    obtain ⟨p, vs, rfl, h1, r⟩ := b.tup
    rcases h1 with ⟨o, h1, t⟩ | ⟨o, its, n, h1, t, _⟩
    · exact .fTuple h1
    · exact .kTuple h1 t.1
  | lst xs => cases h
  | ref _ => cases h
end
end Pyx
end
section
set_option maxRecDepth 100000
namespace Pyx
open PySem PySem.Spec PyProof.Rows L2

/-! ### written argument lists -/
def notStar : Expr → Bool
  | .Starred _ _ => false
  | _ => true
theorem star_cons {e : Expr} {es : List Expr} {env : Env} (h : notStar e = true) : starEach (e :: es) env = (false, eval e env) :: starEach es env := by
  cases e <;> first | rfl | cases h
theorem star_any {pos : Pos} {env : Env} : ∀ {es : List Expr}, es.all notStar = true → (backTo pos (starEach es env)).any (·.1) = false
  | [], _ => rfl
  | e :: es, h => by
    rw [List.all_cons, Bool.and_eq_true] at h
    rw [star_cons h.1]
    show (false || (backTo pos (starEach es env)).any (·.1)) = false
    rw [star_any h.2]; rfl
theorem star_all {pos : Pos} {env : Env} : ∀ {es : List Expr}, es.all notStar = true → (backTo pos (starEach es env)).all (fun x => !x.1) = true
  | [], _ => rfl
  | e :: es, h => by
    rw [List.all_cons, Bool.and_eq_true] at h
    rw [star_cons h.1]
    show (true && (backTo pos (starEach es env)).all (fun x => !x.1)) = true
    rw [star_all h.2]; rfl
def notCall : Expr → Bool
  | .Call _ _ _ _ => false
  | _ => true
theorem base_ok {o : Expr} {name : Str} {env : Env} (h : notCall o = true) : attributeBase o name env (eval o env) = eval o env := by
  cases o <;> first | rfl | cases h

section
variable {X : Cx} {F : Hot} {G : Gm} {x y : Expr} {pos apos : Pos}
theorem few_ok {es : List Expr} (h : es.all notStar = true) (hl : es.length < 30) :
    ((backTo pos (starEach es X.env)).all (fun x => !x.1) && (backToKw pos (keywordEach [] X.env)).all (fun x => x.1.isSome) && decide (es.length + ([] : List Keyword).length + (if ([] : List Keyword).isEmpty then 0 else 1) < 30)) = true := by
  rw [star_all h]
  show (true && true && decide (es.length + 0 + 0 < 30)) = true
  simpa using hl

/-! ### isinstance -/
theorem pe_eIsi {T : Str} {pt : Pos} {Ts : String} {o : MO} (hT : isiOk Ts = true) (hg : Gl X "isinstance") (hm : X.mg "isinstance" = none) (gT : Gl X T) (mT : X.mg T = none) (bT : bootBuiltins T = some (.type Ts)) (nT : T ≠ "__name__") (dT : (T == ("__debug__" : Str)) = false)
    (ho : PE X x (tO X.K F G o)) (hx : notStar x = true) : PE X (.Call (.Name "isinstance" pt) [x, .Name T pos] [] apos) (tE X.K F G (eIsi Ts o)) := by
  have hs : starEach [x, .Name T pos] X.env = (false, eval x X.env) :: starEach [.Name T pos] X.env := star_cons hx
  refine (pe_callB call_isi hg hm boot_isinstance (pa_cons ho (pa_cons (pe_bltn (v := .ty Ts) gT mT bT rfl nT dT) pa_nil rfl) hs) (by decide) (by decide) hs rfl).weak fun σ H Q ⟨m, a, r, R, e, k⟩ => ?_
  obtain ⟨q, e1, e⟩ := Option.bind_eq_some_iff.mp e
  obtain ⟨c, e2, e⟩ := Option.bind_eq_some_iff.mp e
  obtain ⟨t, e3, e4⟩ := Option.map_eq_some_iff.mp e
  subst e4
  refine ⟨m, a, q, R, e1, fun x H1 m1 R1 s1 h1 => ?_⟩
  exact ⟨x, .ty Ts, .type t, .type Ts, isiB t Ts, rfl, .ty Ts, tyX_of (h1.cont R1 e2) e3, kit_isi e3 hT, k _ H1 m1 R1 s1 (.bl _)⟩

/-! ### a def's call -/
def spG (K : PySem.W.Frag) (G : Gm) (name : Str) (n : Nat) : Sp := fun vs H Q _ => vs.length = n ∧ ∃ F m S args r, Rl K F m ⟨[], S⟩ [] H ∧ Rps' K F m ⟨[], S⟩ [] H vs args ∧ G name args S = some r ∧
  ∀ x H' m', Rl K F m' ⟨[], r.2⟩ [] H' → Stp m ⟨[], S⟩ [] H m' ⟨[], r.2⟩ [] H' → Rp' K F m' ⟨[], r.2⟩ [] H' x r.1 → Q x H'
def AS.wS (a : AS) (S : List SObj) : AS := ⟨a.ρ, S⟩
def inF (F : Hot) (a : AS) (σ : L2.St) : Hot := fun p => F p ∨ Own a.ρ σ p
theorem own_nil {p : Addr} : ¬ Own [] [] p := fun ⟨i, xs, e, _⟩ => by simp at e
theorem hot_in {m' : List Addr} {a : AS} {σ : L2.St} {S : List SObj} {p : Addr} : hotOf (inF F a σ) m' ⟨[], S⟩ [] p ↔ (F p ∨ p ∈ m' ∨ Own a.ρ σ p) := by
  constructor
  · rintro ((h | h) | h | h)
    · exact .inl h
    · exact .inr (.inr h)
    · exact .inr (.inl h)
    · exact absurd h own_nil
  · rintro (h | h | h)
    · exact .inl (.inl h)
    · exact .inr (.inl h)
    · exact .inl (.inr h)
theorem KeepR.hot {K : PySem.W.Frag} {H : Hp} {hot hot' : Hot} {m : List Addr} (h : ∀ p, hot' p → hot p) : KeepR K H H hot hot' m m := ⟨fun _ _ _ e => e, fun _ _ e n => ⟨e, fun z => n (h _ z)⟩, fun _ _ e => e⟩
theorem Rl.enter {K : PySem.W.Frag} {m : List Addr} {a : AS} {σ : L2.St} {H : Hp} (R : Rl K F m a σ H) : Rl K (inF F a σ) m ⟨[], a.S⟩ [] H where
  len := rfl
  slot := fun i v e => by simp at e
  own := fun i v e => by simp at e
  inj := fun i j v w p e => by simp at e
  mlen := R.mlen
  obj := fun n o p e1 e2 => (R.obj n o p e1 e2).keep (KeepR.hot fun p h => hot_in.mp h) rfl
  mnd := R.mnd
  mF := fun p hp h => h.elim (R.mF p hp) fun ⟨i, xs, e1, e2⟩ => by
    obtain ⟨p', vs, e3, _, _, _, n⟩ := R.own i xs e1
    rw [e2] at e3; cases e3
    exact n hp
  FH := fun p h => h.elim (R.FH p) fun h => R.hotMut (.inr (.inr h))
  tbs := R.tbs
theorem Rl.leave {K : PySem.W.Frag} {m m' : List Addr} {a : AS} {σ : L2.St} {H H' : Hp} {S' : List SObj} (R : Rl K F m a σ H) (R' : Rl K (inF F a σ) m' ⟨[], S'⟩ [] H') (s : Stp m ⟨[], a.S⟩ [] H m' ⟨[], S'⟩ [] H') :
    Rl K F m' (a.wS S') σ H' ∧ Stp m a σ H m' (a.wS S') σ H' ∧ ∀ x v, Rp' K (inF F a σ) m' ⟨[], S'⟩ [] H' x v → Rp' K F m' (a.wS S') σ H' x v := by
  have nl : ∀ b, ¬ Loc' m a σ b → ¬ Loc' m ⟨[], a.S⟩ [] b := fun b n h => h.elim (fun h => n (.inl h)) fun h => own_nil h
  have st : Stp m a σ H m' (a.wS S') σ H' := by
    refine ⟨s.pre, fun b o e n nt => s.keep b o e (nl b n) nt, s.dom, fun b h => ?_⟩
    rcases h with h | h
    · rcases s.locs b (.inl h) with h | h
      · rcases h with h | h
        · exact .inl (.inl h)
        · exact absurd h own_nil
      · exact .inr h
    · exact .inl (.inr h)
  have hk : KeepR K H' H' (hotOf (inF F a σ) m' ⟨[], S'⟩ []) (hotOf F m' (a.wS S') σ) m' m' := KeepR.hot fun p h => hot_in.mpr h
  refine ⟨⟨R.len, fun i v e => ?_, fun i xs e => ?_, R.inj, R'.mlen, fun n o p e1 e2 => (R'.obj n o p e1 e2).keep hk rfl, R'.mnd, fun p hp h => R'.mF p hp (.inl h), fun p h => R'.FH p (.inl h), R'.tbs⟩, st, fun x v r => r.keep hk⟩
  · obtain ⟨x, e1, r⟩ := R.slot i v e
    exact ⟨x, e1, r.step R st⟩
  · obtain ⟨p, vs, e1, h1, r, n1, n2⟩ := R.own i xs e
    have np : p ∉ m' := fun h => by
      rcases s.locs p (.inl h) with h | h
      · exact h.elim n2 fun h => own_nil h
      · rw [h1] at h; cases h
    exact ⟨p, vs, e1, s.keep p _ h1 fun h => h.elim n2 fun h => own_nil h, r.step R st, n1, np⟩
def eCall (name : Str) (t : MAs) : ME := fun G a => (t G a).bind fun r => (G name r.1 r.2.S).map fun q => (q.1, r.2.wS q.2)
theorem call_read {name : Str} {n : Nat} {t : MAs} {σ : L2.St} {H : Hp} {Q : VK} (hn : ∀ as S r, G name as S = some r → as.length = n) (h : tE X.K F G (eCall name t) σ H Q) : tCall (spG X.K G name n) [] E0 (tAs X.K F G t) σ H Q := by
  obtain ⟨m, a, r, R, e, k⟩ := h
  obtain ⟨q, e1, e⟩ := Option.bind_eq_some_iff.mp e
  obtain ⟨v, e2, e3⟩ := Option.map_eq_some_iff.mp e
  subst e3
  refine ⟨m, a, q, R, e1, fun xs H1 m1 R1 s1 r1 => ?_⟩
  show spG X.K G name n (xs ++ []) H1 Q E0
  rw [List.append_nil]
  refine ⟨r1.length.trans (hn _ _ _ e2), inF F q.2 σ, m1, q.2.S, q.1, v, R1.enter, r1.keep (KeepR.hot fun p h => hot_in.mp h), e2, fun x H' m' R' s' r' => ?_⟩
  obtain ⟨a1, a2, a3⟩ := R1.leave R' s'
  exact k x H' m' a1 (s1.trans a2) (a3 x v.1 r')
/-- what is known of a def of the text -/
structure FnG (X : Cx) (G : Gm) (d : Nat) (name : Str) (n : Nat) : Prop where
  ex : ∃ (f : Addr) (fd : FuncData) (ps : List Str), X.mg name = some (.ref f) ∧ PySem.W.keepIn X.K (.ref f) = true ∧ Binds X.K fd ps [] ∧ FnOk X.prog X.w X.K X.mg X.base CX0 d f fd ps (spG X.K G name n)
  ar : ∀ as S r, G name as S = some r → as.length = n
theorem pe_eCall0 {name : Str} {n d : Nat} {p : Pos} (f : FnG X G d name n) (hr : Room d X.A) (hg : Gl X name) (hd : (name == ("__debug__" : Str)) = false) : PE X (.Call (.Name name p) [] [] pos) (tE X.K F G (eCall name aNil)) := by
  obtain ⟨f1, fd, ps, h1, h2, h3, h4⟩ := f.ex
  refine (pe_call0 h4 hr hg h1 h2 h3 .nil pass0 hd).weak fun σ H Q h => ?_
  obtain ⟨m, a, r, R, e, k⟩ := call_read f.ar h
  cases e
  exact k [] H m R .refl .nil
theorem pe_eCall {name : Str} {n d : Nat} {t : MAs} {e : Expr} {es : List Expr} {p : Pos} (f : FnG X G d name n) (hr : Room d X.A) (hg : Gl X name) (hd : (name == ("__debug__" : Str)) = false) (ha : PA X (e :: es) (tAs X.K F G t)) (hs : (e :: es).all notStar = true) :
    PE X (.Call (.Name name p) (e :: es) [] pos) (tE X.K F G (eCall name t)) := by
  obtain ⟨f1, fd, ps, h1, h2, h3, h4⟩ := f.ex
  rw [List.all_cons, Bool.and_eq_true] at hs
  exact (pe_call h4 hr hg h1 h2 h3 .nil pass0 ha hd (star_cons hs.1) (star_any hs.2)).weak fun _ _ _ => call_read f.ar

/-! ### a call to which lists that will be changed again are lent: it answers a plain value and touches no store -/
mutual
def AV.nr : AV → Bool
  | .ref _ => false
  | .tup xs => AV.nrs xs | .lst xs => AV.nrs xs
  | _ => true
def AV.nrs : List AV → Bool
  | [] => true | x :: xs => x.nr && AV.nrs xs
end
section
variable {K : PySem.W.Frag} {H : Hp} {hot hot' : Hot} {m m' : List Addr}
mutual
theorem Rp.plain (k : ∀ p, hot' p → hot p) : ∀ {v : AV} {x : V}, Rp K H hot m x v → v.nr = true → Rp K H hot' m' x v
  | .non, _, .non, _ => .non
  | .bl _, _, .bl b, _ => .bl b
  | .int _, _, .int i, _ => .int i
  | .str _, _, .str x, _ => .str x
  | .tup xs, _, .tup h r, e => .tup h (Rps.plain k r e)
  | .lst xs, _, .lst h n r, e => .lst h (fun z => n (k _ z)) (Rps.plain k r e)
  | .lst xs, _, .lstK h r, e => .lstK h (Rps.plain k r e)
theorem Rps.plain (k : ∀ p, hot' p → hot p) : ∀ {vs : List AV} {xs : List V}, Rps K H hot m xs vs → AV.nrs vs = true → Rps K H hot' m' xs vs
  | [], _, .nil, _ => .nil
  | v :: vs, _, .cons r t, e => by
    have h' : (v.nr && AV.nrs vs) = true := e
    rw [Bool.and_eq_true] at h'
    exact .cons (Rp.plain k r h'.1) (Rps.plain k t h'.2)
end
end
def isSc : AV → Bool
  | .non | .bl _ | .int _ | .str _ => true
  | _ => false
theorem sc_rp {K : PySem.W.Frag} {H H' : Hp} {hot hot' : Hot} {m m' : List Addr} {x : V} : ∀ {v : AV}, isSc v = true → Rp K H hot m x v → Rp K H' hot' m' x v
  | .non, _, .non => .non
  | .bl _, _, .bl b => .bl b
  | .int _, _, .int b => .int b
  | .str _, _, .str b => .str b
  | .tup _, h, _ => by cases h
  | .lst _, h, _ => by cases h
  | .ref _, h, _ => by cases h
def eLend (name : Str) (t : MOs) : ME := fun G a => (t G a).bind fun r => (conts r.2 r.1).bind fun cs => if AV.nrs cs = true then (G name cs []).bind fun q => if isSc q.1 = true then some (q.1, r.2) else none else none
/-- the heads that are lent -/
def headA : V → Option Addr
  | .ref p => some p
  | _ => none
def lent (F : Hot) (m : List Addr) (a : AS) (σ : L2.St) (L : List V) : Hot := fun p => hotOf F m a σ p ∧ ∀ x ∈ L, headA x ≠ some p
theorem rbs_lent {K : PySem.W.Frag} {F : Hot} {m : List Addr} {a : AS} {σ : L2.St} {H : Hp} (L : List V) : ∀ {xs : List V} {cs : List AV}, (∀ x ∈ xs, x ∈ L) → RBs K H (hotOf F m a σ) m xs cs → AV.nrs cs = true → Rps K H (hotOf (lent F m a σ L) [] ⟨[], []⟩ []) [] xs cs
  | [], [], _, _, _ => .nil
  | x :: xs, c :: cs, hL, ⟨r, t⟩, e => by
    have h' : (c.nr && AV.nrs cs) = true := e
    rw [Bool.and_eq_true] at h'
    have hh : ∀ p, hotOf (lent F m a σ L) [] ⟨[], []⟩ [] p → lent F m a σ L p := fun p h => h.elim id fun h => h.elim (fun h => by cases h) fun h => absurd h own_nil
    refine .cons ?_ (rbs_lent L (fun y hy => hL y (List.mem_cons_of_mem _ hy)) t h'.2)
    rcases r with r | ⟨p, vs, ys, e1, e2, h1, r⟩
    · exact Rp.plain (fun p h => (hh p h).1) r h'.1
    · subst e1 e2
      exact .lst (.inl h1) (fun h => (hh p h).2 (.ref p) (hL _ List.mem_cons_self) rfl) (Rps.plain (fun p h => (hh p h).1) r h'.1)
  | [], _ :: _, _, h, _ => h.elim
  | _ :: _, [], _, h, _ => h.elim
theorem lentRl {K : PySem.W.Frag} {F : Hot} {m : List Addr} {a : AS} {σ : L2.St} {H : Hp} (R : Rl K F m a σ H) (L : List V) : Rl K (lent F m a σ L) [] ⟨[], []⟩ [] H where
  len := rfl
  slot := fun i v e => by simp at e
  own := fun i v e => by simp at e
  inj := fun i j v w p e => by simp at e
  mlen := rfl
  obj := fun n o p e => by simp at e
  mnd := .nil
  mF := fun p h => by cases h
  FH := fun p h => R.hotMut h.1
  tbs := R.tbs
theorem lend_read {name : Str} {n : Nat} {t : MOs} {σ : L2.St} {H : Hp} {Q : VK} (hn : ∀ as S r, G name as S = some r → as.length = n) (h : tE X.K F G (eLend name t) σ H Q) : tCall (spG X.K G name n) [] E0 (tOs X.K F G t) σ H Q := by
  obtain ⟨m, a, r, R, e, k⟩ := h
  obtain ⟨q, e1, e⟩ := Option.bind_eq_some_iff.mp e
  obtain ⟨cs, e2, e⟩ := Option.bind_eq_some_iff.mp e
  split at e
  · rename_i hnr
    obtain ⟨v, e3, e⟩ := Option.bind_eq_some_iff.mp e
    split at e
    · rename_i hsc
      cases e
      refine ⟨m, a, q, R, e1, fun xs H1 m1 R1 s1 r1 => ?_⟩
      have b := r1.conts R1 e2
      show spG X.K G name n (xs ++ []) H1 Q E0
      rw [List.append_nil]
      have r2 := rbs_lent xs (fun _ h => h) b hnr
      refine ⟨r2.length.trans (hn _ _ _ e3), lent F m1 q.2 σ xs, [], [], cs, v, lentRl R1 xs, r2, e3, fun x H' m' R' s' r' => ?_⟩
      have st : Stp m1 q.2 σ H1 m1 q.2 σ H' := ⟨fun _ _ e => e, fun b o e _ nt => s'.keep b o e (fun h => h.elim (fun h => by cases h) fun h => absurd h own_nil) nt, s'.dom, fun b h => .inl h⟩
      have all : ∀ b o, H1 b = some o → isTbl o = false → H' b = some o := fun b o e nt => s'.keep b o e (fun h => h.elim (fun h => by cases h) fun h => absurd h own_nil) nt
      have R2 := R1.via st (fun b l => by
        rcases R1.hotMut (.inr l) with ⟨vs, q⟩ | ⟨vs, q⟩
        · rw [q]; exact all b _ q rfl
        · rw [q]; exact all b _ q rfl) R'.tbs
      exact k x H' m1 R2 (s1.trans st) (sc_rp hsc r')
    · cases e
  · cases e
theorem pe_eLend {name : Str} {n d : Nat} {t : MOs} {e : Expr} {es : List Expr} {p : Pos} (f : FnG X G d name n) (hr : Room d X.A) (hg : Gl X name) (hd : (name == ("__debug__" : Str)) = false) (ha : PA X (e :: es) (tOs X.K F G t)) (hs : (e :: es).all notStar = true) :
    PE X (.Call (.Name name p) (e :: es) [] pos) (tE X.K F G (eLend name t)) := by
  obtain ⟨f1, fd, ps, h1, h2, h3, h4⟩ := f.ex
  rw [List.all_cons, Bool.and_eq_true] at hs
  exact (pe_call h4 hr hg h1 h2 h3 .nil pass0 ha hd (star_cons hs.1) (star_any hs.2)).weak fun _ _ _ => lend_read f.ar
end
end Pyx
end
section
set_option maxRecDepth 100000
namespace Pyx
open PySem PySem.Spec PyProof.Rows L2

/-! ### a list is changed in its place -/
def mutR (a : AS) (n : Nat) (f : List AV → Option (List AV)) : Option SObj → Option AS
  | some (.lst xs) => (f xs).map fun ys => a.setS n (.lst ys)
  | _ => none
def mutV (a : AS) (f : List AV → Option (List AV)) : AV → Option AS
  | .ref n => mutR a n f a.S[n]?
  | _ => none
def mutO (a : AS) (i : Nat) (f : List AV → Option (List AV)) : Option (Option Slt) → Option AS
  | some (some (.own xs)) => (f xs).map fun ys => a.putOwn i ys
  | some (some (.val v)) => mutV a f v
  | _ => none
def mutL (a : AS) (f : List AV → Option (List AV)) : Hd → Option AS
  | .slot i => mutO a i f a.ρ[i]?
  | .val v => mutV a f v
section
variable {K : PySem.W.Frag} {F : Hot} {m : List Addr} {a a' : AS} {σ : L2.St} {H : Hp} {x : V} {f : List AV → Option (List AV)}
/-- what a change of a list asks and gives -/
def MutOk (K : PySem.W.Frag) (F : Hot) (m : List Addr) (a a' : AS) (σ : L2.St) (H : Hp) (x : V) (f : List AV → Option (List AV)) (c : Option AV) : Prop :=
  ∃ p vs xs ys, x = .ref p ∧ H p = some (.lst vs) ∧ Rps' K F m a σ H vs xs ∧ f xs = some ys ∧
    (∀ vs', Rps' K F m a σ H vs' ys → Rl K F m a' σ (upd H p (.lst vs')) ∧ Stp m a σ H m a' σ (upd H p (.lst vs'))) ∧ c = some (.lst xs)
theorem mutV_ok (R : Rl K F m a σ H) : ∀ {v : AV}, Rp' K F m a σ H x v → mutV a f v = some a' → MutOk K F m a a' σ H x f (some (res a.S v))
  | .ref n, r, e => by
    cases r with
    | ref hm =>
      rename_i p
      have e' : mutR a n f a.S[n]? = some a' := e
      cases q : a.S[n]? with
      | none => rw [q] at e'; cases e'
      | some o =>
        rw [q] at e'
        cases o with
        | dic _ => cases e'
        | lst xs =>
          obtain ⟨ys, e1, e2⟩ := Option.map_eq_some_iff.mp e'
          subst e2
          obtain ⟨vs, h1, r1⟩ := R.obj n _ _ q hm
          exact ⟨p, vs, xs, ys, rfl, h1, r1, e1, fun vs' r' => ⟨R.setLst hm r', Rl.setSStp hm⟩, by show some (resL n a.S[n]?) = _; rw [q]; rfl⟩
  | .non, _, e | .bl _, _, e | .int _, _, e | .str _, _, e | .tup _, _, e | .lst _, _, e => by cases e
theorem mutL_ok (R : Rl K F m a σ H) : ∀ {h : Hd}, RHd K F m a σ H x h → mutL a f h = some a' → MutOk K F m a a' σ H x f (cont a h)
  | .val v, r, e => mutV_ok R r e
  | .slot i, r, e => by
    have r' : σ[i]? = some (some x) := r
    have e' : mutO a i f a.ρ[i]? = some a' := e
    cases q : a.ρ[i]? with
    | none => rw [q] at e'; cases e'
    | some o =>
      cases o with
      | none => rw [q] at e'; cases e'
      | some sl =>
        rw [q] at e'
        cases sl with
        | own xs =>
          obtain ⟨ys, e1, e2⟩ := Option.map_eq_some_iff.mp e'
          subst e2
          obtain ⟨p, vs, e3, h1, r1, _, _⟩ := R.own i _ q
          rw [r'] at e3; cases e3
          exact ⟨p, vs, xs, ys, rfl, h1, r1, e1, fun vs' r2 => ⟨R.setOwn q r' r2, Rl.setOwnStp q r'⟩, by show slotV a.S a.ρ[i]? = _; rw [q]; rfl⟩
        | val v =>
          obtain ⟨y, e1, r1⟩ := R.slot i _ q
          rw [r'] at e1; cases e1
          have := mutV_ok R r1 e'
          have e2 : cont a (.slot i) = some (res a.S v) := by show slotV a.S a.ρ[i]? = _; rw [q]; rfl
          rw [e2]; exact this
end
def isLst : AV → Bool
  | .lst _ => true
  | _ => false
def isTupA : AV → Bool
  | .tup _ => true
  | _ => false
section
variable {X : Cx} {F : Hot} {G : Gm} {x y : Expr} {pos apos : Pos}
theorem tyL {m : List Addr} {a : AS} {σ : L2.St} {H : Hp} {v : V} {c : AV} (b : RB X.K H (hotOf F m a σ) m v c) (h : isLst c = true) : tyV X.K "list" v H := by
  cases c with
  | lst xs =>
    obtain ⟨p, vs, rfl, h1, _⟩ := b.lst
    exact .inl ⟨rfl, vs, h1⟩
  | _ => cases h
/-- xs.append(e) -/
def appL (v : AV) (xs : List AV) : Option (List AV) := if xs.length < sizeLine then some (xs ++ [v]) else none
def eApp (o : MO) (e : ME) : ME := fun G a => (o G a).bind fun r => (cont r.2 r.1).bind fun c => if isLst c = true then (e G r.2).bind fun q => (mutL q.2 (appL q.1) r.1).map fun a' => (.non, a') else none
theorem pe_eApp {o : MO} {e : ME} (ho : PE X x (tO X.K F G o)) (he : PE X y (tE X.K F G e)) (hx : notCall x = true) (hy : notStar y = true) (hl : (apos.endLine == pos.line) = true) : PE X (.Call (.Attribute x "append" apos) [y] [] pos) (tE X.K F G (eApp o e)) := by
  have ha : PA X [y] (tCons (tE X.K F G e) tNil) := pa_cons he pa_nil (star_cons hy)
  refine (pe_bm PySem.F.plainAttrs_list PySem.F.slot_list_append PySem.F.type_list_append mt_append ho ha (base_ok hx) (few_ok (by simp [hy]) (by simp)) hl (star_cons hy) rfl).weak fun σ H Q ⟨m, a, r, R, e, k⟩ => ?_
  obtain ⟨q, e1, e⟩ := Option.bind_eq_some_iff.mp e
  obtain ⟨c, e2, e⟩ := Option.bind_eq_some_iff.mp e
  split at e
  · rename_i hc
    obtain ⟨q2, e3, e⟩ := Option.bind_eq_some_iff.mp e
    obtain ⟨a', e4, e5⟩ := Option.map_eq_some_iff.mp e
    subst e5
    refine ⟨m, a, q, R, e1, fun x H1 m1 R1 s1 h1 => ⟨tyL (h1.cont R1 e2) hc, m1, q.2, q2, R1, e3, fun y H2 m2 R2 s2 r2 => ?_⟩⟩
    obtain ⟨p, vs, xs, ys, rfl, g1, g2, g3, g4, g5⟩ := mutL_ok R2 (h1.step R1 s2) e4
    unfold appL at g3
    split at g3
    · rename_i hlen
      cases g3
      obtain ⟨w1, w2⟩ := g4 (vs ++ [y]) (g2.snoc r2)
      exact ⟨p, vs, y, rfl, rfl, g1, by rw [g2.length]; exact hlen, k _ _ m2 w1 ((s1.trans s2).trans w2) .non⟩
    · cases g3
  · cases e
/-- xs.pop() -/
def ePop (o : MO) : ME := fun G a => (o G a).bind fun r => (cont r.2 r.1).bind fun c => match c with
  | .lst xs => xs[xs.length - 1]?.bind fun y => (mutL r.2 (fun xs => some xs.dropLast) r.1).map fun a' => (y, a')
  | _ => none
theorem Rps.dropLast {K : PySem.W.Frag} {H : Hp} {hot : Hot} {m : List Addr} {xs : List V} {vs : List AV} (r : Rps K H hot m xs vs) : Rps K H hot m xs.dropLast vs.dropLast := by
  rw [List.dropLast_eq_take, List.dropLast_eq_take, r.length]
  exact r.take _
theorem pe_ePop {o : MO} (ho : PE X x (tO X.K F G o)) (hx : notCall x = true) (hl : (apos.endLine == pos.line) = true) : PE X (.Call (.Attribute x "pop" apos) [] [] pos) (tE X.K F G (ePop o)) := by
  refine (pe_bm0 PySem.F.plainAttrs_list PySem.F.slot_list_pop PySem.F.type_list_pop mt_pop ho (base_ok hx) hl).weak fun σ H Q ⟨m, a, r, R, e, k⟩ => ?_
  obtain ⟨q, e1, e⟩ := Option.bind_eq_some_iff.mp e
  obtain ⟨c, e2, e⟩ := Option.bind_eq_some_iff.mp e
  cases c with
  | lst xs =>
    obtain ⟨y, e3, e⟩ := Option.bind_eq_some_iff.mp (show (xs[xs.length - 1]?.bind fun y => (mutL q.2 (fun xs => some xs.dropLast) q.1).map fun a' => (y, a')) = some r from e)
    obtain ⟨a', e4, e5⟩ := Option.map_eq_some_iff.mp e
    subst e5
    refine ⟨m, a, q, R, e1, fun x H1 m1 R1 s1 h1 => ?_⟩
    have b := h1.cont R1 e2
    refine ⟨tyL b rfl, ?_⟩
    obtain ⟨p, vs, xs', ys, rfl, g1, g2, g3, g4, g5⟩ := mutL_ok R1 h1 e4
    have rx := g2
    rw [e2] at g5
    cases g5
    obtain ⟨z, e6, rz⟩ := rx.get e3
    cases g3
    obtain ⟨w1, w2⟩ := g4 vs.dropLast g2.dropLast
    exact ⟨p, vs, z, rfl, rfl, g1, by rw [rx.length]; exact e6, k _ _ m1 w1 (s1.trans w2) (rz.step R1 w2)⟩
  | _ => cases e
/-- xs.pop(i), 0 ≤ i -/
def ePopAt (o : MO) (e : ME) : ME := fun G a => (o G a).bind fun r => (cont r.2 r.1).bind fun c0 => if isLst c0 = true then (e G r.2).bind fun q => (cont q.2 r.1).bind fun c => match c, q.1 with
  | .lst xs, .int i => if 0 ≤ i ∧ i < 2 ^ 63 then xs[i.toNat]?.bind fun y => (mutL q.2 (fun xs => some (xs.eraseIdx i.toNat)) r.1).map fun a' => (y, a') else none
  | _, _ => none else none
theorem pe_ePopAt {o : MO} {e : ME} (ho : PE X x (tO X.K F G o)) (he : PE X y (tE X.K F G e)) (hx : notCall x = true) (hy : notStar y = true) (hl : (apos.endLine == pos.line) = true) : PE X (.Call (.Attribute x "pop" apos) [y] [] pos) (tE X.K F G (ePopAt o e)) := by
  have ha : PA X [y] (tCons (tE X.K F G e) tNil) := pa_cons he pa_nil (star_cons hy)
  refine (pe_bm PySem.F.plainAttrs_list PySem.F.slot_list_pop PySem.F.type_list_pop mt_popAt ho ha (base_ok hx) (few_ok (by simp [hy]) (by simp)) hl (star_cons hy) rfl).weak fun σ H Q ⟨m, a, r, R, e, k⟩ => ?_
  obtain ⟨q, e1, e⟩ := Option.bind_eq_some_iff.mp e
  obtain ⟨c0, e2, e⟩ := Option.bind_eq_some_iff.mp e
  split at e
  · rename_i hc
    obtain ⟨q2, e3, e⟩ := Option.bind_eq_some_iff.mp e
    obtain ⟨c, e4, e⟩ := Option.bind_eq_some_iff.mp e
    split at e
    · rename_i xs i hi
      split at e
      · rename_i hb
        obtain ⟨y, e5, e⟩ := Option.bind_eq_some_iff.mp e
        obtain ⟨a', e6, e7⟩ := Option.map_eq_some_iff.mp e
        subst e7
        refine ⟨m, a, q, R, e1, fun x H1 m1 R1 s1 h1 => ⟨tyL (h1.cont R1 e2) hc, m1, q.2, q2, R1, e3, fun y' H2 m2 R2 s2 r2 => ?_⟩⟩
        rw [hi] at r2; cases r2
        have h2 := h1.step R1 s2
        have b := h2.cont R2 e4
        obtain ⟨p, vs, xs', ys, rfl, g1, g2, g3, g4, g5⟩ := mutL_ok R2 h2 e6
        have rx := g2
        rw [e4] at g5
        cases g5
        obtain ⟨z, e8, rz⟩ := rx.get e5
        cases g3
        obtain ⟨w1, w2⟩ := g4 (vs.eraseIdx i.toNat) (g2.eraseIdx i.toNat)
        have hlt : i.toNat < vs.length := (List.getElem?_eq_some_iff.mp e8).1
        exact ⟨p, vs, i, i.toNat, z, rfl, rfl, g1, by omega, hb.2, seqIndex_of hb.1 (by omega), e8, k _ _ m2 w1 ((s1.trans s2).trans w2) (rz.step R2 w2)⟩
      · cases e
    · cases e
  · cases e
/-- xs.extend(ys), ys another list -/
def extL (S : List AV) (xs : List AV) : Option (List AV) := if xs.length + S.length ≤ sizeLine then some (xs ++ S) else none
end
end Pyx
end
section
set_option maxRecDepth 100000
namespace Pyx
open PySem PySem.Spec PyProof.Rows L2

/-! ### xs.index(y), xs.count(y), d.get(k, v), s.join(xs) -/
def okFor (ys : List AV) (y : AV) : Prop := y.okD = true ∧ AV.okDs ys = true ∧ min (PyData.depthAll (AV.pds ys)) y.dep ≤ 64
instance {ys : List AV} {y : AV} : Decidable (okFor ys y) := by unfold okFor; infer_instance
def idxA (ys : List AV) (y : AV) : Option AV := if okFor ys y then (ys.findIdx? fun z => z.eqb y).map fun (j : Nat) => .int j else none
def cntA (ys : List AV) (y : AV) : Option AV := if okFor ys y then some (.int ((ys.countP fun z => z.eqb y : Nat))) else none
def kind : AV → Nat
  | .lst _ => 1 | .tup _ => 2 | _ => 0
def seqF (f : List AV → AV → Option AV) : AV → AV → Option AV
  | .lst xs, y => f xs y
  | .tup xs, y => f xs y
  | _, _ => none
def eSeqM (f : List AV → AV → Option AV) (ks : List Nat) (o : MO) (e : MO) : ME := fun G a => (o G a).bind fun r => (cont r.2 r.1).bind fun c0 => if kind c0 ∈ ks then (e G r.2).bind fun q => (cont q.2 r.1).bind fun c => (cont q.2 q.1).bind fun y => if kind c = kind c0 then (seqF f c y).map fun v => (v, q.2) else none else none
section
variable {X : Cx} {F : Hot} {G : Gm} {x y : Expr} {pos apos : Pos}
theorem readOf_at {s : Shared} {its : List Value} {ds : List PyData} {as : List Addr} (hxs : PyData.canLayAll0 ds = true) (h : ReadsAll s.heap its ds as) {m : Nat} (hm : m < its.length) {z : PyData} (hz : ds[m]? = some z) : SeqAt.readOf s.heap its[m] = z := by
  have hmap : its.map (SeqAt.readOf s.heap) = ds := SeqAt.readsAll_map ds its as hxs h
  rw [← hmap, List.getElem?_map, List.getElem?_eq_getElem hm] at hz
  exact Option.some.inj (show some (SeqAt.readOf s.heap its[m]) = some z from hz)
theorem pds_get (ys : List AV) (j : Nat) : (AV.pds ys)[j]? = ys[j]?.map AV.pd := by rw [AV.pds_map, List.getElem?_map]
/-- the items of a written, tracked or plain sequence as data -/
theorem seq_items (hu : X.A.units + 100 < cLine) {pins : List (Addr × PySem.Obj)} {s : Shared} {σ : L2.St} {H : Hp} {us : List V} {its : List Value} {ys : List AV} {c : AV} {v : V} {u : Value} (I : Inv X pins σ H s) (rv : Vals us its) (ru : RelV v u)
    (d1 : DpAll X.K H us (AV.pds ys)) (d2 : Dp X.K H v c.pd) (ok : okFor ys c) :
    its.length = ys.length ∧ (∀ z, z ∈ its.toArray → SeqAt.EqAt X.A.in1 s z u (PyData.eqv (SeqAt.readOf s.heap z) c.pd)) ∧ ∀ (m : Nat) (hm : m < its.length) (z : AV), ys[m]? = some z → PyData.eqv (SeqAt.readOf s.heap its[m]) c.pd = z.eqb c := by
  obtain ⟨k1, k2, k3⟩ := ok
  obtain ⟨as, h4⟩ := Dp.readsAll I _ us its d1 rv
  obtain ⟨bs, r1⟩ := Dp.reads I _ v u d2 ru
  have hl : its.length = ys.length := by
    have := SeqAt.ReadsAll.length _ its as h4
    rw [AV.pds_map, List.length_map] at this
    exact this
  refine ⟨hl, SeqAt.items_eqAt (vs := its.toArray) (show ReadsAll s.heap its.toArray.toList (AV.pds ys) as from h4) r1 (AV.okDs_lay _ k2) (AV.okD_lay _ k1) (by unfold AV.dep at k3; omega), fun m hm z hz => ?_⟩
  rw [readOf_at (AV.okDs_lay _ k2) h4 hm (z := z.pd) (by rw [pds_get, hz]; rfl)]
  rfl
theorem idx_spec {ys : List AV} {y : AV} {v : AV} (h : idxA ys y = some v) : okFor ys y ∧ ∃ (j : Nat) (z : AV), v = .int (j : Nat) ∧ ys[j]? = some z ∧ z.eqb y = true ∧ ∀ (m : Nat) (w : AV), m < j → ys[m]? = some w → w.eqb y = false := by
  unfold idxA at h
  split at h
  · rename_i ok
    obtain ⟨j, e1, e2⟩ := Option.map_eq_some_iff.mp h
    obtain ⟨hj, h1, h2⟩ := List.findIdx?_eq_some_iff_getElem.mp e1
    refine ⟨ok, j, ys[j], e2.symm, List.getElem?_eq_getElem hj, h1, fun m w hm hw => ?_⟩
    have hm' : m < ys.length := by omega
    rw [List.getElem?_eq_getElem hm'] at hw
    cases hw
    have := h2 m hm
    simpa using this
  · cases h
def rSeqM (K : PySem.W.Frag) (T : AV → Prop) (f : List AV → AV → Option AV) : V → List V → Hp → VK → Prop := fun x xs H Q => ∃ y F m a σ c d v, xs = [y] ∧ Rl K F m a σ H ∧ T c ∧ RB K H (hotOf F m a σ) m x c ∧ RB K H (hotOf F m a σ) m y d ∧ seqF f c d = some v ∧ Aft K F m a σ H v Q
theorem mt_idxL (hu : X.A.units + 100 < cLine) : MtR X "list.index" (rSeqM X.K (fun c => kind c = 1) idxA) := by
  intro pins s σ H x xs v us Q I rx rxs ⟨y, F, m, a, σ', c, d, w, e, R, hT, bx, bd, ef, A⟩
  subst e
  cases c with
  | lst ys =>
    obtain ⟨p, vs, rfl, h1, r⟩ := bx.lst
    cases rx
    obtain ⟨u, rfl, ru⟩ := rxs.one
    obtain ⟨ok, j, z, rfl, hz, hzj, hno⟩ := idx_spec (show idxA ys d = some w from ef)
    obtain ⟨its, rv, ⟨⟨cls, dd, data, sls⟩, n, ho, hc, hdn, hdt⟩, hlen⟩ := I.list h1
    simp only at hc hdt
    subst hc hdt
    obtain ⟨hl, hE, hR⟩ := seq_items hu I rv ru (r.dp ok.2.1) (bd.dp ok.1) ok
    have hsl := sizeLine_eq
    obtain ⟨hjd, _⟩ := List.getElem?_eq_some_iff.mp hz
    have hjl : j < its.length := by omega
    have hvl := rv.length
    refine call_meets PySem.F.slot_list_index ⟨_, ho, rfl⟩ PySem.F.entry_list_index (PySem.F.args_list_index_2 _ _)
      (SeqAt.list_indexAt p its.toArray n dd sls u (fun u => PyData.eqv (SeqAt.readOf s.heap u) d.pd) j (by simpa using hjl) (by omega) ?_ ?_) ⟨ho, hE, ⟨.int (j : Nat), H, I.tok _, ⟨_, rfl⟩, A.here R (.int _)⟩⟩
    · show PyData.eqv (SeqAt.readOf s.heap its.toArray[j]) d.pd = true
      have := hR j hjl z hz
      rw [hzj] at this
      simpa using this
    · intro k hk hkj
      have hk' : k < its.length := by simpa using hk
      have hz' : ys[k]? = some ys[k] := List.getElem?_eq_getElem (by omega)
      show PyData.eqv (SeqAt.readOf s.heap its.toArray[k]) d.pd = false
      have := hR k hk' _ hz'
      rw [hno k _ hkj hz'] at this
      simpa using this
  | _ => cases hT
theorem mt_idxT (hu : X.A.units + 100 < cLine) : MtR X "tuple.index" (rSeqM X.K (fun c => kind c = 2) idxA) := by
  intro pins s σ H x xs v us Q I rx rxs ⟨y, F, m, a, σ', c, d, w, e, R, hT, bx, bd, ef, A⟩
  subst e
  cases c with
  | tup ys =>
    obtain ⟨p, vs, rfl, h1, r⟩ := bx.tup
    cases rx
    obtain ⟨u, rfl, ru⟩ := rxs.one
    obtain ⟨ok, j, z, rfl, hz, hzj, hno⟩ := idx_spec (show idxA ys d = some w from ef)
    obtain ⟨its, n, sls, rv, ho, hlen⟩ := TupZ.obj I h1
    obtain ⟨hl, hE, hR⟩ := seq_items hu I rv ru (r.dp ok.2.1) (bd.dp ok.1) ok
    obtain ⟨hjd, _⟩ := List.getElem?_eq_some_iff.mp hz
    have hjl : j < its.length := by omega
    refine call_meets PySem.F.slot_tuple_index ⟨_, ho, rfl⟩ PySem.F.entry_tuple_index (PySem.F.args_tuple_index_2 _ _)
      (TI.tuple_indexAt p its.toArray n none sls u (fun u => PyData.eqv (SeqAt.readOf s.heap u) d.pd) j (by simpa using hjl) ?_ ?_) ⟨ho, hE, ⟨.int (j : Nat), H, I.tok _, ⟨_, rfl⟩, A.here R (.int _)⟩⟩
    · show PyData.eqv (SeqAt.readOf s.heap its.toArray[j]) d.pd = true
      have := hR j hjl z hz
      rw [hzj] at this
      simpa using this
    · intro k hk hkj
      have hk' : k < its.length := by simpa using hk
      have hz' : ys[k]? = some ys[k] := List.getElem?_eq_getElem (by omega)
      show PyData.eqv (SeqAt.readOf s.heap its.toArray[k]) d.pd = false
      have := hR k hk' _ hz'
      rw [hno k _ hkj hz'] at this
      simpa using this
  | _ => cases hT
theorem mt_cntL (hu : X.A.units + 100 < cLine) : MtR X "list.count" (rSeqM X.K (fun c => kind c = 1) cntA) := by
  intro pins s σ H x xs v us Q I rx rxs ⟨y, F, m, a, σ', c, d, w, e, R, hT, bx, bd, ef, A⟩
  subst e
  cases c with
  | lst ys =>
    obtain ⟨p, vs, rfl, h1, r⟩ := bx.lst
    cases rx
    obtain ⟨u, rfl, ru⟩ := rxs.one
    have ef' : (if okFor ys d then some (AV.int ((ys.countP fun z => z.eqb d : Nat))) else none) = some w := ef
    split at ef'
    · rename_i ok
      cases ef'
      obtain ⟨its, rv, ⟨⟨cls, dd, data, sls⟩, n, ho, hc, hdn, hdt⟩, hlen⟩ := I.list h1
      simp only at hc hdt
      subst hc hdt
      obtain ⟨hl, hE, hR⟩ := seq_items hu I rv ru (r.dp ok.2.1) (bd.dp ok.1) ok
      refine call_meets PySem.F.slot_list_count ⟨_, ho, rfl⟩ PySem.F.entry_list_count (PySem.F.args_list_count_2 _ _)
        (SeqAt.list_countAt p its.toArray n dd sls u (fun u => PyData.eqv (SeqAt.readOf s.heap u) d.pd)) ⟨ho, hE, ⟨.int _, H, I.tok _, ⟨_, rfl⟩, ?_⟩⟩
      have e : (its.toArray.toList.countP fun u => PyData.eqv (SeqAt.readOf s.heap u) d.pd) = ys.countP fun z => z.eqb d := by
        have e1 : its.map (fun u => PyData.eqv (SeqAt.readOf s.heap u) d.pd) = ys.map fun z => z.eqb d := by
          apply List.ext_getElem?
          intro k
          rw [List.getElem?_map, List.getElem?_map]
          by_cases hk : k < its.length
          · rw [List.getElem?_eq_getElem hk, List.getElem?_eq_getElem (show k < ys.length by omega)]
            exact congrArg some (hR k hk _ (List.getElem?_eq_getElem (by omega)))
          · rw [List.getElem?_eq_none (by omega), List.getElem?_eq_none (by omega)]
            rfl
        have h1 := congrArg (List.countP id) e1
        rw [List.countP_map, List.countP_map] at h1
        exact h1
      rw [e]
      exact A.here R (.int _)
    · cases ef'
  | _ => cases hT

/-- a tuple's method -/
def tBMT (K : PySem.W.Frag) (r : V → List V → Hp → VK → Prop) (to : TE) (t : TA) : TE := fun σ H Q => to σ H fun x H1 => (∃ p vs, x = .ref p ∧ TupZ K H1 p vs) ∧ t σ H1 fun xs H2 => r x xs H2 Q
theorem pe_bmT {name : Str} {id : String} {r : V → List V → Hp → VK → Prop} {to : TE} {t : TA} (pa : PlainAttrs "tuple") (slot : Slot "tuple" name id) (hty : typeOf (.builtin id) = pure (.type "method_descriptor")) (hm : MtR X id r) (ho : PE X x to) (ha : PA X [y] t)
    (hbase : attributeBase x name X.env (eval x X.env) = eval x X.env) (hy : notStar y = true) (hline : (apos.endLine == pos.line) = true) : PE X (.Call (.Attribute x name apos) [y] [] pos) (tBMT X.K r to t) := by
  refine ⟨fun pins s σ H Q I h => ?_⟩
  refine wpAny_Call_method_late hbase (few_ok (by simp [hy]) (by simp)) hline rfl (thn (ho.run pins s σ H _ I h) fun v s1 ⟨x, H1, I1, r1, ⟨p, vs, e, ty⟩, q1⟩ => ?_)
  subst e
  obtain ⟨its, n, sl, rv, hob, hlen⟩ := TupZ.obj I1 ty
  cases r1
  refine ⟨"tuple", id, pa, slot, hty, ⟨_, hob, rfl⟩, fun a e => by cases e; exact ⟨_, hob, rfl⟩, ?_⟩
  have hA := ha.run pos pins s1 σ H1 _ I1 q1
  rw [star_cons hy] at hA ⊢
  refine Calls.callWith_builtin rfl (Calls.evalArgs_plain ?_)
  exact thn hA fun us s2 ⟨vs, H2, I2, r2, q2⟩ => hm pins s2 σ H2 (.ref p) vs (.ref p) us Q I2 rfl r2 q2
theorem _root_.L2.PE.or {X : Cx} {e : Expr} {t u : TE} (h : PE X e t) (h' : PE X e u) : PE X e (fun σ H Q => t σ H Q ∨ u σ H Q) :=
  ⟨fun pins s σ H Q I q => q.elim (h.run pins s σ H Q I) (h'.run pins s σ H Q I)⟩
theorem seqM_read {f : List AV → AV → Option AV} {ks : List Nat} {o e : MO} {σ : L2.St} {H : Hp} {Q : VK} (h : tE X.K F G (eSeqM f ks o e) σ H Q) :
    (1 ∈ ks ∧ tBM X.K "list" (rSeqM X.K (fun c => kind c = 1) f) (tO X.K F G o) (tCons (tO X.K F G e) tNil) σ H Q) ∨ (2 ∈ ks ∧ tBMT X.K (rSeqM X.K (fun c => kind c = 2) f) (tO X.K F G o) (tCons (tO X.K F G e) tNil) σ H Q) := by
  obtain ⟨m, a, r, R, e, k⟩ := h
  obtain ⟨q, e1, e⟩ := Option.bind_eq_some_iff.mp e
  obtain ⟨c0, e2, e⟩ := Option.bind_eq_some_iff.mp e
  split at e
  · rename_i hk
    obtain ⟨q2, e3, e⟩ := Option.bind_eq_some_iff.mp e
    obtain ⟨c, e4, e⟩ := Option.bind_eq_some_iff.mp e
    obtain ⟨d, e5, e⟩ := Option.bind_eq_some_iff.mp e
    split at e
    · rename_i hkk
      obtain ⟨v, e6, e7⟩ := Option.map_eq_some_iff.mp e
      subst e7
      cases c0 with
      | lst xs0 =>
        refine .inl ⟨hk, m, a, q, R, e1, fun x H1 m1 R1 s1 h1 => ⟨tyL (h1.cont R1 e2) rfl, m1, q.2, q2, R1, e3, fun y H2 m2 R2 s2 h2 => ?_⟩⟩
        exact ⟨y, F, m2, q2.2, σ, c, d, v, rfl, R2, hkk, (h1.step R1 s2).cont R2 e4, h2.cont R2 e5, e6, fun z H' R' s' r' => k z H' m2 R' ((s1.trans s2).trans s') r'⟩
      | tup xs0 =>
        refine .inr ⟨hk, m, a, q, R, e1, fun x H1 m1 R1 s1 h1 => ⟨?_, m1, q.2, q2, R1, e3, fun y H2 m2 R2 s2 h2 => ?_⟩⟩
        · obtain ⟨p, vs, rfl, t, _⟩ := (h1.cont R1 e2).tup
          exact ⟨p, vs, rfl, t⟩
        · exact ⟨y, F, m2, q2.2, σ, c, d, v, rfl, R2, hkk, (h1.step R1 s2).cont R2 e4, h2.cont R2 e5, e6, fun z H' R' s' r' => k z H' m2 R' ((s1.trans s2).trans s') r'⟩
      | _ =>
        exfalso
        cases c <;> first | (cases hkk; done) | (cases e6; done) | cases hkk
    · cases e
  · cases e
theorem pe_eIdx {o e : MO} (hu : X.A.units + 100 < cLine) (ho : PE X x (tO X.K F G o)) (he : PE X y (tO X.K F G e)) (hx : notCall x = true) (hy : notStar y = true) (hl : (apos.endLine == pos.line) = true) : PE X (.Call (.Attribute x "index" apos) [y] [] pos) (tE X.K F G (eSeqM idxA [1, 2] o e)) := by
  have ha : PA X [y] (tCons (tO X.K F G e) tNil) := pa_cons he pa_nil (star_cons hy)
  exact (PE.or (pe_bm PySem.F.plainAttrs_list PySem.F.slot_list_index PySem.F.type_list_index (mt_idxL hu) ho ha (base_ok hx) (few_ok (by simp [hy]) (by simp)) hl (star_cons hy) rfl)
    (pe_bmT PySem.F.plainAttrs_tuple PySem.F.slot_tuple_index PySem.F.type_tuple_index (mt_idxT hu) ho ha (base_ok hx) hy hl)).weak fun σ H Q h => (seqM_read h).elim (fun h => .inl h.2) fun h => .inr h.2
theorem pe_eCnt {o e : MO} (hu : X.A.units + 100 < cLine) (ho : PE X x (tO X.K F G o)) (he : PE X y (tO X.K F G e)) (hx : notCall x = true) (hy : notStar y = true) (hl : (apos.endLine == pos.line) = true) : PE X (.Call (.Attribute x "count" apos) [y] [] pos) (tE X.K F G (eSeqM cntA [1] o e)) := by
  have ha : PA X [y] (tCons (tO X.K F G e) tNil) := pa_cons he pa_nil (star_cons hy)
  exact (pe_bm PySem.F.plainAttrs_list PySem.F.slot_list_count PySem.F.type_list_count (mt_cntL hu) ho ha (base_ok hx) (few_ok (by simp [hy]) (by simp)) hl (star_cons hy) rfl).weak fun σ H Q h => (seqM_read h).elim (fun h => h.2) fun h => absurd h.1 (by decide)
end
end Pyx
end
section
set_option maxRecDepth 100000
namespace Pyx
open PySem PySem.Spec PyProof.Rows L2

/-! ### statements -/
inductive Out where
  | nx | rt (v : AV) | bk | ct
  deriving Inhabited
abbrev MS := Gm → AS → Option (Out × AS)
section
variable (K : PySem.W.Frag) (F : Hot) (G : Gm)
def EndS (m : List Addr) (a : AS) (σ : L2.St) (H : Hp) (D : Ends) : Out → AS → Prop
  | .nx, a' => ∀ σ' H' m', Rl K F m' a' σ' H' → Stp m a σ H m' a' σ' H' → D.nx σ' H'
  | .rt v, a' => ∀ x σ' H' m', Rl K F m' a' σ' H' → Stp m a σ H m' a' σ' H' → Rp' K F m' a' σ' H' x v → D.rt x H'
  | .bk, a' => ∀ σ' H' m', Rl K F m' a' σ' H' → Stp m a σ H m' a' σ' H' → D.bk σ' H'
  | .ct, a' => ∀ σ' H' m', Rl K F m' a' σ' H' → Stp m a σ H m' a' σ' H' → D.ct σ' H'
def tS (e : MS) : TS := fun D σ H => ∃ m a r, Rl K F m a σ H ∧ e G a = some r ∧ EndS K F m a σ H D r.1 r.2
end
section
variable {K : PySem.W.Frag} {F : Hot} {G : Gm} {m m1 : List Addr} {a a1 a2 : AS} {σ σ1 : L2.St} {H H1 : Hp} {D D' : Ends} {o : Out}
theorem EndS.after (h : EndS K F m a σ H D o a2) (s : Stp m a σ H m1 a1 σ1 H1) : EndS K F m1 a1 σ1 H1 D o a2 := by
  cases o with
  | nx => exact fun σ' H' m' R t => h σ' H' m' R (s.trans t)
  | rt v => exact fun x σ' H' m' R t r => h x σ' H' m' R (s.trans t) r
  | bk => exact fun σ' H' m' R t => h σ' H' m' R (s.trans t)
  | ct => exact fun σ' H' m' R t => h σ' H' m' R (s.trans t)
end
def sSkip : MS := fun _ a => some (.nx, a)
def sSeq (s t : MS) : MS := fun G a => (s G a).bind fun r => match r.1 with
  | .nx => t G r.2
  | o => some (o, r.2)
def sExpr (e : ME) : MS := fun G a => (e G a).map fun r => (.nx, r.2)
def sRet (e : ME) : MS := fun G a => (e G a).map fun r => (.rt r.1, r.2)
def sRetN : MS := fun _ a => some (.rt .non, a)
def sBreak : MS := fun _ a => some (.bk, a)
def sCont : MS := fun _ a => some (.ct, a)
def sIf (c : MT) (s t : MS) : MS := fun G a => (c G a).bind fun r => if r.1 = true then s G r.2 else t G r.2
def sAsg (i : Nat) (e : ME) : MS := fun G a => (e G a).map fun r => (.nx, r.2.put i r.1)
def sOwn (i : Nat) (e : MAs) : MS := fun G a => (e G a).map fun r => (.nx, r.2.putOwn i r.1)
section
variable {X : Cx} {F : Hot} {G : Gm} {st : Stmt} {rest : List Stmt} {pos : Pos} {x : Expr} {e : ME} {s t : MS} {c : MT}
theorem pss_skip : PSs X [] (tS X.K F G sSkip) := pss_nil.weak fun D σ H ⟨m, a, r, R, e, k⟩ => by cases e; exact k σ H m R .refl
theorem pss_seq (h1 : PS X st (tS X.K F G s)) (h2 : PSs X rest (tS X.K F G t)) : PSs X (st :: rest) (tS X.K F G (sSeq s t)) := by
  refine (pss_cons h1 h2).weak fun D σ H ⟨m, a, r, R, e, k⟩ => ?_
  obtain ⟨q, e1, e2⟩ := Option.bind_eq_some_iff.mp e
  refine ⟨m, a, q, R, e1, ?_⟩
  split at e2
  · rename_i h
    rw [h]
    exact fun σ' H' m' R' s' => ⟨m', q.2, r, R', e2, k.after s'⟩
  · rename_i o h
    cases e2
    cases ho : q.1 with
    | nx => exact absurd ho h
    | rt v => rw [ho] at k; exact k
    | bk => rw [ho] at k; exact k
    | ct => rw [ho] at k; exact k
def notComp : Expr → Bool
  | .ListComp _ _ _ _ | .SetComp _ _ _ _ | .DictComp _ _ _ _ _ => false
  | _ => true
theorem swaps_no {v : Expr} {tg : Option Expr} {l : Nat} {env : Env} (h : notComp v = true) : swapsWith v tg l env = pure false := by
  cases v <;> first | rfl | cases h
theorem ps_sExpr (h : PE X x (tE X.K F G e)) (hc : notComp x = true) : PS X (.Expr x pos) (tS X.K F G (sExpr e)) := by
  refine (ps_expr h (swaps_no hc)).weak fun D σ H ⟨m, a, r, R, e, k⟩ => ?_
  obtain ⟨q, e1, e2⟩ := Option.map_eq_some_iff.mp e
  subst e2
  exact ⟨m, a, q, R, e1, fun _ H' m' R' s' _ => k σ H' m' R' s'⟩
theorem ps_sRet (h : PE X x (tE X.K F G e)) : PS X (.Return (some x) pos) (tS X.K F G (sRet e)) := by
  refine (ps_ret h).weak fun D σ H ⟨m, a, r, R, e, k⟩ => ?_
  obtain ⟨q, e1, e2⟩ := Option.map_eq_some_iff.mp e
  subst e2
  exact ⟨m, a, q, R, e1, fun x H' m' R' s' r' => k x σ H' m' R' s' r'⟩
theorem ps_sRetN : PS X (.Return none pos) (tS X.K F G sRetN) := ps_retN.weak fun D σ H ⟨m, a, r, R, e, k⟩ => by cases e; exact k .non σ H m R .refl .non
theorem ps_sBreak : PS X (.Break pos) (tS X.K F G sBreak) := ps_break.weak fun D σ H ⟨m, a, r, R, e, k⟩ => by cases e; exact k σ H m R .refl
theorem ps_sCont : PS X (.Continue pos) (tS X.K F G sCont) := ps_continue.weak fun D σ H ⟨m, a, r, R, e, k⟩ => by cases e; exact k σ H m R .refl
theorem ps_sPass : PS X (.Pass pos) (tS X.K F G sSkip) := ps_pass.weak fun D σ H ⟨m, a, r, R, e, k⟩ => by cases e; exact k σ H m R .refl
theorem ps_sIf {b1 b2 : List Stmt} (hc : PT X x (tM X.K F G c)) (h1 : PSs X b1 (tS X.K F G s)) (h2 : PSs X b2 (tS X.K F G t)) : PS X (.If x b1 b2 pos) (tS X.K F G (sIf c s t)) := by
  refine (ps_if hc h1 h2).weak fun D σ H ⟨m, a, r, R, e, k⟩ => ?_
  obtain ⟨q, e1, e2⟩ := Option.bind_eq_some_iff.mp e
  refine ⟨m, a, q, R, e1, fun H' m' R' s' => ?_⟩
  split at e2
  · rename_i hb
    rw [if_pos hb]
    exact ⟨m', q.2, r, R', e2, k.after s'⟩
  · rename_i hb
    rw [if_neg hb]
    exact ⟨m', q.2, r, R', e2, k.after s'⟩
theorem ps_sAsg {i : Nat} {y : Str} {py : Pos} (hN : X.N.Nodup) (hi : X.N[i]? = some y) (hy : Loc X.env.scope y) (hf : X.fn y = true ∨ X.env.scope.names.lookup y = some .local) (h : PE X x (tE X.K F G e)) (hc : notComp x = true) :
    PS X (.Assign [.Name y py] x pos) (tS X.K F G (sAsg i e)) := by
  refine (ps_set hN hi hy h (swaps_no hc) hf).weak fun D σ H ⟨m, a, r, R, e, k⟩ => ?_
  obtain ⟨q, e1, e2⟩ := Option.map_eq_some_iff.mp e
  subst e2
  exact ⟨m, a, q, R, e1, fun x H' m' R' s' r' => k _ H' m' (R'.put r') (s'.trans (Rl.putStp R'.len))⟩
theorem ps_sOwn {f : MAs} {i : Nat} {y : Str} {py : Pos} (hN : X.N.Nodup) (hi : X.N[i]? = some y) (hy : Loc X.env.scope y) (hf : X.fn y = true ∨ X.env.scope.names.lookup y = some .local) (h : PE X x (tF X.K F G f)) (hc : notComp x = true) :
    PS X (.Assign [.Name y py] x pos) (tS X.K F G (sOwn i f)) := by
  refine (ps_set hN hi hy h (swaps_no hc) hf).weak fun D σ H ⟨m, a, r, R, e, k⟩ => ?_
  obtain ⟨q, e1, e2⟩ := Option.map_eq_some_iff.mp e
  subst e2
  exact ⟨m, a, q, R, e1, fun p vs H' m' R' s' hp r' => k _ _ m' (R'.putOwn hp r') (s'.trans (Rl.putOwnStp hp))⟩

/-! ### targets of an unpacking -/
abbrev MG := List AV → AS → Option AS
/-- names, from the left -/
def gNs : List Nat → MG
  | [], [], a => some a
  | i :: is, v :: vs, a => gNs is vs (a.put i v)
  | _, _, _ => none
/-- only these slots change -/
def SetIn (is : List Nat) (σ σ' : L2.St) : Prop := σ'.length = σ.length ∧ ∀ j, j ∉ is → σ'[j]? = σ[j]?
def tGs (K : PySem.W.Frag) (F : Hot) (is : List Nat) : TGs := fun vs σ H Q => ∃ m a cs a', Rl K F m a σ H ∧ Rps' K F m a σ H vs cs ∧ gNs is cs a = some a' ∧ ∀ σ', SetIn is σ σ' → Rl K F m a' σ' H → Stp m a σ H m a' σ' H → Q σ' H
/-- the written targets are the names of these slots -/
def NamesAt (X : Cx) : List Expr → List Nat → Prop
  | [], [] => True
  | .Name y _ :: es, i :: is => X.N[i]? = some y ∧ Loc X.env.scope y ∧ (X.fn y = true ∨ X.env.scope.names.lookup y = some .local) ∧ NamesAt X es is
  | _, _ => False
theorem pgs_names (hN : X.N.Nodup) : ∀ {es : List Expr} {is : List Nat}, NamesAt X es is → PGs X es (tGs X.K F is) ∧ (assignEach es X.env).length = is.length ∧ (assignEach es X.env).findIdx? (·.1) = none
  | [], [], _ => ⟨⟨fun pins s σ H vs us Q I r ⟨m, a, cs, a', R, rr, e, k⟩ => pgs_nil.run pins s σ H vs us Q I r (by
      cases cs with
      | nil => cases rr; cases e; exact ⟨rfl, k σ ⟨rfl, fun _ _ => rfl⟩ R .refl⟩
      | cons c cs => cases e)⟩, rfl, rfl⟩
  | .Name y py :: es, i :: is, ⟨h1, h2, h3, h4⟩ => by
    obtain ⟨p, l, f⟩ := pgs_names hN h4
    refine ⟨⟨fun pins s σ H vs us Q I r ⟨m, a, cs, a', R, rr, e, k⟩ => (pgs_cons (pg_name hN h1 h2 h3) p).run pins s σ H vs us Q I r ?_⟩, by simpa [assignEach] using l, by simpa [assignEach, List.findIdx?_cons] using f⟩
    cases cs with
    | nil => cases e
    | cons c cs =>
      cases rr with
      | @cons v0 _ vs0 _ r1 rr =>
        refine ⟨v0, vs0, rfl, m, a.put i c, cs, a', R.put r1, rr.step R (Rl.putStp R.len), e, fun σ' hs R' s' => k σ' ⟨by rw [hs.1]; simp, fun j hj => ?_⟩ R' ((Rl.putStp R.len).trans s')⟩
        rw [hs.2 j fun h => hj (List.mem_cons_of_mem _ h)]
        exact List.getElem?_set_ne fun e => hj (by rw [← e]; exact List.mem_cons_self)
/-- a tuple or a list of that length is unpacked -/
def seqOf (S : List SObj) (v : AV) : Option (List AV) := match res S v with
  | .lst xs => some xs
  | .tup xs => some xs
  | _ => none
def sUnp (is : List Nat) (e : ME) : MS := fun G a => (e G a).bind fun r => (seqOf r.2.S r.1).bind fun xs => (gNs is xs r.2).map fun a' => (.nx, a')
theorem gNs_len : ∀ {is : List Nat} {xs : List AV} {a a' : AS}, gNs is xs a = some a' → xs.length = is.length
  | [], [], _, _, _ => rfl
  | _ :: _, _ :: _, _, _, h => congrArg Nat.succ (gNs_len h)
  | [], _ :: _, _, _, h => by cases h
  | _ :: _, [], _, _, h => by cases h
theorem pg_unp (hc : X.calm = true) (hN : X.N.Nodup) {es : List Expr} {is : List Nat} {k : Nat} (h : NamesAt X es is) :
    PG X (.Tuple es k pos) (fun v σ H Q => ∃ m a c xs a', Rl X.K F m a σ H ∧ Rp' X.K F m a σ H v c ∧ seqOf a.S c = some xs ∧ gNs is xs a = some a' ∧ ∀ σ', SetIn is σ σ' → Rl X.K F m a' σ' H → Stp m a σ H m a' σ' H → Q σ' H) := by
  obtain ⟨p, l, f⟩ := pgs_names (F := F) hN h
  refine ⟨fun pins s σ H v u Q I r ⟨m, a, c, xs, a', R, rr, e, e2, k⟩ => ?_⟩
  have b := Rp.res R rr
  unfold seqOf at e
  split at e
  · rename_i ys hy
    cases e
    rw [hy] at b
    obtain ⟨q, vs, rfl, h1, r1⟩ := b.lst
    exact (pg_unl hc p l f).run pins s σ H _ u Q I r ⟨q, vs, rfl, h1, r1.length.trans (gNs_len e2), m, a, _, a', R, r1, e2, k⟩
  · rename_i ys hy
    cases e
    rw [hy] at b
    obtain ⟨q, vs, rfl, h1, r1⟩ := b.tup
    exact (pg_tup hc p l f).run pins s σ H _ u Q I r ⟨q, vs, rfl, h1.sqT, r1.length.trans (gNs_len e2), m, a, _, a', R, r1, e2, k⟩
  · cases e
/-- what swaps no stores -/
def noSwap (ts : List Expr) : Expr → Bool
  | .Tuple _ _ _ => decide (3 < ts.length)
  | _ => true
theorem swapped_no {ts : List Expr} {k : Nat} {pt : Pos} {v : Expr} {env : Env} (h : noSwap ts v = true) : swappedStores [.Tuple ts k pt] v env = pure none := by
  cases v with
  | Tuple es k2 p2 =>
    have hl : 3 < ts.length := of_decide_eq_true h
    have h2 : (ts.length == 2) = false := by simp; omega
    have h3 : (ts.length == 3) = false := by simp; omega
    unfold swappedStores
    simp [h2, h3]
  | _ => rfl
theorem ps_sUnp {es : List Expr} {is : List Nat} {k : Nat} {pt : Pos} (hc : X.calm = true) (hN : X.N.Nodup) (hes : NamesAt X es is) (h : PE X x (tE X.K F G e)) (hx : notComp x = true) (hs : noSwap es x = true) :
    PS X (.Assign [.Tuple es k pt] x pos) (tS X.K F G (sUnp is e)) := by
  refine (ps_asg (pos := pos) h (pg_unp (F := F) hc hN hes) (by unfold swapsWithSole; exact swaps_no hx) (swapped_no hs)).weak fun D σ H ⟨m, a, r, R, e, k⟩ => ?_
  obtain ⟨q, e1, e⟩ := Option.bind_eq_some_iff.mp e
  obtain ⟨xs, e2, e⟩ := Option.bind_eq_some_iff.mp e
  obtain ⟨a', e3, e4⟩ := Option.map_eq_some_iff.mp e
  subst e4
  exact ⟨m, a, q, R, e1, fun x H' m' R' s' r' => ⟨m', q.2, q.1, xs, a', R', r', e2, e3, fun σ' _ R2 s2 => k σ' H' m' R2 (s'.trans s2)⟩⟩
/-- a, b = x, y; a, b, c = x, y, z: all values ahead of the stores -/
def sPar (is : List Nat) (t : MAs) : MS := fun G a => (t G a).bind fun r => (gNs is r.1 r.2).map fun a' => (.nx, a')
theorem isStar_no : ∀ e : Expr, notStar e = true → (match e with | .Starred .. => true | _ => false) = false := fun e h => by cases e <;> first | rfl | cases h
theorem swapped2 {n1 n2 : Str} {p1 p2 pt pv : Pos} {kt kv : Nat} {a b : Expr} {env : Env} (hk : env.scope.kind = .function) (h1 : env.scope.names.lookup n1 = some .local) (h2 : env.scope.names.lookup n2 = some .local) (hp : (p2.line == p1.line) = true) (hn : n1 ≠ n2)
    (sa : notStar a = true) (sb : notStar b = true) (hf : ([a, b].all (foldedForSure 8)) = false) (hc : ([a, b].all (constantsAlone 8)) = false) :
    swappedStores [.Tuple [.Name n1 p1, .Name n2 p2] kt pt] (.Tuple [a, b] kv pv) env = pure (some [n1, n2]) := by
  have e1 : env.kindOf n1 = some .local := h1
  have e2 : env.kindOf n2 = some .local := h2
  have hb : (env.blockKind != .function) = false := by unfold Env.blockKind; rw [hk]; rfl
  have h4 : ¬ n2 = n1 := fun e => hn e.symm
  have hp' : p2.line = p1.line := by simpa using hp
  unfold swappedStores
  simp [hb, e1, e2, hp', hf, hc, Expr.pos, List.eraseDups_cons, h4]
  rintro (h | h) <;> exfalso
  · split at h
    · cases sa
    · cases h
  · split at h
    · cases sb
    · cases h
theorem swapped3 {n1 n2 n3 : Str} {p1 p2 p3 pt pv : Pos} {kt kv : Nat} {a b c : Expr} {env : Env} (hk : env.scope.kind = .function) (h1 : env.scope.names.lookup n1 = some .local) (h2 : env.scope.names.lookup n2 = some .local) (h3 : env.scope.names.lookup n3 = some .local) (hp : (p2.line == p1.line) = true) (hp3 : (p3.line == p1.line) = true)
    (hn : n1 ≠ n2) (hn1 : n1 ≠ n3) (hn2 : n2 ≠ n3)
    (sa : notStar a = true) (sb : notStar b = true) (sc : notStar c = true) (hf : ([a, b, c].all (foldedForSure 8)) = false) (hc : ([a, b, c].all (constantsAlone 8)) = false) :
    swappedStores [.Tuple [.Name n1 p1, .Name n2 p2, .Name n3 p3] kt pt] (.Tuple [a, b, c] kv pv) env = pure (some [n1, n2, n3]) := by
  have e1 : env.kindOf n1 = some .local := h1
  have e2 : env.kindOf n2 = some .local := h2
  have e3 : env.kindOf n3 = some .local := h3
  have hb : (env.blockKind != .function) = false := by unfold Env.blockKind; rw [hk]; rfl
  have h4 : ¬ n2 = n1 := fun e => hn e.symm
  have h5 : ¬ n3 = n1 := fun e => hn1 e.symm
  have h6 : ¬ n3 = n2 := fun e => hn2 e.symm
  have hp' : p2.line = p1.line := by simpa using hp
  have hp3' : p3.line = p1.line := by simpa using hp3
  unfold swappedStores
  simp [hb, e1, e2, e3, hp', hp3', hf, hc, Expr.pos, List.eraseDups_cons, h4, h5, h6]
  rintro (h | h | h) <;> exfalso
  · split at h
    · cases sa
    · cases h
  · split at h
    · cases sb
    · cases h
  · split at h
    · cases sc
    · cases h
theorem set_put {K : PySem.W.Frag} {m : List Addr} {a a' : AS} {σ : L2.St} {H : Hp} : ∀ {is : List Nat} {vs : List V} {cs : List AV}, Rl K F m a σ H → Rps' K F m a σ H vs cs → gNs is cs a = some a' →
    Rl K F m a' ((is.zip vs).foldl (fun σ p => σ.set p.1 (some p.2)) σ) H ∧ Stp m a σ H m a' ((is.zip vs).foldl (fun σ p => σ.set p.1 (some p.2)) σ) H
  | [], [], [], R, _, e => by cases e; exact ⟨R, .refl⟩
  | i :: is, _ :: vs, c :: cs, R, .cons r rr, e => by
    obtain ⟨h1, h2⟩ := set_put (R.put r) (rr.step R (Rl.putStp R.len)) e
    exact ⟨h1, (Rl.putStp R.len).trans h2⟩
  | [], _ :: _, _ :: _, _, _, e => by cases e
  | _ :: _, [], [], _, _, e => by cases e
theorem ps_sPar2 {i j : Nat} {n1 n2 : Str} {p1 p2 pt pv : Pos} {kt kv : Nat} {x y : Expr} {t : MAs} (hc : X.calm = true) (hN : X.N.Nodup) (hk : X.env.scope.kind = .function) (hi : X.N[i]? = some n1) (hj : X.N[j]? = some n2) (hij : i ≠ j)
    (h1 : X.env.scope.names.lookup n1 = some .local) (h2 : X.env.scope.names.lookup n2 = some .local) (hp : (p2.line == p1.line) = true) (hn : n1 ≠ n2) (sa : notStar x = true) (sb : notStar y = true) (hf : ([x, y].all (foldedForSure 8)) = false) (hcc : ([x, y].all (constantsAlone 8)) = false)
    (ha : PA X [x, y] (tAs X.K F G t)) : PS X (.Assign [.Tuple [.Name n1 p1, .Name n2 p2] kt pt] (.Tuple [x, y] kv pv) pos) (tS X.K F G (sPar [i, j] t)) := by
  refine (ps_par hc hN hi hj hij h1 h2 ha (swapped2 hk h1 h2 hp hn sa sb hf hcc)).weak fun D σ H ⟨m, a, r, R, e, k⟩ => ?_
  obtain ⟨q, e1, e⟩ := Option.bind_eq_some_iff.mp e
  obtain ⟨a', e2, e3⟩ := Option.map_eq_some_iff.mp e
  subst e3
  refine ⟨m, a, q, R, e1, fun vs H1 m1 R1 s1 r1 => ?_⟩
  have hl : vs.length = 2 := r1.length.trans (gNs_len e2)
  match vs, hl with
  | [u, v], _ =>
    obtain ⟨w1, w2⟩ := set_put R1 r1 e2
    exact ⟨u, v, rfl, k _ H1 m1 w1 (s1.trans w2)⟩
theorem ps_sPar3 {i j l : Nat} {n1 n2 n3 : Str} {p1 p2 p3 pt pv : Pos} {kt kv : Nat} {x y z : Expr} {t : MAs} (hc : X.calm = true) (hN : X.N.Nodup) (hk : X.env.scope.kind = .function) (hi : X.N[i]? = some n1) (hj : X.N[j]? = some n2) (hl : X.N[l]? = some n3) (hij : i ≠ j) (hil : i ≠ l) (hjl : j ≠ l)
    (h1 : X.env.scope.names.lookup n1 = some .local) (h2 : X.env.scope.names.lookup n2 = some .local) (h3 : X.env.scope.names.lookup n3 = some .local) (hp : (p2.line == p1.line) = true) (hp3 : (p3.line == p1.line) = true) (hn : n1 ≠ n2) (hn1 : n1 ≠ n3) (hn2 : n2 ≠ n3)
    (sa : notStar x = true) (sb : notStar y = true) (sc : notStar z = true) (hf : ([x, y, z].all (foldedForSure 8)) = false) (hcc : ([x, y, z].all (constantsAlone 8)) = false)
    (ha : PA X [x, y, z] (tAs X.K F G t)) : PS X (.Assign [.Tuple [.Name n1 p1, .Name n2 p2, .Name n3 p3] kt pt] (.Tuple [x, y, z] kv pv) pos) (tS X.K F G (sPar [i, j, l] t)) := by
  refine (ps_par3 hc hN hi hj hl hij hil hjl h1 h2 h3 ha (swapped3 hk h1 h2 h3 hp hp3 hn hn1 hn2 sa sb sc hf hcc)).weak fun D σ H ⟨m, a, r, R, e, k⟩ => ?_
  obtain ⟨q, e1, e⟩ := Option.bind_eq_some_iff.mp e
  obtain ⟨a', e2, e3⟩ := Option.map_eq_some_iff.mp e
  subst e3
  refine ⟨m, a, q, R, e1, fun vs H1 m1 R1 s1 r1 => ?_⟩
  have hl : vs.length = 3 := r1.length.trans (gNs_len e2)
  match vs, hl with
  | [u, v, w], _ =>
    obtain ⟨w1, w2⟩ := set_put R1 r1 e2
    exact ⟨u, v, w, rfl, k _ H1 m1 w1 (s1.trans w2)⟩

/-! ### x += e, x -= e of whole numbers -/
def sAug (i : Nat) (f : Op2) (o : MO) : MS := fun G a => (slotV a.S a.ρ[i]?).bind fun c0 => (o G a).bind fun r => (cont r.2 r.1).bind fun c => match c0, c with
  | .int x, .int y => (f r.2.S (.int x) (.int y)).bind fun v => match v with
    | .int z => some (.nx, r.2.put i (.int z))
    | _ => none
  | _, _ => none
theorem ps_sAug {op : Operator} {f : Op2} {i : Nat} {y : Str} {py : Pos} {o : MO} (hN : X.N.Nodup) (hi : X.N[i]? = some y) (hy : Loc X.env.scope y) (hf : X.fn y = true ∨ X.env.scope.names.lookup y = some .local) (h : PE X x (tO X.K F G o))
    (ho : (op = .Add ∧ f = opAdd) ∨ (op = .Sub ∧ f = opSub)) : PS X (.AugAssign (.Name y py) op x pos) (tS X.K F G (sAug i f o)) := by
  have main : ∀ (g : Int → Int → Int), PIp X op (ipI g) → (∀ S (a b : Int), f S (.int a) (.int b) = some (.int (g a b))) → PS X (.AugAssign (.Name y py) op x pos) (tS X.K F G (sAug i f o)) := by
    intro g hg hfg
    refine (ps_aug hN hi hy h hg hf).weak fun D σ H ⟨m, a, r, R, e, k⟩ => ?_
    obtain ⟨c0, e0, e⟩ := Option.bind_eq_some_iff.mp e
    obtain ⟨q, e1, e⟩ := Option.bind_eq_some_iff.mp e
    obtain ⟨c, e2, e⟩ := Option.bind_eq_some_iff.mp e
    obtain ⟨u, w, rfl, rfl⟩ : ∃ u w, c0 = .int u ∧ c = .int w := by
      cases c0 <;> cases c <;> first | exact ⟨_, _, rfl, rfl⟩ | cases e
    have e9 : ((f q.2.S (.int u) (.int w)).bind fun v => match v with | .int z => some (Out.nx, q.2.put i (.int z)) | _ => none) = some r := e
    rw [hfg] at e9
    cases e9
    · skip
      have hx : σ[i]? = some (some (.int u)) := by
        cases q : a.ρ[i]? with
        | none => rw [q] at e0; cases e0
        | some s0 =>
          rw [q] at e0
          cases s0 with
          | none => cases e0
          | some sl =>
            cases sl with
            | own xs => cases e0
            | val v =>
              obtain ⟨z, z1, z2⟩ := R.slot i v q
              have b := Rp.res R z2
              rw [show res a.S v = .int u from Option.some.inj e0] at b
              rw [z1, b.int]
      refine ⟨_, hx, m, a, q, R, e1, fun x H' m' R' s' r' => ?_⟩
      have b := r'.cont R' e2
      rw [b.int]
      exact ⟨u, w, rfl, rfl, k _ H' m' (R'.put (.int _)) (s'.trans (Rl.putStp R'.len))⟩
  rcases ho with ⟨rfl, rfl⟩ | ⟨rfl, rfl⟩
  · exact main _ ip_add fun _ _ _ => rfl
  · exact main _ ip_sub fun _ _ _ => rfl

/-! ### o[i] = e -/
def dPut (kvs : List (Str × AV)) (k : Str) (v : AV) : List (Str × AV) :=
  if (kvs.any fun kv => decide (kv.1 = k)) = true then kvs.map (fun kv => if kv.1 = k then (kv.1, v) else kv) else kvs ++ [(k, v)]
def putD (a : AS) (n : Nat) (k : Str) (v : AV) : Option SObj → Option AS
  | some (.dic kvs) => if kvs.length < sizeLine then some (a.setS n (.dic (dPut kvs k v))) else none
  | _ => none
def setL (j : Int) (v : AV) (xs : List AV) : Option (List AV) := (ixN xs.length j).map fun k => xs.set k v
def hdRef (a : AS) : Hd → Option Nat
  | .val (.ref n) => some n
  | .slot i => match a.ρ[i]? with
    | some (some (.val (.ref n))) => some n
    | _ => none
  | _ => none
def storeI (a : AS) (h : Hd) (i v : AV) : Option AS := match i with
  | .int j => mutL a (setL j v) h
  | .str k => (hdRef a h).bind fun n => putD a n k v a.S[n]?
  | _ => none
def sSet (o : MO) (i e : ME) : MS := fun G a => (e G a).bind fun r => (o G r.2).bind fun r1 => (i G r1.2).bind fun r2 => (storeI r2.2 r1.1 r2.1 r.1).map fun a' => (.nx, a')
def rSetG : V → V → V → Hp → (Hp → Prop) → Prop := fun o i v H Q => rSetL o i v H Q ∨ ∃ a H', o = .ref a ∧ DPut H a i v H' ∧ Q H'
theorem set_g (hu : X.A.units + 1 < cLine) : PSet X rSetG := by
  intro pins s σ H o i v ov iv u Q I ro ri rv h
  rcases h with h | ⟨a, H', rfl, g, q⟩
  · exact set_list pins s σ H o i v ov iv u Q I ro ri rv h
  · cases ro
    exact d_setItem hu I g ri rv fun s' I' => ⟨H', I', q⟩
theorem RpD.length {K : PySem.W.Frag} {H : Hp} {hot : Hot} {m : List Addr} : ∀ {xs : List (Key × V)} {vs : List (Str × AV)}, RpD K H hot m xs vs → xs.length = vs.length
  | [], [], _ => rfl
  | _ :: _, _ :: _, ⟨_, _, t⟩ => congrArg Nat.succ (RpD.length t)
  | [], _ :: _, h => h.elim
  | _ :: _, [], h => h.elim
theorem RpD.put {K : PySem.W.Frag} {H : Hp} {hot : Hot} {m : List Addr} {k : Str} {v : AV} {x : V} {xs : List (Key × V)} {vs : List (Str × AV)} (r : RpD K H hot m xs vs) (rv : Rp K H hot m x v) : RpD K H hot m (putK xs (Sum.inr k) x) (dPut vs k v) := by
  have hany : ∀ {xs : List (Key × V)} {vs : List (Str × AV)}, RpD K H hot m xs vs → (xs.any fun kv => decide (kv.1 = Sum.inr k)) = vs.any fun kv => decide (kv.1 = k) := by
    intro xs vs r
    induction xs generalizing vs with
    | nil => cases vs with
      | nil => rfl
      | cons _ _ => exact r.elim
    | cons p xs ih => cases vs with
      | nil => exact r.elim
      | cons q vs =>
        obtain ⟨k', x'⟩ := p
        obtain ⟨s, v'⟩ := q
        obtain ⟨e, _, t⟩ := r
        subst e
        rw [List.any_cons, List.any_cons, ih t]
        congr 1
        by_cases h : s = k
        · simp [h]
        · simp [h]
  have hmap : ∀ {xs : List (Key × V)} {vs : List (Str × AV)}, RpD K H hot m xs vs → RpD K H hot m (xs.map fun kv => if kv.1 = Sum.inr k then (kv.1, x) else kv) (vs.map fun kv => if kv.1 = k then (kv.1, v) else kv) := by
    intro xs vs r
    induction xs generalizing vs with
    | nil => cases vs with
      | nil => trivial
      | cons _ _ => exact r.elim
    | cons p xs ih => cases vs with
      | nil => exact r.elim
      | cons q vs =>
        obtain ⟨k', x'⟩ := p
        obtain ⟨s, v'⟩ := q
        obtain ⟨e, r1, t⟩ := r
        subst e
        rw [List.map_cons, List.map_cons]
        by_cases h : s = k
        · subst h
          rw [if_pos rfl, if_pos rfl]
          exact ⟨rfl, rv, ih t⟩
        · rw [if_neg (fun e => h (Sum.inr.inj e)), if_neg h]
          exact ⟨rfl, r1, ih t⟩
  have happ : ∀ {xs : List (Key × V)} {vs : List (Str × AV)}, RpD K H hot m xs vs → RpD K H hot m (xs ++ [(Sum.inr k, x)]) (vs ++ [(k, v)]) := by
    intro xs vs r
    induction xs generalizing vs with
    | nil => cases vs with
      | nil => exact ⟨rfl, rv, trivial⟩
      | cons _ _ => exact r.elim
    | cons p xs ih => cases vs with
      | nil => exact r.elim
      | cons q vs => exact ⟨r.1, r.2.1, ih r.2.2⟩
  unfold putK dPut
  rw [hany r]
  split
  · exact hmap r
  · exact happ r
theorem swaps_sub {v o i : Expr} {p : Pos} {l : Nat} {env : Env} : swapsWith v (some (.Subscript o i p)) l env = pure false := by
  cases v <;> rfl
theorem ps_sSet {o : MO} {i : ME} {ob ix : Expr} {pt : Pos} (hu : X.A.units + 100 < cLine) (he : PE X x (tE X.K F G e)) (ho : PE X ob (tO X.K F G o)) (hi : PE X ix (tE X.K F G i))
    (ha : ∀ v, assign (.Subscript ob ix pt) X.env v = (do
      let ov ← holding [v] (eval ob X.env)
      let iv ← holding [v, ov] (eval ix X.env)
      standAt pt
      holding [v, ov, iv] (setItem ov iv v)
      release [v, ov, iv] [])) : PS X (.Assign [.Subscript ob ix pt] x pos) (tS X.K F G (sSet o i e)) := by
  refine (ps_asg (pos := pos) he (pg_sub ho hi (set_g (by omega)) ha) (by unfold swapsWithSole; exact swaps_sub)).weak fun D σ H ⟨m, a, r, R, e, k⟩ => ?_
  obtain ⟨q, e1, e⟩ := Option.bind_eq_some_iff.mp e
  obtain ⟨q1, e2, e⟩ := Option.bind_eq_some_iff.mp e
  obtain ⟨q2, e3, e⟩ := Option.bind_eq_some_iff.mp e
  obtain ⟨a', e4, e5⟩ := Option.map_eq_some_iff.mp e
  subst e5
  refine ⟨m, a, q, R, e1, fun v H1 m1 R1 s1 r1 => ⟨m1, q.2, q1, R1, e2, fun ov H2 m2 R2 s2 h2 => ⟨m2, q1.2, q2, R2, e3, fun iv H3 m3 R3 s3 r3 => ?_⟩⟩⟩
  have rv := (r1.step R1 s2).step R2 s3
  have h3 := h2.step R2 s3
  have s := (s1.trans s2).trans s3
  unfold storeI at e4
  split at e4
  · rename_i j hj
    rw [hj] at r3; cases r3
    obtain ⟨p, vs, xs, ys, rfl, g1, g2, g3, g4, g5⟩ := mutL_ok R3 h3 e4
    obtain ⟨kk, g5, g6⟩ := Option.map_eq_some_iff.mp g3
    subst g6
    obtain ⟨w1, w2⟩ := g4 (vs.set kk v) (Rps.set rv kk g2)
    exact .inl ⟨p, vs, j, kk, rfl, rfl, g1, by rw [g2.length]; exact g5, k _ _ m3 w1 (s.trans w2)⟩
  · rename_i kk hj
    rw [hj] at r3; cases r3
    obtain ⟨n, e6, e7⟩ := Option.bind_eq_some_iff.mp e4
    have rn : Rp' X.K F m3 q2.2 σ H3 ov (.ref n) := by
      cases hq : q1.1 with
      | val w =>
        rw [hq] at e6 h3
        cases w with
        | ref n' => cases e6; exact h3
        | _ => cases e6
      | slot l =>
        rw [hq] at e6 h3
        have h3' : σ[l]? = some (some ov) := h3
        unfold hdRef at e6
        simp only at e6
        split at e6
        · rename_i n' hz
          cases e6
          obtain ⟨z, z1, z2⟩ := R3.slot l _ hz
          rw [h3'] at z1; cases z1
          exact z2
        · cases e6
    cases hz : q2.2.S[n]? with
    | none => rw [hz] at e7; cases e7
    | some ob =>
      rw [hz] at e7
      cases ob with
      | lst _ => cases e7
      | dic kvs =>
        have e7' : (if kvs.length < sizeLine then some (q2.2.setS n (.dic (dPut kvs kk q.1))) else none) = some a' := e7
        split at e7'
        · rename_i hl
          cases e7'
          cases rn with
          | ref hm =>
            rename_i p
            obtain ⟨vs, g1, g2⟩ := R3.obj n _ _ hz hm
            have hlen : vs.length = kvs.length := g2.length
            have st : Stp m3 q2.2 σ H3 m3 (q2.2.setS n (.dic (dPut kvs kk q.1))) σ (upd H3 p (.dK (putK vs (Sum.inr kk) v))) := Rl.setSStp hm
            refine .inr ⟨p, _, rfl, DPut.k (k := Sum.inr kk) g1 (by rw [hlen]; exact hl), k _ _ m3 (R3.setS hm ⟨_, upd_same, (g2.put rv).keep (R3.keeps st)⟩ (.inr ⟨_, upd_same⟩)) (s.trans st)⟩
        · cases e7'
  · cases e4
end
end Pyx
end
section
set_option maxRecDepth 100000
namespace Pyx
open PySem PySem.Spec PyProof.Rows L2

/-! ### loops -/
/-- behind a turn: on, out, away -/
def turn (next : AS → Option (Out × AS)) (q : Out × AS) : Option (Out × AS) := match q.1 with
  | .nx => next q.2
  | .ct => next q.2
  | .bk => some (.nx, q.2)
  | .rt v => some (.rt v, q.2)
inductive Tg where
  | one (i : Nat) | many (is : List Nat)
def Tg.slots : Tg → List Nat
  | .one i => [i]
  | .many is => is
def asgT : Tg → AV → AS → Option AS
  | .one i, v, a => some (a.put i v)
  | .many is, v, a => (seqOf a.S v).bind fun xs => gNs is xs a
def loopL (tg : Tg) (body : AS → Option (Out × AS)) : List AV → AS → Option (Out × AS)
  | [], a => some (.nx, a)
  | x :: xs, a => (asgT tg x a).bind fun a' => (body a').bind (turn (loopL tg body xs))
/-- over a list of the store, as it stands at each turn; its length stays -/
def lenIs (a : AS) (n len : Nat) : Bool := match a.S[n]? with
  | some (.lst xs) => xs.length == len
  | _ => false
def itemAt (a : AS) (n len i : Nat) : Option AV := match a.S[n]? with
  | some (.lst xs) => if xs.length = len then xs[i]? else none
  | _ => none
def loopR (tg : Tg) (body : AS → Option (Out × AS)) (n len : Nat) : Nat → AS → Option (Out × AS)
  | 0, a => if lenIs a n len = true then some (.nx, a) else none
  | k + 1, a => (itemAt a n len (len - (k + 1))).bind fun x => (asgT tg x a).bind fun a' => (body a').bind (turn (loopR tg body n len k))

section
variable {X : Cx} {F : Hot} {G : Gm}
theorem for_gen {J : It} {g : TG} {body : MS} {D : Ends} {n : Nat} {m0 : List Addr} {a0 : AS} {σ0 : L2.St} {H0 : Hp} {rF : Out × AS} (run : Nat → AS → Option (Out × AS)) (asg : Nat → AS → Option AS)
    (R0 : Rl X.K F m0 a0 σ0 H0) (h0 : run 0 a0 = some rF) (hD : EndS X.K F m0 a0 σ0 H0 D rF.1 rF.2)
    (hrun : ∀ i a r, i < n → run i a = some r → ∃ a' q, asg i a = some a' ∧ body G a' = some q ∧ turn (run (i + 1)) q = some r)
    (hend : ∀ a r, run n a = some r → r = (.nx, a))
    (hstop : ∀ m a σ H r, Rl X.K F m a σ H → Stp m0 a0 σ0 H0 m a σ H → run n a = some r → J.stop n H)
    (hgo : ∀ i m a σ H a', i < n → Rl X.K F m a σ H → Stp m0 a0 σ0 H0 m a σ H → asg i a = some a' → J.go i H ∧ ∀ x H', J.yld i H x H' → ∀ Q : L2.St → Hp → Prop, (∀ σ' H'' m', Rl X.K F m' a' σ' H'' → Stp m a σ H m' a' σ' H'' → Q σ' H'') → g x σ H' Q) :
    ∃ W : Nat → Nat → L2.St → Hp → Prop, (∃ k, W 0 k σ0 H0) ∧ ∀ i k σ H, W i k σ H →
      (J.stop i H ∧ D.nx σ H) ∨ (J.go i H ∧ ∃ N : L2.St → Hp → Prop, (∀ σ' H', N σ' H' → ∃ m', m' < k ∧ W (i + 1) m' σ' H') ∧ ∀ x H', J.yld i H x H' → g x σ H' fun σ2 H2 => tS X.K F G body { D with nx := N, ct := N, bk := D.nx } σ2 H2) := by
  refine ⟨fun i k σ H => i + k = n ∧ ∃ m a, Rl X.K F m a σ H ∧ Stp m0 a0 σ0 H0 m a σ H ∧ run i a = some rF, ⟨n, by omega, m0, a0, R0, .refl, h0⟩, ?_⟩
  rintro i k σ H ⟨hik, m, a, R, s, hr⟩
  by_cases hi : i < n
  · refine .inr ?_
    obtain ⟨a', q, e1, e2, e3⟩ := hrun i a rF hi hr
    obtain ⟨h1, h2⟩ := hgo i m a σ H a' hi R s e1
    refine ⟨h1, fun σ' H' => ∃ m', Rl X.K F m' q.2 σ' H' ∧ Stp m0 a0 σ0 H0 m' q.2 σ' H' ∧ run (i + 1) q.2 = some rF, ?_, fun x H' hy => h2 x H' hy _ fun σ' H'' m' R' s' => ⟨m', a', q, R', e2, ?_⟩⟩
    · rintro σ' H' ⟨m', R', s', hr'⟩
      exact ⟨k - 1, by omega, by omega, m', q.2, R', s', hr'⟩
    · have st := s.trans s'
      obtain ⟨o, a2⟩ := q
      cases o with
      | nx => exact fun σ2 H2 m2 R2 s2 => ⟨m2, R2, st.trans s2, e3⟩
      | ct => exact fun σ2 H2 m2 R2 s2 => ⟨m2, R2, st.trans s2, e3⟩
      | bk =>
        cases e3
        exact fun σ2 H2 m2 R2 s2 => hD σ2 H2 m2 R2 (st.trans s2)
      | rt v =>
        cases e3
        exact fun x σ2 H2 m2 R2 s2 r2 => hD x σ2 H2 m2 R2 (st.trans s2) r2
  · refine .inl ?_
    have e : i = n := by omega
    subst e
    have e := hend a rF hr
    subst e
    exact ⟨hstop m a σ H _ R s hr, hD σ H m R s⟩

/-! ### targets -/
def TgOk (X : Cx) : Expr → Tg → Prop
  | .Name y p, .one i => NamesAt X [.Name y p] [i]
  | .Tuple es _ _, .many is => NamesAt X es is
  | _, _ => False
def tG (K : PySem.W.Frag) (F : Hot) (tg : Tg) : TG := fun v σ H Q => ∃ m a c a', Rl K F m a σ H ∧ Rp' K F m a σ H v c ∧ asgT tg c a = some a' ∧ ∀ σ', SetIn tg.slots σ σ' → Rl K F m a' σ' H → Stp m a σ H m a' σ' H → Q σ' H
theorem pg_tg (hc : X.calm = true) (hN : X.N.Nodup) : ∀ {t : Expr} {tg : Tg}, TgOk X t tg → PG X t (tG X.K F tg)
  | .Name y p, .one i, ⟨h1, h2, h3, _⟩ => ⟨fun pins s σ H v u Q I r ⟨m, a, c, a', R, rr, e, k⟩ => (pg_name hN h1 h2 h3).run pins s σ H v u Q I r (by
      cases e
      refine k _ ⟨by simp, fun j hj => ?_⟩ (R.put rr) (Rl.putStp R.len)
      exact List.getElem?_set_ne fun e => hj (by rw [e]; exact List.mem_cons_self))⟩
  | .Tuple es k p, .many is, h => ⟨fun pins s σ H v u Q I r ⟨m, a, c, a', R, rr, e, k⟩ => (pg_unp (F := F) hc hN h).run pins s σ H v u Q I r (by
      obtain ⟨xs, e1, e2⟩ := Option.bind_eq_some_iff.mp e
      exact ⟨m, a, c, xs, a', R, rr, e1, e2, k⟩)⟩

/-! ### for over a list or a tuple -/
def sForV (it : ME) (tg : Tg) (body : MS) : MS := fun G a => (it G a).bind fun r => match r.1 with
  | .lst xs => loopL tg (body G) xs r.2
  | .tup xs => loopL tg (body G) xs r.2
  | .ref n => match r.2.S[n]? with
    | some (.lst xs) => loopR tg (body G) n xs.length xs.length r.2
    | _ => none
  | _ => none
theorem loopL_step {tg : Tg} {body : MS} {xs : List AV} {i : Nat} {a : AS} {r : Out × AS} (hi : i < xs.length) (h : loopL tg (body G) (xs.drop i) a = some r) :
    ∃ a' q, (xs[i]?.bind fun x => asgT tg x a) = some a' ∧ body G a' = some q ∧ turn (fun a => loopL tg (body G) (xs.drop (i + 1)) a) q = some r := by
  rw [List.drop_eq_getElem_cons hi] at h
  obtain ⟨a', e1, e2⟩ := Option.bind_eq_some_iff.mp h
  obtain ⟨q, e3, e4⟩ := Option.bind_eq_some_iff.mp e2
  exact ⟨a', q, by rw [List.getElem?_eq_getElem hi]; exact e1, e3, e4⟩
def notSet : Expr → Bool
  | .Set _ _ _ => false
  | _ => true
theorem foldedSet_no {iter : Expr} {env : Env} (h : notSet iter = true) : ∀ x, foldedSetIterable iter env x = pure x := fun x => by
  cases iter <;> first | rfl | cases h
theorem Rd.stay {m : List Addr} {a : AS} {σ : L2.St} {H : Hp} {m0 : List Addr} {a0 : AS} {σ0 : L2.St} {H0 : Hp} {p : Addr} {vs : List V} (s : Stp m0 a0 σ0 H0 m a σ H) (h : Rd H0 p (.lst vs)) (n : ¬ Loc' m0 a0 σ0 p) : Rd H p (.lst vs) := by
  rcases h with h | ⟨o, h⟩
  · exact .inl (s.keep p _ h n)
  · exact .inr ⟨o, s.keep p _ h n⟩
theorem Rp.lstI {K : PySem.W.Frag} {F : Hot} {m : List Addr} {a : AS} {σ : L2.St} {H : Hp} {x : V} {xs : List AV} (r : Rp' K F m a σ H x (.lst xs)) : ∃ p vs, x = .ref p ∧ Rps' K F m a σ H vs xs ∧ ∀ {m' a' σ' H'}, Stp m a σ H m' a' σ' H' → SqL K H' p vs := by
  cases r with
  | lst hl hn rr => exact ⟨_, _, rfl, rr, fun s => .inl (Rd.stay s hl fun l => hn (.inr l))⟩
  | lstK hl rr => exact ⟨_, _, rfl, rr, fun s => .inr hl⟩
theorem TupZ.stay {K : PySem.W.Frag} {m : List Addr} {a : AS} {σ : L2.St} {H : Hp} {m0 : List Addr} {a0 : AS} {σ0 : L2.St} {H0 : Hp} {p : Addr} {vs : List V} (R : Rl K F m0 a0 σ0 H0) (s : Stp m0 a0 σ0 H0 m a σ H) (h : TupZ K H0 p vs) : TupZ K H p vs := by
  rcases h with ⟨o, h, t⟩ | h
  · exact .inl ⟨o, (R.keeps s).tup _ _ _ h, t⟩
  · exact .inr h
theorem ps_sForV {it : Expr} {t : Expr} {tg : Tg} {e : ME} {body : MS} {sb : List Stmt} {pos : Pos} (hc : X.calm = true) (hxe : X.xe = fun _ _ => False) (hN : X.N.Nodup) (ht : TgOk X t tg) (he : PE X it (tE X.K F G e)) (hb : PSs X sb (tS X.K F G body))
    (hs : notSet it = true) : PS X (.For t it sb [] pos) (tS X.K F G (sForV e tg body)) := by
  have hp : PassesOwn (model X.prog X.w) X.A X.env X.xe := by rw [hxe]; exact PassesOwn.never
  have PL := ps_for (pos := pos) hp hc (pi_list (tg := t) he) (pg_tg (F := F) hc hN ht) hb (foldedSet_no hs)
  have PT := ps_for (pos := pos) hp hc (pi_tup (tg := t) he) (pg_tg (F := F) hc hN ht) hb (foldedSet_no hs)
  have both : PS X (.For t it sb [] pos) (fun D σ H => tFor (iList X.K (tE X.K F G e)) (tG X.K F tg) (tS X.K F G body) D σ H ∨ tFor (iTup X.K (tE X.K F G e)) (tG X.K F tg) (tS X.K F G body) D σ H) :=
    ⟨fun pins s σ H D I h => h.elim (PL.run pins s σ H D I) (PT.run pins s σ H D I)⟩
  refine both.weak fun D σ H ⟨m, a, r, R, e, k⟩ => ?_
  obtain ⟨q, e1, e2⟩ := Option.bind_eq_some_iff.mp e
  obtain ⟨v, a1⟩ := q
  cases v with
  | lst xs =>
    have e2' : loopL tg (body G) xs a1 = some r := e2
    refine .inl ⟨m, a, (.lst xs, a1), R, e1, fun x H1 m1 R1 s1 r1 => ?_⟩
    obtain ⟨p, vs, rfl, rr, hst⟩ := r1.lstI
    · refine ⟨p, rfl, ⟨vs, hst .refl⟩, ?_⟩
      refine for_gen (n := xs.length) (fun i a => loopL tg (body G) (xs.drop i) a) (fun i a => xs[i]?.bind fun x => asgT tg x a) R1 (by simpa using e2') (k.after s1) (fun i a r hi h => loopL_step hi h) (fun a r h => by rw [List.drop_length] at h; cases h; rfl) (fun m a σ H r R s h => ?_) (fun i m a σ H a' hi R s h => ?_)
      · exact ⟨vs, hst s, by rw [rr.length]; exact Nat.le_refl _⟩
      · have hl' := hst s
        obtain ⟨c, e3, e4⟩ := Option.bind_eq_some_iff.mp h
        have rr' := rr.step R1 s
        obtain ⟨x, e5, e6⟩ := rr'.get e3
        refine ⟨⟨vs, x, hl', e5⟩, fun y H' hy Q hQ => ?_⟩
        obtain ⟨rfl, hy⟩ := hy
        have := hy vs hl'
        rw [e5] at this; cases this
        exact ⟨m, a, c, a', R, e6, e4, fun σ' _ R' s' => hQ σ' _ m R' s'⟩
  | tup xs =>
    have e2' : loopL tg (body G) xs a1 = some r := e2
    refine .inr ⟨m, a, (.tup xs, a1), R, e1, fun x H1 m1 R1 s1 r1 => ?_⟩
    cases r1 with
    | tup hl rr =>
      rename_i p vs
      refine ⟨p, rfl, ⟨vs, hl.sqT⟩, ?_⟩
      refine for_gen (n := xs.length) (fun i a => loopL tg (body G) (xs.drop i) a) (fun i a => xs[i]?.bind fun x => asgT tg x a) R1 (by simpa using e2') (k.after s1) (fun i a r hi h => loopL_step hi h) (fun a r h => by rw [List.drop_length] at h; cases h; rfl) (fun m a σ H r R s h => ?_) (fun i m a σ H a' hi R s h => ?_)
      · exact ⟨vs, (TupZ.stay R1 s hl).sqT, by rw [rr.length]; exact Nat.le_refl _⟩
      · have hl' := (TupZ.stay R1 s hl).sqT
        obtain ⟨c, e3, e4⟩ := Option.bind_eq_some_iff.mp h
        have rr' := rr.step R1 s
        obtain ⟨x, e5, e6⟩ := rr'.get e3
        refine ⟨⟨vs, x, hl', e5⟩, fun y H' hy Q hQ => ?_⟩
        obtain ⟨rfl, hy⟩ := hy
        have := hy vs hl'
        rw [e5] at this; cases this
        exact ⟨m, a, c, a', R, e6, e4, fun σ' _ R' s' => hQ σ' _ m R' s'⟩
  | ref n =>
    have e2' : (match a1.S[n]? with | some (.lst xs) => loopR tg (body G) n xs.length xs.length a1 | _ => none) = some r := e2
    split at e2'
    · rename_i xs hxs
      refine .inl ⟨m, a, (.ref n, a1), R, e1, fun x H1 m1 R1 s1 r1 => ?_⟩
      cases r1 with
      | ref hm =>
        rename_i p
        obtain ⟨vs, g1, g2⟩ := R1.obj n _ _ hxs hm
        refine ⟨p, rfl, ⟨vs, .inl (.inl g1)⟩, ?_⟩
        have at_ : ∀ {m a σ' H} {ys : List AV}, Rl X.K F m a σ' H → Stp m1 a1 σ H1 m a σ' H → a.S[n]? = some (.lst ys) → ∃ vs, H p = some (.lst vs) ∧ Rps' X.K F m a σ' H vs ys := fun R s h => R.obj n _ _ h (s.pre _ _ hm)
        refine for_gen (n := xs.length) (fun i a => loopR tg (body G) n xs.length (xs.length - i) a) (fun i a => (itemAt a n xs.length i).bind fun x => asgT tg x a) R1 (by simpa using e2') (k.after s1) (fun i a r hi h => ?_) (fun a r h => ?_) (fun m a σ H r R s h => ?_) (fun i m a σ H a' hi R s h => ?_)
        · have e : xs.length - i = (xs.length - (i + 1)) + 1 := by omega
          rw [e] at h
          obtain ⟨x, e3, h⟩ := Option.bind_eq_some_iff.mp h
          obtain ⟨a', e4, h⟩ := Option.bind_eq_some_iff.mp h
          obtain ⟨q, e5, h⟩ := Option.bind_eq_some_iff.mp h
          have e6 : xs.length - (xs.length - (i + 1) + 1) = i := by omega
          rw [e6] at e3
          exact ⟨a', q, by rw [e3]; exact e4, e5, h⟩
        · rw [Nat.sub_self] at h
          have h' : (if lenIs a n xs.length = true then some (Out.nx, a) else none) = some r := h
          split at h' <;> cases h'
          rfl
        · rw [Nat.sub_self] at h
          have h' : (if lenIs a n xs.length = true then some (Out.nx, a) else none) = some r := h
          split at h'
          · rename_i hl
            unfold lenIs at hl
            split at hl
            · rename_i ys hy
              obtain ⟨vs', g3, g4⟩ := at_ R s hy
              exact ⟨vs', .inl (.inl g3), by rw [g4.length]; exact Nat.le_of_eq (by simpa using hl)⟩
            · cases hl
          · cases h'
        · obtain ⟨c, e3, e4⟩ := Option.bind_eq_some_iff.mp h
          unfold itemAt at e3
          split at e3
          · rename_i ys hy
            split at e3
            · obtain ⟨vs', g3, g4⟩ := at_ R s hy
              obtain ⟨x, e5, e6⟩ := g4.get e3
              refine ⟨⟨vs', x, .inl (.inl g3), e5⟩, fun y H' hy Q hQ => ?_⟩
              obtain ⟨rfl, hy⟩ := hy
              have := hy vs' (.inl (.inl g3))
              rw [e5] at this; cases this
              exact ⟨m, a, c, a', R, e6, e4, fun σ' _ R' s' => hQ σ' _ m R' s'⟩
            · cases e3
          · cases e3
    · cases e2'
  | _ => cases e2

/-! ### for over a range -/
def asR1 : List AV → Option (Int × Nat)
  | [.int j] => if -(2 ^ 62) ≤ j ∧ j < 2 ^ 62 then some (0, j.toNat) else none
  | _ => none
def asR2 : List AV → Option (Int × Nat)
  | [.int i, .int j] => if -(2 ^ 62) ≤ i ∧ i < 2 ^ 62 ∧ -(2 ^ 62) ≤ j ∧ j < 2 ^ 62 then some (i, (j - i).toNat) else none
  | _ => none
def rgA (lo : Int) (n : Nat) : List AV := (List.range n).map fun (i : Nat) => .int (lo + (i : Int))
theorem rgA_length (lo : Int) (n : Nat) : (rgA lo n).length = n := by simp [rgA]
theorem rgA_get {lo : Int} {n i : Nat} (h : i < n) : (rgA lo n)[i]? = some (.int (lo + i)) := by simp [rgA, h]
def sForR (rg : List AV → Option (Int × Nat)) (t : MAs) (tg : Tg) (body : MS) : MS := fun G a => (t G a).bind fun r => (rg r.1).bind fun p => loopL tg (body G) (rgA p.1 p.2) r.2
theorem asR1_of {l : List AV} {p : Int × Nat} (h : asR1 l = some p) : ∃ j : Int, l = [.int j] ∧ -(2 ^ 62) ≤ j ∧ j < 2 ^ 62 ∧ p = (0, j.toNat) := by
  match l, h with
  | [.int j], h =>
    have h' : (if -(2 ^ 62) ≤ j ∧ j < 2 ^ 62 then some ((0 : Int), j.toNat) else none) = some p := h
    split at h'
    · rename_i hj; cases h'; exact ⟨j, rfl, hj.1, hj.2, rfl⟩
    · cases h'
theorem asR2_of {l : List AV} {p : Int × Nat} (h : asR2 l = some p) : ∃ i j : Int, l = [.int i, .int j] ∧ (-(2 ^ 62) ≤ i ∧ i < 2 ^ 62 ∧ -(2 ^ 62) ≤ j ∧ j < 2 ^ 62) ∧ p = (i, (j - i).toNat) := by
  match l, h with
  | [.int i, .int j], h =>
    have h' : (if -(2 ^ 62) ≤ i ∧ i < 2 ^ 62 ∧ -(2 ^ 62) ≤ j ∧ j < 2 ^ 62 then some (i, (j - i).toNat) else none) = some p := h
    split at h'
    · rename_i hj; cases h'; exact ⟨i, j, rfl, hj, rfl⟩
    · cases h'
theorem range_loop {J : It} {tg : Tg} {body : MS} {D : Ends} {lo : Int} {n : Nat} {m : List Addr} {a : AS} {σ : L2.St} {H : Hp} {r : Out × AS} (hJ : J = Itr lo n) (R : Rl X.K F m a σ H) (e : loopL tg (body G) (rgA lo n) a = some r) (k : EndS X.K F m a σ H D r.1 r.2) :
    ∃ W : Nat → Nat → L2.St → Hp → Prop, (∃ k, W 0 k σ H) ∧ ∀ i k σ H, W i k σ H →
      (J.stop i H ∧ D.nx σ H) ∨ (J.go i H ∧ ∃ N : L2.St → Hp → Prop, (∀ σ' H', N σ' H' → ∃ m', m' < k ∧ W (i + 1) m' σ' H') ∧ ∀ x H', J.yld i H x H' → tG X.K F tg x σ H' fun σ2 H2 => tS X.K F G body { D with nx := N, ct := N, bk := D.nx } σ2 H2) := by
  subst hJ
  refine for_gen (n := n) (fun i a => loopL tg (body G) ((rgA lo n).drop i) a) (fun i a => (rgA lo n)[i]?.bind fun x => asgT tg x a) R (by simpa using e) k (fun i a r hi h => loopL_step (by rw [rgA_length]; exact hi) h) (fun a r h => ?_) (fun m a σ H r R s h => Nat.le_refl _) (fun i m a σ H a' hi R s h => ⟨hi, fun x H' hy Q hQ => ?_⟩)
  · rw [List.drop_eq_nil_of_le (by rw [rgA_length]; exact Nat.le_refl _)] at h
    cases h; rfl
  · obtain ⟨rfl, rfl⟩ := hy
    rw [rgA_get hi] at h
    exact ⟨m, a, _, a', R, .int _, h, fun σ' _ R' s' => hQ σ' _ m R' s'⟩
theorem rps_ints1 {K : PySem.W.Frag} {H : Hp} {hot : Hot} {m : List Addr} {xs : List V} {j : Int} (r : Rps K H hot m xs [.int j]) : xs = [.int j] := by cases r with | cons r t => cases r; cases t; rfl
theorem rps_ints2 {K : PySem.W.Frag} {H : Hp} {hot : Hot} {m : List Addr} {xs : List V} {i j : Int} (r : Rps K H hot m xs [.int i, .int j]) : xs = [.int i, .int j] := by cases r with | cons r t => cases r; cases t with | cons r t => cases r; cases t; rfl
theorem ps_sForR1 {x : Expr} {t : Expr} {tg : Tg} {u : MAs} {body : MS} {sb : List Stmt} {p p2 pos : Pos} (hc : X.calm = true) (hxe : X.xe = fun _ _ => False) (hN : X.N.Nodup) (ht : TgOk X t tg) (hg : Gl X "range") (hm : X.mg "range" = none) (he : PA X [x] (tAs X.K F G u)) (hx : notStar x = true) (hb : PSs X sb (tS X.K F G body)) :
    PS X (.For t (.Call (.Name "range" p) [x] [] p2) sb [] pos) (tS X.K F G (sForR asR1 u tg body)) := by
  have hp : PassesOwn (model X.prog X.w) X.A X.env X.xe := by rw [hxe]; exact PassesOwn.never
  refine (ps_for (pos := pos) hp hc (pi_range1 hg hm he (star_cons hx)) (pg_tg (F := F) hc hN ht) hb).weak fun D σ H ⟨m, a, r, R, e, k⟩ => ?_
  obtain ⟨q, e1, e⟩ := Option.bind_eq_some_iff.mp e
  obtain ⟨b, e2, e⟩ := Option.bind_eq_some_iff.mp e
  obtain ⟨l, a1⟩ := q
  obtain ⟨j, rfl, h1, h2, rfl⟩ := asR1_of e2
  exact ⟨m, a, _, R, e1, fun xs H1 m1 R1 s1 r1 => ⟨j, rps_ints1 r1, h1, h2, range_loop rfl R1 e (k.after s1)⟩⟩
theorem ps_sForR2 {x y : Expr} {t : Expr} {tg : Tg} {u : MAs} {body : MS} {sb : List Stmt} {p p2 pos : Pos} (hc : X.calm = true) (hxe : X.xe = fun _ _ => False) (hN : X.N.Nodup) (ht : TgOk X t tg) (hg : Gl X "range") (hm : X.mg "range" = none) (he : PA X [x, y] (tAs X.K F G u)) (hx : notStar x = true) (hy : notStar y = true) (hb : PSs X sb (tS X.K F G body)) :
    PS X (.For t (.Call (.Name "range" p) [x, y] [] p2) sb [] pos) (tS X.K F G (sForR asR2 u tg body)) := by
  have hp : PassesOwn (model X.prog X.w) X.A X.env X.xe := by rw [hxe]; exact PassesOwn.never
  have hs2 : starEach [y] X.env = [(false, eval y X.env)] := star_cons hy
  have hs : starEach [x, y] X.env = [(false, eval x X.env), (false, eval y X.env)] := by rw [star_cons hx, hs2]
  refine (ps_for (pos := pos) hp hc (pi_range2 hg hm he hs hs2) (pg_tg (F := F) hc hN ht) hb).weak fun D σ H ⟨m, a, r, R, e, k⟩ => ?_
  obtain ⟨q, e1, e⟩ := Option.bind_eq_some_iff.mp e
  obtain ⟨b, e2, e⟩ := Option.bind_eq_some_iff.mp e
  obtain ⟨l, a1⟩ := q
  obtain ⟨i, j, rfl, h1, rfl⟩ := asR2_of e2
  exact ⟨m, a, _, R, e1, fun xs H1 m1 R1 s1 r1 => ⟨i, j, rps_ints2 r1, h1, range_loop rfl R1 e (k.after s1)⟩⟩

/-! ### while, with a bound of turns -/
def whN (c : AS → Option (Bool × AS)) (body : AS → Option (Out × AS)) : Nat → AS → Option (Out × AS)
  | 0, _ => none
  | n + 1, a => (c a).bind fun r => if r.1 = true then (body r.2).bind (turn (whN c body n)) else some (.nx, r.2)
def sWhile (fuel : Nat) (c : MT) (body : MS) : MS := fun G a => whN (c G) (body G) fuel a
theorem ps_sWhile {x : Expr} {c : MT} {body : MS} {sb : List Stmt} {fuel : Nat} {pos : Pos} (hxe : X.xe = fun _ _ => False) (h : PT X x (tM X.K F G c)) (hb : PSs X sb (tS X.K F G body)) : PS X (.While x sb [] pos) (tS X.K F G (sWhile fuel c body)) := by
  have hp : PassesOwn (model X.prog X.w) X.A X.env X.xe := by rw [hxe]; exact PassesOwn.never
  refine (ps_while hp h hb).weak fun D σ0 H0 ⟨m0, a0, rF, R0, e, k⟩ => ?_
  refine ⟨fun n σ H => ∃ m a, Rl X.K F m a σ H ∧ Stp m0 a0 σ0 H0 m a σ H ∧ whN (c G) (body G) n a = some rF, ⟨fuel, m0, a0, R0, .refl, e⟩, ?_⟩
  rintro n σ H ⟨m, a, R, s, hr⟩
  cases n with
  | zero => cases hr
  | succ n =>
    obtain ⟨q, e1, e2⟩ := Option.bind_eq_some_iff.mp hr
    refine ⟨m, a, q, R, e1, fun H' m' R' s' => ?_⟩
    split at e2
    · rename_i hq
      rw [if_pos hq]
      obtain ⟨q2, e3, e4⟩ := Option.bind_eq_some_iff.mp e2
      refine ⟨fun σ' H' => ∃ m a, Rl X.K F m a σ' H' ∧ Stp m0 a0 σ0 H0 m a σ' H' ∧ whN (c G) (body G) n a = some rF, fun σ' H' hN => ⟨n, Nat.lt_succ_self n, hN⟩, m', q.2, q2, R', e3, ?_⟩
      have st := s.trans s'
      obtain ⟨o, a2⟩ := q2
      cases o with
      | nx => exact fun σ2 H2 m2 R2 s2 => ⟨m2, a2, R2, st.trans s2, e4⟩
      | ct => exact fun σ2 H2 m2 R2 s2 => ⟨m2, a2, R2, st.trans s2, e4⟩
      | bk =>
        cases e4
        exact fun σ2 H2 m2 R2 s2 => k σ2 H2 m2 R2 (st.trans s2)
      | rt v =>
        cases e4
        exact fun x σ2 H2 m2 R2 s2 r2 => k x σ2 H2 m2 R2 (st.trans s2) r2
    · rename_i hq
      rw [if_neg hq]
      cases e2
      exact k σ H' m' R' (s.trans s')
end
end Pyx
end
section
set_option maxRecDepth 100000
namespace Pyx
open PySem PySem.Spec PyProof.Rows L2

/-! ### list comprehensions -/
/-- the names of the block are forgotten; behind the block they are as they were -/
def clr (a : AS) : List Nat → AS
  | [] => a
  | v :: vs => (clr a vs).drop v
def rst (a0 a : AS) : List Nat → AS
  | [] => a
  | v :: vs => ⟨(rst a0 a vs).ρ.set v ((a0.ρ[v]?).getD none), (rst a0 a vs).S⟩
def noOwn (a : AS) (vs : List Nat) : Bool := vs.all fun v => match a.ρ[v]? with
  | some (some (.own _)) => false
  | _ => true
section
variable {K : PySem.W.Frag} {F : Hot} {m m0 m' : List Addr} {a a0 a' : AS} {σ σ' : L2.St} {H H0 H' : Hp}
theorem Rl.clr (R : Rl K F m a σ H) : ∀ vs : List Nat, Rl K F m (Pyx.clr a vs) (wipe σ vs) H ∧ Stp m a σ H m (Pyx.clr a vs) (wipe σ vs) H
  | [] => ⟨R, .refl⟩
  | v :: vs => by
    obtain ⟨h1, h2⟩ := Rl.clr R vs
    exact ⟨h1.drop, h2.trans Rl.dropStp⟩
theorem rst_len (a0 a : AS) : ∀ vs : List Nat, (rst a0 a vs).ρ.length = a.ρ.length
  | [] => rfl
  | v :: vs => by simp [rst, rst_len a0 a vs]
theorem rst_S (a0 a : AS) : ∀ vs : List Nat, (rst a0 a vs).S = a.S
  | [] => rfl
  | v :: vs => by simp [rst, rst_S a0 a vs]
theorem rst_get (hl : a.ρ.length = a0.ρ.length) {j : Nat} : ∀ vs : List Nat, (rst a0 a vs).ρ[j]? = if j ∈ vs then a0.ρ[j]? else a.ρ[j]?
  | [] => by simp [rst]
  | v :: vs => by
    have ih := rst_get hl (j := j) vs
    show ((rst a0 a vs).ρ.set v ((a0.ρ[v]?).getD none))[j]? = _
    by_cases e : j = v
    · subst e
      rw [if_pos List.mem_cons_self]
      by_cases hj : j < a0.ρ.length
      · rw [List.getElem?_set_self (by rw [rst_len, hl]; exact hj), List.getElem?_eq_getElem hj]
        rfl
      · rw [List.getElem?_eq_none (by simp [rst_len, hl]; omega), List.getElem?_eq_none (by omega)]
    · rw [List.getElem?_set_ne (Ne.symm e), ih]
      by_cases h : j ∈ vs
      · rw [if_pos h, if_pos (List.mem_cons_of_mem _ h)]
      · rw [if_neg h, if_neg (fun q => (List.mem_cons.mp q).elim e h)]
theorem wipe_in {σ : L2.St} {i : Nat} {x : V} : ∀ {vs : List Nat}, i ∈ vs → (wipe σ vs)[i]? ≠ some (some x) := fun {vs} h e => (wipe_some e).2 h
theorem Rl.rst {vs : List Nat} (R0 : Rl K F m0 a0 σ H0) (R : Rl K F m a (wipe σ vs) H) (s : Stp m0 a0 σ H0 m a (wipe σ vs) H) (no : noOwn a0 vs = true) :
    Rl K F m (Pyx.rst a0 a vs) σ H ∧ Stp m0 a0 σ H0 m (Pyx.rst a0 a vs) σ H ∧ ∀ x v, Rp' K F m a (wipe σ vs) H x v → Rp' K F m (Pyx.rst a0 a vs) σ H x v := by
  have hl : a.ρ.length = a0.ρ.length := by rw [R.len, R0.len, wipe_length]
  have hno : ∀ v ∈ vs, ∀ xs, a0.ρ[v]? ≠ some (some (Slt.own xs)) := fun v hv xs e => by
    have := List.all_eq_true.mp no v hv
    rw [e] at this
    cases this
  have hown : ∀ {j : Nat} {xs : List AV}, (Pyx.rst a0 a vs).ρ[j]? = some (some (Slt.own xs)) → j ∉ vs ∧ a.ρ[j]? = some (some (Slt.own xs)) := fun {j xs} e => by
    rw [rst_get hl] at e
    by_cases h : j ∈ vs
    · rw [if_pos h] at e; exact absurd e (hno j h xs)
    · rw [if_neg h] at e; exact ⟨h, e⟩
  have hO : ∀ {p : Addr}, Own (Pyx.rst a0 a vs).ρ σ p → Own a.ρ (wipe σ vs) p := fun ⟨j, xs, e1, e2⟩ => by
    obtain ⟨h1, h2⟩ := hown e1
    exact ⟨j, xs, h2, by rw [wipe_out h1]; exact e2⟩
  have hot : ∀ p, hotOf F m (Pyx.rst a0 a vs) σ p → hotOf F m a (wipe σ vs) p := fun p h => h.elim .inl fun h => h.elim (fun h => .inr (.inl h)) fun h => .inr (.inr (hO h))
  have hk : KeepR K H H (hotOf F m a (wipe σ vs)) (hotOf F m (Pyx.rst a0 a vs) σ) m m := KeepR.hot hot
  have st : Stp m0 a0 σ H0 m (Pyx.rst a0 a vs) σ H := ⟨s.pre, fun b o e n nt => s.keep b o e n nt, s.dom, fun b h => s.locs b (h.elim .inl fun h => .inr (hO h))⟩
  refine ⟨⟨?_, fun j v e => ?_, fun j xs e => ?_, fun i j xs ys p e1 e2 e3 e4 => ?_, ?_, fun n o p e1 e2 => ?_, R.mnd, R.mF, R.FH, R.tbs⟩, st, fun x v r => r.keep hk⟩
  · rw [rst_len, R.len, wipe_length]
  · rw [rst_get hl] at e
    by_cases h : j ∈ vs
    · rw [if_pos h] at e
      obtain ⟨x, e1, r⟩ := R0.slot j v e
      exact ⟨x, e1, r.step R0 st⟩
    · rw [if_neg h] at e
      obtain ⟨x, e1, r⟩ := R.slot j v e
      exact ⟨x, by rw [wipe_out h] at e1; exact e1, r.keep hk⟩
  · obtain ⟨h1, h2⟩ := hown e
    obtain ⟨p, us, e1, e2, r, n⟩ := R.own j xs h2
    exact ⟨p, us, by rw [wipe_out h1] at e1; exact e1, e2, r.keep hk, n⟩
  · obtain ⟨h1, h2⟩ := hown e1
    obtain ⟨h3, h4⟩ := hown e2
    exact R.inj i j xs ys p h2 h4 (by rw [wipe_out h1]; exact e3) (by rw [wipe_out h3]; exact e4)
  · rw [rst_S]; exact R.mlen
  · rw [rst_S] at e1
    exact (R.obj n o p e1 e2).keep hk rfl
/-- one more hot thing outside of all that is written here -/
def addF (F : Hot) (D : Addr) : Hot := fun p => F p ∨ p = D
theorem Rl.outer {D : Addr} {us ws : List V} (R : Rl K (addF F D) m a σ H) (hD : H D = some (.lst us)) : Rl K (addF F D) m a σ (upd H D (.lst ws)) ∧ ∀ xs vs, Rps' K (addF F D) m a σ H xs vs → Rps' K (addF F D) m a σ (upd H D (.lst ws)) xs vs := by
  have hk : KeepR K H (upd H D (.lst ws)) (hotOf (addF F D) m a σ) (hotOf (addF F D) m a σ) m m := by
    refine ⟨fun b o vs e => ?_, fun b vs e n => ⟨?_, n⟩, fun _ _ e => e⟩
    · rw [upd_ne (fun q => by rw [q, hD] at e; cases e)]; exact e
    · have nb : b ≠ D := fun q => n (.inl (.inr q))
      rcases e with e | ⟨o, e⟩
      · exact .inl (by rw [upd_ne nb]; exact e)
      · exact .inr ⟨o, by rw [upd_ne nb]; exact e⟩
  refine ⟨⟨R.len, fun j v e => let ⟨x, e1, r⟩ := R.slot j v e; ⟨x, e1, r.keep hk⟩, fun j xs e => ?_, R.inj, R.mlen, fun n o p e1 e2 => (R.obj n o p e1 e2).keep hk (upd_ne fun q => R.mF p (List.mem_of_getElem? e2) (.inr q)), R.mnd, R.mF, fun p h => ?_, fun q hq => tab_mut (R.tbs q hq) (.inl ⟨_, hD⟩)⟩, fun xs vs r => r.keep hk⟩
  · obtain ⟨p, vs, e1, e2, r, n1, n2⟩ := R.own j xs e
    exact ⟨p, vs, e1, by rw [upd_ne fun q => n1 (.inr q)]; exact e2, r.keep hk, n1, n2⟩
  · by_cases q : p = D
    · rw [q]; exact .inl ⟨ws, upd_same⟩
    · unfold IsMut; rw [upd_ne q]; exact R.FH p h
/-- a new list becomes such a thing -/
theorem Rl.addNew {D : Addr} (R : Rl K F m a σ H) (hD : H D = none) : Rl K (addF F D) m a σ (upd H D (.lst [])) := by
  have R1 := R.new (o := .lst []) hD
  have nD : ∀ {b}, Loc' m a σ b → b ≠ D := fun l e => R.locSome l (e ▸ hD)
  have hk : KeepR K H (upd H D (.lst [])) (hotOf F m a σ) (hotOf (addF F D) m a σ) m m := by
    refine ⟨fun b o vs e => by rw [upd_ne (ne_of_none e hD)]; exact e, fun b vs e n => ?_, fun _ _ e => e⟩
    have nb : b ≠ D := fun q => by rcases e with e | ⟨o, e⟩ <;> rw [q, hD] at e <;> cases e
    refine ⟨?_, fun h => h.elim (fun h => h.elim (fun h => n (.inl h)) nb) fun h => n (.inr h)⟩
    rcases e with e | ⟨o, e⟩
    · exact .inl (by rw [upd_ne nb]; exact e)
    · exact .inr ⟨o, by rw [upd_ne nb]; exact e⟩
  refine ⟨R.len, fun j v e => let ⟨x, e1, r⟩ := R.slot j v e; ⟨x, e1, r.keep hk⟩, fun j xs e => ?_, R.inj, R.mlen, fun n o p e1 e2 => (R.obj n o p e1 e2).keep hk (upd_ne (nD (.inl (List.mem_of_getElem? e2)))), R.mnd, fun p hp h => h.elim (R.mF p hp) (nD (.inl hp)), fun p h => ?_, R1.tbs⟩
  · obtain ⟨p, vs, e1, e2, r, n1, n2⟩ := R.own j xs e
    have np := nD (.inr ⟨j, xs, e, e1⟩)
    exact ⟨p, vs, e1, by rw [upd_ne np]; exact e2, r.keep hk, fun h => h.elim n1 np, n2⟩
  · rcases h with h | h
    · have np : p ≠ D := fun q => by rcases R.FH p h with ⟨_, z⟩ | ⟨_, z⟩ <;> rw [q, hD] at z <;> cases z
      unfold IsMut; rw [upd_ne np]; exact R.FH p h
    · rw [h]; exact .inl ⟨_, upd_same⟩
def del (H : Hp) (D : Addr) : Hp := fun b => if b = D then none else H b
theorem del_same {H : Hp} {D : Addr} : del H D D = none := by unfold del; rw [if_pos rfl]
theorem del_ne {H : Hp} {D b : Addr} (h : b ≠ D) : del H D b = H b := by unfold del; rw [if_neg h]
theorem upd_del {H : Hp} {D : Addr} {o : HO} (h : H D = some o) : upd (del H D) D o = H := by
  funext b
  by_cases e : b = D
  · rw [e, upd_same, h]
  · rw [upd_ne e, del_ne e]
theorem tab_del {D q : Addr} (t : GxR.TabG H q) (h : IsMut H D) : GxR.TabG (del H D) q := by
  obtain ⟨ps, e, k⟩ := t
  have n : q ≠ D := fun z => by rcases h with ⟨_, y⟩ | ⟨_, y⟩ <;> rw [← z, e] at y <;> cases y
  exact ⟨ps, by rw [del_ne n]; exact e, k⟩
theorem Rl.unhot {D : Addr} (nF : ¬ F D) (R : Rl K (addF F D) m a σ H) (hm : ∃ vs, H D = some (.lst vs)) : Rl K F m a σ (del H D) ∧ ∀ xs vs, Rps' K (addF F D) m a σ H xs vs → Rps' K F m a σ (del H D) xs vs := by
  obtain ⟨ws, hD⟩ := hm
  have hk : KeepR K H (del H D) (hotOf (addF F D) m a σ) (hotOf F m a σ) m m := by
    refine ⟨fun b o vs e => ?_, fun b vs e n => ?_, fun _ _ e => e⟩
    · rw [del_ne (fun q => by rw [q, hD] at e; cases e)]; exact e
    · have nb : b ≠ D := fun q => n (.inl (.inr q))
      refine ⟨?_, fun h => n (h.elim (fun h => .inl (.inl h)) .inr)⟩
      rcases e with e | ⟨o, e⟩
      · exact .inl (by rw [del_ne nb]; exact e)
      · exact .inr ⟨o, by rw [del_ne nb]; exact e⟩
  refine ⟨⟨R.len, fun j v e => let ⟨x, e1, r⟩ := R.slot j v e; ⟨x, e1, r.keep hk⟩, fun j xs e => ?_, R.inj, R.mlen, fun n o p e1 e2 => (R.obj n o p e1 e2).keep hk (del_ne fun q => R.mF p (List.mem_of_getElem? e2) (.inr q)), R.mnd, fun p hp h => R.mF p hp (.inl h), fun p h => ?_, fun q hq => tab_del (R.tbs q hq) (.inl ⟨_, hD⟩)⟩, fun xs vs r => r.keep hk⟩
  · obtain ⟨p, vs, e1, e2, r, n1, n2⟩ := R.own j xs e
    exact ⟨p, vs, e1, by rw [del_ne fun q => n1 (.inr q)]; exact e2, r.keep hk, fun h => n1 (.inl h), n2⟩
  · have np : p ≠ D := fun q => nF (q ▸ h)
    unfold IsMut; rw [del_ne np]; exact R.FH p (.inl h)
end
/-- one target's slots are set: nothing else of the frame -/
theorem wipe_setIn {vs is : List Nat} {σ σ2 : L2.St} (h : SetIn is (wipe σ vs) σ2) (hs : ∀ i ∈ is, i ∈ vs) : wipe σ2 vs = wipe σ vs := by
  have one : ∀ (us : List Nat) (τ : L2.St) (j : Nat), (wipe τ us)[j]? = if j ∈ us ∧ j < τ.length then some none else τ[j]? := by
    intro us
    induction us with
    | nil => intro τ j; simp [wipe]
    | cons u us ih =>
      intro τ j
      show ((wipe τ us).set u none)[j]? = _
      by_cases e : j = u
      · subst e
        by_cases hj : j < τ.length
        · rw [List.getElem?_set_self (by rw [wipe_length]; exact hj), if_pos ⟨List.mem_cons_self, hj⟩]
        · rw [List.getElem?_eq_none (by simp [wipe_length]; omega), if_neg (fun q => hj q.2), List.getElem?_eq_none (by omega)]
      · rw [List.getElem?_set_ne (Ne.symm e), ih]
        by_cases h : j ∈ us ∧ j < τ.length
        · rw [if_pos h, if_pos ⟨List.mem_cons_of_mem _ h.1, h.2⟩]
        · rw [if_neg h, if_neg (fun q => h ⟨(List.mem_cons.mp q.1).elim (fun z => absurd z e) id, q.2⟩)]
  apply List.ext_getElem?
  intro j
  have hl : σ2.length = σ.length := h.1.trans (wipe_length _ _)
  rw [one, one]
  by_cases hj : j ∈ vs
  · by_cases hlt : j < σ.length
    · rw [if_pos ⟨hj, by rw [hl]; exact hlt⟩, if_pos ⟨hj, hlt⟩]
    · rw [if_neg (fun q => hlt (hl ▸ q.2)), if_neg (fun q => hlt q.2), List.getElem?_eq_none (by omega), List.getElem?_eq_none (by omega)]
  · rw [if_neg (fun q => hj q.1), if_neg (fun q => hj q.1), h.2 j (fun q => hj (hs j q)), wipe_out hj]
/-- behind a turn's target: the test, the element -/
def compT (tst : AS → Option (Bool × AS)) (elt : AS → Option (AV × AS)) (next : List AV → AS → Option (List AV × AS)) (acc : List AV) (a1 : AS) : Option (List AV × AS) :=
  (tst a1).bind fun r => if r.1 = true then (if acc.length < sizeLine then (elt r.2).bind fun q => next (acc ++ [q.1]) q.2 else none) else next acc r.2
def compL (vs : List Nat) (tg : Tg) (tst : AS → Option (Bool × AS)) (elt : AS → Option (AV × AS)) : List AV → List AV → AS → Option (List AV × AS)
  | [], acc, a => some (acc, a)
  | x :: xs, acc, a => (asgT tg x (clr a vs)).bind fun a1 => compT tst elt (compL vs tg tst elt xs) acc a1
def compR (vs : List Nat) (tg : Tg) (tst : AS → Option (Bool × AS)) (elt : AS → Option (AV × AS)) (n len : Nat) : Nat → List AV → AS → Option (List AV × AS)
  | 0, acc, a => if lenIs a n len = true then some (acc, a) else none
  | k + 1, acc, a => (itemAt a n len (len - (k + 1))).bind fun x => (asgT tg x (clr a vs)).bind fun a1 => compT tst elt (compR vs tg tst elt n len k) acc a1
theorem clr_S (a : AS) : ∀ vs : List Nat, (clr a vs).S = a.S
  | [] => rfl
  | v :: vs => clr_S a vs
/-- readings with any hot things outside -/
def xE (K : PySem.W.Frag) (G : Gm) (e : ME) : TE := fun σ H Q => ∃ F, tE K F G e σ H Q
def xM (K : PySem.W.Frag) (G : Gm) (e : MT) : TT := fun σ H Q => ∃ F, tM K F G e σ H Q
def xG (K : PySem.W.Frag) (tg : Tg) : TG := fun v σ H Q => ∃ F, tG K F tg v σ H Q
section
variable {X : Cx} {F : Hot} {G : Gm}
theorem pe_xE {x : Expr} {e : ME} (h : ∀ F, PE X x (tE X.K F G e)) : PE X x (xE X.K G e) := ⟨fun pins s σ H Q I ⟨F, q⟩ => (h F).run pins s σ H Q I q⟩
theorem pt_xM {x : Expr} {e : MT} (h : ∀ F, PT X x (tM X.K F G e)) : PT X x (xM X.K G e) := ⟨fun pins s σ H Q I ⟨F, q⟩ => (h F).run pins s σ H Q I q⟩
theorem pg_xG {x : Expr} {tg : Tg} (hc : X.calm = true) (hN : X.N.Nodup) (h : TgOk X x tg) : PG X x (xG X.K tg) := ⟨fun pins s σ H v u Q I r ⟨F, q⟩ => (pg_tg (F := F) hc hN h).run pins s σ H v u Q I r q⟩
theorem lc_gen {J : It} {g : TG} {n : Nat} {vs : List Nat} {tst : MT} {elt : ME} {m1 : List Addr} {a1 : AS} {σ : L2.St} {H1 : Hp} {rF : List AV × AS} {D : Addr} {Q : VK} (run : Nat → List AV → AS → Option (List AV × AS)) (asg : Nat → AS → Option AS)
    (R1 : Rl X.K F m1 a1 σ H1) (no : noOwn a1 vs = true) (hD : H1 D = none) (h0 : run 0 [] a1 = some rF)
    (kQ : ∀ p us H' m', Rl X.K F m' (rst a1 (clr rF.2 vs) vs) σ H' → Stp m1 a1 σ H1 m' (rst a1 (clr rF.2 vs) vs) σ H' → H' p = none → Rps' X.K F m' (rst a1 (clr rF.2 vs) vs) σ H' us rF.1 → Q (.ref p) (upd H' p (.lst us)))
    (hrun : ∀ i acc a r, i < n → run i acc a = some r → ∃ a', asg i a = some a' ∧ compT (tst G) (elt G) (run (i + 1)) acc a' = some r)
    (hend : ∀ acc a r, run n acc a = some r → r = (acc, a))
    (hstop : ∀ m a H acc r, Rl X.K (addF F D) m (clr a vs) (wipe σ vs) H → Stp m1 a1 σ H1 m (clr a vs) (wipe σ vs) H → run n acc a = some r → J.stop n H)
    (hgo : ∀ i m a H a', i < n → Rl X.K (addF F D) m (clr a vs) (wipe σ vs) H → Stp m1 a1 σ H1 m (clr a vs) (wipe σ vs) H → asg i a = some a' → J.go i H ∧ ∀ x H', J.yld i H x H' → ∀ Q : L2.St → Hp → Prop,
      (∀ σ' H'' m', wipe σ' vs = wipe σ vs → Rl X.K (addF F D) m' a' σ' H'' → Stp m (clr a vs) (wipe σ vs) H m' a' σ' H'' → Q σ' H'') → g x (wipe σ vs) H' Q) :
    ∃ W : Nat → Nat → Hp → Prop, (∃ m, W 0 m (upd H1 D (.lst []))) ∧ ∀ i m H, W i m H →
      (J.stop i H ∧ Q (.ref D) H) ∨ (J.go i H ∧ ∃ Nx : Hp → Prop, (∀ H', Nx H' → ∃ m', m' < m ∧ W (i + 1) m' H') ∧ ∀ x H', J.yld i H x H' → g x (wipe σ vs) H' fun σ2 H2 => wipe σ2 vs = wipe σ vs ∧ xM X.K G tst σ2 H2 fun b H3 =>
        if b = true then xE X.K G elt σ2 H3 fun y H4 => ∃ acc, H4 D = some (.lst acc) ∧ acc.length < sizeLine ∧ Nx (upd H4 D (.lst (acc ++ [y]))) else Nx H3) := by
  have nFD : ¬ F D := fun h => by rcases R1.FH D h with ⟨_, q⟩ | ⟨_, q⟩ <;> rw [hD] at q <;> cases q
  let Wm (m : List Addr) (a : AS) (us : List V) (acc : List AV) (i : Nat) (H : Hp) : Prop :=
    Rl X.K (addF F D) m (clr a vs) (wipe σ vs) H ∧ H D = some (.lst us) ∧ Rps' X.K (addF F D) m (clr a vs) (wipe σ vs) H us acc ∧ Stp m1 a1 σ H1 m (clr a vs) (wipe σ vs) H ∧ run i acc a = some rF
  refine ⟨fun i k H => i + k = n ∧ ∃ m a us acc, Wm m a us acc i H, ⟨n, by omega, m1, a1, [], [], ?_⟩, ?_⟩
  · obtain ⟨R2, s2⟩ := (R1.addNew hD).clr vs
    refine ⟨R2, upd_same, .nil, ?_, h0⟩
    obtain ⟨_, s3⟩ := R1.clr vs
    exact s3.trans (.new hD)
  · rintro i k H ⟨hik, m, a, us, acc, R, hus, hr, s, hrn⟩
    by_cases hi : i < n
    · refine .inr ?_
      obtain ⟨a', e1, e2⟩ := hrun i acc a rF hi hrn
      obtain ⟨h1, h2⟩ := hgo i m a H a' hi R s e1
      refine ⟨h1, fun H' => ∃ m a us acc, Wm m a us acc (i + 1) H', ?_, fun x H' hy => h2 x H' hy _ fun σ2 H2 m2 hw R2 s2 => ⟨hw, ?_⟩⟩
      · rintro H' ⟨m', a2, us', acc', hW⟩
        exact ⟨k - 1, by omega, by omega, m', a2, us', acc', hW⟩
      · obtain ⟨q, e3, e4⟩ := Option.bind_eq_some_iff.mp e2
        refine ⟨addF F D, m2, a', q, R2, e3, fun H3 m3 R3 s3 => ?_⟩
        have nloc : ∀ {m a σ H}, Rl X.K (addF F D) m a σ H → ¬ Loc' m a σ D := fun R l => l.elim (fun h => R.mF D h (.inr rfl)) fun ⟨j, xs, f1, f2⟩ => by
          obtain ⟨p, ws, f3, _, _, f4, _⟩ := R.own j xs f1
          rw [f2] at f3; cases f3
          exact f4 (.inr rfl)
        have hD3 : H3 D = some (.lst us) := (s2.trans s3).keep D _ hus (nloc R)
        have hr3 := hr.step R (s2.trans s3)
        have st3 := s.trans (s2.trans s3)
        split at e4
        · rename_i hb
          dsimp only
          rw [if_pos hb]
          split at e4
          · rename_i hlen
            obtain ⟨q2, e5, e6⟩ := Option.bind_eq_some_iff.mp e4
            refine ⟨addF F D, m3, q.2, q2, R3, e5, fun y H4 m4 R4 s4 r4 => ⟨us, s4.keep D _ hD3 (nloc R3), by rw [hr.length]; exact hlen, m4, q2.2, us ++ [y], acc ++ [q2.1], ?_⟩⟩
            have hD4 := s4.keep D _ hD3 (nloc R3)
            obtain ⟨R5, k5⟩ := R4.outer (ws := us ++ [y]) hD4
            obtain ⟨R6, s6⟩ := R5.clr vs
            have hr4 : Rps' X.K (addF F D) m4 q2.2 σ2 H4 (us ++ [y]) (acc ++ [q2.1]) := (hr3.step R3 s4).snoc r4
            have st4 := st3.trans s4
            rw [hw] at R6 s6
            refine ⟨R6, upd_same, (k5 _ _ hr4).step R5 s6, ?_, e6⟩
            have st5 : Stp m1 a1 σ H1 m4 q2.2 σ2 (upd H4 D (.lst (us ++ [y]))) := by
              refine ⟨st4.pre, fun b o e nl nt => ?_, fun b e => ?_, st4.locs⟩
              · rw [upd_ne (ne_of_none e hD)]; exact st4.keep b o e nl nt
              · by_cases q : b = D
                · rw [q, upd_same]; simp
                · rw [upd_ne q]; exact st4.dom b e
            exact st5.trans s6
          · cases e4
        · rename_i hb
          dsimp only
          rw [if_neg hb]
          refine ⟨m3, q.2, us, acc, ?_⟩
          obtain ⟨R6, s6⟩ := R3.clr vs
          rw [hw] at R6 s6
          exact ⟨R6, hD3, hr3.step R3 s6, st3.trans s6, e4⟩
    · have e : i = n := by omega
      subst e
      refine .inl ⟨hstop m a H acc _ R s hrn, ?_⟩
      have e := hend acc a rF hrn
      subst e
      obtain ⟨R2, k2⟩ := R.unhot nFD ⟨us, hus⟩
      have hr2 := k2 _ _ hr
      have s2 : Stp m1 a1 σ H1 m (clr a vs) (wipe σ vs) (del H D) := by
        refine ⟨s.pre, fun b o e nl nt => ?_, fun b e => ?_, s.locs⟩
        · rw [del_ne (ne_of_none e hD)]; exact s.keep b o e nl nt
        · rw [del_ne (fun q => e (by rw [q]; exact hD))]; exact s.dom b e
      obtain ⟨R3, s3, k3⟩ := Rl.rst R1 R2 s2 no
      have hr3 : Rps' X.K F m (rst a1 (clr a vs) vs) σ (del H D) us acc := by
        have all : ∀ {us : List V} {acc : List AV}, Rps' X.K F m (clr a vs) (wipe σ vs) (del H D) us acc → Rps' X.K F m (rst a1 (clr a vs) vs) σ (del H D) us acc := by
          intro us acc r
          induction acc generalizing us with
          | nil => cases r; exact .nil
          | cons c acc ih => cases r with | cons r t => exact .cons (k3 _ _ r) (ih t)
        exact all hr2
      have := kQ D us (del H D) m R3 s3 del_same hr3
      rw [upd_del hus] at this
      exact this

/-- a text's signs -/
def chA (z : Str) : List AV := z.cps.toList.map fun c => .str ⟨#[c]⟩
def compV (vs : List Nat) (tg : Tg) (tst : AS → Option (Bool × AS)) (elt : AS → Option (AV × AS)) (a : AS) : AV → Option (List AV × AS)
  | .lst xs => compL vs tg tst elt xs [] a
  | .tup xs => compL vs tg tst elt xs [] a
  | .str z => compL vs tg tst elt (chA z) [] a
  | .ref n => match a.S[n]? with
    | some (.lst xs) => compR vs tg tst elt n xs.length xs.length [] a
    | _ => none
  | _ => none
def fComp (it : ME) (vs : List Nat) (tg : Tg) (tst : MT) (elt : ME) : MAs := fun G a => (it G a).bind fun r => if noOwn r.2 vs = true then (compV vs tg (tst G) (elt G) r.2 r.1).map fun q => (q.1, rst r.2 (clr q.2 vs) vs) else none
def fCompR (rg : List AV → Option (Int × Nat)) (t : MAs) (vs : List Nat) (tg : Tg) (tst : MT) (elt : ME) : MAs := fun G a => (t G a).bind fun r => if noOwn r.2 vs = true then (rg r.1).bind fun p => (compL vs tg (tst G) (elt G) (rgA p.1 p.2) [] r.2).map fun q => (q.1, rst r.2 (clr q.2 vs) vs) else none
theorem compL_step {vs : List Nat} {tg : Tg} {tst : AS → Option (Bool × AS)} {elt : AS → Option (AV × AS)} {xs acc : List AV} {i : Nat} {a : AS} {r : List AV × AS} (hi : i < xs.length) (h : compL vs tg tst elt (xs.drop i) acc a = some r) :
    ∃ a', (xs[i]?.bind fun x => asgT tg x (clr a vs)) = some a' ∧ compT tst elt (compL vs tg tst elt (xs.drop (i + 1))) acc a' = some r := by
  rw [List.drop_eq_getElem_cons hi] at h
  obtain ⟨a', e1, e2⟩ := Option.bind_eq_some_iff.mp h
  exact ⟨a', by rw [List.getElem?_eq_getElem hi]; exact e1, e2⟩
/-- what the block's own target gives -/
theorem tg_turn {tg : Tg} {vs : List Nat} (hsl : ∀ i ∈ tg.slots, i ∈ vs) {D : Addr} {m : List Addr} {a a' : AS} {σ : L2.St} {H : Hp} {x : V} {c : AV} {Q : L2.St → Hp → Prop} (R : Rl X.K (addF F D) m (clr a vs) (wipe σ vs) H) (r : Rp' X.K (addF F D) m (clr a vs) (wipe σ vs) H x c) (e : asgT tg c (clr a vs) = some a')
    (hQ : ∀ σ' H'' m', wipe σ' vs = wipe σ vs → Rl X.K (addF F D) m' a' σ' H'' → Stp m (clr a vs) (wipe σ vs) H m' a' σ' H'' → Q σ' H'') : xG X.K tg x (wipe σ vs) H Q :=
  ⟨addF F D, m, clr a vs, c, a', R, r, e, fun σ' hs R' s' => hQ σ' H m (wipe_setIn hs hsl) R' s'⟩
section
variable {it elt tgE : Expr} {ifs : List Expr} {scope : Scope} {own : List (Str × Nat)} {pos : Pos} {tg : Tg} {tst : MT} {me : ME}
/-- what is known of the block: its names, its target, its tests and its element, wherever it runs -/
structure BlkG (X : Cx) (G : Gm) (scope : Scope) (own : List (Str × Nat)) (tgE : Expr) (ifs : List Expr) (elt : Expr) (tg : Tg) (tst : MT) (me : ME) : Prop where
  ok : BlkOk X.N X.env.scope scope own
  hg : ∀ (s : Shared) (H : Hp) (C : Addr) (cl : List (Str × Addr)) (fp : List Addr), PG (X.blk s H scope (compEnvC scope cl C X.env) fp) tgE (xG X.K tg)
  ht : ∀ (s : Shared) (H : Hp) (C : Addr) (cl : List (Str × Addr)) (fp : List Addr), PTs (X.blk s H scope (compEnvC scope cl C X.env) fp) ifs (xM X.K G tst)
  he : ∀ (s : Shared) (H : Hp) (C : Addr) (cl : List (Str × Addr)) (fp : List Addr), PE (X.blk s H scope (compEnvC scope cl C X.env) fp) elt (xE X.K G me)
  sl : ∀ i ∈ tg.slots, i ∈ own.map (·.2)
def tComp (K : PySem.W.Frag) (G : Gm) (wi : TI) (tg : Tg) (tst : MT) (me : ME) (vs : List Nat) : TE := tLc wi (xG K tg) (xM K G tst) (xE K G me) vs
theorem Rps.stepD {K : PySem.W.Frag} {D : Addr} {m m1 : List Addr} {a a1 : AS} {σ σ1 : L2.St} {H H1 : Hp} (R : Rl K F m a σ H) (s : Stp m a σ H m1 a1 σ1 H1) (hD : H D = none) {x : List V} {v : List AV} (r : Rps' K F m a σ H x v) : Rps' K (addF F D) m1 a1 σ1 H1 x v := by
  have k := R.keeps s
  refine Rps.keep ⟨k.tup, fun b vs e n => ⟨(k.lst b vs e n).1, fun h => ?_⟩, k.pre⟩ r
  rcases h with (h | h) | h
  · exact (k.lst b vs e n).2 (.inl h)
  · rcases e with e | ⟨o, e⟩ <;> rw [h, hD] at e <;> cases e
  · exact (k.lst b vs e n).2 (.inr h)
theorem comp_read {e : ME} {vs : List Nat} {σ : L2.St} {H : Hp} {Q : VK} (hsl : ∀ i ∈ tg.slots, i ∈ vs) (h : tF X.K F G (fComp e vs tg tst me) σ H Q) :
    (tComp X.K G (iList X.K (tE X.K F G e)) tg tst me vs σ H Q ∨ tComp X.K G (iTup X.K (tE X.K F G e)) tg tst me vs σ H Q) ∨ tComp X.K G (iStr (tE X.K F G e)) tg tst me vs σ H Q := by
  obtain ⟨m, a, r, R, e, k⟩ := h
  obtain ⟨q, e1, e2⟩ := Option.bind_eq_some_iff.mp e
  split at e2
  · rename_i no
    obtain ⟨rF, e3, e4⟩ := Option.map_eq_some_iff.mp e2
    subst e4
    obtain ⟨v, a1⟩ := q
    cases v with
    | lst xs =>
      have e3' : compL vs tg (tst G) (me G) xs [] a1 = some rF := e3
      refine .inl (.inl ⟨m, a, (.lst xs, a1), R, e1, fun x H1 m1 R1 s1 r1 => ?_⟩)
      obtain ⟨p, us, rfl, rr, hst⟩ := r1.lstI
      · refine ⟨p, rfl, ⟨us, hst .refl⟩, fun D hD => ?_⟩
        refine lc_gen (F := F) (n := xs.length) (fun i acc a => compL vs tg (tst G) (me G) (xs.drop i) acc a) (fun i a => xs[i]?.bind fun x => asgT tg x (clr a vs)) R1 no hD (by simpa using e3') (fun p us H' m' R' s' hp r' => k p us H' m' R' (s1.trans s') hp r') (fun i acc a r hi h => compL_step hi h) (fun acc a r h => by rw [List.drop_length] at h; cases h; rfl) (fun m a H acc r R s h => ?_) (fun i m a H a' hi R s h => ?_)
        · exact ⟨us, hst s, by rw [rr.length]; exact Nat.le_refl _⟩
        · have hl' := hst s
          obtain ⟨c, e5, e6⟩ := Option.bind_eq_some_iff.mp h
          obtain ⟨x, e7, rx⟩ := (rr.stepD R1 s hD).get e5
          refine ⟨⟨us, x, hl', e7⟩, fun y H' hy Q hQ => ?_⟩
          obtain ⟨rfl, hy⟩ := hy
          have := hy us hl'
          rw [e7] at this; cases this
          exact tg_turn hsl R rx e6 hQ
    | tup xs =>
      have e3' : compL vs tg (tst G) (me G) xs [] a1 = some rF := e3
      refine .inl (.inr ⟨m, a, (.tup xs, a1), R, e1, fun x H1 m1 R1 s1 r1 => ?_⟩)
      cases r1 with
      | tup hl rr =>
        rename_i p us
        refine ⟨p, rfl, ⟨us, hl.sqT⟩, fun D hD => ?_⟩
        refine lc_gen (F := F) (n := xs.length) (fun i acc a => compL vs tg (tst G) (me G) (xs.drop i) acc a) (fun i a => xs[i]?.bind fun x => asgT tg x (clr a vs)) R1 no hD (by simpa using e3') (fun p us H' m' R' s' hp r' => k p us H' m' R' (s1.trans s') hp r') (fun i acc a r hi h => compL_step hi h) (fun acc a r h => by rw [List.drop_length] at h; cases h; rfl) (fun m a H acc r R s h => ?_) (fun i m a H a' hi R s h => ?_)
        · exact ⟨us, (TupZ.stay R1 s hl).sqT, by rw [rr.length]; exact Nat.le_refl _⟩
        · have hl' := (TupZ.stay R1 s hl).sqT
          obtain ⟨c, e5, e6⟩ := Option.bind_eq_some_iff.mp h
          obtain ⟨x, e7, rx⟩ := (rr.stepD R1 s hD).get e5
          refine ⟨⟨us, x, hl', e7⟩, fun y H' hy Q hQ => ?_⟩
          obtain ⟨rfl, hy⟩ := hy
          have := hy us hl'
          rw [e7] at this; cases this
          exact tg_turn hsl R rx e6 hQ
    | str z =>
      have e3' : compL vs tg (tst G) (me G) (chA z) [] a1 = some rF := e3
      refine .inr ⟨m, a, (.str z, a1), R, e1, fun x H1 m1 R1 s1 r1 => ?_⟩
      cases r1
      refine ⟨z, rfl, fun D hD => ?_⟩
      have hlen : (chA z).length = z.cps.size := by unfold chA; rw [List.length_map, Array.length_toList]
      refine lc_gen (F := F) (n := (chA z).length) (fun i acc a => compL vs tg (tst G) (me G) ((chA z).drop i) acc a) (fun i a => (chA z)[i]?.bind fun x => asgT tg x (clr a vs)) R1 no hD (by simpa using e3') (fun p us H' m' R' s' hp r' => k p us H' m' R' (s1.trans s') hp r') (fun i acc a r hi h => compL_step hi h) (fun acc a r h => by rw [List.drop_eq_nil_of_le (Nat.le_refl _)] at h; cases h; rfl) (fun m a H acc r R s h => by rw [hlen]; exact Nat.le_refl _) (fun i m a H a' hi R s h => ?_)
      obtain ⟨c, e5, e6⟩ := Option.bind_eq_some_iff.mp h
      refine ⟨by rw [hlen] at hi; exact hi, fun y H' hy Q hQ => ?_⟩
      obtain ⟨rfl, cc, e7, rfl⟩ := hy
      unfold chA at e5
      rw [List.getElem?_map, Array.getElem?_toList, e7] at e5
      cases e5
      exact tg_turn hsl R (.str _) e6 hQ
    | ref n =>
      have e3' : (match a1.S[n]? with | some (.lst xs) => compR vs tg (tst G) (me G) n xs.length xs.length [] a1 | _ => none) = some rF := e3
      split at e3'
      · rename_i xs hxs
        refine .inl (.inl ⟨m, a, (.ref n, a1), R, e1, fun x H1 m1 R1 s1 r1 => ?_⟩)
        cases r1 with
        | ref hm =>
          rename_i p
          obtain ⟨us, g1, g2⟩ := R1.obj n _ _ hxs hm
          refine ⟨p, rfl, ⟨us, .inl (.inl g1)⟩, fun D hD => ?_⟩
          have at_ : ∀ {m a σ' H} {ys : List AV}, Rl X.K (addF F D) m (clr a vs) σ' H → Stp m1 a1 σ H1 m (clr a vs) σ' H → a.S[n]? = some (.lst ys) → ∃ us, H p = some (.lst us) ∧ Rps' X.K (addF F D) m (clr a vs) σ' H us ys := fun R s h => R.obj n (.lst _) _ (by rw [clr_S]; exact h) (s.pre _ _ hm)
          refine lc_gen (F := F) (n := xs.length) (fun i acc a => compR vs tg (tst G) (me G) n xs.length (xs.length - i) acc a) (fun i a => (itemAt a n xs.length i).bind fun x => asgT tg x (clr a vs)) R1 no hD (by simpa using e3') (fun p us H' m' R' s' hp r' => k p us H' m' R' (s1.trans s') hp r') (fun i acc a r hi h => ?_) (fun acc a r h => ?_) (fun m a H acc r R s h => ?_) (fun i m a H a' hi R s h => ?_)
          · have e : xs.length - i = (xs.length - (i + 1)) + 1 := by omega
            rw [e] at h
            obtain ⟨x, e5, h⟩ := Option.bind_eq_some_iff.mp h
            obtain ⟨a', e6, h⟩ := Option.bind_eq_some_iff.mp h
            have e7 : xs.length - (xs.length - (i + 1) + 1) = i := by omega
            rw [e7] at e5
            exact ⟨a', by rw [e5]; exact e6, h⟩
          · rw [Nat.sub_self] at h
            have h' : (if lenIs a n xs.length = true then some (acc, a) else none) = some r := h
            split at h' <;> cases h'
            rfl
          · rw [Nat.sub_self] at h
            have h' : (if lenIs a n xs.length = true then some (acc, a) else none) = some r := h
            split at h'
            · rename_i hl
              unfold lenIs at hl
              split at hl
              · rename_i ys hy
                obtain ⟨us', g3, g4⟩ := at_ R s hy
                exact ⟨us', .inl (.inl g3), by rw [g4.length]; exact Nat.le_of_eq (by simpa using hl)⟩
              · cases hl
            · cases h'
          · obtain ⟨c, e5, e6⟩ := Option.bind_eq_some_iff.mp h
            unfold itemAt at e5
            split at e5
            · rename_i ys hy
              split at e5
              · obtain ⟨us', g3, g4⟩ := at_ R s hy
                obtain ⟨x, e7, rx⟩ := g4.get e5
                refine ⟨⟨us', x, .inl (.inl g3), e7⟩, fun y H' hy Q hQ => ?_⟩
                obtain ⟨rfl, hy⟩ := hy
                have := hy us' (.inl (.inl g3))
                rw [e7] at this; cases this
                exact tg_turn hsl R rx e6 hQ
              · cases e5
            · cases e5
      · cases e3'
    | _ => cases e3
  · cases e2
theorem compR_read {u : MAs} {rg : List AV → Option (Int × Nat)} {vs : List Nat} {σ : L2.St} {H : Hp} {Q : VK} {wi : TI} (hsl : ∀ i ∈ tg.slots, i ∈ vs) (h : tF X.K F G (fCompR rg u vs tg tst me) σ H Q)
    (hw : ∀ R : It → Hp → Prop, (∃ m a r p, Rl X.K F m a σ H ∧ u G a = some r ∧ rg r.1 = some p ∧ ∀ xs H' m', Rl X.K F m' r.2 σ H' → Stp m a σ H m' r.2 σ H' → Rps' X.K F m' r.2 σ H' xs r.1 → R (Itr p.1 p.2) H') → wi σ H R) : tComp X.K G wi tg tst me vs σ H Q := by
  obtain ⟨m, a, r, R, e, k⟩ := h
  obtain ⟨q, e1, e2⟩ := Option.bind_eq_some_iff.mp e
  split at e2
  · rename_i no
    obtain ⟨b, e3, e4⟩ := Option.bind_eq_some_iff.mp e2
    obtain ⟨rF, e5, e6⟩ := Option.map_eq_some_iff.mp e4
    subst e6
    refine hw _ ⟨m, a, q, b, R, e1, e3, fun xs H1 m1 R1 s1 r1 => ?_⟩
    intro D hD
    refine lc_gen (F := F) (n := b.2) (fun i acc a => compL vs tg (tst G) (me G) ((rgA b.1 b.2).drop i) acc a) (fun i a => (rgA b.1 b.2)[i]?.bind fun x => asgT tg x (clr a vs)) R1 no hD (by simpa using e5) (fun p us H' m' R' s' hp r' => k p us H' m' R' (s1.trans s') hp r') (fun i acc a r hi h => compL_step (by rw [rgA_length]; exact hi) h) (fun acc a r h => ?_) (fun m a H acc r R s h => Nat.le_refl _) (fun i m a H a' hi R s h => ⟨hi, fun x H' hy Q hQ => ?_⟩)
    · rw [List.drop_eq_nil_of_le (by rw [rgA_length]; exact Nat.le_refl _)] at h
      cases h; rfl
    · obtain ⟨rfl, rfl⟩ := hy
      rw [rgA_get hi] at h
      exact tg_turn hsl R (.int _) h hQ
  · cases e2
/-- over a list or a tuple -/
theorem pe_fComp {e : ME} (hc : X.calm = true) (hN : X.N.Nodup) (hi : PE X it (tE X.K F G e)) (B : BlkG X G scope own tgE ifs elt tg tst me) (hs : notSet it = true) :
    PE X (.ListComp elt [⟨tgE, it, ifs, 0⟩] scope pos) (tF X.K F G (fComp e (own.map (·.2)) tg tst me)) :=
  (PE.or (PE.or (pe_lc hc hN (pi_list hi) B.ok B.hg B.ht B.he (foldedSet_no hs)) (pe_lc hc hN (pi_tup hi) B.ok B.hg B.ht B.he (foldedSet_no hs))) (pe_lc hc hN (pi_str hi) B.ok B.hg B.ht B.he (foldedSet_no hs))).weak fun _ _ _ h => comp_read B.sl h
theorem pe_fCompR1 {x : Expr} {u : MAs} {p p2 : Pos} (hc : X.calm = true) (hN : X.N.Nodup) (hg : Gl X "range") (hm : X.mg "range" = none) (he : PA X [x] (tAs X.K F G u)) (hx : notStar x = true) (B : BlkG X G scope own tgE ifs elt tg tst me) :
    PE X (.ListComp elt [⟨tgE, .Call (.Name "range" p) [x] [] p2, ifs, 0⟩] scope pos) (tF X.K F G (fCompR asR1 u (own.map (·.2)) tg tst me)) :=
  (pe_lc hc hN (pi_range1 hg hm he (star_cons hx)) B.ok B.hg B.ht B.he).weak fun σ H Q h => compR_read B.sl h fun R ⟨m, a, r, p, R0, e, hp, k⟩ => by
    obtain ⟨l, a1⟩ := r
    obtain ⟨j, rfl, h1, h2, rfl⟩ := asR1_of hp
    exact ⟨m, a, _, R0, e, fun xs H1 m1 R1 s1 r1 => ⟨j, rps_ints1 r1, h1, h2, k xs H1 m1 R1 s1 r1⟩⟩
theorem pe_fCompR2 {x y : Expr} {u : MAs} {p p2 : Pos} (hc : X.calm = true) (hN : X.N.Nodup) (hg : Gl X "range") (hm : X.mg "range" = none) (he : PA X [x, y] (tAs X.K F G u)) (hx : notStar x = true) (hy : notStar y = true) (B : BlkG X G scope own tgE ifs elt tg tst me) :
    PE X (.ListComp elt [⟨tgE, .Call (.Name "range" p) [x, y] [] p2, ifs, 0⟩] scope pos) (tF X.K F G (fCompR asR2 u (own.map (·.2)) tg tst me)) := by
  have hs2 : starEach [y] X.env = [(false, eval y X.env)] := star_cons hy
  have hs : starEach [x, y] X.env = [(false, eval x X.env), (false, eval y X.env)] := by rw [star_cons hx, hs2]
  exact (pe_lc hc hN (pi_range2 hg hm he hs hs2) B.ok B.hg B.ht B.he).weak fun σ H Q h => compR_read B.sl h fun R ⟨m, a, r, p, R0, e, hp, k⟩ => by
    obtain ⟨l, a1⟩ := r
    obtain ⟨i, j, rfl, h1, rfl⟩ := asR2_of hp
    exact ⟨m, a, _, R0, e, fun xs H1 m1 R1 s1 r1 => ⟨i, j, rps_ints2 r1, h1, k xs H1 m1 R1 s1 r1⟩⟩
/-- name = [..] on one line: the same, by the layer's own rule -/
theorem setLc_of {i : Nat} {y : Str} {py spos : Pos} {wi : TI} {f : MAs} {vs : List Nat} (h : PS X (.Assign [.Name y py] (.ListComp elt [⟨tgE, it, ifs, 0⟩] scope pos) spos) (tAsg (tComp X.K G wi tg tst me vs) (gName i)))
    (hw : ∀ σ H Q, tF X.K F G f σ H Q → tComp X.K G wi tg tst me vs σ H Q) :
    PS X (.Assign [.Name y py] (.ListComp elt [⟨tgE, it, ifs, 0⟩] scope pos) spos) (tS X.K F G (sOwn i f)) ∧ PS X (.Assign [.Name y py] (.ListComp elt [⟨tgE, it, ifs, 0⟩] scope pos) spos) (tS X.K F G (sAsg i (eFrz f))) ∧ PS X (.Assign [.Name y py] (.ListComp elt [⟨tgE, it, ifs, 0⟩] scope pos) spos) (tS X.K F G (sAsg i (eLay f))) := by
  refine ⟨h.weak fun D σ H ⟨m, a, r, R, e, k⟩ => ?_, h.weak fun D σ H ⟨m, a, r, R, e, k⟩ => ?_, h.weak fun D σ H ⟨m, a, r, R, e, k⟩ => ?_⟩
  · obtain ⟨q, e1, e2⟩ := Option.map_eq_some_iff.mp e
    subst e2
    exact hw σ H _ ⟨m, a, q, R, e1, fun p vs H' m' R' s' hp r' => k _ _ m' (R'.putOwn hp r') (s'.trans (Rl.putOwnStp hp))⟩
  · obtain ⟨q, e1, e2⟩ := Option.map_eq_some_iff.mp e
    subst e2
    obtain ⟨q', e3, e4⟩ := Option.map_eq_some_iff.mp e1
    subst e4
    exact hw σ H _ ⟨m, a, q', R, e3, fun p vs H' m' R' s' hp r' => k _ _ m' ((R'.new hp).put (R'.newLst hp r')) ((s'.trans (.new hp)).trans (Rl.putStp (R'.new (o := .lst vs) hp).len))⟩
  · obtain ⟨q, e1, e2⟩ := Option.map_eq_some_iff.mp e
    subst e2
    obtain ⟨q', e3, e4⟩ := Option.map_eq_some_iff.mp e1
    subst e4
    exact hw σ H _ ⟨m, a, q', R, e3, fun p vs H' m' R' s' hp r' => k _ _ (m' ++ [p]) ((R'.layLst hp r').put R'.layRef) ((s'.trans (Rl.layStp hp)).trans (Rl.putStp (R'.layLst hp r').len))⟩
end
end
end Pyx
end
section
set_option maxRecDepth 100000
set_option maxHeartbeats 1000000
/-! enumerate(t) of a tuple -/
namespace Pyx
open PySem L2
open PySem.Spec PyProof.Rows
section
variable {P : Program} {w : World} {A : Around} {s : Shared} {it t : Addr} {xs : Array Value} {k : Nat}
/-- one draw of a tuple's iterator, at the level of its own built-in -/
theorem tupDraw {R : Value → Shared → Prop} {E : Value → Shared → Prop} (a : s.heap.IsTupleIter it t k) (b : s.heap.IsTuple t xs) {x : Value} (e : xs[k]? = some x)
    (q : ∀ h, h.IsTupleIter it t (k + 1) → Heap.SameBut it s.heap h → R x { s with heap := h }) :
    wpAny (model P w) A (Builtin.SmallTypes.nextOf (.ref it)) R E s := by
  have ty := a.typeIs
  obtain ⟨oi, ei, ci, di⟩ := a
  obtain ⟨_, et, _, _, dt⟩ := b
  unfold Builtin.SmallTypes.nextOf
  apply wpAny_bind
  apply wpAny_callSpecial?_slot (name := Str.ofString "__next__") ty F.slot_tuple_iterator_next
  apply wpAny_call_entry F.slot_tuple_iterator_next ty F.entry_tuple_iterator_next _ (F.args_tuple_iterator_next_1 _)
  show wpAny _ _ (field (Value.ref it) 0 >>= _) _ _ _
  refine wpAny_bind (wpAny_field (x := .ref t) ei di rfl ?_)
  show wpAny _ _ (if (Value.ref t == .none) = true then _ else _) _ _ _
  rw [if_neg (by exact Bool.false_ne_true)]
  show wpAny _ _ (field (Value.ref it) 1 >>= _) _ _ _
  refine wpAny_bind (wpAny_field (x := .int k 0) ei di rfl ?_)
  show wpAny _ _ (seqItems? (Value.ref t) >>= _) _ _ _
  refine wpAny_bind (wpAny_seqItems et dt ?_)
  simp only [Int.toNat_natCast, e]
  refine wpAny_bind (wpAny_setField ei di (by simp) (wpAny_pure ⟨x, rfl, ?_⟩))
  refine wpAny_pure (q _ ⟨_, Heap.get?_update_self _ ei (Obj.isFreed_of_fields (Obj.data_mapFields di _)), (Obj.cls_mapFields ..).trans ci, ?_⟩ (Heap.SameBut.update ..))
  rw [Obj.data_mapFields di]
  simp [rawInt]
theorem tupDone {R : Value → Shared → Prop} {E : Value → Shared → Prop} (free : A.handled = none) (a : s.heap.IsTupleIter it t k) (b : s.heap.IsTuple t xs) (e : xs[k]? = none)
    (q : ∀ h x, Heap.ExtBut it s.heap h → (∃ o, h.get? x = some o ∧ o.cls = .type "StopIteration") → E (.ref x) { s with heap := h }) :
    wpAny (model P w) A (Builtin.SmallTypes.nextOf (.ref it)) R E s := by
  have ty := a.typeIs
  obtain ⟨oi, ei, ci, di⟩ := a
  obtain ⟨_, et, _, _, dt⟩ := b
  unfold Builtin.SmallTypes.nextOf
  apply wpAny_bind
  apply wpAny_callSpecial?_slot (name := Str.ofString "__next__") ty F.slot_tuple_iterator_next
  apply wpAny_call_entry F.slot_tuple_iterator_next ty F.entry_tuple_iterator_next _ (F.args_tuple_iterator_next_1 _)
  show wpAny _ _ (field (Value.ref it) 0 >>= _) _ _ _
  refine wpAny_bind (wpAny_field (x := .ref t) ei di rfl ?_)
  show wpAny _ _ (if (Value.ref t == .none) = true then _ else _) _ _ _
  rw [if_neg (by exact Bool.false_ne_true)]
  show wpAny _ _ (field (Value.ref it) 1 >>= _) _ _ _
  refine wpAny_bind (wpAny_field (x := .int k 0) ei di rfl ?_)
  show wpAny _ _ (seqItems? (Value.ref t) >>= _) _ _ _
  refine wpAny_bind (wpAny_seqItems et dt ?_)
  simp only [Int.toNat_natCast, e]
  apply wpAny_bind
  apply wpAny_rule
  refine wpAny_bind (wpAny_setField ei di (by simp) ?_)
  show wpAny _ _ (newExc (Value.type "StopIteration") [] >>= _) _ _ _
  apply wpAny_bind
  simp only [newExc, newTuple]
  apply wpAny_bind
  refine wpAny_newObj_type ?_ (by size_fits)
  refine wpAny_bind (m := firstArgMember _ _) (wpAny_of_eq (a := .none) (by simp only [firstArgMember]; rfl) ?_)
  refine wpAny_newObj_type ?_ (by size_fits)
  simp only [raiseNew]
  apply wpAny_bind
  apply wpAny_handled
  rw [show A.in1.handled = none from free]
  refine wpAny_throw ?_
  exact q _ _ (((Heap.SameBut.update ..).extBut.push _).push _) ⟨_, Heap.get?_push_size _ rfl, rfl⟩
end
theorem drawsTup {P : Program} {w : World} {A : Around} (free : A.handled = none) (it t : Addr) (ne : t ≠ it) (xs : Array Value) :
    Draws P w A it [it, t] xs.size (fun k v => xs[k]? = some v) (fun k h => h.IsTupleIter it t k ∧ h.IsTuple t xs) where
  live := fun _ _ ⟨⟨o, e, _⟩, _⟩ => ⟨o, e⟩
  frame := fun _ _ _ ⟨⟨o, e, r⟩, ⟨o2, e2, r2⟩⟩ k => ⟨⟨o, k it List.mem_cons_self o e, r⟩, ⟨o2, k t (List.mem_cons_of_mem _ List.mem_cons_self) o2 e2, r2⟩⟩
  item := fun k s Q E lt ⟨a, b⟩ q => tupDraw a b (Array.getElem?_eq_getElem lt) fun h a' same => q _ h s.toks (Array.getElem?_eq_getElem lt) ⟨a', b.extBut same.extBut ne⟩ same
  done := fun s Q E ⟨a, b⟩ q => tupDone free a b (by simp) q
section
variable {P : Program} {w : World} {A : Around} {E : Value → Shared → Prop} {s : Shared}
theorem meets_enumTup (l : Addr) (xs : Array Value) (n : Nat) (dd : Option Addr) (sl : Array (Option Value)) :
    Meets (Builtin.«enumerate.__new__» ⟨[.type "enumerate", .ref l], []⟩) (fun _ R s => s.heap.get? l = some { cls := .type "tuple", dict := dd, data := .seq xs n, slots := sl } ∧
      R (.ok (.ret (.ref (s.heap.push { cls := .type "tuple_iterator", data := .fields #[.ref l, .int 0 0] }).objs.size)))
        { s with heap := (s.heap.push { cls := .type "tuple_iterator", data := .fields #[.ref l, .int 0 0] }).push { cls := .type "enumerate", data := .fields #[.none, .bool false, .ref s.heap.objs.size, rawInt 0, .none, .none] } }) := by
  refine .of_wp fun P w A R s hs => ?_
  obtain ⟨hp, g, d, tk, os⟩ := s
  obtain ⟨hl, h⟩ := hs
  have sub := sub_enumerate
  have isT : Heap.IsTuple (Shared.heap ⟨hp, g, d, tk, os⟩) l xs := ⟨_, hl, rfl, n, rfl⟩
  wp_walk using AutoSeq1.wpAny_loadPart' hl
  refine wpAny_stack_any fun st => wpAny_pure ?_
  split
  · rename_i c _ _ _ _ _
    cases (c == Value.type "enumerate") <;>
    · wp_walk using AutoSeq1.wpAny_loadPart' hl, wpAny_pyIter_tuple isT
      exact ⟨_, rfl, h⟩
  · wp_walk using AutoSeq1.wpAny_loadPart' hl, wpAny_pyIter_tuple isT
    exact ⟨_, rfl, h⟩
theorem call_enumTup {l : Addr} {xs : Array Value} {Q : Value → Shared → Prop} (a : s.heap.IsTuple l xs)
    (q : ∀ h, IsEnum h (s.heap.objs.size + 1) s.heap.objs.size 0 .none → h.IsTupleIter s.heap.objs.size l 0 → (∀ b o, s.heap.get? b = some o → h.get? b = some o) → Q (.ref (s.heap.objs.size + 1)) { s with heap := h }) :
    wpAny (model P w) A (PySem.call (.type "enumerate") [.ref l]) Q E s := by
  obtain ⟨⟨c, dd, dt, sl⟩, hl, hc, n, hd⟩ := a
  cases hc; cases hd
  refine callType_new F.called_enumerate (by decide) (F.typeCall_enumerate_1 _) (F.newCall_enumerate_1 _) (fun obj => F.args_object_init_2 obj _) F.entry_enumerate_new (meets_enumTup l xs n dd sl) ⟨hl, ?_⟩
  have z : (s.heap.push { cls := .type "tuple_iterator", data := .fields #[.ref l, .int 0 0] }).objs.size = s.heap.objs.size + 1 := Heap.size_push ..
  have en : IsEnum ((s.heap.push { cls := .type "tuple_iterator", data := .fields #[.ref l, .int 0 0] }).push { cls := .type "enumerate", data := .fields #[.none, .bool false, .ref s.heap.objs.size, rawInt 0, .none, .none] }) (s.heap.objs.size + 1) s.heap.objs.size 0 .none := by
    rw [← z]
    exact Heap.get?_push_size _ rfl
  show _ ∧ _
  rw [z]
  exact ⟨⟨_, en, rfl⟩, q _ en ⟨_, Heap.get?_push_of_some _ (Heap.get?_push_size _ rfl), rfl, rfl⟩ fun b o e => Heap.get?_push_of_some _ (Heap.get?_push_of_some _ e)⟩
end
/-- the items of the tuple at t, each in a new pair -/
def ItT (K : PySem.W.Frag) (t : Addr) : It :=
  ⟨fun k H => ∃ (xs : List V) (x : V), SqT K H t xs ∧ xs[k]? = some x, fun k H v H' => ∃ p x, v = .ref p ∧ H p = none ∧ H' = upd H p (.tup [.int (k : Nat), x]) ∧ ∀ xs, SqT K H t xs → xs[k]? = some x, fun k H => ∃ xs : List V, SqT K H t xs ∧ xs.length ≤ k⟩
theorem turn_enumT {P : Program} {w : World} {K : PySem.W.Frag} {es : List Expr} {kk : Nat} {tp : Pos} (t e it : Addr) :
    Turn P w K (.Tuple es kk tp) (ItT K t) [e, it] e (fun k h => (∃ old, IsEnum h e it ((k : Nat) : Int) old) ∧ h.IsTupleIter it t k ∧ e ≠ it ∧ t ≠ it ∧ t ≠ e) where
  mem := List.mem_cons_self
  obj := fun k h ⟨⟨old, en⟩, ⟨o, ho, _, hd⟩, _⟩ b hb => by
    rcases List.mem_cons.mp hb with rfl | hb
    · exact ⟨_, en, fun v q => nomatch q⟩
    · rw [List.mem_singleton.mp hb]
      exact ⟨o, ho, fun v q => by rw [hd] at q; cases q⟩
  keep := fun k h h' ⟨⟨old, en⟩, ⟨o, ho, r⟩, ne⟩ kp => ⟨⟨old, kp e List.mem_cons_self _ en⟩, ⟨o, kp it (List.mem_cons_of_mem _ List.mem_cons_self) o ho, r⟩, ne⟩
  item := by
    intro X hP hw hK hc k pins s σ H E I hf st hg
    subst hP hw hK
    obtain ⟨⟨old, en⟩, ti, ne, n2, n3⟩ := st
    obtain ⟨xs, x, hq, hx⟩ := hg
    obtain ⟨its, rv, pl, _⟩ := I.tuple hq
    obtain ⟨u, hu, ru⟩ := rv.get hx
    have el : e < s.heap.objs.size := Heap.lt_size en
    have il : it < s.heap.objs.size := let ⟨_, q, _⟩ := ti; Heap.lt_size q
    have ku : its.toArray[k]? = some u := by simpa using hu
    have kl : k < its.toArray.size := (Array.getElem?_eq_some_iff.mp ku).1
    refine wpAny_pyNext_enum_itemD (drawsTup (P := X.prog) (w := X.w) (A := X.A.in1) (I.ok.hd hc) it t n2 its.toArray) en ⟨ti, pl⟩ kl ne (by simp [ne, Ne.symm n3]) fun y h' tk hy ho ⟨ti', _⟩ hT hsz hk => ?_
    rw [ku] at hy
    cases hy
    refine ⟨_, rfl, wpAny_letOwnedTupleGo_enum (s := { s with heap := h', toks := tk + 1 }) ho fun h2 en2 sb => ?_⟩
    have hT2 : h2.get? s.heap.objs.size = some { cls := .type "tuple", data := .seq #[.int k tk, u] } := (sb.2 _ (Nat.ne_of_gt el)).trans hT
    have fresh : ObjOk X.prog X.w (upd H s.heap.objs.size (.tup [.int (k : Nat), x])) h2 s.heap.objs.size (.tup [.int (k : Nat), x]) :=
      ⟨by show 2 ≤ sizeLine; decide, [.int k tk, u], .cons ⟨_, rfl⟩ (.cons ru .nil), ⟨_, hT2, rfl, _, rfl⟩⟩
    have I1 : Inv X pins σ (upd H s.heap.objs.size (.tup [.int (k : Nat), x])) { s with heap := h2, toks := tk + 1 } :=
      I.turnedNew (ch := [e, it]) (fun b ob hb q => (sb.2 b fun z => hb (by simp [z])).trans (hk b ob (fun z => hb (by simp [z])) (fun z => hb (by simp [z])) q)) hf (Nat.le_refl _) fresh
    have ti2 : h2.IsTupleIter it t (k + 1) := let ⟨o, ho, r⟩ := ti'; ⟨o, (sb.2 it (Ne.symm ne)).trans ho, r⟩
    refine ⟨.ref s.heap.objs.size, _, I1, rfl, ⟨_, x, rfl, I.hok.fresh (Nat.le_refl _), rfl, fun ys hy => by rw [I.tuple_inj hy hq]; exact hx⟩, ⟨⟨u, ?_⟩, ti2, ne, n2, n3⟩, fun b hb => ?_⟩
    · rw [show ((k + 1 : Nat) : Int) = (k : Int) + 1 by omega]; exact en2
    · have bl : b < s.heap.objs.size := by
        rcases List.mem_cons.mp hb with rfl | hb
        · exact el
        · rw [List.mem_singleton.mp hb]; exact il
      rw [upd_ne (Nat.ne_of_lt bl)]
      exact (hf b hb).1
  done := by
    intro X hP hw hK hc k pins s σ H E I hf st hg
    subst hP hw hK
    obtain ⟨⟨old, en⟩, ti, ne, n2, n3⟩ := st
    obtain ⟨xs, hq, hx⟩ := hg
    obtain ⟨its, rv, pl, _⟩ := I.tuple hq
    obtain ⟨f0, f1, f2, f3, f4, f5⟩ := hf it (by simp)
    have lenE := rv.length
    have D := drawsTup (P := X.prog) (w := X.w) (A := X.A.in1) (I.ok.hd hc) it t n2 its.toArray
    have hT : s.TypeIs (.ref e) "enumerate" := ⟨_, en, rfl⟩
    unfold pyNext
    apply wpAny_bind
    apply wpAny_attempt
    apply wpAny_callSpecial?_slot (name := Str.ofString "__next__") hT F.slot_enumerate_next
    refine wpAny_call_entry F.slot_enumerate_next hT F.entry_enumerate_next ?_ (F.args_enumerate_next_1 _)
    show wpAny _ _ (field (Value.ref e) 2 >>= _) _ _ _
    refine wpAny_bind (wpAny_field en rfl (x := .ref it) rfl ?_)
    refine wpAny_bind (tupDone (I.ok.hd hc) ti pl (by simp; omega) fun h' x eb ⟨o, ho, hc'⟩ => ?_)
    refine wpAny_bind (wpAny_isInstance (T := "StopIteration") (b := true) ⟨o, ho, hc'⟩ isSubtype_stop ?_)
    exact wpAny_pure ⟨rfl, I.turned (t' := s.toks) (fun b o hb q => eb b o hb q) f0 f1 f3 f4 f5⟩
  self := fun A k s Q E ⟨⟨_, en⟩, _⟩ h => wpAny_pyIter_enum en h
def iEnumT (K : PySem.W.Frag) (ta : TA) : TI := fun σ H R => ta σ H fun vs H1 => ∃ t xs, vs = [.ref t] ∧ SqT K H1 t xs ∧ R (ItT K t) H1
theorem pi_enumT {X : Cx} {e : Expr} {ta : TA} {p pos tp : Pos} {es : List Expr} {kk : Nat} (hg : Gl X "enumerate") (hm : X.mg "enumerate" = none) (ha : PA X [e] ta) (hs : starEach [e] X.env = [(false, eval e X.env)]) :
    PI X (.Tuple es kk tp) (.Call (.Name "enumerate" p) [e] [] pos) (iEnumT X.K ta) := by
  refine ⟨fun pins s σ H R I h => ?_⟩
  refine Call_ (ld_blt I hg hm boot_enumerate (PyProof.Rows.callWith_type1 (thn (ha.run pos pins s σ H _ I h) fun us s1 ⟨vs, H1, I1, r1, t, xs, ev, hq, q⟩ => ?_) hs rfl))
  subst ev
  rw [Vals.ref1 r1]
  obtain ⟨its, rv, pl, _⟩ := I1.tuple hq
  have tl : t < s1.heap.objs.size := let ⟨_, z, _⟩ := pl; Heap.lt_size z
  refine call_enumTup pl fun h' en ti kp => wpAny_pyIter_enum en ?_
  have I2 : Inv X pins σ H1 { s1 with heap := h' } := I1.kept (t' := s1.toks) kp
  refine ⟨s1.heap.objs.size + 1, [s1.heap.objs.size + 1, s1.heap.objs.size], _, _, H1, rfl, I2, turn_enumT t (s1.heap.objs.size + 1) s1.heap.objs.size, ⟨⟨.none, en⟩, ti, Nat.succ_ne_self _, Nat.ne_of_lt tl, Nat.ne_of_lt (Nat.lt_succ_of_lt tl)⟩, fun b hb => ?_, q⟩
  have le : s1.heap.objs.size ≤ b := by
    rcases List.mem_cons.mp hb with rfl | hb
    · exact Nat.le_succ _
    · rw [List.mem_singleton.mp hb]; exact Nat.le_refl _
  exact I1.fpOk le (I1.hok.fresh le)
end Pyx
end
section
set_option maxRecDepth 100000
namespace Pyx
open PySem L2
open PySem.Spec PyProof.Rows

/-! ### for k, x in enumerate(e) -/
def prA (k : Nat) (x : AV) : AV := .tup [.int (k : Nat), x]
def enA (xs : List AV) : List AV := xs.zipIdx.map fun p => prA p.2 p.1
theorem enA_length (xs : List AV) : (enA xs).length = xs.length := by simp [enA]
theorem enA_get {xs : List AV} {k : Nat} : (enA xs)[k]? = xs[k]?.map (prA k) := by
  unfold enA
  rw [List.getElem?_map, List.getElem?_zipIdx]
  cases xs[k]? <;> simp
def itemE (a : AS) (n len k : Nat) : Option AV := (itemAt a n len k).map (prA k)
def loopE (tg : Tg) (body : AS → Option (Out × AS)) (n len : Nat) : Nat → AS → Option (Out × AS)
  | 0, a => if lenIs a n len = true then some (.nx, a) else none
  | k + 1, a => (itemE a n len (len - (k + 1))).bind fun x => (asgT tg x a).bind fun a' => (body a').bind (turn (loopE tg body n len k))
def sForE (it : ME) (is : List Nat) (body : MS) : MS := fun G a => (it G a).bind fun r => match r.1 with
  | .lst xs => loopL (.many is) (body G) (enA xs) r.2
  | .tup xs => loopL (.many is) (body G) (enA xs) r.2
  | .ref n => match r.2.S[n]? with
    | some (.lst xs) => loopE (.many is) (body G) n xs.length xs.length r.2
    | _ => none
  | _ => none
/-- the pair's items go to the names -/
def tGE (K : PySem.W.Frag) (F : Hot) (is : List Nat) : TG := fun v σ H Q => ∃ m a T vs cs a', Rl K F m a σ H ∧ v = .ref T ∧ SqT K H T vs ∧ Rps' K F m a σ H vs cs ∧ gNs is cs a = some a' ∧ ∀ σ', SetIn is σ σ' → Rl K F m a' σ' H → Stp m a σ H m a' σ' H → Q σ' H
section
variable {X : Cx} {F : Hot} {G : Gm}
theorem pg_en (hc : X.calm = true) (hN : X.N.Nodup) {es : List Expr} {is : List Nat} {k : Nat} {p : Pos} (h : NamesAt X es is) : PG X (.Tuple es k p) (tGE X.K F is) := by
  obtain ⟨q, l, f⟩ := pgs_names (F := F) hN h
  refine ⟨fun pins s σ H v u Q I r ⟨m, a, T, vs, cs, a', R, ev, sq, rr, e, k⟩ => ?_⟩
  subst ev
  exact (pg_tup hc q l f).run pins s σ H _ u Q I r ⟨T, vs, rfl, sq, rr.length.trans (gNs_len e), m, a, cs, a', R, rr, e, k⟩
theorem prA_asg {is : List Nat} {k : Nat} {x : AV} {a a' : AS} (h : asgT (.many is) (prA k x) a = some a') : gNs is [.int (k : Nat), x] a = some a' := h
/-- what a turn's target gives -/
theorem en_turn {is : List Nat} {m : List Addr} {a a' : AS} {σ : L2.St} {H : Hp} {x : V} {c : AV} {k : Nat} {T : Addr} {Q : L2.St → Hp → Prop} (R : Rl X.K F m a σ H) (rx : Rp' X.K F m a σ H x c) (hT : H T = none) (e : asgT (.many is) (prA k c) a = some a')
    (hQ : ∀ σ' H'' m', Rl X.K F m' a' σ' H'' → Stp m a σ H m' a' σ' H'' → Q σ' H'') : tGE X.K F is (.ref T) σ (upd H T (.tup [.int (k : Nat), x])) Q :=
  ⟨m, a, T, _, _, a', R.new hT, rfl, .inl (Rd.of upd_same), .cons (.int _) (.cons (rx.step R (.new hT)) .nil), prA_asg e, fun σ' _ R' s' => hQ σ' _ m R' ((Stp.new hT).trans s')⟩
theorem loopL_stepE {tg : Tg} {body : MS} {xs : List AV} {i : Nat} {a : AS} {r : Out × AS} (hi : i < xs.length) (h : loopL tg (body G) ((enA xs).drop i) a = some r) :
    ∃ a' q, (xs[i]?.bind fun x => asgT tg (prA i x) a) = some a' ∧ body G a' = some q ∧ turn (fun a => loopL tg (body G) ((enA xs).drop (i + 1)) a) q = some r := by
  obtain ⟨a', q, e1, e2⟩ := loopL_step (G := G) (by rw [enA_length]; exact hi) h
  rw [enA_get] at e1
  refine ⟨a', q, ?_, e2⟩
  cases e : xs[i]? with
  | none => rw [e] at e1; cases e1
  | some x => rw [e] at e1; exact e1
theorem ps_sForE {e : Expr} {es : List Expr} {is : List Nat} {kk : Nat} {me : ME} {body : MS} {sb : List Stmt} {p p2 tp pos : Pos} (hc : X.calm = true) (hxe : X.xe = fun _ _ => False) (hN : X.N.Nodup) (ht : NamesAt X es is) (hg : Gl X "enumerate") (hm : X.mg "enumerate" = none)
    (he : PE X e (tE X.K F G me)) (hs : notStar e = true) (hb : PSs X sb (tS X.K F G body)) : PS X (.For (.Tuple es kk tp) (.Call (.Name "enumerate" p) [e] [] p2) sb [] pos) (tS X.K F G (sForE me is body)) := by
  have hp : PassesOwn (model X.prog X.w) X.A X.env X.xe := by rw [hxe]; exact PassesOwn.never
  have PL := ps_for (pos := pos) hp hc (pi_enum (tpos := tp) (elts := es) (kk := kk) (p := p) (pos := p2) hg hm (pa_cons he pa_nil (star_cons hs)) (star_cons hs)) (pg_en (F := F) hc hN ht) hb
  have PT := ps_for (pos := pos) hp hc (pi_enumT (tp := tp) (es := es) (kk := kk) (p := p) (pos := p2) hg hm (pa_cons he pa_nil (star_cons hs)) (star_cons hs)) (pg_en (F := F) hc hN ht) hb
  have both : PS X (.For (.Tuple es kk tp) (.Call (.Name "enumerate" p) [e] [] p2) sb [] pos) (fun D σ H => tFor (iEnum X.K (tCons (tE X.K F G me) tNil)) (tGE X.K F is) (tS X.K F G body) D σ H ∨ tFor (iEnumT X.K (tCons (tE X.K F G me) tNil)) (tGE X.K F is) (tS X.K F G body) D σ H) :=
    ⟨fun pins s σ H D I h => h.elim (PL.run pins s σ H D I) (PT.run pins s σ H D I)⟩
  refine both.weak fun D σ H ⟨m, a, r, R, e, k⟩ => ?_
  obtain ⟨q, e1, e2⟩ := Option.bind_eq_some_iff.mp e
  obtain ⟨v, a1⟩ := q
  cases v with
  | lst xs =>
    have e2' : loopL (.many is) (body G) (enA xs) a1 = some r := e2
    refine .inl ⟨m, a, (.lst xs, a1), R, e1, fun x H1 m1 R1 s1 r1 => ?_⟩
    obtain ⟨p, vs, rfl, rr, hst⟩ := r1.lstI
    refine ⟨p, vs, rfl, hst .refl, ?_⟩
    refine for_gen (n := xs.length) (fun i a => loopL (.many is) (body G) ((enA xs).drop i) a) (fun i a => xs[i]?.bind fun x => asgT (.many is) (prA i x) a) R1 (by simpa using e2') (k.after s1) (fun i a r hi h => loopL_stepE hi h)
      (fun a r h => by rw [List.drop_eq_nil_of_le (by rw [enA_length]; exact Nat.le_refl _)] at h; cases h; rfl) (fun m a σ H r R s h => ?_) (fun i m a σ H a' hi R s h => ?_)
    · exact ⟨vs, hst s, by rw [rr.length]; exact Nat.le_refl _⟩
    · obtain ⟨c, e3, e4⟩ := Option.bind_eq_some_iff.mp h
      obtain ⟨x, e5, e6⟩ := (rr.step R1 s).get e3
      refine ⟨⟨vs, x, hst s, e5⟩, fun y H' hy Q hQ => ?_⟩
      obtain ⟨T, z, rfl, hT, rfl, hz⟩ := hy
      have := hz vs (hst s)
      rw [e5] at this; cases this
      exact en_turn R e6 hT e4 hQ
  | tup xs =>
    have e2' : loopL (.many is) (body G) (enA xs) a1 = some r := e2
    refine .inr ⟨m, a, (.tup xs, a1), R, e1, fun x H1 m1 R1 s1 r1 => ?_⟩
    cases r1 with
    | tup hl rr =>
      rename_i p vs
      refine ⟨p, vs, rfl, hl.sqT, ?_⟩
      refine for_gen (n := xs.length) (fun i a => loopL (.many is) (body G) ((enA xs).drop i) a) (fun i a => xs[i]?.bind fun x => asgT (.many is) (prA i x) a) R1 (by simpa using e2') (k.after s1) (fun i a r hi h => loopL_stepE hi h)
        (fun a r h => by rw [List.drop_eq_nil_of_le (by rw [enA_length]; exact Nat.le_refl _)] at h; cases h; rfl) (fun m a σ H r R s h => ?_) (fun i m a σ H a' hi R s h => ?_)
      · exact ⟨vs, (TupZ.stay R1 s hl).sqT, by rw [rr.length]; exact Nat.le_refl _⟩
      · obtain ⟨c, e3, e4⟩ := Option.bind_eq_some_iff.mp h
        obtain ⟨x, e5, e6⟩ := (rr.step R1 s).get e3
        have sq := (TupZ.stay R1 s hl).sqT
        refine ⟨⟨vs, x, sq, e5⟩, fun y H' hy Q hQ => ?_⟩
        obtain ⟨T, z, rfl, hT, rfl, hz⟩ := hy
        have := hz vs sq
        rw [e5] at this; cases this
        exact en_turn R e6 hT e4 hQ
  | ref n =>
    have e2' : (match a1.S[n]? with | some (.lst xs) => loopE (.many is) (body G) n xs.length xs.length a1 | _ => none) = some r := e2
    split at e2'
    · rename_i xs hxs
      refine .inl ⟨m, a, (.ref n, a1), R, e1, fun x H1 m1 R1 s1 r1 => ?_⟩
      cases r1 with
      | ref hm =>
        rename_i p
        obtain ⟨vs, g1, g2⟩ := R1.obj n _ _ hxs hm
        refine ⟨p, vs, rfl, .inl (.inl g1), ?_⟩
        have at_ : ∀ {m a σ' H} {ys : List AV}, Rl X.K F m a σ' H → Stp m1 a1 σ H1 m a σ' H → a.S[n]? = some (.lst ys) → ∃ vs, H p = some (.lst vs) ∧ Rps' X.K F m a σ' H vs ys := fun R s h => R.obj n _ _ h (s.pre _ _ hm)
        refine for_gen (n := xs.length) (fun i a => loopE (.many is) (body G) n xs.length (xs.length - i) a) (fun i a => (itemAt a n xs.length i).bind fun x => asgT (.many is) (prA i x) a) R1 (by simpa using e2') (k.after s1) (fun i a r hi h => ?_) (fun a r h => ?_) (fun m a σ H r R s h => ?_) (fun i m a σ H a' hi R s h => ?_)
        · rw [show xs.length - i = (xs.length - (i + 1)) + 1 by omega] at h
          obtain ⟨x, e3, w1⟩ := Option.bind_eq_some_iff.mp h
          obtain ⟨a', e4, w2⟩ := Option.bind_eq_some_iff.mp w1
          obtain ⟨q, e5, w3⟩ := Option.bind_eq_some_iff.mp w2
          rw [show xs.length - (xs.length - (i + 1) + 1) = i by omega] at e3
          obtain ⟨y, e6, rfl⟩ := Option.map_eq_some_iff.mp e3
          exact ⟨a', q, by rw [e6]; exact e4, e5, w3⟩
        · rw [Nat.sub_self] at h
          have h' : (if lenIs a n xs.length = true then some (Out.nx, a) else none) = some r := h
          split at h' <;> cases h'
          rfl
        · rw [Nat.sub_self] at h
          have h' : (if lenIs a n xs.length = true then some (Out.nx, a) else none) = some r := h
          split at h'
          · rename_i hl
            unfold lenIs at hl
            split at hl
            · rename_i ys hy
              obtain ⟨vs', g3, g4⟩ := at_ R s hy
              exact ⟨vs', .inl (.inl g3), by rw [g4.length]; exact Nat.le_of_eq (by simpa using hl)⟩
            · cases hl
          · cases h'
        · obtain ⟨c, e3, e4⟩ := Option.bind_eq_some_iff.mp h
          unfold itemAt at e3
          split at e3
          · rename_i ys hy
            split at e3
            · obtain ⟨vs', g3, g4⟩ := at_ R s hy
              obtain ⟨x, e5, e6⟩ := g4.get e3
              refine ⟨⟨vs', x, .inl (.inl g3), e5⟩, fun y H' hy Q hQ => ?_⟩
              obtain ⟨T, z, rfl, hT, rfl, hz⟩ := hy
              have := hz vs' (.inl (.inl g3))
              rw [e5] at this; cases this
              exact en_turn R e6 hT e4 hQ
            · cases e3
          · cases e3
    · cases e2'
  | _ => cases e2

/-! ### [.. for k, x in enumerate(e) ..] -/
def compE (vs : List Nat) (tg : Tg) (tst : AS → Option (Bool × AS)) (elt : AS → Option (AV × AS)) (n len : Nat) : Nat → List AV → AS → Option (List AV × AS)
  | 0, acc, a => if lenIs a n len = true then some (acc, a) else none
  | k + 1, acc, a => (itemE a n len (len - (k + 1))).bind fun x => (asgT tg x (clr a vs)).bind fun a1 => compT tst elt (compE vs tg tst elt n len k) acc a1
def compVE (vs : List Nat) (tg : Tg) (tst : AS → Option (Bool × AS)) (elt : AS → Option (AV × AS)) (a : AS) : AV → Option (List AV × AS)
  | .lst xs => compL vs tg tst elt (enA xs) [] a
  | .tup xs => compL vs tg tst elt (enA xs) [] a
  | .ref n => match a.S[n]? with
    | some (.lst xs) => compE vs tg tst elt n xs.length xs.length [] a
    | _ => none
  | _ => none
def fCompE (it : ME) (vs : List Nat) (is : List Nat) (tst : MT) (elt : ME) : MAs := fun G a => (it G a).bind fun r => if noOwn r.2 vs = true then (compVE vs (.many is) (tst G) (elt G) r.2 r.1).map fun q => (q.1, rst r.2 (clr q.2 vs) vs) else none
def xGE (K : PySem.W.Frag) (is : List Nat) : TG := fun v σ H Q => ∃ F, tGE K F is v σ H Q
theorem pg_xGE {es : List Expr} {is : List Nat} {k : Nat} {p : Pos} (hc : X.calm = true) (hN : X.N.Nodup) (h : NamesAt X es is) : PG X (.Tuple es k p) (xGE X.K is) := ⟨fun pins s σ H v u Q I r ⟨F, q⟩ => (pg_en (F := F) hc hN h).run pins s σ H v u Q I r q⟩
theorem compL_stepE {vs : List Nat} {tg : Tg} {tst : AS → Option (Bool × AS)} {elt : AS → Option (AV × AS)} {xs acc : List AV} {i : Nat} {a : AS} {r : List AV × AS} (hi : i < xs.length) (h : compL vs tg tst elt ((enA xs).drop i) acc a = some r) :
    ∃ a', (xs[i]?.bind fun x => asgT tg (prA i x) (clr a vs)) = some a' ∧ compT tst elt (compL vs tg tst elt ((enA xs).drop (i + 1))) acc a' = some r := by
  obtain ⟨a', e1, e2⟩ := compL_step (by rw [enA_length]; exact hi) h
  rw [enA_get] at e1
  refine ⟨a', ?_, e2⟩
  cases e : xs[i]? with
  | none => rw [e] at e1; cases e1
  | some x => rw [e] at e1; exact e1
theorem en_turnC {is vs : List Nat} (hsl : ∀ i ∈ is, i ∈ vs) {D : Addr} {m : List Addr} {a a' : AS} {σ : L2.St} {H : Hp} {x : V} {c : AV} {k : Nat} {T : Addr} {Q : L2.St → Hp → Prop} (R : Rl X.K (addF F D) m (clr a vs) (wipe σ vs) H)
    (rx : Rp' X.K (addF F D) m (clr a vs) (wipe σ vs) H x c) (hT : H T = none) (e : asgT (.many is) (prA k c) (clr a vs) = some a')
    (hQ : ∀ σ' H'' m', wipe σ' vs = wipe σ vs → Rl X.K (addF F D) m' a' σ' H'' → Stp m (clr a vs) (wipe σ vs) H m' a' σ' H'' → Q σ' H'') : xGE X.K is (.ref T) (wipe σ vs) (upd H T (.tup [.int (k : Nat), x])) Q :=
  ⟨addF F D, m, clr a vs, T, _, _, a', R.new hT, rfl, .inl (Rd.of upd_same), .cons (.int _) (.cons (rx.step R (.new hT)) .nil), prA_asg e, fun σ' hs R' s' => hQ σ' _ m (wipe_setIn hs hsl) R' ((Stp.new hT).trans s')⟩
section
variable {elt e : Expr} {es : List Expr} {ifs : List Expr} {scope : Scope} {own : List (Str × Nat)} {p p2 pos tp : Pos} {kk : Nat} {is : List Nat} {tst : MT} {me : ME}
structure BlkE (X : Cx) (G : Gm) (scope : Scope) (own : List (Str × Nat)) (es : List Expr) (kk : Nat) (tp : Pos) (ifs : List Expr) (elt : Expr) (is : List Nat) (tst : MT) (me : ME) : Prop where
  ok : BlkOk X.N X.env.scope scope own
  hg : ∀ (s : Shared) (H : Hp) (C : Addr) (cl : List (Str × Addr)) (fp : List Addr), PG (X.blk s H scope (compEnvC scope cl C X.env) fp) (.Tuple es kk tp) (xGE X.K is)
  ht : ∀ (s : Shared) (H : Hp) (C : Addr) (cl : List (Str × Addr)) (fp : List Addr), PTs (X.blk s H scope (compEnvC scope cl C X.env) fp) ifs (xM X.K G tst)
  he : ∀ (s : Shared) (H : Hp) (C : Addr) (cl : List (Str × Addr)) (fp : List Addr), PE (X.blk s H scope (compEnvC scope cl C X.env) fp) elt (xE X.K G me)
  sl : ∀ i ∈ is, i ∈ own.map (·.2)
def tCompE (K : PySem.W.Frag) (G : Gm) (wi : TI) (is : List Nat) (tst : MT) (me : ME) (vs : List Nat) : TE := tLc wi (xGE K is) (xM K G tst) (xE K G me) vs
theorem compE_read {mi : ME} {vs : List Nat} {σ : L2.St} {H : Hp} {Q : VK} (hsl : ∀ i ∈ is, i ∈ vs) (h : tF X.K F G (fCompE mi vs is tst me) σ H Q) :
    tCompE X.K G (iEnum X.K (tCons (tE X.K F G mi) tNil)) is tst me vs σ H Q ∨ tCompE X.K G (iEnumT X.K (tCons (tE X.K F G mi) tNil)) is tst me vs σ H Q := by
  obtain ⟨m, a, r, R, e, k⟩ := h
  obtain ⟨q, e1, e2⟩ := Option.bind_eq_some_iff.mp e
  split at e2
  · rename_i no
    obtain ⟨rF, e3, e4⟩ := Option.map_eq_some_iff.mp e2
    subst e4
    obtain ⟨v, a1⟩ := q
    cases v with
    | lst xs =>
      have e3' : compL vs (.many is) (tst G) (me G) (enA xs) [] a1 = some rF := e3
      refine .inl ⟨m, a, (.lst xs, a1), R, e1, fun x H1 m1 R1 s1 r1 => ?_⟩
      obtain ⟨p, us, rfl, rr, hst⟩ := r1.lstI
      refine ⟨p, us, rfl, hst .refl, fun D hD => ?_⟩
      refine lc_gen (F := F) (n := xs.length) (fun i acc a => compL vs (.many is) (tst G) (me G) ((enA xs).drop i) acc a) (fun i a => xs[i]?.bind fun x => asgT (.many is) (prA i x) (clr a vs)) R1 no hD (by simpa using e3') (fun p us H' m' R' s' hp r' => k p us H' m' R' (s1.trans s') hp r') (fun i acc a r hi h => compL_stepE hi h)
        (fun acc a r h => by rw [List.drop_eq_nil_of_le (by rw [enA_length]; exact Nat.le_refl _)] at h; cases h; rfl) (fun m a H acc r R s h => ?_) (fun i m a H a' hi R s h => ?_)
      · exact ⟨us, hst s, by rw [rr.length]; exact Nat.le_refl _⟩
      · obtain ⟨c, e5, e6⟩ := Option.bind_eq_some_iff.mp h
        obtain ⟨x, e7, rx⟩ := (rr.stepD R1 s hD).get e5
        refine ⟨⟨us, x, hst s, e7⟩, fun y H' hy Q hQ => ?_⟩
        obtain ⟨T, z, rfl, hT, rfl, hz⟩ := hy
        have := hz us (hst s)
        rw [e7] at this; cases this
        exact en_turnC hsl R rx hT e6 hQ
    | tup xs =>
      have e3' : compL vs (.many is) (tst G) (me G) (enA xs) [] a1 = some rF := e3
      refine .inr ⟨m, a, (.tup xs, a1), R, e1, fun x H1 m1 R1 s1 r1 => ?_⟩
      cases r1 with
      | tup hl rr =>
        rename_i p us
        refine ⟨p, us, rfl, hl.sqT, fun D hD => ?_⟩
        refine lc_gen (F := F) (n := xs.length) (fun i acc a => compL vs (.many is) (tst G) (me G) ((enA xs).drop i) acc a) (fun i a => xs[i]?.bind fun x => asgT (.many is) (prA i x) (clr a vs)) R1 no hD (by simpa using e3') (fun p us H' m' R' s' hp r' => k p us H' m' R' (s1.trans s') hp r') (fun i acc a r hi h => compL_stepE hi h)
          (fun acc a r h => by rw [List.drop_eq_nil_of_le (by rw [enA_length]; exact Nat.le_refl _)] at h; cases h; rfl) (fun m a H acc r R s h => ?_) (fun i m a H a' hi R s h => ?_)
        · exact ⟨us, (TupZ.stay R1 s hl).sqT, by rw [rr.length]; exact Nat.le_refl _⟩
        · obtain ⟨c, e5, e6⟩ := Option.bind_eq_some_iff.mp h
          obtain ⟨x, e7, rx⟩ := (rr.stepD R1 s hD).get e5
          have sq := (TupZ.stay R1 s hl).sqT
          refine ⟨⟨us, x, sq, e7⟩, fun y H' hy Q hQ => ?_⟩
          obtain ⟨T, z, rfl, hT, rfl, hz⟩ := hy
          have := hz us sq
          rw [e7] at this; cases this
          exact en_turnC hsl R rx hT e6 hQ
    | ref n =>
      have e3' : (match a1.S[n]? with | some (.lst xs) => compE vs (.many is) (tst G) (me G) n xs.length xs.length [] a1 | _ => none) = some rF := e3
      split at e3'
      · rename_i xs hxs
        refine .inl ⟨m, a, (.ref n, a1), R, e1, fun x H1 m1 R1 s1 r1 => ?_⟩
        cases r1 with
        | ref hm =>
          rename_i p
          obtain ⟨us, g1, g2⟩ := R1.obj n _ _ hxs hm
          refine ⟨p, us, rfl, .inl (.inl g1), fun D hD => ?_⟩
          have at_ : ∀ {m a σ' H} {ys : List AV}, Rl X.K (addF F D) m (clr a vs) σ' H → Stp m1 a1 σ H1 m (clr a vs) σ' H → a.S[n]? = some (.lst ys) → ∃ us, H p = some (.lst us) ∧ Rps' X.K (addF F D) m (clr a vs) σ' H us ys := fun R s h => R.obj n (.lst _) _ (by rw [clr_S]; exact h) (s.pre _ _ hm)
          refine lc_gen (F := F) (n := xs.length) (fun i acc a => compE vs (.many is) (tst G) (me G) n xs.length (xs.length - i) acc a) (fun i a => (itemAt a n xs.length i).bind fun x => asgT (.many is) (prA i x) (clr a vs)) R1 no hD (by simpa using e3') (fun p us H' m' R' s' hp r' => k p us H' m' R' (s1.trans s') hp r') (fun i acc a r hi h => ?_) (fun acc a r h => ?_) (fun m a H acc r R s h => ?_) (fun i m a H a' hi R s h => ?_)
          · rw [show xs.length - i = (xs.length - (i + 1)) + 1 by omega] at h
            obtain ⟨x, e5, w1⟩ := Option.bind_eq_some_iff.mp h
            obtain ⟨a', e6, w2⟩ := Option.bind_eq_some_iff.mp w1
            rw [show xs.length - (xs.length - (i + 1) + 1) = i by omega] at e5
            obtain ⟨y, e8, rfl⟩ := Option.map_eq_some_iff.mp e5
            exact ⟨a', by rw [e8]; exact e6, w2⟩
          · rw [Nat.sub_self] at h
            have h' : (if lenIs a n xs.length = true then some (acc, a) else none) = some r := h
            split at h' <;> cases h'
            rfl
          · rw [Nat.sub_self] at h
            have h' : (if lenIs a n xs.length = true then some (acc, a) else none) = some r := h
            split at h'
            · rename_i hl
              unfold lenIs at hl
              split at hl
              · rename_i ys hy
                obtain ⟨us', g3, g4⟩ := at_ R s hy
                exact ⟨us', .inl (.inl g3), by rw [g4.length]; exact Nat.le_of_eq (by simpa using hl)⟩
              · cases hl
            · cases h'
          · obtain ⟨c, e5, e6⟩ := Option.bind_eq_some_iff.mp h
            unfold itemAt at e5
            split at e5
            · rename_i ys hy
              split at e5
              · obtain ⟨us', g3, g4⟩ := at_ R s hy
                obtain ⟨x, e7, rx⟩ := g4.get e5
                refine ⟨⟨us', x, .inl (.inl g3), e7⟩, fun y H' hy Q hQ => ?_⟩
                obtain ⟨T, z, rfl, hT, rfl, hz⟩ := hy
                have := hz us' (.inl (.inl g3))
                rw [e7] at this; cases this
                exact en_turnC hsl R rx hT e6 hQ
              · cases e5
            · cases e5
      · cases e3'
    | _ => cases e3
  · cases e2
theorem pe_fCompE {mi : ME} (hc : X.calm = true) (hN : X.N.Nodup) (hg : Gl X "enumerate") (hm : X.mg "enumerate" = none) (he : PE X e (tE X.K F G mi)) (hs : notStar e = true) (B : BlkE X G scope own es kk tp ifs elt is tst me) :
    PE X (.ListComp elt [⟨.Tuple es kk tp, .Call (.Name "enumerate" p) [e] [] p2, ifs, 0⟩] scope pos) (tF X.K F G (fCompE mi (own.map (·.2)) is tst me)) :=
  (PE.or (pe_lc hc hN (pi_enum hg hm (pa_cons he pa_nil (star_cons hs)) (star_cons hs)) B.ok B.hg B.ht B.he) (pe_lc hc hN (pi_enumT hg hm (pa_cons he pa_nil (star_cons hs)) (star_cons hs)) B.ok B.hg B.ht B.he)).weak fun _ _ _ h => compE_read B.sl h
end
end
end Pyx
end
section
set_option maxRecDepth 100000
namespace Pyx
open PySem L2
open PySem.Spec PyProof.Rows

/-! ### t[::-1] of a tuple -/
section
variable {P : Program} {w : World} {A : Around} {E : Value → Shared → Prop} {s : Shared}
theorem rev_places (n : Nat) : Builtin.Slice.slicePlaces ((n : Int) - 1) (-1) (-1) = n := by
  unfold Builtin.Slice.slicePlaces
  simp only [show ¬ ((-1 : Int) > 0) by omega, if_false, Int.neg_neg, Int.ediv_one]
  split <;> omega
theorem rev_applied {sl : Addr} {vs : Value} {n : Nat} {Q : Int × Int × Nat → Shared → Prop} (hs : s.heap.IsSliceOf sl .none .none vs) (ps : IsPart vs (some (-1))) (q : Q ((n : Int) - 1, -1, n) s) :
    wpAny (model P w) A (Builtin.Slice.sliceApplied (.ref sl) (pure (n : Int))) Q E s := by
  obtain ⟨os, e, _, d⟩ := hs
  unfold Builtin.Slice.sliceApplied Builtin.Slice.sliceFields
  refine wpAny_bind (wpAny_bind (wpAny_field e d (x := .none) rfl ?_))
  refine wpAny_bind (wpAny_field e d (x := .none) rfl ?_)
  refine wpAny_bind (wpAny_field e d (x := vs) rfl (wpAny_pure ?_))
  refine wpAny_bind (HT.slicePart_ ps ?_)
  show wpAny _ _ (if ((-1 : Int) == 0) = true then _ else _) _ _ s
  rw [if_neg (by decide)]
  refine wpAny_bind (HT.slicePart_ .none (wpAny_bind (HT.slicePart_ .none (wpAny_bind (wpAny_pure ?_)))))
  show wpAny _ _ (pure (((n : Int) - 1), (-1 : Int), Builtin.Slice.slicePlaces ((n : Int) - 1) (-1) (-1))) _ _ s
  rw [rev_places]
  exact wpAny_pure q
theorem fm_same {f g : Nat → Option Value} : ∀ l : List Nat, (∀ k ∈ l, f k = g k) → l.filterMap f = l.filterMap g
  | [], _ => rfl
  | k :: l, h => by
    rw [List.filterMap_cons, List.filterMap_cons, h k List.mem_cons_self, fm_same l fun j hj => h j (List.mem_cons_of_mem _ hj)]
theorem fm_self : ∀ ys : List Value, (List.range ys.length).filterMap (fun k => ys[k]?) = ys
  | [] => rfl
  | y :: ys => by
    rw [List.length_cons, List.range_succ_eq_map, List.filterMap_cons, List.filterMap_map]
    have := fm_self ys
    simpa [Function.comp_def] using this
theorem rev_pick (xs : Array Value) : ((List.range xs.size).filterMap fun (k : Nat) => xs[(((xs.size : Int) - 1) + (k : Int) * (-1)).toNat]?) = xs.toList.reverse := by
  have h := fm_self xs.toList.reverse
  rw [List.length_reverse, Array.length_toList] at h
  rw [← h]
  refine fm_same _ fun k hk => ?_
  have hk := List.mem_range.mp hk
  rw [List.getElem?_reverse (by simpa using hk), Array.length_toList, Array.getElem?_toList, show (((xs.size : Int) - 1) + (k : Int) * (-1)).toNat = xs.size - 1 - k by omega]
theorem getItem_rev {t sl : Addr} {xs : Array Value} {vs : Value} {Q : Value → Shared → Prop} (ht : IsTup s.heap t xs) (hs : s.heap.IsSliceOf sl .none .none vs) (ps : IsPart vs (some (-1))) (hz : xs.size ≤ sizeLine)
    (q : Q (.ref s.heap.objs.size) { s with heap := s.heap.push { cls := .type "tuple", data := .seq xs.toList.reverse.toArray } }) : wpAny (model P w) A (getItem (.ref t) (.ref sl)) Q E s := by
  have fit : sizeOk (.seq xs.toList.reverse.toArray) := by
    show xs.toList.reverse.toArray.size ≤ sizeLine
    simpa using hz
  have ty : s.TypeIs (.ref sl) "slice" := let ⟨os, e, c, _⟩ := hs; ⟨os, e, c⟩
  unfold getItem
  try with_reducible refine wpAny_holding ?_
  first | refine wpAny_bind (wpAny_pure ?_) | skip
  refine wpAny_bind (wpAny_sequenceKey ht.typeIs (by decide) ?_)
  apply wpAny_bind
  apply wpAny_callSpecial?_slot (name := Str.ofString "__getitem__") ht.typeIs slot_tuple_getitem
  refine wpAny_call_entry slot_tuple_getitem ht.typeIs entry_tuple_getitem ?_ (args_tuple_getitem _ _)
  show wpAny _ _ (Builtin.Tuple.tupleItemsOf (Value.ref t) >>= _) _ _ _
  refine wpAny_bind (tupleItemsOf_ ht ?_)
  apply wpAny_bind
  refine wpAny_typeOf ty ?_
  rw [if_pos (by rfl)]
  refine wpAny_bind (rev_applied hs ps ?_)
  have no : ¬ ((((xs.size : Int) - 1) == 0 && (-1 : Int) == 1 && xs.size == xs.size) = true) := by simp
  show wpAny _ _ (if (((xs.size : Int) - 1) == 0 && (-1 : Int) == 1 && xs.size == xs.size) = true then _ else _) _ _ _
  rw [if_neg no, rev_pick]
  first
    | exact wpAny_bind (m := Builtin.Tuple.tupleExact _) (wpAny_newObj_type (wpAny_pure ⟨_, rfl, wpAny_pure q⟩) fit)
    | exact wpAny_bind (m := Builtin.Tuple.tupleExact _) (wpAny_newObj_type (wpAny_bind (wpAny_pure (wpAny_pure ⟨_, rfl, wpAny_pure q⟩))) fit)
    | exact wpAny_bind (wpAny_bind (m := Builtin.Tuple.tupleExact _) (wpAny_newObj_type (wpAny_pure (wpAny_pure ⟨_, rfl, wpAny_pure q⟩)) fit))
    | exact wpAny_bind (wpAny_bind (m := Builtin.Tuple.tupleExact _) (wpAny_newObj_type (wpAny_pure ⟨_, rfl, wpAny_pure q⟩) fit))
end
section
variable {X : Cx} {F : Hot} {G : Gm}
def tRevT (K : PySem.W.Frag) (te : TE) : TE := fun σ H Q => te σ H fun x H1 => ∃ a xs, x = .ref a ∧ SqT K H1 a xs ∧ ∀ p o, H1 p = none → TupO o → Q (.ref p) (upd H1 p (.frz o (.tup xs.reverse)))
theorem pe_revT {e : Expr} {te : TE} {k : Nat} {p1 p2 p3 pos : Pos} (he : PE X e te) : PE X (.Subscript e (.Slice none none (some (.UnaryOp .USub (.Constant (.int 1) k p1) p2)) p3) pos) (tRevT X.K te) := by
  refine ⟨fun pins s σ H Q I h => ?_⟩
  refine Subscript_ (thn (he.run pins s σ H _ I h) fun v s1 ⟨x, H1, I1, r1, a, xs, ex, hx, q⟩ => ?_)
  subst ex
  cases r1
  have step : PO X (some (.UnaryOp .USub (.Constant (.int 1) k p1) p2)) (tPart (tUn (rU fun i => .int (-i)) (tC (.int 1)))) := po_some (pe_un un_neg pe_int)
  refine wpAny_Slice (thn (po_none.run pins s1 σ H1 (fun o H2 => o = none ∧ H2 = H1) I1 ⟨rfl, rfl⟩) fun vl s2 ⟨l, H2, I2, pl, el, e2⟩ => ?_)
  subst el e2
  refine thn (po_none.run pins s2 σ H2 (fun o H3 => o = none ∧ H3 = H2) I2 ⟨rfl, rfl⟩) fun vu s3 ⟨u, H3, I3, pu, eu, e3⟩ => ?_
  subst eu e3
  refine thn (step.run pins s3 σ H3 (fun o H4 => o = some (-1) ∧ H4 = H3) I3 ⟨1, rfl, -1, rfl, rfl, rfl⟩) fun vs s4 ⟨o, H4, I4, ps, eo, e4⟩ => ?_
  subst eo e4
  cases pl
  cases pu
  have I5 : Inv X pins σ H4 { s4 with heap := s4.heap.push { cls := .type "slice", data := .fields #[.none, .none, vs] } } := I4.kept (t' := s4.toks) fun b ob q => Heap.get?_push_of_some _ q
  obtain ⟨its, r, pt, hz⟩ := I5.tuple hx
  have ln := r.length
  show wpAny (model X.prog X.w) X.A (subscriptTail e (.Slice none none (some (.UnaryOp .USub (.Constant (.int 1) k p1) p2)) p3) (.ref a) (.ref s4.heap.objs.size)) (EP X pins σ Q) X.xe _
  refine tail_any (ops := [.ref a, .ref s4.heap.objs.size]) pt.typeIs slot_tuple_getitem.lookup ?_ (by with_unfolding_all rfl)
  refine getItem_rev pt (Heap.IsSliceOf.new _ .none .none vs) ps (by rw [List.size_toArray]; omega) ?_
  have J := laidZ (s' := s4) I5 (xs := xs.reverse) (us := its.reverse) (by rw [List.length_reverse]; exact hz) r.reverse s4.toks
  exact ⟨.ref _, _, J, rfl, q _ _ (I5.hok.fresh (Nat.le_refl _)) ⟨rfl, rfl⟩⟩
def revT : AV → Option (List AV)
  | .tup xs => some xs.reverse
  | _ => none
def eRevT (o : MO) : ME := fun G a => (o G a).bind fun r => (cont r.2 r.1).bind fun c => (revT c).map fun xs => (.tup xs, r.2)
theorem pe_eRevT {e : Expr} {o : MO} {k : Nat} {p1 p2 p3 pos : Pos} (he : PE X e (tO X.K F G o)) : PE X (.Subscript e (.Slice none none (some (.UnaryOp .USub (.Constant (.int 1) k p1) p2)) p3) pos) (tE X.K F G (eRevT o)) := by
  refine (pe_revT he).weak fun σ H Q ⟨m, a, r, R, e, k⟩ => ?_
  obtain ⟨q, e1, e⟩ := Option.bind_eq_some_iff.mp e
  obtain ⟨c, e2, e⟩ := Option.bind_eq_some_iff.mp e
  obtain ⟨xs, e3, e4⟩ := Option.map_eq_some_iff.mp e
  subst e4
  refine ⟨m, a, q, R, e1, fun x H' m' R' s r' => ?_⟩
  have b := r'.cont R' e2
  cases c <;> cases e3
  obtain ⟨p, vs, rfl, h1, r1⟩ := b.tup
  exact ⟨p, vs, rfl, h1.sqT, fun p o hp ho => k _ _ m' (R'.new hp) (s.trans (.new hp)) (R'.newTup hp ho r1.rev)⟩
end
end Pyx
end
section
set_option maxRecDepth 100000
namespace Pyx
open PySem L2
open PySem.Spec PyProof.Rows

/-! ### sep.join(xs) -/
def asStrs : List AV → Option (List Str)
  | [] => some []
  | .str x :: r => (asStrs r).map (x :: ·)
  | _ => none
theorem Rps.of_strs {K : PySem.W.Frag} {H : Hp} {hot : Hot} {m : List Addr} : ∀ {xs : List AV} {vs : List V} {ys : List Str}, Rps K H hot m vs xs → asStrs xs = some ys → vs = ys.map V.str
  | [], _, _, .nil, h => by cases h; rfl
  | .str x :: r, _, ys, .cons a t, h => by
    obtain ⟨zs, e1, e2⟩ := Option.map_eq_some_iff.mp (show (asStrs r).map (x :: ·) = some ys from h)
    subst e2
    cases a
    rw [List.map_cons, Rps.of_strs t e1]
  | .non :: _, _, _, _, h | .bl _ :: _, _, _, _, h | .int _ :: _, _, _, _, h | .tup _ :: _, _, _, _, h | .lst _ :: _, _, _, _, h | .ref _ :: _, _, _, _, h => by cases h
def joinA (z : Str) : AV → Option AV
  | .lst xs => (asStrs xs).bind fun ys => if (ys.map (·.length)).sum + ys.length * z.length ≤ 16777216 then some (.str (Txt.join z ys)) else none
  | _ => none
def eJoin (z : Str) (o : MO) : ME := fun G a => (o G a).bind fun r => (cont r.2 r.1).bind fun c => (joinA z c).map fun v => (v, r.2)
section
variable {X : Cx} {F : Hot} {G : Gm}
theorem pe_eJoin {z : Str} {o : MO} {e : Expr} {k : Nat} {pz apos pos : Pos} (he : PE X e (tO X.K F G o)) (hs : notStar e = true) (hl : (apos.endLine == pos.line) = true) :
    PE X (.Call (.Attribute (.Constant (.str z) k pz) "join" apos) [e] [] pos) (tE X.K F G (eJoin z o)) := by
  refine (pe_join (ho := pe_str) he (star_cons hs) rfl hl).weak fun σ H Q ⟨m, a, r, R, e, k⟩ => ?_
  obtain ⟨q, e1, e⟩ := Option.bind_eq_some_iff.mp e
  obtain ⟨c, e2, e⟩ := Option.bind_eq_some_iff.mp e
  obtain ⟨v, e3, e4⟩ := Option.map_eq_some_iff.mp e
  subst e4
  refine ⟨⟨z, rfl⟩, m, a, q, R, e1, fun x H' m' R' s r' => ?_⟩
  have b := r'.cont R' e2
  cases c with
  | lst xs =>
    obtain ⟨ys, e5, e6⟩ := Option.bind_eq_some_iff.mp (show ((asStrs xs).bind fun ys => if (ys.map (·.length)).sum + ys.length * z.length ≤ 16777216 then some (AV.str (Txt.join z ys)) else none) = some v from e3)
    split at e6
    · rename_i hb
      cases e6
      obtain ⟨p, vs, rfl, h1, r1⟩ := b.lst
      rw [Rps.of_strs r1 e5] at h1
      exact ⟨z, p, ys, rfl, rfl, .inl h1, hb, k _ _ m' R' s (.str _)⟩
    · cases e6
  | _ => cases e3

/-! ### list(range(n)) -/
def rgOk (j : Int) : Bool := decide (-(2 ^ 62) ≤ j ∧ j ≤ 16777216)
def fRg (e : ME) : MAs := fun G a => (e G a).bind fun r => match r.1 with
  | .int j => if rgOk j = true then some (rgA 0 j.toNat, r.2) else none
  | _ => none
theorem rgV_rps {K : PySem.W.Frag} {H : Hp} {hot : Hot} {m : List Addr} (j : Int) : Rps K H hot m (rgV 0 j) (rgA 0 j.toNat) := by
  unfold rgV rgA
  rw [Int.sub_zero]
  have : ∀ l : List Nat, Rps K H hot m (l.map fun (i : Nat) => V.int (0 + (i : Nat))) (l.map fun (i : Nat) => AV.int (0 + (i : Int))) := by
    intro l
    induction l with
    | nil => exact .nil
    | cons x l ih => exact .cons (.int _) ih
  exact this _
theorem pe_fRg {e : ME} {x : Expr} {p p2 p3 pos : Pos} (hc : X.calm = true) (hg : Gl X "list") (hm : X.mg "list" = none) (hg2 : Gl X "range") (hm2 : X.mg "range" = none) (he : PE X x (tE X.K F G e)) (hs : notStar x = true) :
    PE X (.Call (.Name "list" p) [.Call (.Name "range" p2) [x] [] p3] [] pos) (tF X.K F G (fRg e)) := by
  refine (pe_listRg hc hg hm (prg_1 hg2 hm2 he (star_cons hs))).weak fun σ H Q ⟨m, a, r, R, e, k⟩ => ?_
  obtain ⟨q, e1, e2⟩ := Option.bind_eq_some_iff.mp e
  obtain ⟨v, a1⟩ := q
  cases v with
  | int j =>
    have e2' : (if rgOk j = true then some (rgA 0 j.toNat, a1) else none) = some r := e2
    split at e2'
    · rename_i h
      cases e2'
      have h := of_decide_eq_true h
      refine ⟨m, a, (.int j, a1), R, e1, fun y H' m' R' s r' => ?_⟩
      cases r'
      exact ⟨j, rfl, ⟨by omega, by omega, by omega, by omega, by omega⟩, fun p hp => k p _ H' m' R' s hp (rgV_rps j)⟩
    · cases e2'
  | _ => cases e2

/-! ### a dict's display: the new dict is of the store -/
def asgK (ks : List Str) : Bool := decide ks.Nodup && decide (ks.length ≤ 15) && !ks.isEmpty
def eDic (ks : List Str) (t : MAs) : ME := fun G a => (t G a).bind fun r => if r.1.length = ks.length then some (.ref r.2.S.length, r.2.lay (.dic (ks.zip r.1))) else none
theorem Rl.forget {K : PySem.W.Frag} {m : List Addr} {a : AS} {σ : L2.St} {H : Hp} {D : Addr} {ws : List (Key × V)} (R : Rl K F m a σ H) (hD : H D = some (.dK ws)) (nF : ¬ F D) (nl : ¬ Loc' m a σ D) :
    Rl K F m a σ (del H D) ∧ ∀ xs vs, Rps' K F m a σ H xs vs → Rps' K F m a σ (del H D) xs vs := by
  have hk : KeepR K H (del H D) (hotOf F m a σ) (hotOf F m a σ) m m := by
    refine ⟨fun b o vs e => ?_, fun b vs e n => ⟨?_, n⟩, fun _ _ e => e⟩
    · rw [del_ne fun q => by rw [q, hD] at e; cases e]; exact e
    · rcases e with e | ⟨o, e⟩
      · exact .inl (by rw [del_ne fun q => by rw [q, hD] at e; cases e]; exact e)
      · exact .inr ⟨o, by rw [del_ne fun q => by rw [q, hD] at e; cases e]; exact e⟩
  have lne : ∀ {b}, Loc' m a σ b → b ≠ D := fun l q => nl (q ▸ l)
  refine ⟨⟨R.len, fun j v e => let ⟨x, e1, r⟩ := R.slot j v e; ⟨x, e1, r.keep hk⟩, fun j xs e => ?_, R.inj, R.mlen, fun n o p e1 e2 => (R.obj n o p e1 e2).keep hk (del_ne (lne (.inl (List.mem_of_getElem? e2)))), R.mnd, R.mF, fun p h => ?_, fun q hq => tab_del (R.tbs q hq) (.inr ⟨_, hD⟩)⟩, fun xs vs r => r.keep hk⟩
  · obtain ⟨p, vs, e1, e2, r, n⟩ := R.own j xs e
    exact ⟨p, vs, e1, by rw [del_ne (lne (.inr ⟨j, xs, e, e1⟩))]; exact e2, r.keep hk, n⟩
  · have np : p ≠ D := fun q => nF (q ▸ h)
    unfold IsMut; rw [del_ne np]; exact R.FH p h
/-- the pairs of a display: their keys are these texts, their values as the evaluator has them -/
def DP (X : Cx) (G : Gm) (F : Hot) (pos : Pos) (keys : List (Option Expr)) (vals : List Expr) (ks : List Str) (t : MAs) : Prop :=
  ∃ trs, PPs X pos keys vals trs ∧ ∀ (m : List Addr) (a : AS) (σ : L2.St) (H : Hp) (r : List AV × AS) (Q : List (V × V) → Hp → Prop), Rl X.K F m a σ H → t G a = some r →
    (∀ us H' m', Rl X.K F m' r.2 σ H' → Stp m a σ H m' r.2 σ H' → Rps' X.K F m' r.2 σ H' us r.1 → Q ((ks.map V.str).zip us) H') → tPairs trs σ H Q
theorem dp_nil {pos : Pos} : DP X G F pos [] [] [] aNil := ⟨[], pps_nil, fun m a σ H r Q R e k => by cases e; exact k [] H m R .refl .nil⟩
theorem dp_cons {pos pk : Pos} {k : Str} {kn : Nat} {v : Expr} {keys : List (Option Expr)} {vals : List Expr} {ks : List Str} {e : ME} {t : MAs} (he : PE X v (tE X.K F G e)) (h : DP X G F pos keys vals ks t) :
    DP X G F pos (some (.Constant (.str k) kn pk) :: keys) (v :: vals) (k :: ks) (aCons e t) := by
  obtain ⟨trs, hp, hr⟩ := h
  refine ⟨(tC (.str k), tE X.K F G e) :: trs, pps_cons pe_str he hp, fun m a σ H r Q R e1 q => ?_⟩
  obtain ⟨r1, e2, e3⟩ := Option.bind_eq_some_iff.mp e1
  obtain ⟨r2, e4, e5⟩ := Option.map_eq_some_iff.mp e3
  subst e5
  refine ⟨m, a, r1, R, e2, fun x H1 m1 R1 s1 rx => ?_⟩
  refine hr m1 r1.2 σ H1 r2 _ R1 e4 fun us H2 m2 R2 s2 rs => ?_
  exact q (x :: us) H2 m2 R2 (s1.trans s2) (.cons (rx.step R1 s2) rs)
theorem RpD.of_zip {K : PySem.W.Frag} {H : Hp} {hot : Hot} {m : List Addr} : ∀ {ks : List Str} {us : List V} {xs : List AV}, Rps K H hot m us xs → us.length = ks.length → RpD K H hot m ((ks.map Sum.inr).zip us : List (Key × V)) (ks.zip xs)
  | [], [], _, .nil, _ => trivial
  | k :: ks, _ :: _, _, .cons a t, h => ⟨rfl, a, RpD.of_zip t (by simpa using h)⟩
  | [], _ :: _, _, _, h => by simp at h
  | _ :: _, [], _, _, h => by simp at h
theorem merge_new : ∀ (acc more : List (Key × V)), ((acc ++ more).map (·.1)).Nodup → mergeK acc more = acc ++ more
  | acc, [], _ => by simp [mergeK]
  | acc, p :: more, h => by
    have hp : (acc.any fun kv => decide (kv.1 = p.1)) = false := by
      rw [List.any_eq_false]
      intro kv hkv
      have h' : (acc.map (·.1) ++ p.1 :: more.map (·.1)).Nodup := by simpa using h
      have := (List.nodup_append.mp h').2.2 kv.1 (List.mem_map_of_mem hkv) p.1 List.mem_cons_self
      simpa using this
    have e : putK acc p.1 p.2 = acc ++ [p] := by
      unfold putK
      rw [hp]
      rfl
    show mergeK (putK acc p.1 p.2) more = _
    rw [e, merge_new (acc ++ [p]) more (by simpa using h)]
    simp
theorem zip_kv : ∀ (ks : List Str) (us : List V), (ks.map V.str).zip us = (((ks.map Sum.inr).zip us : List (Key × V)).map fun kv => (kV kv.1, kv.2))
  | [], _ => by simp
  | _ :: _, [] => by simp
  | k :: ks, u :: us => by
    simp only [List.map_cons, List.zip_cons_cons]
    rw [zip_kv ks us]
    rfl
theorem pe_eDic {pos : Pos} {keys : List (Option Expr)} {vals : List Expr} {ks : List Str} {t : MAs} (h : DP X G F pos keys vals ks t) (hall : keys.all (·.isSome) = true) (hl : keys.length = vals.length) (h0 : keys ≠ []) (h15 : keys.length ≤ 15) (hk : keys.length = ks.length) (hn : ks.Nodup) :
    PE X (.Dict keys vals pos) (tE X.K F G (eDic ks t)) := by
  obtain ⟨trs, hp, hr⟩ := h
  refine (pe_disp hp hall hl h0 h15).weak fun σ H Q ⟨m, a, r, R, e, k⟩ p hpn => ?_
  obtain ⟨q, e1, e2⟩ := Option.bind_eq_some_iff.mp e
  split at e2
  · rename_i hlen
    cases e2
    have nF : ¬ F p := fun h => by rcases R.FH p h with ⟨_, z⟩ | ⟨_, z⟩ <;> rw [hpn] at z <;> cases z
    have R1 := R.new (o := .dK []) hpn
    refine hr m a σ _ q _ R1 e1 fun us H2 m2 R2 s2 rs => ?_
    have nl0 : ¬ Loc' m a σ p := fun l => R.locSome l hpn
    have hp2 : H2 p = some (.dK []) := s2.keep p _ upd_same nl0
    have nl2 : ¬ Loc' m2 q.2 σ p := fun l => (s2.locs p l).elim nl0 fun z => by rw [upd_same] at z; cases z
    obtain ⟨R3, k3⟩ := R2.forget hp2 nF nl2
    have r3 := k3 _ _ rs
    have ul : us.length = ks.length := rs.length.trans hlen
    have st : Stp m a σ H m2 q.2 σ (del H2 p) := by
      refine ⟨s2.pre, fun b o e n nt => ?_, fun b e => ?_, fun b l => (s2.locs b l).imp id fun z => ?_⟩
      · have nb := ne_of_none e hpn
        rw [del_ne nb]
        exact s2.keep b o (by rw [upd_ne nb]; exact e) n nt
      · have nb : b ≠ p := fun q => e (q ▸ hpn)
        rw [del_ne nb]
        exact s2.dom b (by rw [upd_ne nb]; exact e)
      · by_cases nb : b = p
        · rw [nb]; exact hpn
        · rw [upd_ne nb] at z; exact z
    refine ⟨hp2, (ks.map Sum.inr).zip us, zip_kv ks us, by simp [ul]; omega, ?_⟩
    rw [merge_new [] _ (by
      simp only [List.nil_append]
      rw [List.map_fst_zip (by simp [ul])]
      exact List.Pairwise.map _ (fun a b h e => h (Sum.inr.inj e)) hn)]
    have R4 := R3.lay (p := p) (u := .dK ((ks.map Sum.inr).zip us)) (o := .dic (ks.zip q.1)) del_same fun R => ⟨_, upd_same, RpD.keep (R.keeps (Rl.layStp del_same)) (RpD.of_zip r3 ul)⟩
    have e9 : upd (del H2 p) p (.dK ((ks.map Sum.inr).zip us)) = upd H2 p (.dK ((ks.map Sum.inr).zip us)) := by
      funext b
      by_cases nb : b = p
      · rw [nb, upd_same, upd_same]
      · rw [upd_ne nb, upd_ne nb, del_ne nb]
    have fin := k (.ref p) _ (m2 ++ [p]) R4 (st.trans (Rl.layStp del_same)) R3.layRef
    rw [e9] at fin
    exact fin
  · cases e2
end
end Pyx
end
section
set_option maxRecDepth 100000
namespace Pyx
open PySem L2
open PySem.Spec PyProof.Rows

/-! ### a call behind which what it laid into the store is forgotten -/
mutual
def AV.rlt (n : Nat) : AV → Bool
  | .ref k => decide (k < n)
  | .tup xs => AV.rlts n xs | .lst xs => AV.rlts n xs
  | _ => true
def AV.rlts (n : Nat) : List AV → Bool
  | [] => true | x :: xs => x.rlt n && AV.rlts n xs
end
def rltD (n : Nat) : List (Str × AV) → Bool
  | [] => true | x :: xs => x.2.rlt n && rltD n xs
def SObj.rlt (n : Nat) : SObj → Bool
  | .lst xs => AV.rlts n xs
  | .dic kvs => rltD n kvs
def eCallT (name : Str) (t : MAs) : ME := fun G a => (t G a).bind fun r => (G name r.1 r.2.S).bind fun q =>
  if (q.1.rlt r.2.S.length && (q.2.take r.2.S.length).all (SObj.rlt r.2.S.length)) = true ∧ r.2.S.length ≤ q.2.length then some (q.1, r.2.wS (q.2.take r.2.S.length)) else none
section
variable {K : PySem.W.Frag} {H : Hp} {hot hot' : Hot} {m m' : List Addr} {n : Nat}
mutual
theorem Rp.lower (k : ∀ p, hot' p → hot p) (hm : ∀ i, i < n → m'[i]? = m[i]?) : ∀ {v : AV} {x : V}, Rp K H hot m x v → v.rlt n = true → Rp K H hot' m' x v
  | .non, _, .non, _ => .non
  | .bl _, _, .bl b, _ => .bl b
  | .int _, _, .int i, _ => .int i
  | .str _, _, .str x, _ => .str x
  | .tup xs, _, .tup h r, e => .tup h (Rps.lower k hm r e)
  | .lst xs, _, .lst h q r, e => .lst h (fun z => q (k _ z)) (Rps.lower k hm r e)
  | .lst xs, _, .lstK h r, e => .lstK h (Rps.lower k hm r e)
  | .ref j, _, .ref h, e => .ref ((hm j (of_decide_eq_true e)).trans h)
theorem Rps.lower (k : ∀ p, hot' p → hot p) (hm : ∀ i, i < n → m'[i]? = m[i]?) : ∀ {vs : List AV} {xs : List V}, Rps K H hot m xs vs → AV.rlts n vs = true → Rps K H hot' m' xs vs
  | [], _, .nil, _ => .nil
  | v :: vs, _, .cons r t, e => by
    have e' : (v.rlt n && AV.rlts n vs) = true := e
    rw [Bool.and_eq_true] at e'
    exact .cons (Rp.lower k hm r e'.1) (Rps.lower k hm t e'.2)
end
theorem RpD.lower (k : ∀ p, hot' p → hot p) (hm : ∀ i, i < n → m'[i]? = m[i]?) : ∀ {xs : List (Key × V)} {vs : List (Str × AV)}, RpD K H hot m xs vs → rltD n vs = true → RpD K H hot' m' xs vs
  | [], [], _, _ => trivial
  | (_, _) :: _, (_, v) :: vs, ⟨e, r, t⟩, h => by
    have h' : (v.rlt n && rltD n vs) = true := h
    rw [Bool.and_eq_true] at h'
    exact ⟨e, r.lower k hm h'.1, RpD.lower k hm t h'.2⟩
  | [], _ :: _, h, _ => h.elim
  | _ :: _, [], h, _ => h.elim
end
section
variable {X : Cx} {F : Hot} {G : Gm}
theorem callT_read {name : Str} {n : Nat} {t : MAs} {σ : L2.St} {H : Hp} {Q : VK} (hn : ∀ as S r, G name as S = some r → as.length = n) (h : tE X.K F G (eCallT name t) σ H Q) : tCall (spG X.K G name n) [] E0 (tAs X.K F G t) σ H Q := by
  obtain ⟨m, a, r, R, e, k⟩ := h
  obtain ⟨q, e1, e⟩ := Option.bind_eq_some_iff.mp e
  obtain ⟨v, e2, e3⟩ := Option.bind_eq_some_iff.mp e
  split at e3
  · rename_i hc
    cases e3
    obtain ⟨hc, hle⟩ := hc
    rw [Bool.and_eq_true, List.all_eq_true] at hc
    obtain ⟨c1, c2⟩ := hc
    refine ⟨m, a, q, R, e1, fun xs H1 m1 R1 s1 r1 => ?_⟩
    show spG X.K G name n (xs ++ []) H1 Q E0
    rw [List.append_nil]
    refine ⟨r1.length.trans (hn _ _ _ e2), inF F q.2 σ, m1, q.2.S, q.1, v, R1.enter, r1.keep (KeepR.hot fun p h => hot_in.mp h), e2, fun x H' m' R' s' r' => ?_⟩
    obtain ⟨a1, a2, a3⟩ := R1.leave R' s'
    have hm : ∀ i, i < q.2.S.length → m1[i]? = m'[i]? := fun i hi => by
      have h1 : i < m1.length := by rw [R1.mlen]; exact hi
      rw [List.getElem?_eq_getElem h1]
      exact (s'.pre i _ (List.getElem?_eq_getElem h1)).symm
    have sub : ∀ p, p ∈ m1 → p ∈ m' := fun p hp => by
      obtain ⟨i, hi, e⟩ := List.getElem_of_mem hp
      exact List.mem_of_getElem? (s'.pre i p (by rw [List.getElem?_eq_getElem hi, e]))
    have hh : ∀ p, hotOf F m1 (q.2.wS (v.2.take q.2.S.length)) σ p → hotOf F m' (q.2.wS v.2) σ p := fun p h => h.imp id fun h => h.imp (sub p) id
    have st : Stp m1 q.2 σ H1 m1 (q.2.wS (v.2.take q.2.S.length)) σ H' := ⟨fun _ _ e => e, fun b o e n nt => a2.keep b o e n nt, a2.dom, fun b h => .inl h⟩
    have R2 : Rl X.K F m1 (q.2.wS (v.2.take q.2.S.length)) σ H' := by
      refine ⟨R1.len, fun i w e => ?_, fun i ys e => ?_, R1.inj, ?_, fun i o p e4 e5 => ?_, R1.mnd, R1.mF, a1.FH, a1.tbs⟩
      · obtain ⟨y, e4, r4⟩ := R1.slot i w e
        exact ⟨y, e4, r4.step R1 st⟩
      · obtain ⟨p, vs, e4, h1, r4, n1, n2⟩ := R1.own i ys e
        exact ⟨p, vs, e4, s'.keep p _ h1 fun h => h.elim n2 fun h => own_nil h, r4.step R1 st, n1, n2⟩
      · show m1.length = (v.2.take q.2.S.length).length
        rw [R1.mlen, List.length_take]
        omega
      · have hi : i < q.2.S.length := by
          have := (List.getElem?_eq_some_iff.mp e5).1
          rw [R1.mlen] at this
          exact this
        have e6 : v.2[i]? = some o := by
          have : (v.2.take q.2.S.length)[i]? = some o := e4
          rwa [List.getElem?_take_of_lt hi] at this
        have ob := a1.obj i o p e6 (by rw [← hm i hi]; exact e5)
        have ok := c2 o (List.mem_of_getElem? (show (v.2.take q.2.S.length)[i]? = some o from e4))
        cases o with
        | lst ys => obtain ⟨vs, h1, r4⟩ := ob; exact ⟨vs, h1, r4.lower hh hm ok⟩
        | dic ys => obtain ⟨vs, h1, r4⟩ := ob; exact ⟨vs, h1, r4.lower hh hm ok⟩
    exact k x H' m1 R2 (s1.trans st) ((a3 x v.1 r').lower hh hm c1)
  · cases e3
theorem pe_eCallT {name : Str} {n d : Nat} {t : MAs} {e : Expr} {es : List Expr} {p pos : Pos} (f : FnG X G d name n) (hr : Room d X.A) (hg : Gl X name) (hd : (name == ("__debug__" : Str)) = false) (ha : PA X (e :: es) (tAs X.K F G t)) (hs : (e :: es).all notStar = true) :
    PE X (.Call (.Name name p) (e :: es) [] pos) (tE X.K F G (eCallT name t)) := by
  obtain ⟨f1, fd, ps, h1, h2, h3, h4⟩ := f.ex
  rw [List.all_cons, Bool.and_eq_true] at hs
  exact (pe_call h4 hr hg h1 h2 h3 .nil pass0 ha hd (star_cons hs.1) (star_any hs.2)).weak fun _ _ _ => callT_read f.ar
end
end Pyx
end
section
set_option maxRecDepth 100000
namespace Pyx
open PySem L2
open PySem.Spec PyProof.Rows
section
variable {X : Cx} {F : Hot} {G : Gm}
/-! ### xs.extend(fresh list) -/
def extA (ys xs : List AV) : Option (List AV) := if xs.length + ys.length ≤ sizeLine then some (xs ++ ys) else none
def eExt (o : MO) (t : MAs) : ME := fun G a => (o G a).bind fun r => (cont r.2 r.1).bind fun c => if isLst c = true then (t G r.2).bind fun q => (mutL q.2 (extA q.1) r.1).map fun a' => (.non, a') else none
theorem Rps.append' {K : PySem.W.Frag} {H : Hp} {hot : Hot} {m : List Addr} {xs ys : List V} {us ws : List AV} (a : Rps K H hot m xs us) (b : Rps K H hot m ys ws) : Rps K H hot m (xs ++ ys) (us ++ ws) := a.append b
theorem pe_eExt {x y : Expr} {pos apos : Pos} {o : MO} {t : MAs} (ho : PE X x (tO X.K F G o)) (he : PE X y (tF X.K F G t)) (hx : notCall x = true) (hy : notStar y = true) (hl : (apos.endLine == pos.line) = true) : PE X (.Call (.Attribute x "extend" apos) [y] [] pos) (tE X.K F G (eExt o t)) := by
  have ha : PA X [y] (tCons (tF X.K F G t) tNil) := pa_cons he pa_nil (star_cons hy)
  refine (pe_bm PySem.F.plainAttrs_list PySem.F.slot_list_extend PySem.F.type_list_extend mt_extend ho ha (base_ok hx) (few_ok (by simp [hy]) (by simp)) hl (star_cons hy) rfl).weak fun σ H Q ⟨m, a, r, R, e, k⟩ => ?_
  obtain ⟨q, e1, e⟩ := Option.bind_eq_some_iff.mp e
  obtain ⟨c, e2, e⟩ := Option.bind_eq_some_iff.mp e
  split at e
  · rename_i hc
    obtain ⟨q2, e3, e⟩ := Option.bind_eq_some_iff.mp e
    obtain ⟨a', e4, e5⟩ := Option.map_eq_some_iff.mp e
    subst e5
    refine ⟨m, a, q, R, e1, fun x H1 m1 R1 s1 h1 => ⟨tyL (h1.cont R1 e2) hc, m1, q.2, q2, R1, e3, fun p us H2 m2 R2 s2 hp rs => ?_⟩⟩
    have R3 := R2.new (o := .lst us) hp
    have s3 : Stp m2 q2.2 σ H2 m2 q2.2 σ (upd H2 p (.lst us)) := .new hp
    have rs3 := Rps.keep (R2.keeps s3) rs
    obtain ⟨l, vs, xs, ys, rfl, g1, g2, g3, g4, g5⟩ := mutL_ok R3 ((h1.step R1 s2).step R2 s3) e4
    unfold extA at g3
    split at g3
    · rename_i hlen
      cases g3
      obtain ⟨w1, w2⟩ := g4 (vs ++ us) (g2.append rs3)
      exact ⟨l, p, vs, us, rfl, rfl, g1, upd_same, by rw [g2.length, rs3.length]; exact hlen, k _ _ m2 w1 (((s1.trans s2).trans s3).trans w2) .non⟩
    · cases g3
  · cases e
/-! ### d.get(k, e) -/
theorem hdRef_ok {K : PySem.W.Frag} {m : List Addr} {a : AS} {σ : L2.St} {H : Hp} {ov : V} (R : Rl K F m a σ H) : ∀ {h : Hd} {n : Nat}, RHd K F m a σ H ov h → hdRef a h = some n → Rp' K F m a σ H ov (.ref n)
  | .val w, n, r, e => by
    cases w with
    | ref n' => cases e; exact r
    | _ => cases e
  | .slot l, n, r, e => by
    have h3' : σ[l]? = some (some ov) := r
    unfold hdRef at e
    simp only at e
    split at e
    · rename_i n' hz
      cases e
      obtain ⟨z, z1, z2⟩ := R.slot l _ hz
      rw [h3'] at z1; cases z1
      exact z2
    · cases e
def isDic : Option SObj → Bool
  | some (.dic _) => true
  | _ => false
def getD : AV → AV → Option SObj → Option AV
  | .str k, d, some (.dic kvs) => some ((dGet kvs k).getD d)
  | _, _, _ => none
def eGet (o : MO) (ek ed : ME) : ME := fun G a => (o G a).bind fun r => (hdRef r.2 r.1).bind fun n => if isDic r.2.S[n]? = true then (ek G r.2).bind fun q => (ed G q.2).bind fun p => (hdRef p.2 r.1).bind fun n' => (getD q.1 p.1 p.2.S[n']?).map fun v => (v, p.2) else none
theorem RpD.none {K : PySem.W.Frag} {H : Hp} {hot : Hot} {m : List Addr} {k : Str} {xs : List (Key × V)} {vs : List (Str × AV)} (r : RpD K H hot m xs vs) (h : dGet vs k = none) : valV xs (Sum.inr k) = none := by
  have e := r.has (k := k)
  have : dHas vs k = false := by
    unfold dGet at h
    rw [Option.map_eq_none_iff, List.find?_eq_none] at h
    unfold dHas
    rw [List.any_eq_false]
    intro kv hkv
    exact h kv hkv
  rw [this] at e
  cases q : valV xs (Sum.inr k) with
  | none => rfl
  | some _ => rw [q] at e; cases e
theorem pe_eGet (hu : X.A.units + 100 < cLine) {x y z : Expr} {pos apos : Pos} {o : MO} {ek ed : ME} (ho : PE X x (tO X.K F G o)) (hk : PE X y (tE X.K F G ek)) (hd : PE X z (tE X.K F G ed)) (hx : notCall x = true) (hy : notStar y = true) (hz : notStar z = true) (hl : (apos.endLine == pos.line) = true) :
    PE X (.Call (.Attribute x "get" apos) [y, z] [] pos) (tE X.K F G (eGet o ek ed)) := by
  have M : M2 X x "get" apos y z pos := ⟨base_ok hx, few_ok (by simp [hy, hz]) (by simp), hl, by rw [star_cons hy, star_cons hz]; rfl⟩
  refine (pe_dget2 (by omega) ho hk hd M).weak fun σ H Q ⟨m, a, r, R, e, k⟩ => ?_
  obtain ⟨q, e1, e⟩ := Option.bind_eq_some_iff.mp e
  obtain ⟨n, e2, e⟩ := Option.bind_eq_some_iff.mp e
  split at e
  · rename_i hc
    obtain ⟨q2, e3, e⟩ := Option.bind_eq_some_iff.mp e
    obtain ⟨q3, e4, e⟩ := Option.bind_eq_some_iff.mp e
    obtain ⟨n', e5, e⟩ := Option.bind_eq_some_iff.mp e
    obtain ⟨v, e6, e7⟩ := Option.map_eq_some_iff.mp e
    subst e7
    refine ⟨m, a, q, R, e1, fun ov H1 m1 R1 s1 h1 => ?_⟩
    have rn := hdRef_ok R1 h1 e2
    cases rn with
    | ref hm =>
      rename_i p
      cases hS : q.2.S[n]? with
      | none => rw [hS] at hc; cases hc
      | some ob =>
        rw [hS] at hc
        cases ob with
        | lst _ => cases hc
        | dic kvs0 =>
          obtain ⟨vs0, g1, g2⟩ := R1.obj n _ _ hS hm
          refine ⟨p, rfl, .inl ⟨vs0, .inl g1⟩, m1, q.2, q2, R1, e3, fun kv H2 m2 R2 s2 r2 => ⟨m2, q2.2, q3, R2, e4, fun dv H3 m3 R3 s3 r3 => ?_⟩⟩
          have h3 := (h1.step R1 s2).step R2 s3
          have rn3 := hdRef_ok R3 h3 e5
          cases rn3 with
          | ref hm3 =>
            have rk := r2.step R2 s3
            cases hS3 : q3.2.S[n']? with
            | none => rw [hS3] at e6; unfold getD at e6; split at e6 <;> first | (cases e6; done) | (rename_i hh; cases hh)
            | some ob3 =>
              rw [hS3] at e6
              cases ob3 with
              | lst _ => unfold getD at e6; split at e6 <;> first | (cases e6; done) | (rename_i hh; cases hh)
              | dic kvs =>
                cases hq : q2.1 with
                | str kk =>
                  rw [hq] at e6 rk
                  cases rk
                  have e6' : some ((dGet kvs kk).getD q3.1) = some v := e6
                  obtain ⟨vs, w1, w2⟩ := R3.obj n' _ _ hS3 hm3
                  refine ⟨valV vs (Sum.inr kk), DGet.k (k := Sum.inr kk) w1, ?_⟩
                  cases hg : dGet kvs kk with
                  | none =>
                    rw [hg] at e6'
                    cases e6'
                    rw [w2.none hg]
                    exact k _ _ m3 R3 ((s1.trans s2).trans s3) r3
                  | some y =>
                    rw [hg] at e6'
                    cases e6'
                    obtain ⟨xv, z1, z2⟩ := w2.get hg
                    rw [z1]
                    exact k _ _ m3 R3 ((s1.trans s2).trans s3) z2
                | _ => rw [hq] at e6; cases e6
  · cases e
/-! ### d.update(display) -/
def rDUpd : V → List V → Hp → VK → Prop := fun x vs H Q => ∃ (a b : Addr) (kvs more : List (Key × V)), x = .ref a ∧ vs = [.ref b] ∧ a ≠ b ∧ H a = some (.dK kvs) ∧ H b = some (.dK more) ∧ kvs.length + more.length ≤ sizeLine ∧ Q .non (upd H a (.dK (mergeK kvs more)))
theorem mt_dupd : MtR X "dict.update" rDUpd := by
  intro pins s σ H x vs v us Q I rx rv h
  obtain ⟨a, b, kvs, more, ex, ev, hab, e1, e2, hl, q⟩ := h
  subst ex ev
  obtain rfl : v = Value.ref a := rx
  rw [Vals.ref1 rv]
  obtain ⟨z, hd, vs, rel, dd⟩ := dk_of I.hok e1
  obtain ⟨z2, hd2, vs2, rel2, dd2⟩ := dk_of I.hok e2
  refine call_meetsIn PySem.F.slot_dict_update dd.typeIs PySem.F.entry_dict_update (PySem.F.args_dict_update_2 _ _) (meets_dict_update (mixKind X.prog X.w) a b hab hd2) ⟨vs, vs2, dd, dd2, by rw [← rel.length, ← rel2.length]; exact hl, fun h' dd' _ hs => ⟨.non, _, ?_, rfl, q⟩⟩
  have hz : (mergeK kvs more).length ≤ sizeLine := Nat.le_trans (length_mergeK more kvs) hl
  have he : ∃ q, h'.get? a = some q := let ⟨q, _, _, hq, _⟩ := dd'; ⟨q, hq⟩
  exact d_write (t' := s.toks) I (by rw [e1]; exact True.intro) hs he (dk_new hz hd (rel2.merge rel) dd')
def mergeD (kvs more : List (Str × AV)) : List (Str × AV) := more.foldl (fun acc kv => dPut acc kv.1 kv.2) kvs
theorem dPut_len {kvs : List (Str × AV)} {k : Str} {v : AV} : (dPut kvs k v).length ≤ kvs.length + 1 := by
  unfold dPut
  split <;> simp
theorem RpD.merge {K : PySem.W.Frag} {H : Hp} {hot : Hot} {m : List Addr} : ∀ {more : List (Key × V)} {mv : List (Str × AV)} {xs : List (Key × V)} {vs : List (Str × AV)}, RpD K H hot m more mv → RpD K H hot m xs vs → RpD K H hot m (mergeK xs more) (mergeD vs mv)
  | [], [], _, _, _, r => r
  | (k, x) :: more, (s, v) :: mv, _, _, ⟨e, rv, t⟩, r => by
    subst e
    show RpD K H hot m (mergeK (putK _ (Sum.inr s) x) more) (mergeD (dPut _ s v) mv)
    exact RpD.merge t (r.put rv)
  | [], _ :: _, _, _, h, _ => h.elim
  | _ :: _, [], _, _, h, _ => h.elim
def updD (a : AS) (n : Nat) (more : List (Str × AV)) : Option SObj → Option AS
  | some (.dic kvs) => if kvs.length + more.length ≤ sizeLine then some (a.setS n (.dic (mergeD kvs more))) else none
  | _ => none
def eUpd (o : MO) (ks : List Str) (t : MAs) : ME := fun G a => (o G a).bind fun r => (hdRef r.2 r.1).bind fun n => if isDic r.2.S[n]? = true then (t G r.2).bind fun q => if q.1.length = ks.length then (hdRef q.2 r.1).bind fun n' => (updD q.2 n' (ks.zip q.1) q.2.S[n']?).map fun a' => (.non, a') else none else none
theorem pe_eUpd {x : Expr} {o : MO} {pos apos dp : Pos} {keys : List (Option Expr)} {vals : List Expr} {ks : List Str} {t : MAs} (ho : PE X x (tO X.K F G o)) (h : DP X G F dp keys vals ks t) (hall : keys.all (·.isSome) = true) (hl : keys.length = vals.length) (h0 : keys ≠ []) (h15 : keys.length ≤ 15) (hk : keys.length = ks.length) (hn : ks.Nodup)
    (hx : notCall x = true) (hline : (apos.endLine == pos.line) = true) : PE X (.Call (.Attribute x "update" apos) [.Dict keys vals dp] [] pos) (tE X.K F G (eUpd o ks t)) := by
  obtain ⟨trs, hp, hr⟩ := h
  have hy : notStar (.Dict keys vals dp) = true := rfl
  have ha : PA X [.Dict keys vals dp] (tCons (tDisp trs) tNil) := pa_cons (pe_disp hp hall hl h0 h15) pa_nil (star_cons hy)
  refine (pe_bm PySem.F.plainAttrs_dict PySem.F.slot_dict_update PySem.F.type_dict_update mt_dupd ho ha (base_ok hx) (few_ok (by simp [hy]) (by simp)) hline (star_cons hy) rfl).weak fun σ H Q ⟨m, a, r, R, e, k⟩ => ?_
  obtain ⟨q, e1, e⟩ := Option.bind_eq_some_iff.mp e
  obtain ⟨n, e2, e⟩ := Option.bind_eq_some_iff.mp e
  split at e
  · rename_i hc
    obtain ⟨q2, e3, e⟩ := Option.bind_eq_some_iff.mp e
    split at e
    · rename_i hlen
      obtain ⟨n', e4, e⟩ := Option.bind_eq_some_iff.mp e
      obtain ⟨a', e5, e6⟩ := Option.map_eq_some_iff.mp e
      subst e6
      refine ⟨m, a, q, R, e1, fun ov H1 m1 R1 s1 h1 => ?_⟩
      have rn := hdRef_ok R1 h1 e2
      have ty : tyV X.K "dict" ov H1 := by
        cases rn with
        | ref hm =>
          cases hS : q.2.S[n]? with
          | none => rw [hS] at hc; cases hc
          | some ob =>
            rw [hS] at hc
            cases ob with
            | lst _ => cases hc
            | dic kvs0 =>
              obtain ⟨vs0, g1, _⟩ := R1.obj n _ _ hS hm
              exact .inr (.inr (.inl ⟨rfl, .inl ⟨vs0, g1⟩⟩))
      refine ⟨ty, fun p hpn => ?_⟩
      have nF : ¬ F p := fun h => by rcases R1.FH p h with ⟨_, z⟩ | ⟨_, z⟩ <;> rw [hpn] at z <;> cases z
      have R2 := R1.new (o := .dK []) hpn
      refine hr m1 q.2 σ _ q2 _ R2 e3 fun us H2 m2 R3 s2 rs => ?_
      have nl0 : ¬ Loc' m1 q.2 σ p := fun l => R1.locSome l hpn
      have hp2 : H2 p = some (.dK []) := s2.keep p _ upd_same nl0
      have nl2 : ¬ Loc' m2 q2.2 σ p := fun l => (s2.locs p l).elim nl0 fun z => by rw [upd_same] at z; cases z
      obtain ⟨R4, k3⟩ := R3.forget hp2 nF nl2
      have r3 := k3 _ _ rs
      have ul : us.length = ks.length := rs.length.trans hlen
      have st : Stp m1 q.2 σ H1 m2 q2.2 σ (del H2 p) := by
        refine ⟨s2.pre, fun b o e n nt => ?_, fun b e => ?_, fun b l => (s2.locs b l).imp id fun z => ?_⟩
        · have nb := ne_of_none e hpn
          rw [del_ne nb]
          exact s2.keep b o (by rw [upd_ne nb]; exact e) n nt
        · have nb : b ≠ p := fun q => e (q ▸ hpn)
          rw [del_ne nb]
          exact s2.dom b (by rw [upd_ne nb]; exact e)
        · by_cases nb : b = p
          · rw [nb]; exact hpn
          · rw [upd_ne nb] at z; exact z
      refine ⟨hp2, (ks.map Sum.inr).zip us, zip_kv ks us, by simp [ul]; omega, ?_⟩
      rw [merge_new [] _ (by
        simp only [List.nil_append]
        rw [List.map_fst_zip (by simp [ul])]
        exact List.Pairwise.map _ (fun a b h e => h (Sum.inr.inj e)) hn)]
      rw [List.nil_append]
      have e9 : upd (del H2 p) p (.dK ((ks.map Sum.inr).zip us)) = upd H2 p (.dK ((ks.map Sum.inr).zip us)) := by
        funext b
        by_cases nb : b = p
        · rw [nb, upd_same, upd_same]
        · rw [upd_ne nb, upd_ne nb, del_ne nb]
      have R5 := R4.new (o := .dK ((ks.map Sum.inr).zip us)) (del_same (D := p))
      have s5 : Stp m2 q2.2 σ (del H2 p) m2 q2.2 σ (upd (del H2 p) p (.dK ((ks.map Sum.inr).zip us))) := .new del_same
      have sAll := st.trans s5
      have rn5 := hdRef_ok R5 (h1.step R1 sAll) e4
      cases rn5 with
      | ref hm5 =>
        rename_i pa
        cases hS5 : q2.2.S[n']? with
        | none => rw [hS5] at e5; cases e5
        | some ob =>
          rw [hS5] at e5
          cases ob with
          | lst _ => cases e5
          | dic kvs =>
            have e5' : (if kvs.length + (ks.zip q2.1).length ≤ sizeLine then some (q2.2.setS n' (.dic (mergeD kvs (ks.zip q2.1)))) else none) = some a' := e5
            split at e5'
            · rename_i hz
              cases e5'
              obtain ⟨vs, w1, w2⟩ := R5.obj n' _ _ hS5 hm5
              have rz := RpD.keep (R4.keeps s5) (RpD.of_zip r3 ul)
              have hpa : pa ≠ p := fun hh => nl2 (.inl (hh ▸ List.mem_of_getElem? hm5))
              have lv : vs.length = kvs.length := w2.length
              have lz : ((ks.map Sum.inr).zip us : List (Key × V)).length = (ks.zip q2.1).length := rz.length
              have s6 : Stp m2 q2.2 σ (upd (del H2 p) p (.dK ((ks.map Sum.inr).zip us))) m2 (q2.2.setS n' (.dic (mergeD kvs (ks.zip q2.1)))) σ (upd (upd (del H2 p) p (.dK ((ks.map Sum.inr).zip us))) pa (.dK (mergeK vs ((ks.map Sum.inr).zip us)))) := Rl.setSStp hm5
              have R6 : Rl X.K F m2 (q2.2.setS n' (.dic (mergeD kvs (ks.zip q2.1)))) σ (upd (upd (del H2 p) p (.dK ((ks.map Sum.inr).zip us))) pa (.dK (mergeK vs ((ks.map Sum.inr).zip us)))) := R5.setS hm5 ⟨_, upd_same, (rz.merge w2).keep (R5.keeps s6)⟩ (.inr ⟨_, upd_same⟩)
              have fin := k .non _ m2 R6 (((s1.trans st).trans s5).trans s6) .non
              rw [e9] at fin w1
              exact ⟨pa, p, vs, _, rfl, rfl, hpa, w1, upd_same, by rw [lv, lz]; exact hz, fin⟩
            · cases e5'
    · cases e
  · cases e
end
end Pyx
end
section
set_option maxRecDepth 100000
namespace Pyx
open PySem L2
open PySem.Spec PyProof.Rows
section
variable {X : Cx} {F : Hot} {G : Gm}
/-! ### tuple(range(n)) -/
def rTupRg (te : L2.St → Hp → (Int → Int → Hp → Prop) → Prop) : TE := fun σ H Q => te σ H fun a b H1 => RgOk a b ∧ ∀ q o, H1 q = none → TupO o → Q (.ref q) (upd H1 q (.frz o (.tup (rgV a b))))
theorem pe_rTupRg {e : Expr} {te : L2.St → Hp → (Int → Int → Hp → Prop) → Prop} {p pos : Pos} (hc : X.calm = true) (hg : Gl X "tuple") (hm : X.mg "tuple" = none) (he : PRg X e te) (na : starEach [e] X.env = (false, eval e X.env) :: starEach [] X.env := by rfl) : PE X (.Call (.Name "tuple" p) [e] [] pos) (rTupRg te) := by
  refine ⟨fun pins s σ H Q I h => Call_ (ld_blt I hg hm boot_tuple (callWith_type1 (args_cons (thn (he pins s σ H _ I h) fun x s1 h1 => args_nil ?_) na) na))⟩
  obtain ⟨r, lo, hi, t, u, v, H1, rfl, isr, I1, ok, q⟩ := h1
  have hn : (hi - lo).toNat ≤ 2 ^ 24 := ok.2.2.2.2
  refine call_tuple_range (n := (hi - lo).toNat) (I1.ok.hd hc) isr (small_one ok.1 ok.2.1 ok.2.2.1 ok.2.2.2.1) (rangeSize_nat lo hi) hn fun h2 tk acc kp its => ?_
  have J : Inv X pins σ H1 { s1 with heap := h2, toks := tk } := I1.kept kp
  have hz : (rgV lo hi).length ≤ sizeLine := by rw [rgV_length, sizeLine_eq]; omega
  have := laidZ (s' := { s1 with heap := h2, toks := tk }) J hz (vals_rg its) tk
  rw [Array.toArray_toList] at this
  exact ⟨.ref _, _, this, rfl, q _ _ (J.hok.fresh (Nat.le_refl _)) ⟨rfl, rfl⟩⟩
def eTupRg (e : ME) : ME := fun G a => (e G a).bind fun r => match r.1 with
  | .int j => if rgOk j = true then some (.tup (rgA 0 j.toNat), r.2) else none
  | _ => none
theorem pe_eTupRg {e : ME} {x : Expr} {p p2 p3 pos : Pos} (hc : X.calm = true) (hg : Gl X "tuple") (hm : X.mg "tuple" = none) (hg2 : Gl X "range") (hm2 : X.mg "range" = none) (he : PE X x (tE X.K F G e)) (hs : notStar x = true) :
    PE X (.Call (.Name "tuple" p) [.Call (.Name "range" p2) [x] [] p3] [] pos) (tE X.K F G (eTupRg e)) := by
  refine (pe_rTupRg hc hg hm (prg_1 hg2 hm2 he (star_cons hs))).weak fun σ H Q ⟨m, a, r, R, e, k⟩ => ?_
  obtain ⟨q, e1, e2⟩ := Option.bind_eq_some_iff.mp e
  obtain ⟨v, a1⟩ := q
  cases v with
  | int j =>
    have e3 : (if rgOk j = true then some (.tup (rgA 0 j.toNat), a1) else none) = some r := e2
    split at e3
    · rename_i h
      cases e3
      have h := of_decide_eq_true h
      refine ⟨m, a, (.int j, a1), R, e1, fun y H1 m1 R1 s r' => ?_⟩
      cases r'
      exact ⟨j, rfl, ⟨by omega, by omega, by omega, by omega, by omega⟩, fun p o hp ho => k _ _ m1 (R1.new hp) (s.trans (.new hp)) (R1.newTup hp ho (rgV_rps j))⟩
    · cases e3
  | _ => cases e2
end
end Pyx
end
section
set_option maxRecDepth 100000
set_option maxHeartbeats 5000000
namespace Pyx
open PySem L2
open PySem.Spec PyProof.Rows

/-! ### set(xs), xs a list of whole numbers: what stands behind the call -/
section
variable {P : Program} {w : World} {A : Around}
/-- an empty set as it is made -/
abbrev mtSet (w : World) : Obj := { cls := .type "set", data := .set #[] 0 (.fresh 0 0 (!w.params.followText "set-order")), dict := none }
abbrev withMt (w : World) (s : Shared) : Shared := { s with heap := s.heap.push (mtSet w) }
/-- s' is s with the set of ns behind its objects -/
def SetBehind (w : World) (s : Shared) (ns : List Int) (s' : Shared) : Prop :=
  ∃ (h : Heap) (k c : Nat), s' = { s with heap := h, toks := k } ∧ c ≤ ns.length ∧
    SetR w h s.heap.objs.size (fun z => decide (z ∈ ns)) c ∧ ∀ b o, s.heap.get? b = some o → h.get? b = some o
theorem list_lt {h : Heap} {l : Addr} {its : Array Value} (a : h.IsList l its) : l < h.objs.size := let ⟨_, e, _⟩ := a; Heap.lt_size e
theorem put_all {s : Shared} {l : Addr} {its : Array Value} {ns : List Int} {R : Result → Shared → Prop} (free : A.in1.handled = none)
    (a : s.heap.IsList l its) (zs : IntsAre its.toList ns) (few : ns.length + 1 < scanBound) (done : ∀ s', SetBehind w s ns s' → R (.ok (.ret .none)) s') :
    codeAny (model P w) A (.builtin "set.update.loop" ⟨[.ref s.heap.objs.size, .ref (withMt w s).heap.objs.size], []⟩) R
      { withMt w s with heap := (withMt w s).heap.push { cls := .type "list_iterator", data := .fields #[.ref l, .int 0 0] } } := by
  have lt := list_lt a
  have sz : (withMt w s).heap.objs.size = s.heap.objs.size + 1 := Heap.size_push ..
  have size : its.size = ns.length := by simpa using zs.length
  have ne : l ≠ (withMt w s).heap.objs.size := Nat.ne_of_lt (by rw [sz]; exact Nat.lt_succ_of_lt lt)
  have vals : ∀ (i : Nat) (v : Value), its[i]? = some v → ∃ k t, ns[i]? = some k ∧ v = Value.int k t := by
    intro i v e
    have lt : i < ns.length := size ▸ (Array.getElem?_eq_some_iff.mp e).1
    obtain ⟨t, e'⟩ := zs.int_at i v (by simpa using e)
    exact ⟨ns[i], t, List.getElem?_eq_getElem lt, by simpa [lt] using e'⟩
  have out : s.heap.objs.size ∉ [(withMt w s).heap.objs.size, l] := by
    intro h
    rcases List.mem_cons.mp h with h | h
    · rw [sz] at h; exact Nat.succ_ne_self _ h.symm
    · exact Nat.ne_of_gt lt (List.mem_singleton.mp h)
  apply set_update_ints (Walks.list free _ l ne its).toS _ out ns size few vals its.size 0 _ (by omega) (Nat.zero_le _)
  · exact ⟨⟨_, Heap.get?_push_size _ rfl, rfl, rfl⟩, (a.push _).push _⟩
  · exact ⟨0, Nat.le_refl _, setR_new_at (Heap.get?_push_of_some _ (Heap.get?_push_size _ rfl))⟩
  · intro s' c m hc S
    refine done s' ⟨s'.heap, s'.toks, c, m.eq_with, size ▸ hc, S, fun b o e => m.heap b o (fun hb => ?_) ?_⟩
    · have l1 := Heap.lt_size e
      rcases List.mem_cons.mp hb with hb | hb
      · exact Nat.ne_of_lt l1 hb
      · exact Nat.ne_of_lt (by rw [sz]; exact Nat.lt_succ_of_lt l1) (List.mem_singleton.mp hb)
    · exact Heap.get?_push_of_some _ (Heap.get?_push_of_some _ e)
theorem init_ok {s : Shared} {l : Addr} {its : Array Value} {ns : List Int} {R : PySem.Fin → Shared → Prop} {E : Value → Shared → Prop} (free : A.handled = none)
    (a : s.heap.IsList l its) (zs : IntsAre its.toList ns) (few : ns.length + 1 < scanBound) (done : ∀ s', SetBehind w s ns s' → R (.done (.ret .none)) s') :
    wpAny (model P w) A (Builtin.«set.__init__» ⟨[.ref s.heap.objs.size] ++ [.ref l], []⟩) R E (withMt w s) := by
  have a1 : (withMt w s).heap.IsList l its := a.push _
  obtain ⟨⟨_, d, _, slots⟩, e, rfl, n, rfl⟩ := a
  have e1 : (withMt w s).heap.get? l = some { cls := .type "list", dict := d, data := .seq its n, slots := slots } := Heap.get?_push_of_some _ e
  have s1 := F.sub_list_set; have s2 := F.sub_list_frozenset
  have nd : (Value.type "list" == .type "dict") = false := by rfl
  unfold Builtin.«set.__init__» noKeywords
  unfold Builtin.Frozenset.updateFrom
  generalize eI : pyIter = it
  wp_walk
  subst eI
  apply wpAny_pyIter_list a1
  apply wpAny_bind (wpAny_runValue _)
  refine put_all (by simp [free]) ⟨_, e, rfl, n, rfl⟩ zs few fun s' h => ?_
  exact wpAny_pure (wpAny_pure (done s' h))
theorem call_set_lstI {s : Shared} {l : Addr} {its : Array Value} (ns : List Int) {Q E : Value → Shared → Prop} (free : A.handled = none)
    (a : s.heap.IsList l its) (zs : IntsAre its.toList ns) (few : ns.length + 1 < scanBound) (done : ∀ s', SetBehind w s ns s' → Q (.ref s.heap.objs.size) s') :
    wpAny (model P w) A (PySem.call (Value.type "set") [Value.ref l]) Q E s := by
  have ⟨_, _, mro⟩ := F.called_set.mro
  have c1 := F.called_set.made; have c2 := F.called_set.sub; have c3 := F.called_set.notType
  have c4 := F.called_set.canCreate; have c5 := F.typeCall_set_1 (.ref l)
  have c6 := F.called_set.init.lookup; have c7 := F.called_set.init.bind (.ref s.heap.objs.size)
  apply wpAny_call
  apply codeAny_of_tree
  show wpAny _ _ (callAny (.type "set") ⟨[.ref l], []⟩) _ _ _
  refine wpAny_pure (And.intro (Code.quiet_builtin _ (by decide +kernel)) ?_)
  refine codeAny_builtin F.entry_type_call ?_
  rw [A.under_plain (weight_type_call_type _ _ _) rfl]
  repeat any_goals first | assumption | wp_step
  refine codeAny_mono (code_set_led1 (.ref l) (E := E) (Q₁ := fun v t => v = .ref s.heap.objs.size ∧ t = withMt w s) ⟨rfl, rfl⟩) fun r t hr => ?_
  rcases r with e | f
  · exact hr
  rcases f with f | _ | _ | v
  any_goals exact hr.elim
  obtain ⟨rfl, rfl⟩ := hr
  have ty : (withMt w s).TypeIs (.ref s.heap.objs.size) "set" := ⟨_, Heap.get?_push_size _ rfl, rfl⟩
  repeat any_goals first | assumption | wp_step
  refine codeAny_mono (codeAny_call_builtin (R := wants (fun v t => v = .none ∧ SetBehind w s ns t) E) F.called_set.init.plain F.entry_set_init
    (check_set_init_1 ty (init_ok (by simp [free]) a zs few fun _ h => ⟨rfl, h⟩))) fun r t hr => ?_
  rcases r with e | f
  · exact hr
  rcases f with f | _ | _ | v
  any_goals exact hr.elim
  obtain ⟨rfl, hb⟩ := hr
  repeat any_goals first | assumption | wp_step
  exact done t hb
end
end Pyx
end
section
set_option maxRecDepth 100000
namespace Pyx
open PySem PySem.Spec PyProof.Rows L2

/-! ### sorted(set(xs)) of whole numbers: the rule -/
def insD (x : Int) : List Int → List Int
  | [] => [x]
  | y :: r => if x < y then x :: y :: r else if x = y then y :: r else y :: insD x r
def ssI : List Int → List Int
  | [] => []
  | x :: r => insD x (ssI r)
theorem insD_mem {x k : Int} : ∀ l : List Int, k ∈ insD x l ↔ k = x ∨ k ∈ l
  | [] => by simp [insD]
  | y :: r => by
    unfold insD
    split
    · simp
    · split
      · rename_i h; subst h; simp
      · rw [List.mem_cons, insD_mem r, List.mem_cons]
        constructor
        · rintro (h | h | h)
          · exact .inr (.inl h)
          · exact .inl h
          · exact .inr (.inr h)
        · rintro (h | h | h)
          · exact .inr (.inl h)
          · exact .inl h
          · exact .inr (.inr h)
theorem insD_sorted {x : Int} : ∀ l : List Int, l.Pairwise (· < ·) → (insD x l).Pairwise (· < ·)
  | [], _ => by simp [insD]
  | y :: r, h => by
    rw [List.pairwise_cons] at h
    unfold insD
    split
    · rename_i hx
      refine List.pairwise_cons.mpr ⟨fun k hk => ?_, List.pairwise_cons.mpr h⟩
      rcases List.mem_cons.mp hk with rfl | hk
      · exact hx
      · exact Int.lt_trans hx (h.1 k hk)
    · split
      · exact List.pairwise_cons.mpr h
      · refine List.pairwise_cons.mpr ⟨fun k hk => ?_, insD_sorted r h.2⟩
        rcases (insD_mem r).mp hk with rfl | hk
        · omega
        · exact h.1 k hk
theorem ssI_mem {k : Int} : ∀ l : List Int, k ∈ ssI l ↔ k ∈ l
  | [] => Iff.rfl
  | x :: r => by
    show k ∈ insD x (ssI r) ↔ _
    rw [insD_mem, ssI_mem r, List.mem_cons]
theorem ssI_sorted : ∀ l : List Int, (ssI l).Pairwise (· < ·)
  | [] => .nil
  | x :: r => insD_sorted _ (ssI_sorted r)
theorem strict_uniq : ∀ {a b : List Int}, a.Pairwise (· < ·) → b.Pairwise (· < ·) → (∀ k, k ∈ a ↔ k ∈ b) → a = b
  | [], [], _, _, _ => rfl
  | [], y :: b, _, _, h => by have := (h y).mpr List.mem_cons_self; cases this
  | x :: a, [], _, _, h => by have := (h x).mp List.mem_cons_self; cases this
  | x :: a, y :: b, ha, hb, h => by
    rw [List.pairwise_cons] at ha hb
    have e : x = y := by
      rcases List.mem_cons.mp ((h x).mp List.mem_cons_self) with e | e
      · exact e
      · rcases List.mem_cons.mp ((h y).mpr List.mem_cons_self) with e2 | e2
        · exact e2.symm
        · have h1 := hb.1 x e
          have h2 := ha.1 y e2
          omega
    subst e
    rw [strict_uniq ha.2 hb.2 fun k => ?_]
    constructor
    · intro hk
      rcases List.mem_cons.mp ((h k).mp (List.mem_cons_of_mem _ hk)) with e | e
      · have := ha.1 k hk; omega
      · exact e
    · intro hk
      rcases List.mem_cons.mp ((h k).mpr (List.mem_cons_of_mem _ hk)) with e | e
      · have := hb.1 k hk; omega
      · exact e
def rSetLI (K : PySem.W.Frag) (w : World) : List V → Hp → VK → Prop := fun vs H Q => ∃ (a : Addr) (ns : List Int), vs = [V.ref a] ∧ SqL K H a (ns.map V.int) ∧ ns.length < 64 ∧
  ∀ (p : Addr) (c : Nat), H p = none → c ≤ ns.length → Q (.ref p) (upd H p (SetO w p (fun j => decide (j ∈ ns)) c))
theorem cr_setLI {X : Cx} (hc : X.calm = true) : CallR X (.type "set") (rSetLI X.K X.w) := by
  intro pins s σ H vs us Q I r h
  obtain ⟨a, ns, rfl, hs, h64, q⟩ := h
  obtain ⟨its, rv, hl, hz⟩ := I.list hs
  rw [Vals.ref1 r]
  refine call_set_lstI ns (I.ok.hd hc) hl.isList (by simpa using rv.ints) (by unfold scanBound; omega) fun _ ⟨h', tk, c, es, hcl, hS, hk⟩ => ?_
  subst es
  exact ⟨.ref _, upd H s.heap.objs.size (SetO X.w s.heap.objs.size (fun j => decide (j ∈ ns)) c), I.laid (t' := tk) hk (Nat.le_refl _) (setO_new hS), rfl, q _ c (I.hok.fresh (Nat.le_refl _)) hcl⟩
def fSS (o : MO) : MAs := fun G a => (o G a).bind fun r => (cont r.2 r.1).bind fun c => match c with
  | .lst xs => (asInts xs).bind fun ns => if ns.length < 64 then some ((ssI ns).map .int, r.2) else none
  | _ => none
section
variable {X : Cx} {F : Hot} {G : Gm}
theorem ss_read {o : MO} {σ : L2.St} {H : Hp} {Q : VK} (h : tF X.K F G (fSS o) σ H Q) : tCB (rSortedSet X.w) (tCons (tCB (rSetLI X.K X.w) (tCons (tO X.K F G o) tNil)) tNil) σ H Q := by
  obtain ⟨m, a, r, R, e, k⟩ := h
  obtain ⟨q, e1, e⟩ := Option.bind_eq_some_iff.mp e
  obtain ⟨c, e2, e⟩ := Option.bind_eq_some_iff.mp e
  split at e
  · rename_i xs
    obtain ⟨ns, e3, e⟩ := Option.bind_eq_some_iff.mp e
    split at e
    · rename_i h64
      cases e
      have := asInts_of e3; subst this
      refine ⟨m, a, q, R, e1, fun x H1 m1 R1 s1 h1 => ?_⟩
      obtain ⟨p, vs, rfl, hs, r1⟩ := (h1.cont R1 e2).lst
      rw [r1.of_ints] at hs
      refine ⟨p, ns, rfl, hs, h64, fun p' c hp hcl => ⟨p', _, c, rfl, upd_same, by omega, fun ns' q' hs' hm hl hq => ?_⟩⟩
      have e9 : ns' = ssI ns := strict_uniq hs' (ssI_sorted ns) fun k => by rw [hm k, ssI_mem]; simp
      subst e9
      exact k q' _ _ m1 (R1.new hp) (s1.trans (.new hp)) hq (.ints _)
    · cases e
  · cases e
end
end Pyx
end
section
set_option maxRecDepth 100000
set_option maxHeartbeats 1000000
/-! quiet readings: what a generator expression's element does in its own frame -/
namespace Pyx
open PySem PySem.Spec PyProof.Rows L2

/-- frozen tuples, as they are held -/
def TupData (H : Hp) : Prop := ∀ b o xs, H b = some (.frz o (.tup xs)) → xs.length ≤ sizeLine ∧ o.cls = .type "tuple" ∧ ∃ its n, o.data = .seq its n ∧ Vals xs its.toList
theorem tupData {X : Cx} {pins : List (Addr × PySem.Obj)} {σ : L2.St} {H : Hp} {s : Shared} (I : Inv X pins σ H s) : TupData H := fun b o xs e => by
  obtain ⟨h1, h2, its, r, o', h3, h4, n, h5⟩ := I.hok b _ e
  rw [h1] at h3; cases h3
  exact ⟨h2, h4, _, n, h5, by simpa using r⟩
/-- the base and the frozen things stand -/
structure Still (X : Cx) (H : Hp) (s : Shared) : Prop where
  mod : L2.Mod X.K X.mg X.base
  base : ∀ b o, X.base.get? b = some o → s.heap.get? b = some o
  frz : ∀ b o u, H b = some (.frz o u) → s.heap.get? b = some o
  dat : TupData H
theorem keepsTrans {s s1 s2 : Shared} (a : Keeps s s1) (b : Keeps s1 s2) : Keeps s s2 := by
  obtain ⟨h1, t1, rfl, k1⟩ := a
  obtain ⟨h2, t2, rfl, k2⟩ := b
  exact ⟨h2, t2, rfl, fun b o e => k2 b o (k1 b o e)⟩
theorem Keeps.get {s s1 : Shared} (a : Keeps s s1) {b : Addr} {o : PySem.Obj} (e : s.heap.get? b = some o) : s1.heap.get? b = some o := by
  obtain ⟨h1, t1, rfl, k1⟩ := a
  exact k1 b o e
section
variable {X : Cx} {H : Hp} {s s' : Shared}
theorem Still.keeps (S : Still X H s) (k : ∀ b o, s.heap.get? b = some o → s'.heap.get? b = some o) : Still X H s' := ⟨S.mod, fun b o e => k b o (S.base b o e), fun b o u e => k b o (S.frz b o u e), S.dat⟩
theorem Still.kIn (S : Still X H s) : X.K.In s.heap := S.mod.kin.keeps S.base
theorem Still.tup (S : Still X H s) {a : Addr} {vs : List V} (z : TupZ X.K H a vs) : ∃ its, IsTup s.heap a its ∧ Vals vs its.toList ∧ its.size ≤ sizeLine := by
  rcases z with ⟨o, e, _⟩ | ⟨o, its, n, e, ⟨h1, h2⟩, h3, h4, h5⟩
  · obtain ⟨h1, h2, its, n, h3, h4⟩ := S.dat _ _ _ e
    have e2 := h4.length
    exact ⟨its, ⟨o, S.frz _ _ _ e, h2, n, h3⟩, h4, by rw [← Array.length_toList, ← e2]; exact h1⟩
  · exact ⟨its, ⟨o, S.kIn _ _ e, h1, n, h3⟩, h5, h4⟩
end
/-- a frame that reads -/
structure QFr (X : Cx) (d : Nat) (sc : Scope) (env : Env) (A : Around) (H : Hp) (s : Shared) : Prop where
  sc : env.scope = sc
  glob : env.globals = mainGlobals
  room : Room d A
  still : Still X H s
/-- e, with x as the value c, is f c; nothing that stands is changed -/
def QE (X : Cx) (d : Nat) (sc : Scope) (x : Str) (e : Expr) (f : AV → Option AV) : Prop :=
  ∀ (env : Env) (A : Around) (E : Value → Shared → Prop) (s : Shared) (mm : Str → Option Value) (H : Hp) (hot : Hot) (m : List Addr) (v : V) (c c' : AV) (u : Value),
    QFr X d sc env A H s → s.heap.Ns env.locals mm → mm x = some u → RelV v u → Rp X.K H hot m v c → f c = some c' →
    wpAny (model X.prog X.w) A (eval e env) (fun y s' => (∃ v', Rp X.K H hot m v' c' ∧ L2.RelV v' y) ∧ Keeps s s') E s
/-- a test -/
def QT (X : Cx) (d : Nat) (sc : Scope) (x : Str) (e : Expr) (f : AV → Option Bool) : Prop :=
  ∀ (env : Env) (A : Around) (E : Value → Shared → Prop) (s : Shared) (mm : Str → Option Value) (H : Hp) (hot : Hot) (m : List Addr) (v : V) (c : AV) (b : Bool) (u : Value),
    QFr X d sc env A H s → s.heap.Ns env.locals mm → mm x = some u → RelV v u → Rp X.K H hot m v c → f c = some b →
    wpAny (model X.prog X.w) A (isTrue e env (eval e env)) (fun y s' => y = b ∧ Keeps s s') E s
section
variable {X : Cx} {d : Nat} {sc : Scope} {x : Str} {e : Expr} {f : AV → Option AV}
theorem qe_name {p : Pos} (hk : sc.kind = .function) (hl : sc.names.lookup x = some .local) (hd : (x == ("__debug__" : Str)) = false) : QE X d sc x (.Name x p) some := by
  intro env A E s mm H hot m v c c' u Fr hn hx rv r e
  cases e
  exact wpAny_Name (wpAny_loadName_local (by rw [Fr.sc]; exact hk) (show env.scope.names.lookup x = some .local by rw [Fr.sc]; exact hl) hn hx ⟨⟨v, r, rv⟩, GxR.keeps_refl _⟩) hd
def qIx (i : Int) : AV → Option AV
  | .tup xs => if 0 ≤ i ∧ i < 2 ^ 62 then xs[i.toNat]? else none
  | _ => none
theorem qe_ix {i : Int} {k : Nat} {p q px : Pos} (h : QE X d sc x (.Name x px) f) : QE X d sc x (.Subscript (.Name x px) (.Constant (.int i) k p) q) (fun c => (f c).bind (qIx i)) := by
  intro env A E s mm H hot m v c c' u Fr hn hx rv r e1
  obtain ⟨c1, e2, e3⟩ := Option.bind_eq_some_iff.mp e1
  have w1 := h env A E s mm H hot m v c c1 u Fr hn hx rv r e2
  cases c1 with
  | tup xs =>
    have e3 : (if 0 ≤ i ∧ i < 2 ^ 62 then xs[i.toNat]? else none) = some c' := e3
    split at e3
    · rename_i hi
      refine Subscript_ (wpAny_mono w1 (fun y s1 hy => ?_) fun _ _ z => z)
      obtain ⟨⟨v1, r1, ry⟩, k1⟩ := hy
      cases r1 with
      | tup z rs =>
        obtain ⟨v2, g1, g2⟩ := rs.get e3
        obtain rfl : y = Value.ref _ := ry
        refine wpAny_Constant_int ?_
        have St1 := Fr.still.keeps fun b o e => Keeps.get k1 e
        obtain ⟨its, h1, h2, h3⟩ := St1.tup z
        obtain ⟨u2, g3, g4⟩ := h2.get g1
        have hlt : i.toNat < its.size := by
          rw [← Array.length_toList]
          exact (List.getElem?_eq_some_iff.mp g3).1
        have g3' : its[i.toNat]? = some u2 := by rw [← Array.getElem?_toList]; exact g3
        have hj : seqIndex? i its.size = some i.toNat := by
          have h0 : 0 ≤ i := hi.1
          have h1 : ¬ i < 0 := by omega
          have h2 : i < (its.size : Int) := by omega
          unfold seqIndex?
          simp only [h1, if_false]
          rw [if_pos (by simp [h0, h2])]
        exact item_tuple (j := i.toNat) (x := u2) h1 (by omega) (by omega) hj g3' ⟨⟨v2, g2, g4⟩, keepsTrans k1 (GxR.keeps_tok _ _)⟩
    · cases e3
  | _ => cases e3
/-- y != 'text' -/
def qNe (z : Str) : AV → Option Bool
  | .str y => some (!decide (y = z))
  | _ => none
theorem ne_b (y z : Str) : (y.cps.toList != z.cps.toList) = !decide (y = z) := by
  by_cases h : y = z
  · subst h; simp
  · have : y.cps.toList ≠ z.cps.toList := fun e => h (by
    have := Array.toList_inj.mp e
    cases y; cases z; simp_all)
    simp [h, this]
theorem qt_ne {z : Str} {k : Nat} {p q : Pos} (h : QE X d sc x e f) : QT X d sc x (.Compare e [.NotEq] [.Constant (.str z) k p] q) (fun c => (f c).bind (qNe z)) := by
  intro env A E s mm H hot m v c b u Fr hn hx rv r e1
  obtain ⟨c1, e2, e3⟩ := Option.bind_eq_some_iff.mp e1
  have w1 := h env A E s mm H hot m v c c1 u Fr hn hx rv r e2
  cases c1 with
  | str y =>
    cases e3
    refine wpAny_isTrue_Compare1 (wpAny_mono w1 (fun y1 s1 hy => ?_) fun _ _ z => z)
    obtain ⟨⟨v1, r1, ry⟩, k1⟩ := hy
    cases r1
    obtain ⟨t, rfl⟩ := ry
    refine Calls.Constant_str ?_
    refine PySem.P.ne_str ?_
    exact wpAny_truthy_bool ⟨ne_b y z, keepsTrans k1 (GxR.keeps_tok _ _)⟩
  | _ => cases e3
theorem qe_ne {z : Str} {k : Nat} {p q : Pos} (h : QE X d sc x e f) : QE X d sc x (.Compare e [.NotEq] [.Constant (.str z) k p] q) (fun c => ((f c).bind (qNe z)).map AV.bl) := by
  intro env A E s mm H hot m v c c' u Fr hn hx rv r e1
  obtain ⟨b, e0, e4⟩ := Option.map_eq_some_iff.mp e1
  subst e4
  obtain ⟨c1, e2, e3⟩ := Option.bind_eq_some_iff.mp e0
  have w1 := h env A E s mm H hot m v c c1 u Fr hn hx rv r e2
  cases c1 with
  | str y =>
    cases e3
    refine wpAny_Compare1 (wpAny_mono w1 (fun y1 s1 hy => ?_) fun _ _ z => z)
    obtain ⟨⟨v1, r1, ry⟩, k1⟩ := hy
    cases r1
    obtain ⟨t, rfl⟩ := ry
    refine Calls.Constant_str ?_
    refine PySem.P.ne_str ?_
    exact ⟨⟨_, .bl _, by rw [ne_b]; rfl⟩, keepsTrans k1 (GxR.keeps_tok _ _)⟩
  | _ => cases e3
/-- a and b, both tests -/
def qAnd (f g : AV → Option AV) (c : AV) : Option AV := (f c).bind fun a => match a with
  | .bl true => g c
  | .bl false => some (.bl false)
  | _ => none
theorem qe_and {e2 : Expr} {f2 : AV → Option AV} {q : Pos} (h : QE X d sc x e f) (h2 : QE X d sc x e2 f2) : QE X d sc x (.BoolOp .And [e, e2] q) (qAnd f f2) := by
  intro env A E s mm H hot m v c c' u Fr hn hx rv r e1
  obtain ⟨c1, e3, e4⟩ := Option.bind_eq_some_iff.mp e1
  have w1 := h env A E s mm H hot m v c c1 u Fr hn hx rv r e3
  cases c1 with
  | bl b =>
    refine wpAny_And2 (wpAny_mono w1 (fun y s1 hy => ?_) fun _ _ z => z)
    obtain ⟨⟨v1, r1, ry⟩, k1⟩ := hy
    cases r1
    obtain rfl : y = Value.bool b := ry
    refine wpAny_truthy_bool ?_
    cases b with
    | false =>
      cases e4
      exact ⟨⟨_, .bl false, rfl⟩, k1⟩
    | true =>
      have e4 : f2 c = some c' := e4
      exact wpAny_mono (h2 env A E s1 mm H hot m v c c' u ⟨Fr.sc, Fr.glob, Fr.room, Fr.still.keeps fun b o e => Keeps.get k1 e⟩ (hn.keeps fun b o e => Keeps.get k1 e) hx rv r e4) (fun y s2 hy => ⟨hy.1, keepsTrans k1 hy.2⟩) fun _ _ z => z
  | _ => cases e4
theorem Still.cast {X X' : Cx} {H : Hp} {s : Shared} (h1 : X'.K = X.K) (h2 : X'.mg = X.mg) (h3 : X'.base = X.base) (S : Still X' H s) : Still X H s :=
  ⟨by have := S.mod; rw [h1, h2, h3] at this; exact this, by have := S.base; rw [h3] at this; exact this, S.frz, S.dat⟩
theorem QE.cast {X X' : Cx} {d : Nat} {sc : Scope} {x : Str} {e : Expr} {f : AV → Option AV} (h1 : X'.K = X.K) (h2 : X'.mg = X.mg) (h3 : X'.base = X.base) (h4 : X'.prog = X.prog) (h5 : X'.w = X.w) (h : QE X d sc x e f) : QE X' d sc x e f := by
  intro env A E s mm H hot m v c c' u Fr hn hx rv r e1
  rw [h4, h5, h1]
  rw [h1] at r
  exact h env A E s mm H hot m v c c' u ⟨Fr.sc, Fr.glob, Fr.room, Fr.still.cast h1 h2 h3⟩ hn hx rv r e1
/-- a def of one statement that returns what its one argument is read as -/
structure QDf (X : Cx) (d : Nat) (g : Str) (f : AV → Option AV) : Prop where
  ex : ∃ (fa : Addr) (fd : FuncData) (y : Str) (eb : Expr) (args : Arguments) (scope : Scope) (pr : Pos), X.mg g = some (.ref fa) ∧ FunD X.K g g args [.Return (some eb) pr] scope [] [] fa fd ∧ Binds X.K fd [y] [] ∧
    scope.kind = .function ∧ scope.isCoroutine = false ∧ scope.isGenerator = false ∧ scope.names.lookup y = some .local ∧ (∀ z ∈ scope.names, z.2 ≠ .cell) ∧ QE X d scope y eb f
theorem QDf.cast {X X' : Cx} {d : Nat} {g : Str} {f : AV → Option AV} (h1 : X'.K = X.K) (h2 : X'.mg = X.mg) (h3 : X'.base = X.base) (h4 : X'.prog = X.prog) (h5 : X'.w = X.w) (h : QDf X d g f) : QDf X' d g f := by
  obtain ⟨fa, fd, y, eb, args, scope, pr, g1, F, hb, k1, k2, k3, k4, k5, q⟩ := h.ex
  exact ⟨fa, fd, y, eb, args, scope, pr, by rw [h2]; exact g1, by rw [h1]; exact F, by rw [h1]; exact hb, k1, k2, k3, k4, k5, q.cast h1 h2 h3 h4 h5⟩
theorem bindL_one {kindOf : Str → Option NameKind} {y : Str} {u : Value} (h : kindOf y = some .local) : bindL kindOf [(y, u)] (fun _ => none) y = some u := by
  simp [bindL, h]
theorem qe_call {g : Str} {fg : AV → Option AV} {pg pos : Pos} (hq : QDf X d g fg) (h : QE X (d + 1) sc x e f) (hk : sc.kind = .function) (hg : sc.names.lookup g = some .globalImplicit) (hdb : (g == ("__debug__" : Str)) = false)
    (hs : notStar e = true) : QE X (d + 1) sc x (.Call (.Name g pg) [e] [] pos) (fun c => (f c).bind fg) := by
  intro env A E s mm H hot m v c c' u Fr hn hx rv r e1
  obtain ⟨c1, e2, e3⟩ := Option.bind_eq_some_iff.mp e1
  have w1 := h env A E s mm H hot m v c c1 u Fr hn hx rv r e2
  obtain ⟨fa, fd, y, eb, args, scope, pr, g1, F, hb, k1, k2, k3, k4, k5, q⟩ := hq.ex
  obtain ⟨oc, od, dV, kV, doc, pm, an, cdv, ct, osl, rfl, lk, hcd, _, _⟩ := F.ex
  have kin := Fr.still.mod.kin
  refine wpAny_Call_Name_kw ?_
  refine Calls.Name_function_global (by rw [Fr.sc]; exact hk) (show env.scope.names.lookup g = _ by rw [Fr.sc]; exact hg) (Calls.loadGlobal_global (by rw [Fr.glob]; exact Fr.still.mod.glob.keeps Fr.still.base) g1 ?_) hdb
  refine PySem.W.callWith_K (h₀ := X.base) kin F.kp ?_ (star_cons hs) rfl
  rw [star_cons hs]
  show wpAny _ _ (spliced ((false, eval e env) :: backTo pos (starEach [] env))) _ _ s
  refine Calls.spliced_cons (wpAny_mono w1 (fun u1 s1 h1 => ?_) fun _ _ z => z)
  obtain ⟨⟨v1, r1, rv1⟩, kk1⟩ := h1
  refine Calls.spliced_nil ?_
  have St1 := Fr.still.keeps (s' := s1) fun b o e => Keeps.get kk1 e
  refine ⟨St1.kIn, wpAny_call ?_⟩
  refine Att.call_fn St1.kIn (Fr.still.mod.nolimit.keeps St1.base) lk hcd (by have := Fr.room.dp; omega) (hb s1 [u1] St1.kIn rfl) (by simp [k4]) (fun s2 x2 => ?_) k2 k3 k1
  obtain ⟨h2, t2, e2', kk2⟩ := x2.done
  have kk2' : Keeps s1 s2 := ⟨h2, t2, e2', kk2⟩
  refine wpAny_execs_cons (wpAny_Return_some (wpAny_mono (q _ _ _ s2 _ H hot m v1 c1 c' u1 ⟨rfl, rfl, Fr.room.deeper _, St1.keeps fun b o e => Keeps.get kk2' e⟩ x2.toInCall.ns ?_ rv1 r1 e3) (fun y2 s3 h3 => ?_) fun _ _ z => z))
  · exact bindL_one k4
  · exact ⟨h3.1, keepsTrans kk1 (keepsTrans kk2' h3.2)⟩
end
end Pyx
end
section
set_option maxRecDepth 100000
set_option maxHeartbeats 2000000
/-! generator expressions over a tuple, with quiet elements -/
namespace Pyx
open PySem PySem.Spec PyProof.Rows L2 GxR

/-- what the tests of a clause say -/
def QTs (X : Cx) (d : Nat) (sc : Scope) (x : Str) (ifs : List Expr) (f : AV → Option Bool) : Prop :=
  ∀ (env : Env) (A : Around) (E : Value → Shared → Prop) (s : Shared) (mm : Str → Option Value) (H : Hp) (hot : Hot) (m : List Addr) (v : V) (c : AV) (b : Bool) (u : Value),
    QFr X d sc env A H s → s.heap.Ns env.locals mm → mm x = some u → RelV v u → Rp X.K H hot m v c → f c = some b →
    wpAny (model X.prog X.w) A (forIn ifs true fun c r => if r = true then do let ok ← isTrue c env (eval c env); pure (ForInStep.yield ok) else pure (ForInStep.yield r)) (fun y s' => y = b ∧ Keeps s s') E s
section
variable {X : Cx} {d : Nat} {sc : Scope} {x : Str}
theorem qts_nil : QTs X d sc x [] fun _ => some true := by
  intro env A E s mm H hot m v c b u Fr hn hx rv r e
  cases e
  simp only [List.forIn_nil]
  exact wpAny_pure ⟨rfl, keeps_refl _⟩
theorem qts_one {c : Expr} {f : AV → Option Bool} (h : QT X d sc x c f) : QTs X d sc x [c] f := by
  intro env A E s mm H hot m v cc b u Fr hn hx rv r e
  have w := h env A E s mm H hot m v cc b u Fr hn hx rv r e
  simp only [List.forIn_cons, List.forIn_nil, if_true]
  refine wpAny_bind (wpAny_bind (wpAny_mono w (fun y s1 hy => ?_) fun _ _ z => z))
  exact wpAny_pure (wpAny_pure hy)
end
/-- the elements that pass, read -/
def gL (ft : AV → Option Bool) (fe : AV → Option AV) : List AV → Option (List AV)
  | [] => some []
  | c :: r => (ft c).bind fun b => if b = true then (fe c).bind fun y => (gL ft fe r).map (y :: ·) else gL ft fe r
def gP (ft : AV → Option Bool) (xs : List AV) (i : Nat) : Bool := match xs[i]? with
  | some c => (ft c).getD false
  | none => false
theorem gL_filter {ft : AV → Option Bool} {fe : AV → Option AV} (zs : List AV) : ∀ (l : List Nat) (xs ys : List AV), l.map (fun i => zs[i]?) = xs.map some → gL ft fe xs = some ys →
    (l.filter (gP ft zs)).map (fun i => (zs[i]?).bind fe) = ys.map some ∧ ∀ c ∈ xs, (ft c).isSome = true ∧ (ft c = some true → (fe c).isSome = true)
  | [], xs, ys, h1, h2 => by
    cases xs with
    | nil => cases h2; exact ⟨rfl, fun c hc => by cases hc⟩
    | cons c r => cases h1
  | i :: l, xs, ys, h1, h2 => by
    cases xs with
    | nil => cases h1
    | cons c r =>
      rw [List.map_cons, List.map_cons] at h1
      injection h1 with e1 e2
      obtain ⟨b, e3, e4⟩ := Option.bind_eq_some_iff.mp (show ((ft c).bind fun b => if b = true then (fe c).bind fun y => (gL ft fe r).map (y :: ·) else gL ft fe r) = some ys from h2)
      have gp : gP ft zs i = b := by unfold gP; rw [e1]; simp [e3]
      rw [List.filter_cons, gp]
      cases b with
      | true =>
        obtain ⟨y, e5, e6⟩ := Option.bind_eq_some_iff.mp (show ((fe c).bind fun y => (gL ft fe r).map (y :: ·)) = some ys from e4)
        obtain ⟨q, e7, e8⟩ := Option.map_eq_some_iff.mp e6
        subst e8
        obtain ⟨g1, g2⟩ := gL_filter zs l r q e2 e7
        refine ⟨?_, fun c' hc => ?_⟩
        · simp only [if_true, List.map_cons, e1, Option.bind_some, e5]
          rw [g1]
        · rcases List.mem_cons.mp hc with rfl | hc
          · exact ⟨by rw [e3]; rfl, fun _ => by rw [e5]; rfl⟩
          · exact g2 c' hc
      | false =>
        obtain ⟨g1, g2⟩ := gL_filter zs l r ys e2 (show gL ft fe r = some ys from e4)
        refine ⟨g1, fun c' hc => ?_⟩
        rcases List.mem_cons.mp hc with rfl | hc
        · exact ⟨by rw [e3]; rfl, fun z => by rw [e3] at z; cases z⟩
        · exact g2 c' hc
theorem range_get {xs : List AV} : (List.range xs.length).map (fun i => xs[i]?) = xs.map some := by
  apply List.ext_getElem?
  intro j
  rw [List.getElem?_map, List.getElem?_map]
  by_cases h : j < xs.length
  · rw [List.getElem?_eq_getElem (by simpa using h), List.getElem?_eq_getElem h]
    simp [h]
  · rw [List.getElem?_eq_none (by simpa using h), List.getElem?_eq_none (by omega)]
    rfl
/-- the generator g, ready to be walked -/
def ReadyT (X : Cx) (pins : List (Addr × PySem.Obj)) (σ : L2.St) (H1 : Hp) (P : Addr) (hot : Hot) (m : List Addr) (ys : List AV) (g : Addr) (s5 : Shared) : Prop :=
  ∃ (fp wr : List Addr) (Gx : Array GenState → Array GenState → Prop) (F : Nat → Value → Prop) (St : Nat → Shared → Prop),
    WalksS X.prog X.w X.A.in4 g fp wr Gx ys.length F St ∧ St 0 s5 ∧ (∀ i s, St i s → s.TypeIs (.ref g) "generator") ∧ (∀ b ∈ fp, b < s5.heap.objs.size) ∧ g ∈ fp ∧
    (∀ j y, F j y → ∃ y' v', ys[j]? = some y' ∧ Rp X.K H1 hot m v' y' ∧ L2.RelV v' y) ∧ ys.length ≤ sizeLine ∧
    ∀ s', Moved wr Gx s5 s' → ∃ H2, Tabbed P H1 H2 ∧ Inv X pins σ H2 s'
section
variable {X : Cx} {pins : List (Addr × PySem.Obj)} {σ : L2.St} {H : Hp} {s : Shared}
theorem gen_tup {c P : Addr} {elt iter : Expr} {ifs : List Expr} {x : Str} {px gpos : Pos} {scope : Scope} {ft : AV → Option Bool} {fe : AV → Option AV} {te : TE} {d : Nat} {Q' : Value → Shared → Prop} {R : Hp → Hot → List Addr → List AV → Prop}
    (hr : Room (d + 1) X.A) (TB : TabB X.base X.mg c P) (hcode : X.env.code = .ref c) (Sc : GenS X.env scope x) (hi : PE X iter te) (hts : QTs X d scope x ifs ft) (hel : QE X d scope x elt fe)
    (hs : ∀ v, genFold iter X.env v = pure v) (I : Inv X pins σ H s)
    (h : te σ H fun v H1 => ∃ a vs xs hot m ys, v = .ref a ∧ TupZ X.K H1 a vs ∧ Rps X.K H1 hot m vs xs ∧ gL ft fe xs = some ys ∧ TabG H1 P ∧ R H1 hot m ys)
    (hQ : ∀ H1 hot m ys g s5, R H1 hot m ys → ReadyT X pins σ H1 P hot m ys g s5 → Q' (.ref g) s5) :
    wpAny (model X.prog X.w) X.A (eval (.GeneratorExp elt [⟨.Name x px, iter, ifs, 0⟩] scope gpos) X.env) Q' X.xe s := by
  refine wpAny_GeneratorExp_walksQD hr.hd Sc.co (closure_ok Sc.free) Sc.cell Sc.dot Sc.loc Sc.kind (by have := hr.dp; omega) ?_ hs
  refine thn (hi.run pins s σ H _ I h) fun xv s1 ⟨v, H1, I1, r1, q1⟩ => ?_
  obtain ⟨a, vs, xs, hot, m, ys, rfl, hz, hrs, hg, ⟨ps, hP, ht⟩, q1⟩ := q1
  obtain rfl : xv = Value.ref a := r1
  have nBP : ∀ b o, X.base.get? b = some o → b ≠ P := fun b o e z => by
    have := (I1.bs b o e).2
    rw [z, hP] at this; cases this
  have St1 : Still X H1 s1 := ⟨I1.ok.mod, I1.bk, fun b o u e => (I1.hok b _ e).1, tupData I1⟩
  obtain ⟨its, ht1, ht2, ht3⟩ := St1.tup hz
  have hne : a ≠ s1.heap.objs.size := Nat.ne_of_lt (let ⟨o, e, _⟩ := ht1; Heap.lt_size e)
  refine wpAny_pyIter_tuple ht1 ?_
  generalize ho : ({ cls := .type "tuple_iterator", data := .fields #[.ref a, .int 0 0] } : PySem.Obj) = o
  have hPs : s1.heap.get? P = some { cls := .none, data := .fields ps } := I1.hok P _ hP
  have hPlt : P < s1.heap.objs.size := Heap.lt_size hPs
  have hP2 : (s1.heap.push o).get? P = some { cls := .none, data := .fields ps } := Heap.get?_push_of_some _ hPs
  have cd : PySem.W.CodeHd (s1.heap.push o) c P := TB.code.keeps fun b u e => Heap.get?_push_of_some _ (I1.bk b u e)
  have lim2 : (s1.heap.push o).NoLimit := I1.nolimit.push o
  have lv : vs.length = xs.length := hrs.length
  have lits : its.size = xs.length := by rw [← Array.length_toList, ← ht2.length, lv]
  obtain ⟨gf1, gf2⟩ := gL_filter (ft := ft) (fe := fe) xs (List.range xs.length) xs ys range_get hg
  have lenys : (passing (gP ft xs) its.size 0).length = ys.length := by
    have := congrArg List.length gf1
    rw [List.length_map, List.length_map] at this
    unfold passing
    rw [lits]
    exact this
  have aP : a ≠ P := fun z => by
    obtain ⟨o', e, hc, _⟩ := ht1
    rw [z, hPs] at e; cases e; cases hc
  have at_ : ∀ i v, its[i]? = some v → ∃ c v0, xs[i]? = some c ∧ Rp X.K H1 hot m v0 c ∧ L2.RelV v0 v := fun i v e => by
    have hi : i < its.size := (Array.getElem?_eq_some_iff.mp e).1
    obtain ⟨v0, g1, g2⟩ := hrs.get (List.getElem?_eq_getElem (show i < xs.length by omega))
    obtain ⟨u, g3, g4⟩ := ht2.get g1
    rw [Array.getElem?_toList, e] at g3
    cases g3
    exact ⟨_, v0, List.getElem?_eq_getElem (show i < xs.length by omega), g2, g4⟩
  have cont : ∀ (code : Value) (h3 : Heap) (tk : Nat) (ps' : Array Value), Heap.ExtBut P (s1.heap.push o) h3 → (s1.heap.push o).objs.size ≤ h3.objs.size → h3.get? P = some { cls := .none, data := .fields ps' } → (∃ more, ps' = ps ++ more) → TriplesOk ps'.toList →
      wpAny (model X.prog X.w) X.A (builtinsFor X.env.globals X.env.builtins) (fun bi s₄ =>
        ∃ Ia fp wr n₀ Pf St₀ pz F, Value.ref s1.heap.objs.size = .ref Ia ∧ (∀ A' : Around, A'.handled = none → Walks X.prog X.w A' Ia fp wr n₀ Pf St₀) ∧ St₀ 0 s₄.heap ∧ (∀ b ∈ fp, b < s₄.heap.objs.size) ∧ s₄.heap.NoLimit ∧ cStatics ∉ wr ∧
          (∀ href : Heap, (∀ b o, s₄.heap.get? b = some o → href.get? b = some o) →
            QuietGenD X.prog X.w (genEnv scope (cloFrom X.env.cells scope.names []) s₄.heap.objs.size code bi X.env) x ifs elt (List.range s₄.heap.objs.size) wr Pf pz F href (X.A.depth + 1) (X.A.units + 8)) ∧
          (∀ a h₅ tk gs, gs.bare = true → s₄.heap.objs.size < a → h₅.objs.size = a + 1 → (∀ b o, s₄.heap.get? b = some o → h₅.get? b = some o) →
            WalksS X.prog X.w X.A.in4 a (a :: s₄.heap.objs.size :: List.range s₄.heap.objs.size) (s₄.heap.objs.size :: wr) (GenOnlyQ s₄.gens.size) (passing pz n₀ 0).length
              (fun j y => ∃ i, (passing pz n₀ 0)[j]? = some i ∧ F i y) (GenAt X.prog X.w X.A.in4 a s₄.gens.size s₄.heap.objs.size (List.range s₄.heap.objs.size) wr pz n₀ F) →
            GenAt X.prog X.w X.A.in4 a s₄.gens.size s₄.heap.objs.size (List.range s₄.heap.objs.size) wr pz n₀ F 0 { s₄ with gens := s₄.gens.push gs, toks := tk, heap := h₅ } →
            Q' (.ref a) { s₄ with gens := s₄.gens.push gs, toks := tk, heap := h₅ })) X.xe { s1 with heap := h3, toks := tk } := by
    intro code h3 tk ps' hx hsz hP3 hmore ht3'
    obtain ⟨bm, ob, e1, e2, e3, e4, e5, e6, e7, e8⟩ := TB.bm
    have hcP : cStatics ≠ P := fun e => by
      obtain ⟨_, hns, _⟩ := I1.nolimit
      obtain ⟨o', es, ep, ho, hd, _⟩ := hns
      rw [e, hPs] at ho
      cases ho
      cases hd
    have hcl : cStatics < s1.heap.objs.size := let ⟨_, hns, _⟩ := I1.nolimit; hns.lt
    have sz2 : (s1.heap.push o).objs.size = s1.heap.objs.size + 1 := Heap.size_push ..
    have keep3 : ∀ b u, b ≠ P → s1.heap.get? b = some u → h3.get? b = some u := fun b u hb e => hx b u hb (Heap.get?_push_of_some _ e)
    refine wpAny_builtinsFor (m := X.mg) (by rw [I1.ok.glob]; exact ((I1.mod.glob.keeps I1.bk).push o).extBut hx TB.gP) e1 e2 (keep3 _ _ e4 (I1.bk _ _ e5)) e6 e7 e8 ?_
    have W : ∀ A' : Around, A'.handled = none → Walks X.prog X.w A' s1.heap.objs.size [s1.heap.objs.size, a] [s1.heap.objs.size] its.size (fun i v => its[i]? = some v) (fun i h => h.IsTupleIter s1.heap.objs.size a i ∧ h.IsTuple a its) := fun A' hA => Walks.tuple hA _ _ hne its
    refine ⟨s1.heap.objs.size, [s1.heap.objs.size, a], [s1.heap.objs.size], its.size, _, _, gP ft xs, (fun i y => ∃ c y' v', xs[i]? = some c ∧ fe c = some y' ∧ Rp X.K H1 hot m v' y' ∧ L2.RelV v' y), rfl, W, ⟨?_, ?_⟩, ?_, lim2.extBut hx hcP, ?_, ?_, ?_⟩
    · refine ⟨o, hx _ _ (Nat.ne_of_gt hPlt) (Heap.get?_push_size _ (by rw [← ho]; rfl)), ?_, ?_⟩
      · rw [← ho]
      · rw [← ho]; rfl
    · obtain ⟨o', g1, g2⟩ := ht1
      exact ⟨o', keep3 _ _ aP g1, g2⟩
    · intro b hb
      have hl3 : s1.heap.objs.size < h3.objs.size := by omega
      rcases List.mem_cons.mp hb with z2 | z2
      · rw [z2]; exact hl3
      · rw [List.mem_singleton.mp z2]
        obtain ⟨o', g1, _⟩ := ht1
        exact Nat.lt_trans (Heap.lt_size g1) hl3
    · intro z
      rcases List.mem_cons.mp z with z | z
      · exact Nat.ne_of_lt hcl z
      · cases z
    · intro href hhref
      have still : ∀ s₂ : Shared, (∀ b ∈ List.range h3.objs.size, b ∉ [s1.heap.objs.size] → ∀ o, href.get? b = some o → s₂.heap.get? b = some o) → Still X H1 s₂ := fun s₂ hk => by
        have k : ∀ b u, b ≠ P → s1.heap.get? b = some u → s₂.heap.get? b = some u := fun b u hb e => by
          have hl := Heap.lt_size e
          refine hk b (List.mem_range.mpr (Heap.lt_size (keep3 b u hb e))) (fun z => ?_) u (hhref b u (keep3 b u hb e))
          rw [List.mem_singleton.mp z] at hl
          exact Nat.lt_irrefl _ hl
        exact ⟨St1.mod, fun b o e => k b o (nBP b o e) (St1.base b o e), fun b o u e => k b o (fun z => by rw [z, hP] at e; cases e) (St1.frz b o u e), St1.dat⟩
      have room : ∀ A' : Around, A'.handled = none → A'.depth ≤ X.A.depth + 1 → A'.units ≤ X.A.units + 8 → Room d A' := fun A' h1 h2 h3 => ⟨h1, by have := hr.dp; omega, by have := hr.un; omega⟩
      refine ⟨fun A' E' i v s₂ m₂ hA hD hU hPv hn hm hk => ?_, fun A' E' i v s₂ m₂ hA hD hU hPv hp hn hm hk => ?_⟩
      · obtain ⟨c0, v0, g1, g2, g3⟩ := at_ i v hPv
        obtain ⟨k1, k2⟩ := gf2 c0 (List.mem_of_getElem? g1)
        obtain ⟨b, hb⟩ := Option.isSome_iff_exists.mp k1
        have eb : gP ft xs i = b := by unfold gP; rw [g1]; simp [hb]
        rw [eb]
        exact hts _ A' E' s₂ m₂ H1 hot m v0 c0 b v ⟨rfl, I1.ok.glob, room A' hA hD hU, still s₂ hk⟩ hn hm g3 g2 hb
      · obtain ⟨c0, v0, g1, g2, g3⟩ := at_ i v hPv
        obtain ⟨k1, k2⟩ := gf2 c0 (List.mem_of_getElem? g1)
        obtain ⟨b, hb⟩ := Option.isSome_iff_exists.mp k1
        have eb : gP ft xs i = b := by unfold gP; rw [g1]; simp [hb]
        rw [eb] at hp
        subst hp
        obtain ⟨y', hy⟩ := Option.isSome_iff_exists.mp (k2 hb)
        refine wpAny_mono (hel _ A' E' s₂ m₂ H1 hot m v0 c0 y' v ⟨rfl, I1.ok.glob, room A' hA hD hU, still s₂ hk⟩ hn hm g3 g2 hy) (fun y s3 h3 => ?_) fun _ _ z => z
        obtain ⟨⟨v', r', rel⟩, kk⟩ := h3
        exact ⟨⟨c0, y', v', g1, hy, r', rel⟩, kk⟩
    · intro g h5 tk5 gs hgb hag hsz5 hk5 W5 hat
      rw [lenys] at W5
      refine hQ H1 hot m ys g _ q1 ⟨_, _, _, _, _, W5, hat, fun i s' st => st.1.typeIs, ?_, List.mem_cons_self, ?_, ?_, fun s' hm => ?_⟩
      · intro b hb
        have hb5 : b < h5.objs.size := by
          rcases List.mem_cons.mp hb with z | hb
          · rw [z, hsz5]; exact Nat.lt_succ_self _
          · rcases List.mem_cons.mp hb with z | hb
            · rw [z, hsz5]; exact Nat.lt_succ_of_lt hag
            · rw [hsz5]; exact Nat.lt_succ_of_lt (Nat.lt_trans (List.mem_range.mp hb) hag)
        exact hb5
      · rintro j y ⟨i, hpi, c0, y', v', g1, g2, g3, g4⟩
        have e : ((List.range xs.length).filter (gP ft xs))[j]? = some i := by
          have := hpi
          unfold passing at this
          rw [lits] at this
          exact this
        have e2 := congrArg (fun l : List (Option AV) => l[j]?) gf1
        simp only [List.getElem?_map, e, Option.map_some, g1, Option.bind_some, g2] at e2
        cases hy : ys[j]? with
        | none => rw [hy] at e2; cases e2
        | some y2 =>
          rw [hy] at e2
          cases e2
          exact ⟨y', v', rfl, g3, g4⟩
      · rw [← lenys]
        refine Nat.le_trans ?_ ht3
        unfold passing
        refine Nat.le_trans (List.length_filter_le _ _) ?_
        simp
      · obtain ⟨more, em⟩ := hmore
        have nwr : ∀ b u, s1.heap.get? b = some u → b ∉ h3.objs.size :: [s1.heap.objs.size] := fun b u e hb => by
          have hl := Heap.lt_size e
          rcases List.mem_cons.mp hb with z | z
          · rw [z] at hl
            have h9 : (h3.objs.size : Nat) < s1.heap.objs.size := hl
            omega
          · rcases List.mem_cons.mp z with z | z
            · rw [z] at hl
              exact Nat.lt_irrefl _ hl
            · cases z
        have J := inv_tab (more := more) (h' := s'.heap) (g' := s'.gens) (d' := s'.drawn) (t' := s'.toks) I1 hP (fun b u hb e => hm.heap b u (nwr b u e) (hk5 b u (keep3 b u hb e)))
          (by rw [← em]; exact hm.heap P _ (nwr P _ hPs) (hk5 P _ hP3)) (AllBare.movedS (I1.bare.push hgb) hm)
        rw [sh_eta s1 s' hm.os] at J
        exact ⟨upd H1 P (.tbl (ps ++ more)), ⟨⟨ps ++ more, upd_same, by rw [← em]; exact ht3'⟩, fun b hb => upd_ne hb⟩, J⟩
  refine ⟨lim2, ?_⟩
  cases hf : codeAmong gpos ps.toList with
  | none =>
    refine wpAny_genexprCodeX hcode (cd.code hP2 ht) (cd.tab hP2) hf fun c' h' tk hx hge hlt hco' _ htab' _ => ?_
    obtain ⟨o1, vs, f1, tf, fl, tg, inF, tx, tt, op, _, _, _, _, _, _, _, _, _, htr, _⟩ := hco'
    exact cont _ h' tk _ hx (Nat.le_trans hge (Nat.le_of_lt hlt)) htab'.2 ⟨_, rfl⟩ htr
  | some cv =>
    refine wpAny_genexprCode_hit hcode (cd.code hP2 ht) hf ?_
    exact cont cv (s1.heap.push o) s1.toks ps (Heap.ExtBut.refl _ _) (Nat.le_refl _) hP2 ⟨#[], by simp⟩ ht
end
end Pyx
end
section
set_option maxRecDepth 100000
set_option maxHeartbeats 2000000
/-! any(.. for ..), tuple(.. for ..) in the evaluator -/
namespace Pyx
open PySem PySem.Spec PyProof.Rows L2 GxR

section
variable {K : PySem.W.Frag} {F : Hot} {m : List Addr} {a : AS} {σ : L2.St} {H H' : Hp} {P : Addr}
/-- a table has grown -/
theorem Rl.tabbed (R : Rl K F m a σ H) (h : TabG H P) (t : Tabbed P H H') : Rl K F m a σ H' ∧ Stp m a σ H m a σ H' := by
  obtain ⟨ps, hP, _⟩ := h
  have nt : ∀ {b o}, H b = some o → isTbl o = false → b ≠ P := fun {b o} e n z => by
    rw [z, hP] at e; cases e; cases n
  have st : Stp m a σ H m a σ H' := by
    refine ⟨fun _ _ e => e, fun b o e _ n => ?_, fun b e => ?_, fun b l => .inl l⟩
    · rw [t.2 b (nt e n)]; exact e
    · by_cases z : b = P
      · obtain ⟨ps', e', _⟩ := t.1
        rw [z, e']; simp
      · rw [t.2 b z]; exact e
  refine ⟨R.via st (fun b l => t.2 b ?_) fun q hq => ?_, st⟩
  · rcases R.hotMut (.inr l) with ⟨_, e⟩ | ⟨_, e⟩ <;> exact nt e rfl
  · by_cases z : q.2 = P
    · rw [z]; exact t.1
    · obtain ⟨qs, e, k⟩ := R.tbs q hq
      exact ⟨qs, by rw [t.2 _ z]; exact e, k⟩
end
def bls : List AV → Option (List Bool)
  | [] => some []
  | .bl b :: r => (bls r).map (b :: ·)
  | _ => none
theorem bls_get : ∀ {ys : List AV} {bs : List Bool} {j : Nat} {y : AV}, bls ys = some bs → ys[j]? = some y → ∃ b, y = .bl b ∧ bs[j]? = some b
  | [], _, _, _, _, e => by simp at e
  | c :: r, bs, j, y, h, e => by
    cases c with
    | bl b =>
      obtain ⟨q, h1, h2⟩ := Option.map_eq_some_iff.mp (show (bls r).map (b :: ·) = some bs from h)
      subst h2
      cases j with
      | zero => cases e; exact ⟨b, rfl, rfl⟩
      | succ j =>
        obtain ⟨b', q1, q2⟩ := bls_get h1 (show r[j]? = some y from e)
        exact ⟨b', q1, by simpa using q2⟩
    | _ => cases h
theorem bls_len : ∀ {ys : List AV} {bs : List Bool}, bls ys = some bs → bs.length = ys.length
  | [], _, h => by cases h; rfl
  | c :: r, bs, h => by
    cases c with
    | bl b =>
      obtain ⟨q, h1, h2⟩ := Option.map_eq_some_iff.mp (show (bls r).map (b :: ·) = some bs from h)
      subst h2
      rw [List.length_cons, List.length_cons, bls_len h1]
    | _ => cases h
def tupOf : AV → Option (List AV)
  | .tup xs => some xs
  | _ => none
def eGAny (ft : AV → Option Bool) (fe : AV → Option AV) (it : ME) : ME := fun G a => (it G a).bind fun r => (tupOf r.1).bind fun xs => (gL ft fe xs).bind fun ys => (bls ys).map fun bs => (.bl (bs.any id), r.2)
def eGTup (ft : AV → Option Bool) (fe : AV → Option AV) (it : ME) : ME := fun G a => (it G a).bind fun r => (tupOf r.1).bind fun xs => (gL ft fe xs).map fun ys => (.tup ys, r.2)
theorem vals_of {K : PySem.W.Frag} {H : Hp} {hot : Hot} {m : List Addr} : ∀ (us : List Value) (ys : List AV), us.length = ys.length → (∀ (j : Nat) (u : Value), us[j]? = some u → ∃ (y : AV) (v : V), ys[j]? = some y ∧ Rp K H hot m v y ∧ L2.RelV v u) → ∃ vs, Vals vs us ∧ Rps K H hot m vs ys
  | [], [], _, _ => ⟨[], .nil, .nil⟩
  | u :: us, y :: ys, hl, h => by
    obtain ⟨vs, h1, h2⟩ := vals_of us ys (by simpa using hl) fun j w e => by
      obtain ⟨y', v, q1, q2⟩ := h (j + 1) w (by simpa using e)
      exact ⟨y', v, by simpa using q1, q2⟩
    obtain ⟨y', v, q1, q2, q3⟩ := h 0 u rfl
    cases q1
    exact ⟨v :: vs, .cons q3 h1, .cons q2 h2⟩
  | [], _ :: _, hl, _ => by cases hl
  | _ :: _, [], hl, _ => by cases hl
section
variable {X : Cx} {F : Hot} {G : Gm}
theorem gen_tE {c P : Addr} {elt iter : Expr} {ifs : List Expr} {x : Str} {px gpos : Pos} {scope : Scope} {ft : AV → Option Bool} {fe : AV → Option AV} {it : ME} {d : Nat} {pins : List (Addr × PySem.Obj)} {σ : L2.St} {H : Hp} {s : Shared} {Q' : Value → Shared → Prop}
    {m : List Addr} {a : AS} {r : AV × AS} {xs ys : List AV}
    (hr : Room (d + 1) X.A) (TB : TabB X.base X.mg c P) (hP : (c, P) ∈ tabsP X.K) (hcode : X.env.code = .ref c) (Sc : GenS X.env scope x) (hi : PE X iter (tE X.K F G it)) (hts : QTs X d scope x ifs ft) (hel : QE X d scope x elt fe)
    (hs : ∀ v, genFold iter X.env v = pure v) (I : Inv X pins σ H s) (R : Rl X.K F m a σ H) (e : it G a = some r) (e1 : tupOf r.1 = some xs) (e2 : gL ft fe xs = some ys)
    (hQ : ∀ H1 m1 g s5, Rl X.K F m1 r.2 σ H1 → Stp m a σ H m1 r.2 σ H1 → ReadyT X pins σ H1 P (hotOf F m1 r.2 σ) m1 ys g s5 → Q' (.ref g) s5) :
    wpAny (model X.prog X.w) X.A (eval (.GeneratorExp elt [⟨.Name x px, iter, ifs, 0⟩] scope gpos) X.env) Q' X.xe s := by
  refine gen_tup (R := fun H1 hot m1 ys1 => Rl X.K F m1 r.2 σ H1 ∧ Stp m a σ H m1 r.2 σ H1 ∧ hot = hotOf F m1 r.2 σ ∧ ys1 = ys) hr TB hcode Sc hi hts hel hs I ⟨m, a, r, R, e, fun v H1 m1 R1 s1 rv => ?_⟩ fun H1 hot m1 ys1 g s5 ⟨h1, h2, h3, h4⟩ hG => ?_
  · obtain ⟨r1, r2⟩ := r
    cases r1 with
    | tup zs =>
      cases e1
      cases rv with
      | tup z rs => exact ⟨_, _, _, _, _, _, rfl, z, rs, e2, R1.tbs _ hP, R1, s1, rfl, rfl⟩
    | _ => cases e1
  · subst h3 h4
    exact hQ H1 m1 g s5 h1 h2 hG
theorem pe_gAny {c P : Addr} {elt iter : Expr} {ifs : List Expr} {x : Str} {px gpos p pos : Pos} {scope : Scope} {ft : AV → Option Bool} {fe : AV → Option AV} {it : ME} {d : Nat}
    (hr : Room (d + 1) X.A) (hg : Gl X "any") (hm : X.mg "any" = none) (TB : TabB X.base X.mg c P) (hP : (c, P) ∈ tabsP X.K) (hcode : X.env.code = .ref c) (Sc : GenS X.env scope x) (hi : PE X iter (tE X.K F G it)) (hts : QTs X d scope x ifs ft) (hel : QE X d scope x elt fe)
    (hs : ∀ v, genFold iter X.env v = pure v) :
    PE X (.Call (.Name "any" p) [.GeneratorExp elt [⟨.Name x px, iter, ifs, 0⟩] scope gpos] [] pos) (tE X.K F G (eGAny ft fe it)) := by
  refine ⟨fun pins s σ H Q I ⟨m, a, r, R, e, k⟩ => ?_⟩
  obtain ⟨q, e1, e⟩ := Option.bind_eq_some_iff.mp e
  obtain ⟨xs, e2, e⟩ := Option.bind_eq_some_iff.mp e
  obtain ⟨ys, e3, e⟩ := Option.bind_eq_some_iff.mp e
  obtain ⟨bs, e4, e5⟩ := Option.map_eq_some_iff.mp e
  subst e5
  refine wpAny_Call_Name_kw (ld_blt I hg hm boot_any ?_)
  refine PyProof.Rows.callWith_builtin1 ?_ (star_cons rfl) (by rfl)
  rw [star_cons rfl]
  show wpAny _ _ (spliced ((false, eval (.GeneratorExp elt [⟨.Name x px, iter, ifs, 0⟩] scope gpos) X.env) :: backTo pos (starEach [] X.env))) _ _ s
  refine Calls.spliced_cons (gen_tE hr TB hP hcode Sc hi hts hel hs I R e1 e2 e3 fun H1 m1 g s5 R1 S1 hG => ?_)
  obtain ⟨fp, wr, Gx, Fx, St, W, hst, hty, hfp, hgf, hF, hlen, hI⟩ := hG
  refine Calls.spliced_nil ?_
  have tr : TruthOf X.prog X.w X.A.in1 Fx (fun j => (bs[j]?).getD false) := fun j y sj Qj Ej hy hQj => by
    obtain ⟨y', v', h1, h2, h3⟩ := hF j y hy
    obtain ⟨b, rfl, h5⟩ := bls_get e4 h1
    cases h2
    obtain rfl : y = Value.bool b := h3
    have hQ2 : Qj ((bs[j]?).getD false) sj := hQj
    rw [h5] at hQ2
    exact wpAny_truthy_bool hQ2
  refine call_any_walkS (W.in4_1.self 0 _ _ _ hst ⟨g, fp, wr, Gx, _, Fx, St, _, rfl, W.in4_1, hst, tr, fun s' hmv => ?_⟩)
  obtain ⟨H2, hT, J⟩ := hI s' hmv
  obtain ⟨R2, S2⟩ := R1.tabbed (R1.tbs _ hP) hT
  refine ⟨.bl _, H2, J, rfl, ?_⟩
  have eb : (List.range ys.length).any (fun j => (bs[j]?).getD false) = bs.any id := by
    rw [← bls_len e4]
    apply Bool.eq_iff_iff.mpr
    rw [List.any_eq_true, List.any_eq_true]
    constructor
    · rintro ⟨j, hj, h⟩
      have hj := List.mem_range.mp hj
      rw [List.getElem?_eq_getElem hj] at h
      exact ⟨bs[j], List.getElem_mem hj, h⟩
    · rintro ⟨b, hb, h⟩
      obtain ⟨j, hj, e⟩ := List.getElem_of_mem hb
      refine ⟨j, List.mem_range.mpr hj, ?_⟩
      rw [List.getElem?_eq_getElem hj, e]
      exact h
  rw [eb]
  exact k _ H2 m1 R2 (S1.trans S2) (.bl _)
theorem pe_gTup {c P : Addr} {elt iter : Expr} {ifs : List Expr} {x : Str} {px gpos p pos : Pos} {scope : Scope} {ft : AV → Option Bool} {fe : AV → Option AV} {it : ME} {d : Nat}
    (hr : Room (d + 1) X.A) (hg : Gl X "tuple") (hm : X.mg "tuple" = none) (TB : TabB X.base X.mg c P) (hP : (c, P) ∈ tabsP X.K) (hcode : X.env.code = .ref c) (Sc : GenS X.env scope x) (hi : PE X iter (tE X.K F G it)) (hts : QTs X d scope x ifs ft) (hel : QE X d scope x elt fe)
    (hs : ∀ v, genFold iter X.env v = pure v) :
    PE X (.Call (.Name "tuple" p) [.GeneratorExp elt [⟨.Name x px, iter, ifs, 0⟩] scope gpos] [] pos) (tE X.K F G (eGTup ft fe it)) := by
  refine ⟨fun pins s σ H Q I ⟨m, a, r, R, e, k⟩ => ?_⟩
  obtain ⟨q, e1, e⟩ := Option.bind_eq_some_iff.mp e
  obtain ⟨xs, e2, e⟩ := Option.bind_eq_some_iff.mp e
  obtain ⟨ys, e3, e5⟩ := Option.map_eq_some_iff.mp e
  subst e5
  refine wpAny_Call_Name_kw (ld_blt I hg hm (by decide +kernel : bootBuiltins "tuple" = some (.type "tuple")) ?_)
  refine PyProof.Rows.callWith_type1 ?_ (star_cons rfl) (by rfl)
  rw [star_cons rfl]
  show wpAny _ _ (spliced ((false, eval (.GeneratorExp elt [⟨.Name x px, iter, ifs, 0⟩] scope gpos) X.env) :: backTo pos (starEach [] X.env))) _ _ s
  refine Calls.spliced_cons (gen_tE hr TB hP hcode Sc hi hts hel hs I R e1 e2 e3 fun H1 m1 g s5 R1 S1 hG => ?_)
  obtain ⟨fp, wr, Gx, Fx, St, W, hst, hty, hfp, hgf, hF, hlen, hI⟩ := hG
  refine Calls.spliced_nil ?_
  refine call_tuple_gen (hsz := hlen) W.in4_3 hty hst hfp hgf fun s' acc hmv hacc => ?_
  obtain ⟨H2, hT, J⟩ := hI s' hmv
  obtain ⟨R2, S2⟩ := R1.tabbed (R1.tbs _ hP) hT
  obtain ⟨vs, g1, g2⟩ := vals_of (K := X.K) (H := H1) (hot := hotOf F m1 q.2 σ) (m := m1) acc.toList ys (by rw [Array.length_toList]; exact hacc.1) fun j u hu => by
    obtain ⟨y', v', h1, h2, h3⟩ := hF j u (hacc.2 j u (by rw [← Array.getElem?_toList]; exact hu))
    exact ⟨y', v', h1, h2, h3⟩
  have hz : vs.length ≤ sizeLine := by rw [g2.length]; exact hlen
  have L := laidZ (s' := s') J hz g1 s'.toks
  have hn := J.hok.fresh (Nat.le_refl _)
  have ea : acc.toList.toArray = acc := by simp
  rw [ea] at L
  refine ⟨.ref s'.heap.objs.size, _, L, rfl, ?_⟩
  exact k _ _ m1 (R2.new hn) ((S1.trans S2).trans (.new hn)) (R2.newTup hn ⟨rfl, rfl⟩ (g2.step R1 S2))
end
end Pyx
end
section
set_option maxRecDepth 100000
set_option maxHeartbeats 2000000
/-! min(xs, default=d) -/
namespace Pyx
open PySem PySem.Spec PyProof.Rows L2
section
variable {prog : Program} {w : World} {A : Around} {E : Value → Shared → Prop} {s : Shared} {l : Addr} {its : List Value} {ns : List Int}
theorem moved_eta {wr : List Addr} {s s' : Shared} (m : Moved wr (fun a b => b = a) s s') : s' = { s with heap := s'.heap, toks := s'.toks } := by
  obtain ⟨h, g, d, t, o⟩ := s'
  have e1 := m.gens
  have e2 := m.drawn
  have e3 := m.os
  simp only at e1 e2 e3
  subst e1 e2 e3
  rfl
theorem min_rawD {d : Value} {Q : Value → Shared → Prop} (hh : A.handled = none) (hl : s.heap.IsList l its.toArray) (hi : IntsAre its ns)
    (h0 : ns = [] → ∀ h' tk, (∀ b o, s.heap.get? b = some o → h'.get? b = some o) → Q d { s with heap := h', toks := tk })
    (h : ∀ h' tk M t', (∀ b o, s.heap.get? b = some o → h'.get? b = some o) → M ∈ ns → (∀ a, a ∈ ns → M ≤ a) → Q (.int M t') { s with heap := h', toks := tk }) :
    wpAny (model prog w) A (call (.builtin "min") [.ref l] [(Str.ofString "default", d)]) Q E s := by
  obtain ⟨xs, e⟩ := hi.allInts.items
  have hn : numsOf (intItems xs).toList = ns := by rw [← e]; exact hi.numsOf
  rw [nums_intItems] at hn
  subst hn
  rw [e] at hl
  refine call_min_walkD (iter_intList hl fun s₂ e st hfp hlI => ?_)
  subst e
  have ret : ∀ s', Moved [s.heap.objs.size] (fun a b => b = a) { s with heap := s.heap.push { cls := .type "list_iterator", data := .fields #[.ref l, .int 0 0] } } s' → s' = { s with heap := s'.heap, toks := s'.toks } ∧ ∀ b o, s.heap.get? b = some o → s'.heap.get? b = some o := fun s' hm =>
    ⟨by have := moved_eta hm; exact this, old_kept fun b o hb e => hm.heap b o hb e⟩
  refine ⟨s.heap.objs.size, _, _, _, _, _, _, {}, fun i j => decide (numAt xs i < numAt xs j), rfl, (Walks.list (A := A.in1) hh _ l hlI (intItems xs)).toS, st, hfp, fun b o q => by simp [Heap.get?] at q, fun b o q => by simp [Heap.get?] at q, fun hz s' hm => ?_, fun hz => ⟨fun i j vi vj s Q E _ => CmpOf.ints_lt (numAt xs) (fun _ _ => intItems_at) i j vi vj s Q E, fun v s' hP hm => ?_⟩⟩
  · obtain ⟨r1, r2⟩ := ret s' hm
    rw [r1]
    refine h0 ?_ _ _ r2
    have : xs.size = 0 := by simpa [intItems] using hz
    apply List.eq_nil_of_length_eq_zero
    simpa using this
  · obtain ⟨r1, r2⟩ := ret s' hm
    rw [r1]
    have hsz : 0 < xs.size := by simpa [intItems] using hz
    have hP : (intItems xs)[argBest (fun i j => decide (numAt xs i < numAt xs j)) (xs.size - 1)]? = some v := by simpa [intItems] using hP
    obtain ⟨t, rfl⟩ := intItems_at hP
    obtain ⟨h1, h2⟩ := argBest_lt (numAt xs) (xs.size - 1)
    refine h _ _ _ t r2 ?_ fun a ha => ?_
    · rw [numAt_eq]; exact PySem.getD_mem (by rw [List.length_map, Array.length_toList]; omega)
    · obtain ⟨j, hj, rfl⟩ := mem_getD ha
      rw [List.length_map, Array.length_toList] at hj
      rw [← numAt_eq]; exact h2 j (by omega)
end
def minD : AV → Option AV
  | .lst [] => some .non
  | .lst xs => pickI minI xs
  | _ => none
def eMinD (o : MO) : ME := fun G a => (o G a).bind fun r => (cont r.2 r.1).bind fun c => (minD c).map fun v => (v, r.2)
def isNoneE : Expr → Bool
  | .Constant .none _ _ => true
  | _ => false
section
variable {X : Cx} {F : Hot} {G : Gm}
theorem pe_minD {e : Expr} {o : MO} {k : Nat} {p pos kp p2 : Pos} (hc : X.calm = true) (hg : Gl X "min") (hm : X.mg "min" = none) (h : PE X e (tO X.K F G o)) (hs : notStar e = true) :
    PE X (.Call (.Name "min" p) [e] [⟨some "default", .Constant .none k p2, kp⟩] pos) (tE X.K F G (eMinD o)) := by
  refine ⟨fun pins s σ H Q I ⟨m, a, r, R, e0, kk⟩ => ?_⟩
  obtain ⟨q, e1, e0⟩ := Option.bind_eq_some_iff.mp e0
  obtain ⟨c, e2, e0⟩ := Option.bind_eq_some_iff.mp e0
  obtain ⟨v, e3, e4⟩ := Option.map_eq_some_iff.mp e0
  subst e4
  refine wpAny_Call_Name_kw (ld_blt I hg hm (by decide +kernel : bootBuiltins "min" = some (.builtin "min")) ?_)
  refine PyProof.Rows.callWith_kw ?_ (by rw [star_cons hs]; rfl) (by rw [star_cons hs]; rfl) rfl rfl
  rw [star_cons hs]
  show wpAny _ _ (spliced ((false, eval e X.env) :: backTo pos (starEach [] X.env))) _ _ s
  refine Calls.spliced_cons (thn (h.run pins s σ H (fun x H' => ∃ m', Rl X.K F m' q.2 σ H' ∧ Stp m a σ H m' q.2 σ H' ∧ RHd X.K F m' q.2 σ H' x q.1) I ⟨m, a, q, R, e1, fun x H' m' R' s' r' => ⟨m', R', s', r'⟩⟩) fun u1 s1 ⟨x, H1, I1, rx, m1, R1, S1, rh⟩ => ?_)
  refine Calls.spliced_nil ?_
  have hk : PK X [⟨some (Str.ofString "default"), .Constant .none k p2, kp⟩] (tCons (tC .non) tNil) := pk_cons pe_non pk_nil
  refine thn (hk.run pos pins s1 σ H1 (fun ys H' => ys = [.non] ∧ H' = H1) I1 ⟨rfl, rfl⟩) fun kvs s2 ⟨ys, H2, I2, rk, hy⟩ => ?_
  obtain ⟨rfl, rfl⟩ := hy
  have ek : kvs = [Value.none] := by
    cases rk with
    | cons r t =>
      cases t
      obtain rfl : _ = Value.none := r
      rfl
  subst ek
  have rb := rh.cont R1 e2
  cases c with
  | lst xs =>
    obtain ⟨ap, vs, rfl, h1, r1⟩ := rb.lst
    obtain rfl : u1 = Value.ref ap := rx
    have asI : ∃ ns, xs = ns.map AV.int ∧ ((ns = [] ∧ v = .non) ∨ (ns ≠ [] ∧ v = .int (minI ns))) := by
      cases xs with
      | nil => cases e3; exact ⟨[], rfl, .inl ⟨rfl, rfl⟩⟩
      | cons x0 xs =>
        obtain ⟨ns, g1, g2⟩ := Option.bind_eq_some_iff.mp (show (asInts (x0 :: xs)).bind (fun ns => if ns.isEmpty then none else some (.int (minI ns))) = some v from e3)
        split at g2
        · cases g2
        · rename_i hne
          cases g2
          have := asInts_of g1
          refine ⟨ns, this, .inr ⟨fun z => ?_, rfl⟩⟩
          subst z
          simp at hne
    obtain ⟨ns, rfl, hv⟩ := asI
    rw [r1.of_ints] at h1
    obtain ⟨its, rv, hl, _⟩ := I2.list h1
    have fin : ∀ (h' : Heap) (tk : Nat) (u : Value) (x : V), (∀ b o, s2.heap.get? b = some o → h'.get? b = some o) → L2.RelV x u → Rp' X.K F m1 q.2 σ H2 x v → EP X pins σ Q u { s2 with heap := h', toks := tk } := fun h' tk u x hkp hr hrp =>
      ⟨x, H2, I2.kept hkp, hr, kk x H2 m1 R1 S1 hrp⟩
    refine min_rawD (I2.ok.hd hc) hl.isList rv.ints (fun hz h' tk hkp => ?_) fun h' tk M t' hkp hM hmin => ?_
    · rcases hv with ⟨_, rfl⟩ | ⟨hne, _⟩
      · exact fin h' tk _ .non hkp rfl .non
      · exact absurd hz hne
    · rcases hv with ⟨rfl, _⟩ | ⟨_, rfl⟩
      · cases hM
      · rw [minI_uniq hM hmin]
        exact fin h' tk _ (.int _) hkp ⟨_, rfl⟩ (.int _)
  | _ => cases e3
end
end Pyx
end
section
set_option maxRecDepth 100000
namespace Pyx
open PySem PySem.Spec PyProof.Rows L2

/-! ### from the text to the evaluator -/
/-- the names by slot, the scope's names, which cells may be stored, the marks (1: a name's own list, 2: laid into the store, 3: lent), the defs, the constants -/
structure CC where
  N : List Str
  names : List (Str × NameKind)
  fnc : Str → Bool
  marks : List ((Nat × Nat) × Nat)
  defs : List (Str × Nat)
  consts : List (Str × AV)
  /-- may generator expressions stand here -/
  gx : Bool
  /-- the quiet defs -/
  qds : List (Str × (AV → Option AV))
def idx (x : Str) : List Str → Option Nat
  | [] => none
  | y :: r => if y = x then some 0 else (idx x r).map (· + 1)
theorem idx_get {x : Str} : ∀ {N : List Str} {i : Nat}, idx x N = some i → N[i]? = some x
  | y :: r, i, h => by
    unfold idx at h
    split at h
    · rename_i e; cases h; rw [e]; rfl
    · obtain ⟨j, e1, e2⟩ := Option.map_eq_some_iff.mp h
      subst e2
      simpa using idx_get e1
  | [], _, h => by cases h
def grd {α : Type} (b : Bool) (x : Option α) : Option α := if b = true then x else none
theorem grd_of {α : Type} {b : Bool} {x : Option α} {y : α} (h : grd b x = some y) : b = true ∧ x = some y := by
  unfold grd at h
  split at h
  · exact ⟨by assumption, h⟩
  · cases h
def CC.mark (C : CC) (p : Pos) : Nat := (C.marks.lookup (p.line, p.col)).getD 0
def CC.vis (C : CC) (x : Str) : Bool := match C.names.lookup x with
  | some .local | some .cell | some .free => true
  | _ => false
def CC.loc (C : CC) (x : Str) : Bool := match C.names.lookup x with
  | some .local => true
  | some .cell => C.fnc x
  | _ => false
def CC.isLocal (C : CC) (x : Str) : Bool := match C.names.lookup x with
  | some .local => true
  | _ => false
def CC.glob (C : CC) (x : Str) : Bool := match C.names.lookup x with
  | some .globalImplicit => true
  | _ => false
def okName (x : Str) : Bool := !(x == ("__debug__" : Str)) && !(x == ("__classdict__" : Str)) && !(x == ("__name__" : Str))
def CC.var (C : CC) (x : Str) : Option Nat := grd (C.vis x && okName x) (idx x C.N)
def conOf : Const → Option AV
  | .none => some .non
  | .bool b => some (.bl b)
  | .int i => some (.int i)
  | .str x => some (.str x)
  | _ => none
/-- built-ins by name -/
structure BiE where
  isTy : Bool
  id : String
  f : Bi
structure BfE where
  isTy : Bool
  id : String
  f : BiF
def biTab : List (Str × BiE) := [("len", ⟨false, "len", biLen⟩), ("int", ⟨true, "int", biInt⟩), ("abs", ⟨false, "abs", biAbs⟩), ("sum", ⟨false, "sum", biSum⟩), ("max", ⟨false, "max", biMax⟩), ("min", ⟨false, "min", biMin⟩), ("any", ⟨false, "any", biAny⟩),
  ("all", ⟨false, "all", biAll⟩), ("tuple", ⟨true, "tuple", biTuple⟩)]
def bfTab : List (Str × BfE) := [("list", ⟨true, "list", bfList⟩), ("sorted", ⟨false, "sorted", bfSorted⟩)]
def tyTab : List (Str × String) := [("tuple", "tuple"), ("int", "int"), ("bool", "bool"), ("str", "str"), ("list", "list")]
def bltNames : List Str := ["len", "int", "abs", "sum", "max", "min", "any", "all", "tuple", "list", "sorted", "isinstance", "range", "bool", "str", "set", "enumerate", "zip"]
def opNeg : List SObj → AV → Option AV
  | _, .int i => some (.int (-i))
  | _, _ => none
def eNeg (o : MO) : ME := fun G a => (o G a).bind fun r => (cont r.2 r.1).bind fun c => (opNeg r.2.S c).map fun v => (v, r.2)
def isSlice : Expr → Bool
  | .Slice _ _ _ _ => true
  | _ => false
/-- the names of a block that are its own, with their slots -/
def ownOf (N : List Str) : List (Str × NameKind) → List (Str × Nat)
  | [] => []
  | (y, k) :: r => match k, idx y N with
    | .local, some i => (y, i) :: ownOf N r
    | .cell, some i => (y, i) :: ownOf N r
    | _, _ => ownOf N r
def blkB (N : List Str) (names : List (Str × NameKind)) (scope : Scope) (own : List (Str × Nat)) : Bool :=
  (match scope.kind with | .function => true | _ => false) && (scope.names.all fun y => decide (scope.names.lookup y.1 = some y.2)) && (own.all fun p => decide (N[p.2]? = some p.1)) &&
    (scope.names.all fun y => match y.2 with
      | .free => (match names.lookup y.1 with | some .cell => true | some .free => true | _ => false)
      | .local => decide (y.1 ∈ own.map (·.1)) || decide (y.1 ∉ N)
      | .cell => decide (y.1 ∈ own.map (·.1)) || decide (y.1 ∉ N)
      | _ => true)
def CC.blk (C : CC) (scope : Scope) : CC := { C with
  names := scope.names.map fun (n, k) => if (k == .free && C.names.lookup n == some .cell) then (n, .cell) else (n, k)
  fnc := fun x => scope.names.lookup x == some .cell
  gx := false }
/-- a quiet reading of the name y -/
def cQ (names : List (Str × NameKind)) (qds : List (Str × (AV → Option AV))) (y : Str) : Nat → Expr → Option (AV → Option AV)
  | 0, _ => none
  | n + 1, .Name x _ => if x = y then some some else none
  | n + 1, .Subscript v i _ => match v, i with
    | .Name x _, .Constant (.int i) _ _ => if x = y then some (qIx i) else none
    | _, _ => none
  | n + 1, .Compare e ops rs _ => match ops, rs with
    | [.NotEq], [.Constant (.str z) _ _] => (cQ names qds y n e).map fun f c => ((f c).bind (qNe z)).map AV.bl
    | _, _ => none
  | n + 1, .BoolOp op vs _ => match op, vs with
    | .And, [a, b] => (cQ names qds y n a).bind fun f => (cQ names qds y n b).map fun g => qAnd f g
    | _, _ => none
  | n + 1, .Call g args kws _ => match g, args, kws with
    | .Name g _, [e], [] => grd (decide (names.lookup g = some .globalImplicit) && okName g && notStar e) ((qds.lookup g).bind fun fg => (cQ names qds y n e).map fun f c => (f c).bind fg)
    | _, _, _ => none
  | _ + 1, _ => none
def cQT (names : List (Str × NameKind)) (qds : List (Str × (AV → Option AV))) (y : Str) (n : Nat) : List Expr → Option (AV → Option Bool)
  | [] => some fun _ => some true
  | [.Compare e [.NotEq] [.Constant (.str z) _ _] _] => (cQ names qds y n e).map fun f c => (f c).bind (qNe z)
  | _ => none
def gscOk (sc : Scope) (y : Str) : Bool := (match sc.kind with | .function => true | _ => false) && !sc.isCoroutine && (sc.names.all fun z => z.2 != .cell && z.2 != .free) && decide (sc.names.lookup (".0" : Str) = some .local) && decide (sc.names.lookup y = some .local) && okName y
def isNameE : Expr → Bool
  | .Name _ _ => true
  | _ => false
/-- the parts of an argument that is a generator expression -/
def gxArg : List Expr → Option (Expr × Str × Expr × List Expr × Scope)
  | [.GeneratorExp elt [⟨.Name y _, iter, ifs, asy⟩] sc _] => if asy = 0 then some (elt, y, iter, ifs, sc) else none
  | _ => none
def gxFn (x : Str) (ft : AV → Option Bool) (fe : AV → Option AV) (it : ME) : Option ME := if x = ("any" : Str) then some (eGAny ft fe it) else if x = ("tuple" : Str) then some (eGTup ft fe it) else none
/-- a target's slots -/
def cNs (C : CC) : List Expr → Option (List Nat)
  | [] => some []
  | .Name y _ :: es => (grd (C.loc y) (idx y C.N)).bind fun i => (cNs C es).map (i :: ·)
  | _ => none
def cTg (C : CC) : Expr → Option Tg
  | .Name y _ => (grd (C.loc y) (idx y C.N)).map .one
  | .Tuple es _ _ => (cNs C es).map .many
  | _ => none
def mTrue : MT := fun _ a => some (true, a)
/-- isinstance, or what makes a fresh list -/
def cIsi (C : CC) (x : Str) (args : List Expr) (rO : Expr → Option MO) (fr : Option ME) : Option ME := match args with
  | [e, .Name T _] => if x = ("isinstance" : Str) then grd (C.glob T && okName T && (C.defs.lookup T).isNone) ((tyTab.lookup T).bind fun s => (rO e).map (eIsi s)) else none
  | _ => fr
/-- a built-in's call -/
def cBi (C : CC) (x : Str) (args : List Expr) (b : Option BiE) (rO : Expr → Option MO) (os : Option MOs) (fr : Option ME) : Option ME := match b with
  | some b => if args.isEmpty = true then none else os.map (eBi b.f)
  | none => cIsi C x args rO fr
/-- sorted(set(e)): e -/
def setArg (C : CC) (x : Str) : Expr → Option Expr
  | .Call (.Name y _) [e] [] _ => grd (decide (x = ("sorted" : Str)) && decide (y = ("set" : Str)) && C.glob y && (C.defs.lookup y).isNone && notStar e) (some e)
  | _ => none
/-- list(range(e)): e -/
def rgArg (C : CC) (x : Str) : Expr → Option Expr
  | .Call (.Name y _) [e] [] _ => grd (decide (x = ("list" : Str)) && decide (y = ("range" : Str)) && C.glob y && (C.defs.lookup y).isNone && notStar e) (some e)
  | _ => none
/-- tuple(range(e)): e -/
def trArg (C : CC) (x : Str) : List Expr → Option Expr
  | [.Call (.Name y _) [e] [] _] => grd (decide (x = ("tuple" : Str)) && decide (y = ("range" : Str)) && C.glob y && (C.defs.lookup y).isNone && notStar e) (some e)
  | _ => none
/-- is it [::-1] -/
def isRev (lo hi : Option Expr) (st : Expr) : Bool := match lo, hi, st with
  | none, none, .UnaryOp .USub (.Constant (.int i) _ _) _ => decide (i = 1)
  | _, _, _ => false
/-- a display's keys, if they are texts -/
def keyStrs : List (Option Expr) → Option (List Str)
  | [] => some []
  | some (.Constant (.str k) _ _) :: r => (keyStrs r).map (k :: ·)
  | _ => none
/-- the written text ahead of a method's name -/
def txtOf : Expr → Option Str
  | .Constant (.str z) _ _ => some z
  | _ => none
mutual
def cE : Nat → CC → Expr → Option ME
  | 0, _, _ => none
  | n + 1, C, .Name x _ => match C.var x with
    | some i => some (eVar i)
    | none => grd (C.glob x && okName x) ((C.consts.lookup x).map eCon)
  | n + 1, C, .Constant c _ _ => (conOf c).map eCon
  | n + 1, C, .BinOp x op y pos => if C.mark pos = 2 then (cF n C (.BinOp x op y pos)).map eLay else (binF op).bind fun f => (cO n C x).bind fun a => (cO n C y).map fun b => eBin f a b
  | n + 1, C, .UnaryOp op x _ => match op with
    | .Not => (cE n C x).map eNot
    | .USub => (cO n C x).map eNeg
    | _ => none
  | n + 1, C, .BoolOp op vs pos => match vs with
    | [x] => cE n C x
    | x :: y :: rest => (cE n C x).bind fun a => (cE n C (.BoolOp op (y :: rest) pos)).map fun b => match op with
      | .And => eAnd a b
      | .Or => eOr a b
    | [] => none
  | n + 1, C, .IfExp t x y _ => (cM n C t).bind fun c => (cE n C x).bind fun a => (cE n C y).map fun b => eIte c a b
  | n + 1, C, .Compare x ops ys _ => match ops, ys with
    | [op], [y] => grd (!behindInMarks op y) ((cmpF op).bind fun f => (cO n C x).bind fun a => (cO n C y).map fun b => eBin f a b)
    | [op, op'], [y, z] => grd (!lastMarks [op, op'] [y, z]) ((cmpF op).bind fun f => (cmpF op').bind fun f' => (cO n C x).bind fun a => (cO n C y).bind fun b => (cO n C z).map fun c => eChain f f' a b c)
    | _, _ => none
  | n + 1, C, .Tuple es _ _ => (cA n C es).map eTup
  | n + 1, C, .List es pos => (cF n C (.List es pos)).map fun f => if C.mark pos = 2 then eLay f else eFrz f
  | n + 1, C, .ListComp elt gs sc pos => (cF n C (.ListComp elt gs sc pos)).map fun f => if C.mark pos = 2 then eLay f else eFrz f
  | n + 1, C, .Subscript x i pos => match i with
    | .Slice lo hi st p2 => if C.mark pos = 2 then (cF n C (.Subscript x (.Slice lo hi st p2) pos)).map eLay else match st with
      | none => (cO n C x).bind fun o => (cP n C lo).bind fun l => (cP n C hi).map fun h => eSl o l h
      | some st => if isRev lo hi st = true then (cO n C x).map eRevT else none
    | i => (cO n C x).bind fun a => (cO n C i).map fun b => eBin opIx a b
  | n + 1, C, .Call f args kws pos => match f, kws with
    | .Name x px, [] => grd (C.glob x && okName x && args.all notStar) (match C.defs.lookup x with
      | some _ => match args with
        | [] => some (eCall x aNil)
        | e :: es => if C.mark pos = 3 then (cOs n C (e :: es)).map (eLend x) else if C.mark pos = 4 then (cA n C (e :: es)).map (eCallT x) else (cA n C (e :: es)).map (eCall x)
      | none => match trArg C x args with
        | some e => (cE n C e).map eTupRg
        | none => match gxArg args with
        | some (elt, y, iter, ifs, sc) => grd (C.gx && gscOk sc y && isNameE iter) ((cE n C iter).bind fun it => (cQT sc.names C.qds y n ifs).bind fun ft => (cQ sc.names C.qds y n elt).bind fun fe => gxFn x ft fe it)
        | none => cBi C x args (biTab.lookup x) (cO n C) (cOs n C args) ((cF n C (.Call (.Name x px) args [] pos)).map fun f => if C.mark pos = 2 then eLay f else eFrz f))
    | .Name x px, [⟨some kw, .Constant .none _ _, _⟩] => match args with
      | [e] => grd (decide (x = ("min" : Str)) && decide (kw = ("default" : Str)) && C.glob x && (C.defs.lookup x).isNone && notStar e) ((cO n C e).map eMinD)
      | _ => none
    | .Attribute o m apos, [] => grd (notCall o && args.all notStar && (apos.endLine == pos.line)) (match args with
      | [] => if m = ("pop" : Str) then (cO n C o).map ePop else none
      | [y] => if m = ("append" : Str) then (cO n C o).bind fun a => (cE n C y).map (eApp a)
        else if m = ("pop" : Str) then (cO n C o).bind fun a => (cE n C y).map (ePopAt a)
        else if m = ("index" : Str) then (cO n C o).bind fun a => (cO n C y).map (eSeqM idxA [1, 2] a)
        else if m = ("count" : Str) then (cO n C o).bind fun a => (cO n C y).map (eSeqM cntA [1] a)
        else if m = ("join" : Str) then (txtOf o).bind fun z => (cO n C y).map (eJoin z)
        else if m = ("extend" : Str) then (cO n C o).bind fun a => (cF n C y).map (eExt a)
        else none
      | [y, z] => if m = ("get" : Str) then (cO n C o).bind fun a => (cE n C y).bind fun b => (cE n C z).map (eGet a b) else none
      | _ => none)
    | _, _ => none
  | n + 1, C, .Dict keys vals _ => (keyStrs keys).bind fun ks => grd (asgK ks && decide (keys.length = vals.length)) ((cA n C vals).map (eDic ks))
  | _ + 1, _, _ => none
def cO : Nat → CC → Expr → Option MO
  | 0, _, _ => none
  | n + 1, C, .Name x p => match C.var x with
    | some i => some (oVar i)
    | none => (cE n C (.Name x p)).map oE
  | n + 1, C, e => (cE n C e).map oE
def cF : Nat → CC → Expr → Option MAs
  | 0, _, _ => none
  | n + 1, C, .List es _ => (cA n C es).map fLst
  | n + 1, C, .BinOp x op y _ => match op with
    | .Add => (cO n C x).bind fun a => (cO n C y).map fun b => fCat a b
    | _ => none
  | n + 1, C, .Subscript x i _ => match i with
    | .Slice lo hi none _ => (cO n C x).bind fun o => (cP n C lo).bind fun l => (cP n C hi).map fun h => fSl o l h
    | _ => none
  | n + 1, C, .Call f args kws _ => match f, kws, args with
    | .Name x _, [], [e] => grd (C.glob x && okName x && notStar e && (C.defs.lookup x).isNone) (match setArg C x e with
      | some e2 => (cO n C e2).map fSS
      | none => match rgArg C x e with
      | some e2 => (cE n C e2).map fRg
      | none => (bfTab.lookup x).bind fun b => (cOs n C [e]).map (fBi b.f))
    | _, _, _ => none
  | n + 1, C, .ListComp elt gs sc _ => match gs with
    | [⟨tg, it, ifs, asy⟩] => grd (asy == 0 && blkB C.N C.names sc (ownOf C.N sc.names) && notSet it) ((cTg (C.blk sc) tg).bind fun t => grd (t.slots.all fun i => decide (i ∈ (ownOf C.N sc.names).map Prod.snd)) ((cE n (C.blk sc) elt).bind fun me => (match ifs with
        | [] => some mTrue
        | [c] => cM n (C.blk sc) c
        | _ => none).bind fun tst => match it with
          | .Call (.Name r _) args [] _ => if r = ("range" : Str) then grd (C.glob r && (C.defs.lookup r).isNone) (match args with
              | [x] => grd (notStar x) ((cA n C [x]).map fun u => fCompR asR1 u ((ownOf C.N sc.names).map Prod.snd) t tst me)
              | [x, y] => grd (notStar x && notStar y) ((cA n C [x, y]).map fun u => fCompR asR2 u ((ownOf C.N sc.names).map Prod.snd) t tst me)
              | _ => none) else if r = ("enumerate" : Str) then grd (C.glob r && (C.defs.lookup r).isNone) (match args, t with
              | [x], .many is => grd (notStar x) ((cE n C x).map fun u => fCompE u ((ownOf C.N sc.names).map Prod.snd) is tst me)
              | _, _ => none) else (cE n C it).map fun e => fComp e ((ownOf C.N sc.names).map Prod.snd) t tst me
          | _ => (cE n C it).map fun e => fComp e ((ownOf C.N sc.names).map Prod.snd) t tst me))
    | _ => none
  | _ + 1, _, _ => none
def cM : Nat → CC → Expr → Option MT
  | 0, _, _ => none
  | n + 1, C, .UnaryOp op x _ => match op with
    | .Not => (cM n C x).map mNot
    | _ => none
  | n + 1, C, .BoolOp op vs _ => cW n C op vs
  | n + 1, C, .IfExp _ _ _ _ => none
  | n + 1, C, .Compare x ops ys _ => match ops, ys with
    | [op], [y] => grd (!behindInMarks op y) ((cmpF op).bind fun f => (cO n C x).bind fun a => (cO n C y).map fun b => mBool (eBin f a b))
    | [op, op'], [y, z] => grd (!lastMarks [op, op'] [y, z]) ((cmpF op).bind fun f => (cmpF op').bind fun f' => (cO n C x).bind fun a => (cO n C y).bind fun b => (cO n C z).map fun c => mBool (eChain f f' a b c))
    | _, _ => none
  | n + 1, C, e => (cO n C e).map mTru
def cW : Nat → CC → BoolOp → List Expr → Option MT
  | 0, _, _, _ => none
  | n + 1, C, op, vs => match vs with
    | [x] => cM n C x
    | x :: y :: rest => (cM n C x).bind fun a => (cW n C op (y :: rest)).map fun b => match op with
      | .And => mAnd a b
      | .Or => mOr a b
    | [] => none
def cA : Nat → CC → List Expr → Option MAs
  | 0, _, _ => none
  | n + 1, C, es => match es with
    | [] => some aNil
    | e :: es => grd (notStar e) ((cE n C e).bind fun a => (cA n C es).map fun b => aCons a b)
def cOs : Nat → CC → List Expr → Option MOs
  | 0, _, _ => none
  | n + 1, C, es => match es with
    | [] => some osNil
    | e :: es => grd (notStar e) ((cO n C e).bind fun a => (cOs n C es).map fun b => osCons a b)
def cP : Nat → CC → Option Expr → Option MP
  | 0, _, _ => none
  | n + 1, C, e => match e with
    | none => some pNone
    | some e => (cE n C e).map pSome
end
end Pyx
end
section
set_option maxRecDepth 100000
namespace Pyx
open PySem PySem.Spec PyProof.Rows L2

structure Good (G : Gm) (d : Nat) (C : CC) (X : Cx) : Prop where
  calm : X.calm = true
  xe : X.xe = fun _ _ => False
  N : X.N = C.N
  nd : X.N.Nodup
  kind : X.env.scope.kind = .function
  names : X.env.scope.names = C.names
  fnc : ∀ x, C.fnc x = true → X.fn x = true
  room : Room d X.A
  blt : ∀ x ∈ bltNames, X.mg x = none
  fns : ∀ p ∈ C.defs, FnG X G d p.1 p.2
  con : ∀ p ∈ C.consts, ∃ u xv, X.mg p.1 = some u ∧ RelV xv u ∧ ConV X.K xv p.2
  two : 2 ≤ d
  tab : C.gx = true → ∃ c P, X.env.code = .ref c ∧ (c, P) ∈ tabsP X.K ∧ GxR.TabB X.base X.mg c P
  qdf : ∀ p ∈ C.qds, QDf X 0 p.1 p.2

theorem lookup_mem {α : Type} : ∀ {l : List (Str × α)} {x : Str} {v : α}, l.lookup x = some v → (x, v) ∈ l
  | (y, w) :: r, x, v, h => by
    rw [List.lookup_cons] at h
    split at h
    · rename_i e
      cases h
      rw [eq_of_beq e]
      exact List.mem_cons_self
    · exact List.mem_cons_of_mem _ (lookup_mem h)
  | [], _, _, h => by cases h
section
variable {G : Gm} {d : Nat} {C : CC} {X : Cx} {F : Hot}
theorem Good.vis (g : Good G d C X) {x : Str} (h : C.vis x = true) : Vis X.env.scope x := by
  unfold Vis
  rw [g.names]
  unfold CC.vis at h
  split at h
  · rename_i e; exact .inl e
  · rename_i e; exact .inr (.inl e)
  · rename_i e; exact .inr (.inr e)
  · cases h
theorem Good.glob (g : Good G d C X) {x : Str} (h : C.glob x = true) : Gl X x := by
  show X.env.scope.names.lookup x = _
  rw [g.names]
  unfold CC.glob at h
  split at h
  · assumption
  · cases h
theorem Good.locV (g : Good G d C X) {x : Str} (h : C.loc x = true) : Loc X.env.scope x ∧ (X.fn x = true ∨ X.env.scope.names.lookup x = some .local) := by
  unfold L2.Loc
  rw [g.names]
  unfold CC.loc at h
  split at h
  · rename_i e; exact ⟨.inl e, .inr e⟩
  · rename_i e; exact ⟨.inr e, .inl (g.fnc x h)⟩
  · cases h
theorem okName_of {x : Str} (h : okName x = true) : (x == ("__debug__" : Str)) = false ∧ (x == ("__classdict__" : Str)) = false ∧ x ≠ "__name__" := by
  unfold okName at h
  simp only [Bool.and_eq_true, Bool.not_eq_true'] at h
  refine ⟨h.1.1, h.1.2, fun e => ?_⟩
  have := h.2
  rw [e] at this
  simp at this
theorem CC.var_of {x : Str} {i : Nat} (h : C.var x = some i) : C.vis x = true ∧ okName x = true ∧ C.N[i]? = some x := by
  obtain ⟨h1, h2⟩ := grd_of h
  rw [Bool.and_eq_true] at h1
  exact ⟨h1.1, h1.2, idx_get h2⟩
theorem Good.pvO (g : Good G d C X) {x : Str} {i : Nat} {p : Pos} (h : C.var x = some i) : PE X (.Name x p) (tO X.K F G (oVar i)) := by
  obtain ⟨h1, h2, h3⟩ := CC.var_of h
  obtain ⟨o1, o2, _⟩ := okName_of h2
  exact pe_oVar (by rw [g.N]; exact h3) (g.vis h1) o1 o2
theorem Good.pvE (g : Good G d C X) {x : Str} {i : Nat} {p : Pos} (h : C.var x = some i) : PE X (.Name x p) (tE X.K F G (eVar i)) := by
  obtain ⟨h1, h2, h3⟩ := CC.var_of h
  obtain ⟨o1, o2, _⟩ := okName_of h2
  exact pe_eVar (by rw [g.N]; exact h3) (g.vis h1) o1 o2
theorem Good.hu (g : Good G d C X) : X.A.units + 100 < cLine := by
  have := g.room.un
  omega
theorem plainIx {b : Expr} (h : isSlice b = false) : PlainIx b := fun o i => by cases b <;> first | rfl | cases h
theorem isTrue_plain {x : Expr} {env : Env} (h : (match x with | .UnaryOp .Not _ _ | .BoolOp _ _ _ | .IfExp _ _ _ _ | .Compare _ _ _ _ => false | _ => true) = true) (whole : Sem Value) :
    isTrue x env whole = (do let v ← whole; standAt x.pos; holding [v] (truthy v)) := by
  cases x with
  | UnaryOp op e p => cases op <;> first | rfl | cases h
  | BoolOp _ _ _ => cases h
  | IfExp _ _ _ _ => cases h
  | Compare _ _ _ _ => cases h
  | _ => rfl
theorem biTab_ok (g : Good G d C X) : ∀ {x : Str} {b : BiE}, biTab.lookup x = some b → X.mg x = none ∧ ((b.isTy = true ∧ bootBuiltins x = some (.type b.id) ∧ CallR X (.type b.id) (rCa X.K b.f)) ∨ (b.isTy = false ∧ bootBuiltins x = some (.builtin b.id) ∧ CallR X (.builtin b.id) (rCa X.K b.f))) := by
  intro x b h
  have h' := lookup_mem h
  simp only [biTab, List.mem_cons, Prod.mk.injEq, List.not_mem_nil, or_false] at h'
  rcases h' with ⟨rfl, rfl⟩ | ⟨rfl, rfl⟩ | ⟨rfl, rfl⟩ | ⟨rfl, rfl⟩ | ⟨rfl, rfl⟩ | ⟨rfl, rfl⟩ | ⟨rfl, rfl⟩ | ⟨rfl, rfl⟩ | ⟨rfl, rfl⟩ <;> refine ⟨g.blt _ (by decide), ?_⟩
  · exact .inr ⟨rfl, by decide +kernel, biLen_ok⟩
  · exact .inl ⟨rfl, by decide +kernel, biInt_ok⟩
  · exact .inr ⟨rfl, by decide +kernel, biAbs_ok⟩
  · exact .inr ⟨rfl, by decide +kernel, biSum_ok g.calm⟩
  · exact .inr ⟨rfl, by decide +kernel, biMax_ok g.calm g.hu⟩
  · exact .inr ⟨rfl, by decide +kernel, biMin_ok g.calm⟩
  · exact .inr ⟨rfl, by decide +kernel, biAny_ok g.calm⟩
  · exact .inr ⟨rfl, by decide +kernel, biAll_ok g.calm⟩
  · exact .inl ⟨rfl, by decide +kernel, biTuple_ok⟩
theorem bfTab_ok (g : Good G d C X) : ∀ {x : Str} {b : BfE}, bfTab.lookup x = some b → X.mg x = none ∧ ((b.isTy = true ∧ bootBuiltins x = some (.type b.id) ∧ CallR X (.type b.id) (rCaF X.K b.f)) ∨ (b.isTy = false ∧ bootBuiltins x = some (.builtin b.id) ∧ CallR X (.builtin b.id) (rCaF X.K b.f))) := by
  intro x b h
  have h' := lookup_mem h
  simp only [bfTab, List.mem_cons, Prod.mk.injEq, List.not_mem_nil, or_false] at h'
  rcases h' with ⟨rfl, rfl⟩ | ⟨rfl, rfl⟩ <;> refine ⟨g.blt _ (by decide), ?_⟩
  · exact .inl ⟨rfl, by decide +kernel, bfList_ok⟩
  · exact .inr ⟨rfl, by decide +kernel, bfSorted_ok⟩
theorem tyTab_ok {x : Str} {s : String} (h : tyTab.lookup x = some s) : x ∈ bltNames ∧ bootBuiltins x = some (.type s) ∧ isiOk s = true := by
  have h' := lookup_mem h
  simp only [tyTab, List.mem_cons, Prod.mk.injEq, List.not_mem_nil, or_false] at h'
  rcases h' with ⟨rfl, rfl⟩ | ⟨rfl, rfl⟩ | ⟨rfl, rfl⟩ | ⟨rfl, rfl⟩ | ⟨rfl, rfl⟩ <;> exact ⟨by decide, by decide +kernel, by decide⟩
theorem pe_callBi {r : List V → Hp → VK → Prop} {x : Str} {p pos : Pos} {e : Expr} {es : List Expr} {t : TA} {b : Bool} {id : String} (h : (b = true ∧ bootBuiltins x = some (.type id) ∧ CallR X (.type id) r) ∨ (b = false ∧ bootBuiltins x = some (.builtin id) ∧ CallR X (.builtin id) r))
    (hg : Gl X x) (hm : X.mg x = none) (ho : okName x = true) (ha : PA X (e :: es) t) (hs : (e :: es).all notStar = true) : PE X (.Call (.Name x p) (e :: es) [] pos) (tCB r t) := by
  obtain ⟨o1, _, o3⟩ := okName_of ho
  rw [List.all_cons, Bool.and_eq_true] at hs
  rcases h with ⟨_, h1, h2⟩ | ⟨_, h1, h2⟩
  · exact pe_callTy h2 hg hm h1 ha o3 o1 (star_cons hs.1) (star_any hs.2)
  · exact pe_callB h2 hg hm h1 ha o3 o1 (star_cons hs.1) (star_any hs.2)
theorem pe_eNeg {x : Expr} {o : MO} {pos : Pos} (h : PE X x (tO X.K F G o)) : PE X (.UnaryOp .USub x pos) (tE X.K F G (eNeg o)) := by
  refine (pe_un un_neg h).weak fun σ H Q ⟨m, a, r, R, e, k⟩ => ?_
  obtain ⟨q, e1, e⟩ := Option.bind_eq_some_iff.mp e
  obtain ⟨c, e2, e⟩ := Option.bind_eq_some_iff.mp e
  obtain ⟨v, e3, e4⟩ := Option.map_eq_some_iff.mp e
  subst e4
  refine ⟨m, a, q, R, e1, fun x H' m' R' s r' => ?_⟩
  have b := r'.cont R' e2
  cases c <;> cases e3
  rw [b.int]
  exact ⟨_, rfl, k _ H' m' R' s (.int _)⟩
theorem conOf_ok {c : Const} {v : AV} {k : Nat} {p : Pos} (h : conOf c = some v) : PE X (.Constant c k p) (tE X.K F G (eCon v)) := by
  cases c <;> cases h
  · exact pe_con pe_non fun _ _ _ => .non
  · exact pe_con pe_bl fun _ _ _ => .bl _
  · exact pe_con pe_int fun _ _ _ => .int _
  · exact pe_con pe_str fun _ _ _ => .str _
theorem pts_true : PTs X [] (xM X.K G mTrue) := ⟨fun pins s σ H Q I ⟨F, m, a, r, R, e, k⟩ => by
  cases e
  exact pts_nil.run pins s σ H Q I (k H m R .refl)⟩
theorem Good.tg (g : Good G d C X) : ∀ {es : List Expr} {is : List Nat}, cNs C es = some is → NamesAt X es is
  | [], _, h => by cases h; trivial
  | .Name y p :: es, is, h => by
    obtain ⟨i, h1, h2⟩ := Option.bind_eq_some_iff.mp h
    obtain ⟨js, h3, h4⟩ := Option.map_eq_some_iff.mp h2
    subst h4
    obtain ⟨h5, h6⟩ := grd_of h1
    obtain ⟨h7, h8⟩ := g.locV h5
    exact ⟨by rw [g.N]; exact idx_get h6, h7, h8, g.tg h3⟩
theorem Good.tgt (g : Good G d C X) {e : Expr} {t : Tg} (h : cTg C e = some t) : TgOk X e t := by
  cases e with
  | Name y p =>
    obtain ⟨i, h1, h2⟩ := Option.map_eq_some_iff.mp h
    subst h2
    obtain ⟨h5, h6⟩ := grd_of h1
    obtain ⟨h7, h8⟩ := g.locV h5
    exact ⟨by rw [g.N]; exact idx_get h6, h7, h8, trivial⟩
  | Tuple es k p =>
    obtain ⟨is, h1, h2⟩ := Option.map_eq_some_iff.mp h
    subst h2
    exact g.tg h1
  | _ => cases h
theorem cQ_gen {X : Cx} {dd : Nat} {qds : List (Str × (AV → Option AV))} (hq : ∀ p ∈ qds, ∃ d', dd = d' + 1 ∧ QDf X d' p.1 p.2) {sc : Scope} {y : Str} (hk : sc.kind = .function) (k5 : sc.names.lookup y = some .local) (k6 : okName y = true) :
    ∀ {n : Nat} {e : Expr} {f : AV → Option AV}, cQ sc.names qds y n e = some f → QE X dd sc y e f := by
  intro n
  induction n with
  | zero => intro e f h; cases h
  | succ n ih =>
    intro e f h
    cases e with
    | Name x p =>
      have h' : (if x = y then some some else none) = some f := h
      split at h'
      · rename_i e; subst e; cases h'
        exact qe_name hk k5 (okName_of k6).1
      · cases h'
    | Subscript v i p =>
      match v, i, h with
      | .Name x px, .Constant (.int i) k pc, h =>
        have h' : (if x = y then some (qIx i) else none) = some f := h
        split at h'
        · rename_i e; subst e; cases h'
          exact qe_ix (qe_name hk k5 (okName_of k6).1)
        · cases h'
    | Compare a ops rs p =>
      match ops, rs, h with
      | [.NotEq], [.Constant (.str z) k pc], h =>
        obtain ⟨f1, h1, h2⟩ := Option.map_eq_some_iff.mp (show (cQ sc.names qds y n a).map (fun f c => ((f c).bind (qNe z)).map AV.bl) = some f from h)
        subst h2
        exact qe_ne (ih h1)
    | BoolOp op vs p =>
      match op, vs, h with
      | .And, [a, b], h =>
        obtain ⟨f1, h1, h2⟩ := Option.bind_eq_some_iff.mp (show ((cQ sc.names qds y n a).bind fun f => (cQ sc.names qds y n b).map fun g => qAnd f g) = some f from h)
        obtain ⟨f2, h3, h4⟩ := Option.map_eq_some_iff.mp h2
        subst h4
        exact qe_and (ih h1) (ih h3)
    | Call q args kws p =>
      match q, args, kws, h with
      | .Name q pq, [e], [], h =>
        obtain ⟨h1, h2⟩ := grd_of h
        simp only [Bool.and_eq_true, decide_eq_true_eq] at h1
        obtain ⟨⟨h1, h5⟩, h6⟩ := h1
        obtain ⟨fg, h3, h4⟩ := Option.bind_eq_some_iff.mp h2
        obtain ⟨f1, h7, h8⟩ := Option.map_eq_some_iff.mp h4
        subst h8
        obtain ⟨d', rfl, hd⟩ := hq _ (lookup_mem h3)
        exact qe_call hd (ih h7) hk h1 (okName_of h5).1 h6
    | _ => cases h
theorem cQ_ok (g : Good G d C X) {sc : Scope} {y : Str} (h : gscOk sc y = true) {n : Nat} {e : Expr} {f : AV → Option AV} (he : cQ sc.names C.qds y n e = some f) : QE X 1 sc y e f := by
  unfold gscOk at h
  simp only [Bool.and_eq_true, decide_eq_true_eq] at h
  obtain ⟨⟨⟨⟨⟨k1, k2⟩, k3⟩, k4⟩, k5⟩, k6⟩ := h
  have hk : sc.kind = .function := by
    cases q : sc.kind <;> rw [q] at k1 <;> first | rfl | cases k1
  exact cQ_gen (fun p hp => ⟨0, rfl, g.qdf p hp⟩) hk k5 k6 he
theorem cQT_ok (g : Good G d C X) {sc : Scope} {y : Str} (h : gscOk sc y = true) {n : Nat} {ifs : List Expr} {f : AV → Option Bool} (e : cQT sc.names C.qds y n ifs = some f) : QTs X 1 sc y ifs f := by
  unfold cQT at e
  split at e
  · cases e; exact qts_nil
  · obtain ⟨f1, h1, h2⟩ := Option.map_eq_some_iff.mp e
    subst h2
    exact qts_one (qt_ne (cQ_ok g h h1))
  · cases e
theorem gsc_ok {sc : Scope} {y : Str} (h : gscOk sc y = true) : GxR.GenS X.env sc y := by
  unfold gscOk at h
  simp only [Bool.and_eq_true, decide_eq_true_eq] at h
  obtain ⟨⟨⟨⟨⟨k1, k2⟩, k3⟩, k4⟩, k5⟩, k6⟩ := h
  have hk : sc.kind = .function := by
    cases q : sc.kind <;> rw [q] at k1 <;> first | rfl | cases k1
  refine ⟨hk, by simpa using k2, fun z hz e => ?_, k4, k5, fun z hz e => ?_⟩
  · have := List.all_eq_true.mp k3 z hz
    rw [e] at this; cases this
  · have := List.all_eq_true.mp k3 z hz
    rw [e] at this; cases this
/-- the block of a comprehension -/
theorem Good.blk (g : Good G d C X) {scope : Scope} (hk : scope.kind = .function) (s : Shared) (H : Hp) (Cc : Addr) (cl : List (Str × Addr)) (fp : List Addr) : Good G d (C.blk scope) (X.blk s H scope (compEnvC scope cl Cc X.env) fp) where
  calm := g.calm
  xe := rfl
  N := g.N
  nd := g.nd
  kind := hk
  names := by
    show (relabel scope X.env).names = _
    unfold relabel CC.blk
    simp only
    congr 1
    funext ⟨n, k⟩
    have e1 : (X.env.scope.kind == ScopeKind.function) = true := by rw [g.kind]; rfl
    have e2 : X.env.kindOf n = C.names.lookup n := by show X.env.scope.names.lookup n = _; rw [g.names]
    rw [e1, e2, Bool.and_true]
  fnc := fun x h => h
  room := g.room
  blt := g.blt
  fns := fun p hp => let ⟨h1, h2⟩ := g.fns p hp; ⟨h1, h2⟩
  con := g.con
  two := g.two
  tab := fun h => by cases h
  qdf := fun p hp => QDf.cast (X := X) rfl rfl rfl rfl rfl (g.qdf p hp)
theorem blkB_ok (g : Good G d C X) {scope : Scope} {own : List (Str × Nat)} (h : blkB C.N C.names scope own = true) : BlkOk X.N X.env.scope scope own := by
  apply blkOk_by
  unfold blkC
  rw [g.N, g.names]
  exact h
end
end Pyx
end
section
set_option maxRecDepth 100000
namespace Pyx
open PySem PySem.Spec PyProof.Rows L2

structure Snd (G : Gm) (d : Nat) (n : Nat) : Prop where
  e : ∀ {C : CC} {X : Cx} {F : Hot}, Good G d C X → ∀ {x : Expr} {me : ME}, cE n C x = some me → PE X x (tE X.K F G me)
  o : ∀ {C : CC} {X : Cx} {F : Hot}, Good G d C X → ∀ {x : Expr} {mo : MO}, cO n C x = some mo → PE X x (tO X.K F G mo)
  f : ∀ {C : CC} {X : Cx} {F : Hot}, Good G d C X → ∀ {x : Expr} {mf : MAs}, cF n C x = some mf → PE X x (tF X.K F G mf)
  m : ∀ {C : CC} {X : Cx} {F : Hot}, Good G d C X → ∀ {x : Expr} {mt : MT}, cM n C x = some mt → PT X x (tM X.K F G mt)
  w : ∀ {C : CC} {X : Cx} {F : Hot}, Good G d C X → ∀ {op : BoolOp} {vs : List Expr} {p : Pos} {mt : MT}, cW n C op vs = some mt → PW X (.BoolOp op vs p) (tM X.K F G mt)
  a : ∀ {C : CC} {X : Cx} {F : Hot}, Good G d C X → ∀ {es : List Expr} {ma : MAs}, cA n C es = some ma → PA X es (tAs X.K F G ma)
  s : ∀ {C : CC} {X : Cx} {F : Hot}, Good G d C X → ∀ {es : List Expr} {ma : MOs}, cOs n C es = some ma → PA X es (tOs X.K F G ma)
  p : ∀ {C : CC} {X : Cx} {F : Hot}, Good G d C X → ∀ {x : Option Expr} {mp : MP}, cP n C x = some mp → PO X x (tP X.K F G mp)
  dp : ∀ {C : CC} {X : Cx} {F : Hot}, Good G d C X → ∀ {keys : List (Option Expr)} {vals : List Expr} {ks : List Str} {ma : MAs} {pos : Pos}, keyStrs keys = some ks → keys.length = vals.length → cA n C vals = some ma → DP X G F pos keys vals ks ma
section
variable {G : Gm} {d n : Nat} {C : CC} {X : Cx} {F : Hot}
theorem snd_o (S : Snd G d n) (g : Good G d C X) {x : Expr} {mo : MO} (h : cO (n + 1) C x = some mo) : PE X x (tO X.K F G mo) := by
  have gen : ∀ {x : Expr}, ((cE n C x).map oE) = some mo → PE X x (tO X.K F G mo) := fun h => by
    obtain ⟨e, h1, h2⟩ := Option.map_eq_some_iff.mp h
    subst h2
    exact pe_oE (S.e g h1)
  cases x with
  | Name y p =>
    have h' : (match C.var y with | some i => some (oVar i) | none => (cE n C (.Name y p)).map oE) = some mo := h
    split at h'
    · rename_i i hi
      cases h'
      exact g.pvO hi
    · exact gen h'
  | _ => exact gen h
theorem snd_a (S : Snd G d n) (g : Good G d C X) {es : List Expr} {ma : MAs} (h : cA (n + 1) C es = some ma) : PA X es (tAs X.K F G ma) := by
  cases es with
  | nil => cases h; exact pa_aNil
  | cons e es =>
    obtain ⟨h1, h2⟩ := grd_of h
    obtain ⟨a, h3, h4⟩ := Option.bind_eq_some_iff.mp h2
    obtain ⟨b, h5, h6⟩ := Option.map_eq_some_iff.mp h4
    subst h6
    exact pa_aCons (S.e g h3) (S.a g h5) (star_cons h1)
theorem snd_s (S : Snd G d n) (g : Good G d C X) {es : List Expr} {ma : MOs} (h : cOs (n + 1) C es = some ma) : PA X es (tOs X.K F G ma) := by
  cases es with
  | nil => cases h; exact pa_osNil
  | cons e es =>
    obtain ⟨h1, h2⟩ := grd_of h
    obtain ⟨a, h3, h4⟩ := Option.bind_eq_some_iff.mp h2
    obtain ⟨b, h5, h6⟩ := Option.map_eq_some_iff.mp h4
    subst h6
    exact pa_osCons (S.o g h3) (S.s g h5) (star_cons h1)
theorem snd_p (S : Snd G d n) (g : Good G d C X) {x : Option Expr} {mp : MP} (h : cP (n + 1) C x = some mp) : PO X x (tP X.K F G mp) := by
  cases x with
  | none => cases h; exact po_pNone
  | some e =>
    obtain ⟨a, h1, h2⟩ := Option.map_eq_some_iff.mp (show (cE n C e).map pSome = some mp from h)
    subst h2
    exact po_pSome (S.e g h1)
theorem snd_w (S : Snd G d n) (g : Good G d C X) {op : BoolOp} {vs : List Expr} {p : Pos} {mt : MT} (h : cW (n + 1) C op vs = some mt) : PW X (.BoolOp op vs p) (tM X.K F G mt) := by
  match vs, h with
  | [x], h =>
    have h' : cM n C x = some mt := h
    cases op
    · exact pw_and1 (S.m g h')
    · exact pw_or1 (S.m g h')
  | x :: y :: rest, h =>
    obtain ⟨a, h1, h2⟩ := Option.bind_eq_some_iff.mp h
    obtain ⟨b, h3, h4⟩ := Option.map_eq_some_iff.mp h2
    subst h4
    cases op
    · exact pw_mAnd (S.m g h1) (S.w g h3)
    · exact pw_mOr (S.m g h1) (S.w g h3)
theorem snd_m (S : Snd G d n) (g : Good G d C X) {x : Expr} {mt : MT} (h : cM (n + 1) C x = some mt) : PT X x (tM X.K F G mt) := by
  have gen : ∀ {x : Expr}, (∀ whole, isTrue x X.env whole = (do let v ← whole; standAt x.pos; holding [v] (truthy v))) → ((cO n C x).map mTru) = some mt → PT X x (tM X.K F G mt) := fun he h => by
    obtain ⟨e, h1, h2⟩ := Option.map_eq_some_iff.mp h
    subst h2
    exact pt_mTru (S.o g h1) he
  cases x with
  | UnaryOp op y p =>
    cases op with
    | Not =>
      obtain ⟨a, h1, h2⟩ := Option.map_eq_some_iff.mp (show (cM n C y).map mNot = some mt from h)
      subst h2
      exact pt_mNot (S.m g h1)
    | _ => cases h
  | BoolOp op vs p => exact (S.w (p := p) g (show cW n C op vs = some mt from h)).pt
  | IfExp _ _ _ _ => cases h
  | Compare x ops ys p =>
    match ops, ys, h with
    | [op], [y], h =>
      obtain ⟨h1, h2⟩ := grd_of h
      obtain ⟨f, h3, h4⟩ := Option.bind_eq_some_iff.mp h2
      obtain ⟨a, h5, h6⟩ := Option.bind_eq_some_iff.mp h4
      obtain ⟨b, h7, h8⟩ := Option.map_eq_some_iff.mp h6
      subst h8
      exact pt_cmp2 g.hu h3 (S.o g h5) (S.o g h7) (by simpa using h1)
    | [op, op'], [y, z], h =>
      obtain ⟨h1, h2⟩ := grd_of h
      obtain ⟨f, h3, h4⟩ := Option.bind_eq_some_iff.mp h2
      obtain ⟨f', h3', h4⟩ := Option.bind_eq_some_iff.mp h4
      obtain ⟨a, h5, h6⟩ := Option.bind_eq_some_iff.mp h4
      obtain ⟨b, h7, h8⟩ := Option.bind_eq_some_iff.mp h6
      obtain ⟨c, h9, h10⟩ := Option.map_eq_some_iff.mp h8
      subst h10
      exact pt_chn g.hu h3 h3' (S.o g h5) (S.o g h7) (S.o g h9) (by simpa using h1)
  | _ => exact gen (isTrue_plain rfl) h
theorem snd_f (S : Snd G d n) (g : Good G d C X) {x : Expr} {mf : MAs} (h : cF (n + 1) C x = some mf) : PE X x (tF X.K F G mf) := by
  cases x with
  | List es p =>
    obtain ⟨a, h1, h2⟩ := Option.map_eq_some_iff.mp (show (cA n C es).map fLst = some mf from h)
    subst h2
    exact pe_fLst (S.a g h1)
  | BinOp x op y p =>
    cases op with
    | Add =>
      obtain ⟨a, h1, h2⟩ := Option.bind_eq_some_iff.mp (show ((cO n C x).bind fun a => (cO n C y).map fun b => fCat a b) = some mf from h)
      obtain ⟨b, h3, h4⟩ := Option.map_eq_some_iff.mp h2
      subst h4
      exact pe_fCat (S.o g h1) (S.o g h3)
    | _ => cases h
  | Subscript x i p =>
    cases i with
    | Slice lo hi st p2 =>
      cases st with
      | none =>
        obtain ⟨a, h1, h2⟩ := Option.bind_eq_some_iff.mp (show ((cO n C x).bind fun o => (cP n C lo).bind fun l => (cP n C hi).map fun h => fSl o l h) = some mf from h)
        obtain ⟨b, h3, h4⟩ := Option.bind_eq_some_iff.mp h2
        obtain ⟨c, h5, h6⟩ := Option.map_eq_some_iff.mp h4
        subst h6
        exact pe_fSl (S.o g h1) (S.p g h3) (S.p g h5)
      | some _ => cases h
    | _ => cases h
  | Call f args kws p =>
    match f, kws, args, h with
    | .Name x px, [], [e], h =>
      obtain ⟨h1, h2⟩ := grd_of h
      simp only [Bool.and_eq_true] at h1
      cases hsa : setArg C x e with
      | some e2 =>
        rw [hsa] at h2
        obtain ⟨mo, h3, h4⟩ := Option.map_eq_some_iff.mp (show (cO n C e2).map fSS = some mf from h2)
        subst h4
        unfold setArg at hsa
        split at hsa
        · rename_i y py e0 pe
          obtain ⟨q1, q2⟩ := grd_of hsa
          cases q2
          simp only [Bool.and_eq_true, decide_eq_true_eq] at q1
          obtain ⟨⟨⟨⟨rfl, rfl⟩, q3⟩, _⟩, q4⟩ := q1
          have inner : PE X (.Call (.Name "set" py) [e2] [] pe) (tCB (rSetLI X.K X.w) (tCons (tO X.K F G mo) tNil)) :=
            pe_callTy (cr_setLI g.calm) (g.glob q3) (g.blt "set" (by decide)) (by decide +kernel) (pa_cons (S.o g h3) pa_nil (star_cons q4)) (by decide) (by decide) (star_cons q4)
          exact (pe_callB (cr_sortedSet g.calm) (g.glob h1.1.1.1) (g.blt "sorted" (by decide)) (by decide +kernel) (pa_cons inner pa_nil) (by decide) (by decide)).weak fun _ _ _ => ss_read
        · cases hsa
      | none =>
      rw [hsa] at h2
      cases hrg : rgArg C x e with
      | some e2 =>
        have h2 : (match rgArg C x e with | some e2 => (cE n C e2).map fRg | none => (bfTab.lookup x).bind fun b => (cOs n C [e]).map (fBi b.f)) = some mf := h2
        rw [hrg] at h2
        obtain ⟨mo, h3, h4⟩ := Option.map_eq_some_iff.mp (show (cE n C e2).map fRg = some mf from h2)
        subst h4
        unfold rgArg at hrg
        split at hrg
        · rename_i y py e0 pe
          obtain ⟨q1, q2⟩ := grd_of hrg
          cases q2
          simp only [Bool.and_eq_true, decide_eq_true_eq] at q1
          obtain ⟨⟨⟨⟨rfl, rfl⟩, q3⟩, _⟩, q4⟩ := q1
          exact pe_fRg g.calm (g.glob h1.1.1.1) (g.blt "list" (by decide)) (g.glob q3) (g.blt "range" (by decide)) (S.e g h3) q4
        · cases hrg
      | none =>
      have h2 : (match rgArg C x e with | some e2 => (cE n C e2).map fRg | none => (bfTab.lookup x).bind fun b => (cOs n C [e]).map (fBi b.f)) = some mf := h2
      rw [hrg] at h2
      have h2 : ((bfTab.lookup x).bind fun b => (cOs n C [e]).map (fBi b.f)) = some mf := h2
      obtain ⟨b, h3, h4⟩ := Option.bind_eq_some_iff.mp h2
      obtain ⟨os, h5, h6⟩ := Option.map_eq_some_iff.mp h4
      subst h6
      obtain ⟨hm, hb⟩ := bfTab_ok g h3
      exact (pe_callBi hb (g.glob h1.1.1.1) hm h1.1.1.2 (S.s g h5) (by simp [h1.1.2])).weak fun _ _ _ => fbi_read
  | ListComp elt gs sc p =>
    match gs, h with
    | [⟨tg, it, ifs, asy⟩], h =>
      obtain ⟨h1, h2⟩ := grd_of h
      simp only [Bool.and_eq_true, beq_iff_eq] at h1
      obtain ⟨⟨h1a, h1b⟩, h1c⟩ := h1
      subst h1a
      obtain ⟨t, h3, h4⟩ := Option.bind_eq_some_iff.mp h2
      obtain ⟨h5, h6⟩ := grd_of h4
      obtain ⟨me, h7, h8⟩ := Option.bind_eq_some_iff.mp h6
      obtain ⟨tst, h9, h10⟩ := Option.bind_eq_some_iff.mp h8
      have hk : sc.kind = .function := by
        unfold blkB at h1b
        simp only [Bool.and_eq_true] at h1b
        have := h1b.1.1.1
        split at this
        · assumption
        · cases this
      have B : BlkG X G sc (ownOf C.N sc.names) tg ifs elt t tst me := by
        refine ⟨blkB_ok g h1b, fun s H Cc cl fp => pg_xG (g.blk hk s H Cc cl fp).calm (g.blk hk s H Cc cl fp).nd ((g.blk hk s H Cc cl fp).tgt h3), fun s H Cc cl fp => ?_, fun s H Cc cl fp => pe_xE fun F => S.e (g.blk hk s H Cc cl fp) h7, fun i hi => ?_⟩
        · match ifs, h9 with
          | [], h9 => cases h9; exact pts_true
          | [c], h9 => exact pts_one (pt_xM fun F => S.m (g.blk hk s H Cc cl fp) h9)
        · have := List.all_eq_true.mp h5 i hi
          exact of_decide_eq_true this
      have gen : ∀ {it : Expr}, notSet it = true → ((cE n C it).map fun e => fComp e ((ownOf C.N sc.names).map Prod.snd) t tst me) = some mf → PE X (.ListComp elt [⟨tg, it, ifs, 0⟩] sc p) (tF X.K F G mf) := fun hs h => by
        obtain ⟨e, q1, q2⟩ := Option.map_eq_some_iff.mp h
        subst q2
        exact pe_fComp g.calm g.nd (S.e g q1) B hs
      split at h10
      · rename_i r pr args pc
        split at h10
        · rename_i hr
          subst hr
          obtain ⟨h11, h12⟩ := grd_of h10
          rw [Bool.and_eq_true] at h11
          have gr := g.glob h11.1
          have mr := g.blt "range" (by decide)
          match args, h12 with
          | [x], h12 =>
            obtain ⟨h13, h14⟩ := grd_of h12
            obtain ⟨u, h15, h16⟩ := Option.map_eq_some_iff.mp h14
            subst h16
            exact pe_fCompR1 g.calm g.nd gr mr (S.a g h15) h13 B
          | [x, y], h12 =>
            obtain ⟨h13, h14⟩ := grd_of h12
            rw [Bool.and_eq_true] at h13
            obtain ⟨u, h15, h16⟩ := Option.map_eq_some_iff.mp h14
            subst h16
            exact pe_fCompR2 g.calm g.nd gr mr (S.a g h15) h13.1 h13.2 B
        · split at h10
          · rename_i hr
            subst hr
            obtain ⟨h11, h12⟩ := grd_of h10
            rw [Bool.and_eq_true] at h11
            have gr := g.glob h11.1
            have mr := g.blt "enumerate" (by decide)
            match args, t, h3, h12, B, h5 with
            | [x], .many is, h3, h12, B, h5 =>
              obtain ⟨h13, h14⟩ := grd_of h12
              obtain ⟨u, h15, h16⟩ := Option.map_eq_some_iff.mp h14
              subst h16
              cases tg with
              | Tuple es kk tp => exact pe_fCompE g.calm g.nd gr mr (S.e g h15) h13 ⟨B.ok, fun s H Cc cl fp => pg_xGE (g.blk hk s H Cc cl fp).calm (g.blk hk s H Cc cl fp).nd ((g.blk hk s H Cc cl fp).tgt h3), B.ht, B.he, B.sl⟩
              | Name y p =>
                obtain ⟨_, _, e⟩ := Option.map_eq_some_iff.mp (show (grd ((C.blk sc).loc y) (idx y (C.blk sc).N)).map Tg.one = some (.many is) from h3)
                cases e
              | _ => cases h3
            | [], _, _, h12, _, _ => cases h12
            | _ :: _ :: _, _, _, h12, _, _ => cases h12
            | [x], .one i, _, h12, _, _ => cases h12
          · exact gen h1c h10
      · exact gen h1c h10
  | _ => cases h
theorem snd_e (S : Snd G d n) (g : Good G d C X) {x : Expr} {me : ME} (h : cE (n + 1) C x = some me) : PE X x (tE X.K F G me) := by
  have fresh : ∀ {x : Expr} {b : Bool}, ((cF n C x).map fun f => if b = true then eLay f else eFrz f) = some me → PE X x (tE X.K F G me) := fun {x b} h => by
    obtain ⟨f, h1, h2⟩ := Option.map_eq_some_iff.mp h
    subst h2
    cases b
    · exact pe_eFrz (S.f g h1)
    · exact pe_eLay (S.f g h1)
  have fresh' : ∀ {x : Expr} {k : Nat}, ((cF n C x).map fun f => if k = 2 then eLay f else eFrz f) = some me → PE X x (tE X.K F G me) := fun {x k} h => by
    apply fresh (b := decide (k = 2))
    rw [← h]
    congr 1
    funext f
    by_cases e : k = 2 <;> simp [e]
  have isi : ∀ {x : Str} {px pos : Pos} {args : List Expr}, Gl X x → args.all notStar = true → cIsi C x args (cO n C) ((cF n C (.Call (.Name x px) args [] pos)).map fun f => if C.mark pos = 2 then eLay f else eFrz f) = some me → PE X (.Call (.Name x px) args [] pos) (tE X.K F G me) := by
    intro x px pos args gl hs h2
    unfold cIsi at h2
    split at h2
    · split at h2
      · rename_i hx
        subst hx
        obtain ⟨h3, h4⟩ := grd_of h2
        simp only [Bool.and_eq_true] at h3
        obtain ⟨s, h5, h6⟩ := Option.bind_eq_some_iff.mp h4
        obtain ⟨o, h7, h8⟩ := Option.map_eq_some_iff.mp h6
        subst h8
        obtain ⟨t1, t2, t3⟩ := tyTab_ok h5
        obtain ⟨o1, o2, o3⟩ := okName_of h3.1.2
        rw [List.all_cons, Bool.and_eq_true] at hs
        exact pe_eIsi t3 gl (g.blt _ (by decide)) (g.glob h3.1.1) (g.blt _ t1) t2 o3 o1 (S.o g h7) hs.1
      · cases h2
    · exact fresh' h2
  cases x with
  | Name y p =>
    have h' : (match C.var y with | some i => some (eVar i) | none => grd (C.glob y && okName y) ((C.consts.lookup y).map eCon)) = some me := h
    split at h'
    · rename_i i hi
      cases h'
      exact g.pvE hi
    · obtain ⟨h1, h2⟩ := grd_of h'
      rw [Bool.and_eq_true] at h1
      obtain ⟨v, h3, h4⟩ := Option.map_eq_some_iff.mp h2
      subst h4
      obtain ⟨u, xv, c1, c2, c3⟩ := g.con _ (lookup_mem h3)
      exact pe_con (pe_glob (g.glob h1.1) c1 c2 (okName_of h1.2).1) c3
  | Constant c k p =>
    obtain ⟨v, h1, h2⟩ := Option.map_eq_some_iff.mp (show (conOf c).map eCon = some me from h)
    subst h2
    exact conOf_ok h1
  | BinOp x op y pos =>
    have h' : (if C.mark pos = 2 then (cF n C (.BinOp x op y pos)).map eLay else (binF op).bind fun f => (cO n C x).bind fun a => (cO n C y).map fun b => eBin f a b) = some me := h
    split at h'
    · obtain ⟨f, h1, h2⟩ := Option.map_eq_some_iff.mp h'
      subst h2
      exact pe_eLay (S.f g h1)
    · obtain ⟨f, h1, h2⟩ := Option.bind_eq_some_iff.mp h'
      obtain ⟨a, h3, h4⟩ := Option.bind_eq_some_iff.mp h2
      obtain ⟨b, h5, h6⟩ := Option.map_eq_some_iff.mp h4
      subst h6
      exact pe_bin h1 (S.o g h3) (S.o g h5)
  | UnaryOp op y p =>
    cases op with
    | Not =>
      obtain ⟨a, h1, h2⟩ := Option.map_eq_some_iff.mp (show (cE n C y).map eNot = some me from h)
      subst h2
      exact pe_eNot (S.e g h1)
    | USub =>
      obtain ⟨a, h1, h2⟩ := Option.map_eq_some_iff.mp (show (cO n C y).map eNeg = some me from h)
      subst h2
      exact pe_eNeg (S.o g h1)
    | _ => cases h
  | BoolOp op vs p =>
    match vs, h with
    | [x], h => exact pe_one (S.e g (show cE n C x = some me from h))
    | x :: y :: rest, h =>
      obtain ⟨a, h1, h2⟩ := Option.bind_eq_some_iff.mp h
      obtain ⟨b, h3, h4⟩ := Option.map_eq_some_iff.mp h2
      subst h4
      cases op
      · exact pe_eAnd (S.e g h1) (S.e g h3)
      · exact pe_eOr (S.e g h1) (S.e g h3)
  | IfExp t x y p =>
    obtain ⟨c, h1, h2⟩ := Option.bind_eq_some_iff.mp (show ((cM n C t).bind fun c => (cE n C x).bind fun a => (cE n C y).map fun b => eIte c a b) = some me from h)
    obtain ⟨a, h3, h4⟩ := Option.bind_eq_some_iff.mp h2
    obtain ⟨b, h5, h6⟩ := Option.map_eq_some_iff.mp h4
    subst h6
    exact pe_eIte (S.m g h1) (S.e g h3) (S.e g h5)
  | Compare x ops ys p =>
    match ops, ys, h with
    | [op], [y], h =>
      obtain ⟨h1, h2⟩ := grd_of h
      obtain ⟨f, h3, h4⟩ := Option.bind_eq_some_iff.mp h2
      obtain ⟨a, h5, h6⟩ := Option.bind_eq_some_iff.mp h4
      obtain ⟨b, h7, h8⟩ := Option.map_eq_some_iff.mp h6
      subst h8
      exact pe_cmp2 g.hu h3 (S.o g h5) (S.o g h7) (by simpa using h1)
    | [op, op'], [y, z], h =>
      obtain ⟨h1, h2⟩ := grd_of h
      obtain ⟨f, h3, h4⟩ := Option.bind_eq_some_iff.mp h2
      obtain ⟨f', h3', h4⟩ := Option.bind_eq_some_iff.mp h4
      obtain ⟨a, h5, h6⟩ := Option.bind_eq_some_iff.mp h4
      obtain ⟨b, h7, h8⟩ := Option.bind_eq_some_iff.mp h6
      obtain ⟨c, h9, h10⟩ := Option.map_eq_some_iff.mp h8
      subst h10
      exact pe_chn g.hu h3 h3' (S.o g h5) (S.o g h7) (S.o g h9) (by simpa using h1)
  | Tuple es k p =>
    obtain ⟨a, h1, h2⟩ := Option.map_eq_some_iff.mp (show (cA n C es).map eTup = some me from h)
    subst h2
    exact pe_eTup (S.a g h1)
  | List es p => exact fresh' (show ((cF n C (.List es p)).map fun f => if C.mark p = 2 then eLay f else eFrz f) = some me from h)
  | ListComp elt gs sc p => exact fresh' (show ((cF n C (.ListComp elt gs sc p)).map fun f => if C.mark p = 2 then eLay f else eFrz f) = some me from h)
  | Subscript x i pos =>
    have ix : ∀ {i : Expr}, isSlice i = false → ((cO n C x).bind fun a => (cO n C i).map fun b => eBin opIx a b) = some me → PE X (.Subscript x i pos) (tE X.K F G me) := fun hs h => by
      obtain ⟨a, h1, h2⟩ := Option.bind_eq_some_iff.mp h
      obtain ⟨b, h3, h4⟩ := Option.map_eq_some_iff.mp h2
      subst h4
      exact pe_sub2 g.hu (S.o g h1) (S.o g h3) (plainIx hs)
    cases i with
    | Slice lo hi st p2 =>
      have h' : (if C.mark pos = 2 then (cF n C (.Subscript x (.Slice lo hi st p2) pos)).map eLay else match (generalizing := false) st with
        | none => (cO n C x).bind fun o => (cP n C lo).bind fun l => (cP n C hi).map fun h => eSl o l h
        | some st => if isRev lo hi st = true then (cO n C x).map eRevT else none) = some me := h
      split at h'
      · obtain ⟨f, h1, h2⟩ := Option.map_eq_some_iff.mp h'
        subst h2
        exact pe_eLay (S.f g h1)
      · cases st with
        | some st =>
          have h' : (if isRev lo hi st = true then (cO n C x).map eRevT else none) = some me := h'
          split at h'
          · rename_i hr
            obtain ⟨a, h1, h2⟩ := Option.map_eq_some_iff.mp h'
            subst h2
            unfold isRev at hr
            split at hr
            · have hr := of_decide_eq_true hr
              subst hr
              exact pe_eRevT (S.o g h1)
            · cases hr
          · cases h'
        | none =>
          obtain ⟨a, h1, h2⟩ := Option.bind_eq_some_iff.mp h'
          obtain ⟨b, h3, h4⟩ := Option.bind_eq_some_iff.mp h2
          obtain ⟨c, h5, h6⟩ := Option.map_eq_some_iff.mp h4
          subst h6
          exact pe_eSl (S.o g h1) (S.p g h3) (S.p g h5)
    | _ => exact ix rfl h
  | Call f args kws pos =>
    match f, kws, h with
    | .Name x px, [], h =>
      obtain ⟨h1, h2⟩ := grd_of h
      simp only [Bool.and_eq_true] at h1
      obtain ⟨⟨hg, ho⟩, hs⟩ := h1
      have gl := g.glob hg
      split at h2
      · rename_i ar har
        have fn := g.fns _ (lookup_mem har)
        match args, h2, hs with
        | [], h2, _ => cases h2; exact pe_eCall0 fn g.room gl (okName_of ho).1
        | e :: es, h2, hs =>
          have h2' : (if C.mark pos = 3 then (cOs n C (e :: es)).map (eLend x) else if C.mark pos = 4 then (cA n C (e :: es)).map (eCallT x) else (cA n C (e :: es)).map (eCall x)) = some me := h2
          split at h2'
          · obtain ⟨t, h3, h4⟩ := Option.map_eq_some_iff.mp h2'
            subst h4
            exact pe_eLend fn g.room gl (okName_of ho).1 (S.s g h3) hs
          · split at h2'
            · obtain ⟨t, h3, h4⟩ := Option.map_eq_some_iff.mp h2'
              subst h4
              exact pe_eCallT fn g.room gl (okName_of ho).1 (S.a g h3) hs
            · obtain ⟨t, h3, h4⟩ := Option.map_eq_some_iff.mp h2'
              subst h4
              exact pe_eCall fn g.room gl (okName_of ho).1 (S.a g h3) hs
      · split at h2
        · rename_i e2 hta
          obtain ⟨mo, h3, h4⟩ := Option.map_eq_some_iff.mp h2
          subst h4
          unfold trArg at hta
          split at hta
          · rename_i y py e0 pe
            obtain ⟨q1, q2⟩ := grd_of hta
            cases q2
            simp only [Bool.and_eq_true, decide_eq_true_eq] at q1
            obtain ⟨⟨⟨⟨rfl, rfl⟩, q3⟩, _⟩, q4⟩ := q1
            exact pe_eTupRg g.calm gl (g.blt "tuple" (by decide)) (g.glob q3) (g.blt "range" (by decide)) (S.e g h3) q4
          · cases hta
        split at h2
        · rename_i elt y iter ifs sc hgx
          unfold gxArg at hgx
          split at hgx
          · rename_i elt' y' py iter' ifs' asy sc' pg
            split at hgx
            · rename_i hasy
              subst hasy
              cases hgx
              obtain ⟨q1, q2⟩ := grd_of h2
              simp only [Bool.and_eq_true] at q1
              obtain ⟨⟨q1, q3⟩, q4⟩ := q1
              obtain ⟨it, h3, h4⟩ := Option.bind_eq_some_iff.mp q2
              obtain ⟨ft, h5, h6⟩ := Option.bind_eq_some_iff.mp h4
              obtain ⟨fe, h7, h8⟩ := Option.bind_eq_some_iff.mp h6
              obtain ⟨c, P, t1, t2, t3⟩ := g.tab q1
              have hf : ∀ v, genFold iter X.env v = pure v := fun v => by
                cases iter <;> first | rfl | cases q4
              have r2 : Room 2 X.A := g.room.mono g.two
              unfold gxFn at h8
              split at h8
              · rename_i e; subst e; cases h8
                exact pe_gAny r2 gl (g.blt "any" (by decide)) t3 t2 t1 (gsc_ok q3) (S.e g h3) (cQT_ok g q3 h5) (cQ_ok g q3 h7) hf
              · split at h8
                · rename_i e; subst e; cases h8
                  exact pe_gTup r2 gl (g.blt "tuple" (by decide)) t3 t2 t1 (gsc_ok q3) (S.e g h3) (cQT_ok g q3 h5) (cQ_ok g q3 h7) hf
                · cases h8
            · cases hgx
          · cases hgx
        unfold cBi at h2
        split at h2
        · rename_i b hb
          split at h2
          · cases h2
          · rename_i hne
            obtain ⟨os, h3, h4⟩ := Option.map_eq_some_iff.mp h2
            subst h4
            obtain ⟨hm, hb'⟩ := biTab_ok g hb
            cases args with
            | nil => exact absurd rfl hne
            | cons e es => exact (pe_callBi hb' gl hm ho (S.s g h3) hs).weak fun _ _ _ => bi_read
        · exact isi gl hs h2
    | .Name x px, [⟨some kw, .Constant .none kc pc, kp⟩], h =>
      match args, h with
      | [e], h =>
        obtain ⟨q1, q2⟩ := grd_of h
        obtain ⟨mo, h3, h4⟩ := Option.map_eq_some_iff.mp q2
        subst h4
        simp only [Bool.and_eq_true, decide_eq_true_eq] at q1
        obtain ⟨⟨⟨⟨rfl, rfl⟩, q3⟩, _⟩, q4⟩ := q1
        exact pe_minD g.calm (g.glob q3) (g.blt "min" (by decide)) (S.o g h3) q4
    | .Attribute o m apos, [], h =>
      obtain ⟨h1, h2⟩ := grd_of h
      simp only [Bool.and_eq_true] at h1
      obtain ⟨⟨hc, hs⟩, hl⟩ := h1
      match args, h2, hs with
      | [], h2, _ =>
        have h2' : (if m = ("pop" : Str) then (cO n C o).map ePop else none) = some me := h2
        split at h2'
        · rename_i hm
          subst hm
          obtain ⟨a, h3, h4⟩ := Option.map_eq_some_iff.mp h2'
          subst h4
          exact pe_ePop (S.o g h3) hc hl
        · cases h2'
      | [y], h2, hs =>
        have hy : notStar y = true := by simpa using hs
        have h2' : (if m = ("append" : Str) then (cO n C o).bind fun a => (cE n C y).map (eApp a)
          else if m = ("pop" : Str) then (cO n C o).bind fun a => (cE n C y).map (ePopAt a)
          else if m = ("index" : Str) then (cO n C o).bind fun a => (cO n C y).map (eSeqM idxA [1, 2] a)
          else if m = ("count" : Str) then (cO n C o).bind fun a => (cO n C y).map (eSeqM cntA [1] a)
          else if m = ("join" : Str) then (txtOf o).bind fun z => (cO n C y).map (eJoin z)
          else if m = ("extend" : Str) then (cO n C o).bind fun a => (cF n C y).map (eExt a)
          else none) = some me := h2
        split at h2'
        · rename_i hm
          subst hm
          obtain ⟨a, h3, h4⟩ := Option.bind_eq_some_iff.mp h2'
          obtain ⟨b, h5, h6⟩ := Option.map_eq_some_iff.mp h4
          subst h6
          exact pe_eApp (S.o g h3) (S.e g h5) hc hy hl
        · split at h2'
          · rename_i hm
            subst hm
            obtain ⟨a, h3, h4⟩ := Option.bind_eq_some_iff.mp h2'
            obtain ⟨b, h5, h6⟩ := Option.map_eq_some_iff.mp h4
            subst h6
            exact pe_ePopAt (S.o g h3) (S.e g h5) hc hy hl
          · split at h2'
            · rename_i hm
              subst hm
              obtain ⟨a, h3, h4⟩ := Option.bind_eq_some_iff.mp h2'
              obtain ⟨b, h5, h6⟩ := Option.map_eq_some_iff.mp h4
              subst h6
              exact pe_eIdx g.hu (S.o g h3) (S.o g h5) hc hy hl
            · split at h2'
              · rename_i hm
                subst hm
                obtain ⟨a, h3, h4⟩ := Option.bind_eq_some_iff.mp h2'
                obtain ⟨b, h5, h6⟩ := Option.map_eq_some_iff.mp h4
                subst h6
                exact pe_eCnt g.hu (S.o g h3) (S.o g h5) hc hy hl
              · split at h2'
                · rename_i hm
                  subst hm
                  obtain ⟨z, h3, h4⟩ := Option.bind_eq_some_iff.mp h2'
                  obtain ⟨b, h5, h6⟩ := Option.map_eq_some_iff.mp h4
                  subst h6
                  unfold txtOf at h3
                  split at h3
                  · cases h3
                    exact pe_eJoin (S.o g h5) hy hl
                  · cases h3
                · split at h2'
                  · rename_i hm
                    subst hm
                    obtain ⟨a, h3, h4⟩ := Option.bind_eq_some_iff.mp h2'
                    obtain ⟨b, h5, h6⟩ := Option.map_eq_some_iff.mp h4
                    subst h6
                    exact pe_eExt (S.o g h3) (S.f g h5) hc hy hl
                  · cases h2'
      | [y, z], h2, hs =>
        simp only [List.all_cons, List.all_nil, Bool.and_true, Bool.and_eq_true] at hs
        have h2' : (if m = ("get" : Str) then (cO n C o).bind fun a => (cE n C y).bind fun b => (cE n C z).map (eGet a b) else none) = some me := h2
        split at h2'
        · rename_i hm
          subst hm
          obtain ⟨a, h3, h4⟩ := Option.bind_eq_some_iff.mp h2'
          obtain ⟨b, h5, h6⟩ := Option.bind_eq_some_iff.mp h4
          obtain ⟨c, h7, h8⟩ := Option.map_eq_some_iff.mp h6
          subst h8
          exact pe_eGet g.hu (S.o g h3) (S.e g h5) (S.e g h7) hc hs.1 hs.2 hl
        · cases h2'
  | Dict keys vals p =>
    obtain ⟨ks, h1, h2⟩ := Option.bind_eq_some_iff.mp (show ((keyStrs keys).bind fun ks => grd (asgK ks && decide (keys.length = vals.length)) ((cA n C vals).map (eDic ks))) = some me from h)
    obtain ⟨h3, h4⟩ := grd_of h2
    obtain ⟨t, h5, h6⟩ := Option.map_eq_some_iff.mp h4
    subst h6
    simp only [asgK, Bool.and_eq_true, decide_eq_true_eq, Bool.not_eq_true'] at h3
    obtain ⟨⟨⟨k1, k2⟩, k3⟩, k4⟩ := h3
    have hk : ∀ {keys : List (Option Expr)} {ks : List Str}, keyStrs keys = some ks → keys.length = ks.length ∧ keys.all (·.isSome) = true := by
      intro keys
      induction keys with
      | nil => intro ks h; cases h; exact ⟨rfl, rfl⟩
      | cons x r ih =>
        intro ks h
        unfold keyStrs at h
        split at h
        · rename_i e
          cases e
        · rename_i e
          cases e
          obtain ⟨ks', e1, e2⟩ := Option.map_eq_some_iff.mp h
          subst e2
          obtain ⟨q1, q2⟩ := ih e1
          exact ⟨by simp [q1], by simpa using q2⟩
        · cases h
    obtain ⟨hk1, hk2⟩ := hk h1
    refine pe_eDic (S.dp g h1 k4 h5) hk2 k4 (fun e => ?_) (by omega) hk1 k1
    subst e
    cases h1
    cases k3
  | _ => cases h
theorem snd_dp (S : Snd G d n) (g : Good G d C X) : ∀ {keys : List (Option Expr)} {vals : List Expr} {ks : List Str} {ma : MAs} {pos : Pos}, keyStrs keys = some ks → keys.length = vals.length → cA (n + 1) C vals = some ma → DP X G F pos keys vals ks ma
  | [], [], ks, ma, pos, h1, _, h => by cases h1; cases h; exact dp_nil
  | [], _ :: _, _, _, _, _, hl, _ => by simp at hl
  | _ :: _, [], _, _, _, _, hl, _ => by simp at hl
  | k0 :: keys, e :: es, ks, ma, pos, h1, hl, h => by
    obtain ⟨_, h3⟩ := grd_of (show grd (notStar e) ((cE n C e).bind fun a => (cA n C es).map fun b => aCons a b) = some ma from h)
    obtain ⟨a, h4, h5⟩ := Option.bind_eq_some_iff.mp h3
    obtain ⟨b, h6, h7⟩ := Option.map_eq_some_iff.mp h5
    subst h7
    unfold keyStrs at h1
    split at h1
    · cases ‹k0 :: keys = []›
    · rename_i q
      cases q
      obtain ⟨ks', e1, e2⟩ := Option.map_eq_some_iff.mp h1
      subst e2
      exact dp_cons (S.e g h4) (S.dp g e1 (by simpa using hl) h6)
    · cases h1
theorem snd (G : Gm) (d : Nat) : ∀ n, Snd G d n
  | 0 => by constructor <;> intro _ _ _ _ <;> intros <;> rename_i h <;> cases h
  | n + 1 => by
    have S := snd G d n
    exact ⟨snd_e S, snd_o S, snd_f S, snd_m S, snd_w S, snd_a S, snd_s S, snd_p S, snd_dp S⟩
end
end Pyx
end
section
set_option maxRecDepth 100000
namespace Pyx
open PySem PySem.Spec PyProof.Rows L2

/-! ### statements from the text -/
theorem swaps_lc {elt : Expr} {gs : List Comprehension} {sc : Scope} {lp py : Pos} {y : Str} {l : Nat} {env : Env} :
    swapsWith (.ListComp elt gs sc lp) (some (.Name y py)) l env = pure (env.blockKind == .function && env.kindOf y == some .local && py.line == (Expr.ListComp elt gs sc lp).pos.line && !(sc.names.any fun (n, k) => n == y && (k == .local || k == .cell))) := rfl
section
variable {X : Cx} {F : Hot} {G : Gm}
/-- name = [..] by the layer's rule, from the reading as a fresh list -/
theorem setLc_of' {i : Nat} {y : Str} {py spos : Pos} {f : MAs} {x : Expr} (h : PS X (.Assign [.Name y py] x spos) (tAsg (tF X.K F G f) (gName i))) :
    PS X (.Assign [.Name y py] x spos) (tS X.K F G (sOwn i f)) ∧ PS X (.Assign [.Name y py] x spos) (tS X.K F G (sAsg i (eFrz f))) ∧ PS X (.Assign [.Name y py] x spos) (tS X.K F G (sAsg i (eLay f))) := by
  refine ⟨h.weak fun D σ H ⟨m, a, r, R, e, k⟩ => ?_, h.weak fun D σ H ⟨m, a, r, R, e, k⟩ => ?_, h.weak fun D σ H ⟨m, a, r, R, e, k⟩ => ?_⟩
  · obtain ⟨q, e1, e2⟩ := Option.map_eq_some_iff.mp e
    subst e2
    exact ⟨m, a, q, R, e1, fun p vs H' m' R' s' hp r' => k _ _ m' (R'.putOwn hp r') (s'.trans (Rl.putOwnStp hp))⟩
  · obtain ⟨q, e1, e2⟩ := Option.map_eq_some_iff.mp e
    subst e2
    obtain ⟨q', e3, e4⟩ := Option.map_eq_some_iff.mp e1
    subst e4
    exact ⟨m, a, q', R, e3, fun p vs H' m' R' s' hp r' => k _ _ m' ((R'.new hp).put (R'.newLst hp r')) ((s'.trans (.new hp)).trans (Rl.putStp (R'.new (o := .lst vs) hp).len))⟩
  · obtain ⟨q, e1, e2⟩ := Option.map_eq_some_iff.mp e
    subst e2
    obtain ⟨q', e3, e4⟩ := Option.map_eq_some_iff.mp e1
    subst e4
    exact ⟨m, a, q', R, e3, fun p vs H' m' R' s' hp r' => k _ _ (m' ++ [p]) ((R'.layLst hp r').put R'.layRef) ((s'.trans (Rl.layStp hp)).trans (Rl.putStp (R'.layLst hp r').len))⟩
theorem _root_.L2.PS.weakA {X : Cx} {st : Stmt} {i : Nat} {t u : TE} (h : PS X st (tAsg t (gName i))) (k : ∀ σ H Q, u σ H Q → t σ H Q) : PS X st (tAsg u (gName i)) := h.weak fun D σ H q => k σ H _ q
theorem _root_.L2.PS.or {X : Cx} {st : Stmt} {t u : TS} (h : PS X st t) (h' : PS X st u) : PS X st (fun D σ H => t D σ H ∨ u D σ H) := ⟨fun pins s σ H D I q => q.elim (fun q => h.run pins s σ H D I q) fun q => h'.run pins s σ H D I q⟩
section
variable {d n : Nat} {C : CC}
theorem snd_lcs (S : Snd G d n) (g : Good G d C X) {elt : Expr} {gs : List Comprehension} {sc : Scope} {p : Pos} {mf : MAs} (h : cF (n + 1) C (.ListComp elt gs sc p) = some mf) {i : Nat} {y : Str} {py spos : Pos} (hy : X.N[i]? = some y) (hyl : X.env.scope.names.lookup y = some .local)
    (hsw : swapsWith (.ListComp elt gs sc p) (some (.Name y py)) spos.line X.env = pure true) : PS X (.Assign [.Name y py] (.ListComp elt gs sc p) spos) (tAsg (tF X.K F G mf) (gName i)) := by
  match gs, h with
  | [⟨tg, it, ifs, asy⟩], h =>
    obtain ⟨h1, h2⟩ := grd_of h
    simp only [Bool.and_eq_true, beq_iff_eq] at h1
    obtain ⟨⟨h1a, h1b⟩, h1c⟩ := h1
    subst h1a
    obtain ⟨t, h3, h4⟩ := Option.bind_eq_some_iff.mp h2
    obtain ⟨h5, h6⟩ := grd_of h4
    obtain ⟨me, h7, h8⟩ := Option.bind_eq_some_iff.mp h6
    obtain ⟨tst, h9, h10⟩ := Option.bind_eq_some_iff.mp h8
    have hk : sc.kind = .function := by
      unfold blkB at h1b
      simp only [Bool.and_eq_true] at h1b
      have := h1b.1.1.1
      split at this
      · assumption
      · cases this
    have B : BlkG X G sc (ownOf C.N sc.names) tg ifs elt t tst me := by
      refine ⟨blkB_ok g h1b, fun s H Cc cl fp => pg_xG (g.blk hk s H Cc cl fp).calm (g.blk hk s H Cc cl fp).nd ((g.blk hk s H Cc cl fp).tgt h3), fun s H Cc cl fp => ?_, fun s H Cc cl fp => pe_xE fun F => S.e (g.blk hk s H Cc cl fp) h7, fun i hi => ?_⟩
      · match ifs, h9 with
        | [], h9 => cases h9; exact pts_true
        | [c], h9 => exact pts_one (pt_xM fun F => S.m (g.blk hk s H Cc cl fp) h9)
      · have := List.all_eq_true.mp h5 i hi
        exact of_decide_eq_true this
    have gen : ∀ {it : Expr}, swapsWith (.ListComp elt [⟨tg, it, ifs, 0⟩] sc p) (some (.Name y py)) spos.line X.env = pure true → notSet it = true → ((cE n C it).map fun e => fComp e ((ownOf C.N sc.names).map Prod.snd) t tst me) = some mf → PS X (.Assign [.Name y py] (.ListComp elt [⟨tg, it, ifs, 0⟩] sc p) spos) (tAsg (tF X.K F G mf) (gName i)) := fun hsw hs h => by
      obtain ⟨e, q1, q2⟩ := Option.map_eq_some_iff.mp h
      subst q2
      have hi := S.e (F := F) g q1
      refine (PS.or (PS.or (ps_setLc g.calm g.nd hy hyl hsw (pi_list hi) B.ok B.hg B.ht B.he (foldedSet_no hs)) (ps_setLc g.calm g.nd hy hyl hsw (pi_tup hi) B.ok B.hg B.ht B.he (foldedSet_no hs))) (ps_setLc g.calm g.nd hy hyl hsw (pi_str hi) B.ok B.hg B.ht B.he (foldedSet_no hs))).weak fun D σ H q => ?_
      exact comp_read B.sl q
    split at h10
    · rename_i r pr args pc
      split at h10
      · rename_i hr
        subst hr
        obtain ⟨h11, h12⟩ := grd_of h10
        rw [Bool.and_eq_true] at h11
        have gr := g.glob h11.1
        have mr := g.blt "range" (by decide)
        match args, h12 with
        | [x], h12 =>
          obtain ⟨h13, h14⟩ := grd_of h12
          obtain ⟨u, h15, h16⟩ := Option.map_eq_some_iff.mp h14
          subst h16
          refine (ps_setLc g.calm g.nd hy hyl hsw (pi_range1 gr mr (S.a g h15) (star_cons h13)) B.ok B.hg B.ht B.he).weakA fun σ H Q h => compR_read B.sl h fun R ⟨m, a, r, p, R0, e, hp, k⟩ => by
            obtain ⟨l, a1⟩ := r
            obtain ⟨j, rfl, h1, h2, rfl⟩ := asR1_of hp
            exact ⟨m, a, _, R0, e, fun xs H1 m1 R1 s1 r1 => ⟨j, rps_ints1 r1, h1, h2, k xs H1 m1 R1 s1 r1⟩⟩
        | [x, y], h12 =>
          obtain ⟨h13, h14⟩ := grd_of h12
          rw [Bool.and_eq_true] at h13
          obtain ⟨u, h15, h16⟩ := Option.map_eq_some_iff.mp h14
          subst h16
          have hs2 : starEach [y] X.env = [(false, eval y X.env)] := star_cons h13.2
          have hs : starEach [x, y] X.env = [(false, eval x X.env), (false, eval y X.env)] := by rw [star_cons h13.1, hs2]
          refine (ps_setLc g.calm g.nd hy hyl hsw (pi_range2 gr mr (S.a g h15) hs hs2) B.ok B.hg B.ht B.he).weakA fun σ H Q h => compR_read B.sl h fun R ⟨m, a, r, p, R0, e, hp, k⟩ => by
            obtain ⟨l, a1⟩ := r
            obtain ⟨i, j, rfl, h1, rfl⟩ := asR2_of hp
            exact ⟨m, a, _, R0, e, fun xs H1 m1 R1 s1 r1 => ⟨i, j, rps_ints2 r1, h1, k xs H1 m1 R1 s1 r1⟩⟩
      · split at h10
        · rename_i hr
          subst hr
          obtain ⟨h11, h12⟩ := grd_of h10
          rw [Bool.and_eq_true] at h11
          have gr := g.glob h11.1
          have mr := g.blt "enumerate" (by decide)
          match args, t, h3, h12, B with
          | [x], .many is, h3, h12, B =>
            obtain ⟨h13, h14⟩ := grd_of h12
            obtain ⟨u, h15, h16⟩ := Option.map_eq_some_iff.mp h14
            subst h16
            cases tg with
            | Tuple es kk tp =>
              have hi := S.e (F := F) g h15
              have hg : ∀ (s : Shared) (H : Hp) (Cc : Addr) (cl : List (Str × Addr)) (fp : List Addr), PG (X.blk s H sc (compEnvC sc cl Cc X.env) fp) (.Tuple es kk tp) (xGE X.K is) := fun s H Cc cl fp => pg_xGE (g.blk hk s H Cc cl fp).calm (g.blk hk s H Cc cl fp).nd ((g.blk hk s H Cc cl fp).tgt h3)
              refine (PS.or (ps_setLc g.calm g.nd hy hyl hsw (pi_enum gr mr (pa_cons hi pa_nil (star_cons h13)) (star_cons h13)) B.ok hg B.ht B.he) (ps_setLc g.calm g.nd hy hyl hsw (pi_enumT gr mr (pa_cons hi pa_nil (star_cons h13)) (star_cons h13)) B.ok hg B.ht B.he)).weak fun D σ H q => ?_
              exact compE_read B.sl q
            | Name y p =>
              obtain ⟨_, _, e⟩ := Option.map_eq_some_iff.mp (show (grd ((C.blk sc).loc y) (idx y (C.blk sc).N)).map Tg.one = some (.many is) from h3)
              cases e
            | _ => cases h3
          | [], _, _, h12, _ => cases h12
          | _ :: _ :: _, _, _, h12, _ => cases h12
          | [x], .one i, _, h12, _ => cases h12
        · exact gen hsw h1c h10
    · exact gen hsw h1c h10
end
end
def cAsgN (n : Nat) (C : CC) (i : Nat) (v : Expr) : Option MS := match v with
  | .ListComp elt gs sc p => (cF n C (.ListComp elt gs sc p)).map fun f => if C.mark p = 1 then sOwn i f else if C.mark p = 2 then sAsg i (eLay f) else sAsg i (eFrz f)
  | v => grd (notComp v) (if C.mark v.pos = 1 then (cF n C v).map (sOwn i) else (cE n C v).map (sAsg i))
/-- two or three names from as many values -/
def cPar (n : Nat) (C : CC) (ts vs : List Expr) : Option MS := match ts, vs with
  | [.Name n1 p1, .Name n2 p2], [x, y] => grd (C.isLocal n1 && C.isLocal n2 && p2.line == p1.line && !decide (n1 = n2) && notStar x && notStar y && !([x, y].all (foldedForSure 8)) && !([x, y].all (constantsAlone 8))) ((idx n1 C.N).bind fun i => (idx n2 C.N).bind fun j => (cA n C [x, y]).map (sPar [i, j]))
  | [.Name n1 p1, .Name n2 p2, .Name n3 p3], [x, y, z] => grd (C.isLocal n1 && C.isLocal n2 && C.isLocal n3 && p2.line == p1.line && p3.line == p1.line && !decide (n1 = n2) && !decide (n1 = n3) && !decide (n2 = n3) && notStar x && notStar y && notStar z && !([x, y, z].all (foldedForSure 8)) && !([x, y, z].all (constantsAlone 8)))
      ((idx n1 C.N).bind fun i => (idx n2 C.N).bind fun j => (idx n3 C.N).bind fun l => (cA n C [x, y, z]).map (sPar [i, j, l]))
  | _, _ => none
mutual
def cS (W : Nat) : Nat → CC → Stmt → Option MS
  | 0, _, _ => none
  | n + 1, C, .Expr x _ => grd (notComp x) ((cE n C x).map sExpr)
  | n + 1, C, .Return x _ => match x with
    | some x => (cE n C x).map sRet
    | none => some sRetN
  | n + 1, C, .Pass _ => some sSkip
  | n + 1, C, .Break _ => some sBreak
  | n + 1, C, .Continue _ => some sCont
  | n + 1, C, .If x b1 b2 _ => (cM n C x).bind fun c => (cB W n C b1).bind fun s => (cB W n C b2).map fun t => sIf c s t
  | n + 1, C, .While x b o _ => match o with
    | [] => (cM n C x).bind fun c => (cB W n C b).map fun s => sWhile W c s
    | _ => none
  | n + 1, C, .For t it b o _ => match o with
    | [] => (cTg C t).bind fun tg => (cB W n C b).bind fun s => match it with
      | .Call (.Name r _) args [] _ => if r = ("range" : Str) then grd (C.glob r && (C.defs.lookup r).isNone) (match args with
          | [x] => grd (notStar x) ((cA n C [x]).map fun u => sForR asR1 u tg s)
          | [x, y] => grd (notStar x && notStar y) ((cA n C [x, y]).map fun u => sForR asR2 u tg s)
          | _ => none) else if r = ("enumerate" : Str) then grd (C.glob r && (C.defs.lookup r).isNone) (match args, tg with
          | [x], .many is => grd (notStar x) ((cE n C x).map fun e => sForE e is s)
          | _, _ => none) else grd (notSet it) ((cE n C it).map fun e => sForV e tg s)
      | _ => grd (notSet it) ((cE n C it).map fun e => sForV e tg s)
    | _ => none
  | n + 1, C, .Assign ts v _ => match ts with
    | [.Name y _] => (grd (C.loc y) (idx y C.N)).bind fun i => cAsgN n C i v
    | [.Tuple es _ _] => if noSwap es v = true then grd (notComp v) ((cNs C es).bind fun is => (cE n C v).map (sUnp is)) else match v with
      | .Tuple vs _ _ => cPar n C es vs
      | _ => none
    | [.Subscript o i _] => grd (!isSlice i) ((cO n C o).bind fun mo => (cE n C i).bind fun mi => (cE n C v).map fun e => sSet mo mi e)
    | _ => none
  | n + 1, C, .AugAssign t op v _ => match t with
    | .Name y _ => (grd (C.loc y) (idx y C.N)).bind fun i => match op with
      | .Add => (cO n C v).map (sAug i opAdd)
      | .Sub => (cO n C v).map (sAug i opSub)
      | _ => none
    | _ => none
  | _ + 1, _, _ => none
def cB (W : Nat) : Nat → CC → List Stmt → Option MS
  | 0, _, _ => none
  | n + 1, C, b => match b with
    | [] => some sSkip
    | s :: r => (cS W n C s).bind fun a => (cB W n C r).map fun b => sSeq a b
end
theorem subAssign {o i : Expr} {p : Pos} {env : Env} (h : isSlice i = false) (v : Value) : assign (.Subscript o i p) env v = (do
      let ov ← holding [v] (eval o env)
      let iv ← holding [v, ov] (eval i env)
      standAt p
      holding [v, ov, iv] (setItem ov iv v)
      release [v, ov, iv] []) := by
  cases i <;> first | rfl | cases h
structure SndS (G : Gm) (d W : Nat) (n : Nat) : Prop where
  s : ∀ {C : CC} {X : Cx} {F : Hot}, Good G d C X → (X.xe = fun _ _ => False) → ∀ {x : Stmt} {ms : MS}, cS W n C x = some ms → PS X x (tS X.K F G ms)
  b : ∀ {C : CC} {X : Cx} {F : Hot}, Good G d C X → (X.xe = fun _ _ => False) → ∀ {x : List Stmt} {ms : MS}, cB W n C x = some ms → PSs X x (tS X.K F G ms)
section
variable {G : Gm} {d W n : Nat} {C : CC} {X : Cx} {F : Hot}
theorem Good.lc (g : Good G d C X) {y : Str} (h : C.isLocal y = true) : X.env.scope.names.lookup y = some .local := by
  rw [g.names]
  unfold CC.isLocal at h
  split at h
  · assumption
  · cases h
theorem snd_asgN (S : Snd G d n) (S' : ∀ m, n = m + 1 → Snd G d m) (g : Good G d C X) {y : Str} {i : Nat} {v : Expr} {ms : MS} {py pos : Pos} (hl : C.loc y = true) (hi : idx y C.N = some i) (h : cAsgN n C i v = some ms) : PS X (.Assign [.Name y py] v pos) (tS X.K F G ms) := by
  obtain ⟨h7, h8⟩ := g.locV hl
  have hN : X.N[i]? = some y := by rw [g.N]; exact idx_get hi
  have gen : ∀ {v : Expr}, grd (notComp v) (if C.mark v.pos = 1 then (cF n C v).map (sOwn i) else (cE n C v).map (sAsg i)) = some ms → PS X (.Assign [.Name y py] v pos) (tS X.K F G ms) := fun h => by
    obtain ⟨h1, h2⟩ := grd_of h
    split at h2
    · obtain ⟨f, h3, h4⟩ := Option.map_eq_some_iff.mp h2
      subst h4
      exact ps_sOwn g.nd hN h7 h8 (S.f g h3) h1
    · obtain ⟨f, h3, h4⟩ := Option.map_eq_some_iff.mp h2
      subst h4
      exact ps_sAsg g.nd hN h7 h8 (S.e g h3) h1
  cases v with
  | ListComp elt gs sc p =>
    obtain ⟨f, h3, h4⟩ := Option.map_eq_some_iff.mp (show ((cF n C (.ListComp elt gs sc p)).map fun f => if C.mark p = 1 then sOwn i f else if C.mark p = 2 then sAsg i (eLay f) else sAsg i (eFrz f)) = some ms from h)
    have key : PS X (.Assign [.Name y py] (.ListComp elt gs sc p) pos) (tAsg (tF X.K F G f) (gName i)) := by
      cases hb : (X.env.blockKind == .function && X.env.kindOf y == some .local && py.line == (Expr.ListComp elt gs sc p).pos.line && !(sc.names.any fun (n, k) => n == y && (k == .local || k == .cell))) with
      | false => exact ps_set g.nd hN h7 (S.f g h3) (by rw [swaps_lc, hb]) h8
      | true =>
        have hyl : X.env.scope.names.lookup y = some .local := by
          simp only [Bool.and_eq_true] at hb
          have := hb.1.1.2
          simpa [Env.kindOf] using this
        match n, S', h3 with
        | m + 1, S', h3 => exact snd_lcs (S' m rfl) g h3 hN hyl (by rw [swaps_lc, hb])
    obtain ⟨k1, k2, k3⟩ := setLc_of' key
    subst h4
    by_cases e1 : C.mark p = 1
    · rw [if_pos e1]; exact k1
    · rw [if_neg e1]
      by_cases e2 : C.mark p = 2
      · rw [if_pos e2]; exact k3
      · rw [if_neg e2]; exact k2
  | _ => exact gen h
theorem ne_of_nd {x y : Str} {i j : Nat} (hx : idx x C.N = some i) (hy : idx y C.N = some j) (h : x ≠ y) : i ≠ j := fun e => by
  subst e
  have h1 := idx_get hx
  have h2 := idx_get hy
  exact h (Option.some.inj (h1.symm.trans h2))
theorem snd_par (S : Snd G d n) (g : Good G d C X) {ts vs : List Expr} {ms : MS} {k kv : Nat} {pt pv pos : Pos} (h : cPar n C ts vs = some ms) : PS X (.Assign [.Tuple ts k pt] (.Tuple vs kv pv) pos) (tS X.K F G ms) := by
  unfold cPar at h
  split at h
  · rename_i n1 p1 n2 p2 x y
    obtain ⟨h1, h2⟩ := grd_of h
    simp only [Bool.and_eq_true, Bool.not_eq_true', decide_eq_false_iff_not] at h1
    obtain ⟨⟨⟨⟨⟨⟨⟨a1, a2⟩, a3⟩, a4⟩, a5⟩, a6⟩, a7⟩, a8⟩ := h1
    obtain ⟨i, b1, h3⟩ := Option.bind_eq_some_iff.mp h2
    obtain ⟨j, b2, h4⟩ := Option.bind_eq_some_iff.mp h3
    obtain ⟨t, b3, b4⟩ := Option.map_eq_some_iff.mp h4
    subst b4
    exact ps_sPar2 g.calm g.nd g.kind (by rw [g.N]; exact idx_get b1) (by rw [g.N]; exact idx_get b2) (ne_of_nd b1 b2 a4) (g.lc a1) (g.lc a2) a3 a4 a5 a6 a7 a8 (S.a g b3)
  · rename_i n1 p1 n2 p2 n3 p3 x y z
    obtain ⟨h1, h2⟩ := grd_of h
    simp only [Bool.and_eq_true, Bool.not_eq_true', decide_eq_false_iff_not] at h1
    obtain ⟨⟨⟨⟨⟨⟨⟨⟨⟨⟨⟨⟨a1, a2⟩, a3⟩, a4⟩, a5⟩, a6⟩, a7⟩, a8⟩, a9⟩, a10⟩, a11⟩, a12⟩, a13⟩ := h1
    obtain ⟨i, b1, h3⟩ := Option.bind_eq_some_iff.mp h2
    obtain ⟨j, b2, h4⟩ := Option.bind_eq_some_iff.mp h3
    obtain ⟨l, b5, h5⟩ := Option.bind_eq_some_iff.mp h4
    obtain ⟨t, b3, b4⟩ := Option.map_eq_some_iff.mp h5
    subst b4
    exact ps_sPar3 g.calm g.nd g.kind (by rw [g.N]; exact idx_get b1) (by rw [g.N]; exact idx_get b2) (by rw [g.N]; exact idx_get b5) (ne_of_nd b1 b2 a6) (ne_of_nd b1 b5 a7) (ne_of_nd b2 b5 a8) (g.lc a1) (g.lc a2) (g.lc a3) a4 a5 a6 a7 a8 a9 a10 a11 a12 a13 (S.a g b3)
  · cases h
theorem snd_b (S : SndS G d W n) (g : Good G d C X) (hx : X.xe = fun _ _ => False) {x : List Stmt} {ms : MS} (h : cB W (n + 1) C x = some ms) : PSs X x (tS X.K F G ms) := by
  cases x with
  | nil => cases h; exact pss_skip
  | cons s r =>
    obtain ⟨a, h1, h2⟩ := Option.bind_eq_some_iff.mp (show ((cS W n C s).bind fun a => (cB W n C r).map fun b => sSeq a b) = some ms from h)
    obtain ⟨b, h3, h4⟩ := Option.map_eq_some_iff.mp h2
    subst h4
    exact pss_seq (S.s g hx h1) (S.b g hx h3)
theorem snd_stmt (S : SndS G d W n) (g : Good G d C X) (hx : X.xe = fun _ _ => False) {x : Stmt} {ms : MS} (h : cS W (n + 1) C x = some ms) : PS X x (tS X.K F G ms) := by
  have T := snd G d n
  cases x with
  | Expr x p =>
    obtain ⟨h1, h2⟩ := grd_of h
    obtain ⟨a, h3, h4⟩ := Option.map_eq_some_iff.mp h2
    subst h4
    exact ps_sExpr (T.e g h3) h1
  | Return x p =>
    cases x with
    | none => cases h; exact ps_sRetN
    | some x =>
      obtain ⟨a, h3, h4⟩ := Option.map_eq_some_iff.mp (show (cE n C x).map sRet = some ms from h)
      subst h4
      exact ps_sRet (T.e g h3)
  | Pass p => cases h; exact ps_sPass
  | Break p => cases h; exact ps_sBreak
  | Continue p => cases h; exact ps_sCont
  | If x b1 b2 p =>
    obtain ⟨c, h1, h2⟩ := Option.bind_eq_some_iff.mp (show ((cM n C x).bind fun c => (cB W n C b1).bind fun s => (cB W n C b2).map fun t => sIf c s t) = some ms from h)
    obtain ⟨s, h3, h4⟩ := Option.bind_eq_some_iff.mp h2
    obtain ⟨t, h5, h6⟩ := Option.map_eq_some_iff.mp h4
    subst h6
    exact ps_sIf (T.m g h1) (S.b g hx h3) (S.b g hx h5)
  | While x b o p =>
    cases o with
    | cons _ _ => cases h
    | nil =>
      obtain ⟨c, h1, h2⟩ := Option.bind_eq_some_iff.mp (show ((cM n C x).bind fun c => (cB W n C b).map fun s => sWhile W c s) = some ms from h)
      obtain ⟨s, h3, h4⟩ := Option.map_eq_some_iff.mp h2
      subst h4
      exact ps_sWhile hx (T.m g h1) (S.b g hx h3)
  | For t it b o p =>
    cases o with
    | cons _ _ => cases h
    | nil =>
      obtain ⟨tg, h1, h2⟩ := Option.bind_eq_some_iff.mp h
      obtain ⟨s, h3, h4⟩ := Option.bind_eq_some_iff.mp h2
      have ht := g.tgt h1
      have hb := S.b (F := F) g hx h3
      have gen : ∀ {it : Expr}, grd (notSet it) ((cE n C it).map fun e => sForV e tg s) = some ms → PS X (.For t it b [] p) (tS X.K F G ms) := fun h => by
        obtain ⟨q1, q2⟩ := grd_of h
        obtain ⟨e, q3, q4⟩ := Option.map_eq_some_iff.mp q2
        subst q4
        exact ps_sForV g.calm hx g.nd ht (T.e g q3) hb q1
      split at h4
      · rename_i r pr args pc
        split at h4
        · rename_i hr
          subst hr
          obtain ⟨h11, h12⟩ := grd_of h4
          rw [Bool.and_eq_true] at h11
          have gr := g.glob h11.1
          have mr := g.blt "range" (by decide)
          match args, h12 with
          | [x], h12 =>
            obtain ⟨h13, h14⟩ := grd_of h12
            obtain ⟨u, h15, h16⟩ := Option.map_eq_some_iff.mp h14
            subst h16
            exact ps_sForR1 g.calm hx g.nd ht gr mr (T.a g h15) h13 hb
          | [x, y], h12 =>
            obtain ⟨h13, h14⟩ := grd_of h12
            rw [Bool.and_eq_true] at h13
            obtain ⟨u, h15, h16⟩ := Option.map_eq_some_iff.mp h14
            subst h16
            exact ps_sForR2 g.calm hx g.nd ht gr mr (T.a g h15) h13.1 h13.2 hb
        · split at h4
          · rename_i hr
            subst hr
            obtain ⟨h11, h12⟩ := grd_of h4
            rw [Bool.and_eq_true] at h11
            have gr := g.glob h11.1
            have mr := g.blt "enumerate" (by decide)
            match args, tg, ht, h12 with
            | [x], .many is, ht, h12 =>
              obtain ⟨h13, h14⟩ := grd_of h12
              obtain ⟨u, h15, h16⟩ := Option.map_eq_some_iff.mp h14
              subst h16
              cases t with
              | Tuple es kk tp => exact ps_sForE g.calm hx g.nd ht gr mr (T.e g h15) h13 hb
              | _ => exact ht.elim
            | [], _, _, h12 => cases h12
            | _ :: _ :: _, _, _, h12 => cases h12
            | [x], .one i, _, h12 => cases h12
          · exact gen h4
      · exact gen h4
  | Assign ts v p =>
    match ts, h with
    | [.Name y py], h =>
      obtain ⟨i, h1, h2⟩ := Option.bind_eq_some_iff.mp h
      obtain ⟨h3, h4⟩ := grd_of h1
      exact snd_asgN T (fun m _ => snd G d m) g h3 h4 h2
    | [.Tuple es k pt], h =>
      have h' : (if noSwap es v = true then grd (notComp v) ((cNs C es).bind fun is => (cE n C v).map (sUnp is)) else match (generalizing := false) v with
        | .Tuple vs _ _ => cPar n C es vs
        | _ => none) = some ms := h
      clear h
      split at h'
      · rename_i hs
        obtain ⟨h1, h2⟩ := grd_of h'
        obtain ⟨is, h3, h4⟩ := Option.bind_eq_some_iff.mp h2
        obtain ⟨e, h5, h6⟩ := Option.map_eq_some_iff.mp h4
        subst h6
        exact ps_sUnp g.calm g.nd (g.tg h3) (T.e g h5) h1 hs
      · split at h'
        · exact snd_par T g h'
        · cases h'
    | [.Subscript o i pt], h =>
      obtain ⟨h1, h2⟩ := grd_of h
      simp only [Bool.not_eq_true'] at h1
      obtain ⟨mo, h3, h4⟩ := Option.bind_eq_some_iff.mp h2
      obtain ⟨mi, h5, h6⟩ := Option.bind_eq_some_iff.mp h4
      obtain ⟨e, h7, h8⟩ := Option.map_eq_some_iff.mp h6
      subst h8
      exact ps_sSet g.hu (T.e g h7) (T.o g h3) (T.e g h5) (subAssign h1)
  | AugAssign t op v p =>
    cases t with
    | Name y py =>
      obtain ⟨i, h1, h2⟩ := Option.bind_eq_some_iff.mp h
      obtain ⟨h3, h4⟩ := grd_of h1
      obtain ⟨h7, h8⟩ := g.locV h3
      have hN : X.N[i]? = some y := by rw [g.N]; exact idx_get h4
      cases op with
      | Add =>
        obtain ⟨o, h5, h6⟩ := Option.map_eq_some_iff.mp (show (cO n C v).map (sAug i opAdd) = some ms from h2)
        subst h6
        exact ps_sAug g.nd hN h7 h8 (T.o g h5) (.inl ⟨rfl, rfl⟩)
      | Sub =>
        obtain ⟨o, h5, h6⟩ := Option.map_eq_some_iff.mp (show (cO n C v).map (sAug i opSub) = some ms from h2)
        subst h6
        exact ps_sAug g.nd hN h7 h8 (T.o g h5) (.inr ⟨rfl, rfl⟩)
      | _ => cases h2
    | _ => cases h
  | _ => cases h
theorem sndS (G : Gm) (d W : Nat) : ∀ n, SndS G d W n
  | 0 => by constructor <;> intro _ _ _ _ _ <;> intros <;> rename_i h <;> cases h
  | n + 1 => by
    refine ⟨?_, ?_⟩
    · intro C X F g hx x ms h
      exact snd_stmt (sndS G d W n) g hx h
    · intro C X F g hx x ms h
      exact snd_b (sndS G d W n) g hx h
end
end Pyx
end
section
set_option maxRecDepth 100000
namespace Pyx
open PySem PySem.Spec PyProof.Rows L2

/-! ### defs -/
/-- a def as the evaluator runs it: its parameters' number, its slots' number, its body -/
structure DfE where
  n : Nat
  sz : Nat
  body : MS
def frame (sz : Nat) (args : List AV) (S : List SObj) : AS := ⟨args.map (fun v => some (.val v)) ++ List.replicate (sz - args.length) none, S⟩
def outV : Out × AS → Option (AV × List SObj)
  | (.nx, a) => some (.non, a.S)
  | (.rt v, a) => some (v, a.S)
  | _ => none
def runB (sz : Nat) (b : MS) (G : Gm) (args : List AV) (S : List SObj) : Option (AV × List SObj) := (b G (frame sz args S)).bind outV
def runD (e : DfE) (G : Gm) (args : List AV) (S : List SObj) : Option (AV × List SObj) := if args.length = e.n then runB e.sz e.body G args S else none
/-- the defs of a text, with calls at most so deep -/
def lvl (T : List (Str × DfE)) : Nat → Gm
  | 0 => fun _ _ _ => none
  | d + 1 => fun x args S => (T.lookup x).bind fun e => runD e (lvl T d) args S
theorem lvl_len {T : List (Str × DfE)} {x : Str} {e : DfE} (h : T.lookup x = some e) : ∀ {d : Nat} {args : List AV} {S : List SObj} {r : AV × List SObj}, lvl T d x args S = some r → args.length = e.n
  | 0, _, _, _, q => by cases q
  | d + 1, args, S, r, q => by
    have q' : ((T.lookup x).bind fun e => runD e (lvl T d) args S) = some r := q
    rw [h] at q'
    have q2 : (if args.length = e.n then runB e.sz e.body (lvl T d) args S else none) = some r := q'
    split at q2
    · assumption
    · cases q2
section
variable {K : PySem.W.Frag} {F : Hot} {m : List Addr} {S : List SObj} {H : Hp} {vs : List V} {args : List AV} {sz : Nat}
theorem frame_noOwn {i : Nat} {xs : List AV} : (frame sz args S).ρ[i]? ≠ some (some (.own xs)) := fun e => by
  unfold frame at e
  simp only at e
  rw [List.getElem?_append] at e
  split at e
  · rw [List.getElem?_map] at e
    cases q : args[i]? with
    | none => rw [q] at e; cases e
    | some v => rw [q] at e; cases e
  · rw [List.getElem?_replicate] at e
    split at e <;> cases e
theorem frame_own {σ : L2.St} {p : Addr} : ¬ Own (frame sz args S).ρ σ p := fun ⟨i, xs, e, _⟩ => frame_noOwn e
theorem frame_hot {σ : L2.St} {p : Addr} : hotOf F m (frame sz args S) σ p ↔ hotOf F m ⟨[], S⟩ [] p := by
  constructor
  · rintro (h | h | h)
    · exact .inl h
    · exact .inr (.inl h)
    · exact absurd h frame_own
  · rintro (h | h | h)
    · exact .inl h
    · exact .inr (.inl h)
    · exact absurd h own_nil
theorem Rl.frame {N : List Str} (R : Rl K F m ⟨[], S⟩ [] H) (r : Rps' K F m ⟨[], S⟩ [] H vs args) : Rl K F m (frame N.length args S) (L2.start N vs) H where
  len := by
    unfold Pyx.frame L2.start
    simp only [List.length_append, List.length_map, List.length_replicate, r.length]
  slot := fun i v e => by
    unfold Pyx.frame at e
    simp only at e
    rw [List.getElem?_append] at e
    split at e
    · rename_i hi
      rw [List.length_map] at hi
      rw [List.getElem?_map] at e
      cases q : args[i]? with
      | none => rw [q] at e; cases e
      | some w =>
        rw [q] at e; cases e
        obtain ⟨x, e1, r1⟩ := r.get q
        refine ⟨x, ?_, r1.keep (KeepR.hot fun p h => frame_hot.mp h)⟩
        unfold L2.start
        rw [List.getElem?_append_left (by rw [List.length_map, r.length]; exact hi), List.getElem?_map, e1]
        rfl
    · rw [List.getElem?_replicate] at e
      split at e <;> cases e
  own := fun i xs e => absurd e frame_noOwn
  inj := fun i j xs ys p e => absurd e frame_noOwn
  mlen := R.mlen
  obj := fun n o p e1 e2 => (R.obj n o p e1 e2).keep (KeepR.hot fun p h => frame_hot.mp h) rfl
  mnd := R.mnd
  mF := R.mF
  FH := R.FH
  tbs := R.tbs
/-- the frame is left: its own lists are forgotten -/
theorem Rl.exit {m' : List Addr} {a a' : AS} {σ σ' : L2.St} {H' : Hp} (R : Rl K F m' a' σ' H') (s : Stp m a σ H m' a' σ' H') (no : ∀ p, ¬ Own a.ρ σ p) :
    Rl K F m' ⟨[], a'.S⟩ [] H' ∧ Stp m ⟨[], a.S⟩ [] H m' ⟨[], a'.S⟩ [] H' ∧ ∀ x v, Rp' K F m' a' σ' H' x v → Rp' K F m' ⟨[], a'.S⟩ [] H' x v := by
  have hk : KeepR K H' H' (hotOf F m' a' σ') (hotOf F m' ⟨[], a'.S⟩ []) m' m' := KeepR.hot fun p h => by
    rcases h with h | h | h
    · exact .inl h
    · exact .inr (.inl h)
    · exact absurd h own_nil
  refine ⟨⟨rfl, fun i v e => by simp at e, fun i v e => by simp at e, fun i j v w p e => by simp at e, R.mlen, fun n o p e1 e2 => (R.obj n o p e1 e2).keep hk rfl, R.mnd, R.mF, R.FH, R.tbs⟩, ⟨s.pre, fun b o e n nt => s.keep b o e (fun h => h.elim (fun h => n (.inl h)) (no b)) nt, s.dom, fun b h => ?_⟩, fun x v r => r.keep hk⟩
  rcases h with h | h
  · rcases s.locs b (.inl h) with h | h
    · rcases h with h | h
      · exact .inl (.inl h)
      · exact absurd h (no b)
    · exact .inr h
  · exact absurd h own_nil
end
/-- a def of the text as the compiler is given it -/
structure DD where
  name : Str
  ps : List Str
  N : List Str
  args : Arguments
  body : List Stmt
  scope : Scope
  marks : List ((Nat × Nat) × Nat)
  gx : Bool := false
  qds : List (Str × (AV → Option AV)) := []
def DD.cc (D : DD) (defs : List (Str × Nat)) (consts : List (Str × AV)) : CC := ⟨D.N, D.scope.names, fun _ => true, D.marks, defs, consts, D.gx, D.qds⟩
def DD.comp (W n : Nat) (defs : List (Str × Nat)) (consts : List (Str × AV)) (D : DD) : Option DfE := (cB W n (D.cc defs consts) D.body).map fun b => ⟨D.ps.length, D.N.length, b⟩
/-- the table of a text -/
def tabOf (W n : Nat) (defs : List (Str × Nat)) (consts : List (Str × AV)) : List DD → Option (List (Str × DfE))
  | [] => some []
  | D :: r => (D.comp W n defs consts).bind fun e => (tabOf W n defs consts r).map fun t => (D.name, e) :: t
theorem tab_get {W n : Nat} {defs : List (Str × Nat)} {consts : List (Str × AV)} : ∀ {Ds : List DD} {T : List (Str × DfE)}, tabOf W n defs consts Ds = some T → (Ds.map (·.name)).Nodup → ∀ D ∈ Ds, ∃ b, cB W n (D.cc defs consts) D.body = some b ∧ T.lookup D.name = some ⟨D.ps.length, D.N.length, b⟩
  | [], T, h, _, _, hD => by cases hD
  | D :: r, T, h, hn, D', hD => by
    obtain ⟨e1, h1, h2⟩ := Option.bind_eq_some_iff.mp h
    obtain ⟨t, h3, h4⟩ := Option.map_eq_some_iff.mp h2
    subst h4
    rw [List.map_cons, List.nodup_cons] at hn
    rcases List.mem_cons.mp hD with rfl | hD
    · obtain ⟨b, h5, h6⟩ := Option.map_eq_some_iff.mp h1
      subst h6
      exact ⟨b, h5, by rw [List.lookup_cons]; simp⟩
    · obtain ⟨b, h5, h6⟩ := tab_get h3 hn.2 D' hD
      refine ⟨b, h5, ?_⟩
      rw [List.lookup_cons]
      have : (D'.name == D.name) = false := by
        rw [beq_eq_false_iff_ne]
        intro e
        exact hn.1 (List.mem_map.mpr ⟨D', hD, e⟩)
      rw [this]
      exact h6
/-- what stands behind the top for a def -/
structure Stands (K : PySem.W.Frag) (mg : Str → Option Value) (D : DD) : Prop where
  ex : ∃ (f : Addr) (fd : FuncData), mg D.name = some (.ref f) ∧ FunD K D.name D.name D.args D.body D.scope [] [] f fd ∧ Binds K fd D.ps []
  sc : FnScope D.N D.ps D.scope
/-- what stands behind the top, all together -/
structure Top (K : PySem.W.Frag) (mg : Str → Option Value) (Ds : List DD) (defs : List (Str × Nat)) (consts : List (Str × AV)) : Prop where
  fns : ∀ D ∈ Ds, Stands K mg D
  defs : ∀ p ∈ defs, ∃ D ∈ Ds, D.name = p.1 ∧ D.ps.length = p.2
  blt : ∀ x ∈ bltNames, mg x = none
  con : ∀ p ∈ consts, ∃ u xv, mg p.1 = some u ∧ RelV xv u ∧ ConV K xv p.2
/-- a quiet def among the defs -/
def QdOk (Ds : List DD) (p : Str × (AV → Option AV)) : Prop :=
  ∃ D ∈ Ds, ∃ (y : Str) (eb : Expr) (pr : Pos), D.name = p.1 ∧ D.ps = [y] ∧ D.body = [.Return (some eb) pr] ∧ D.scope.names.lookup y = some .local ∧ okName y = true ∧ (∀ z ∈ D.scope.names, z.2 ≠ .cell) ∧ cQ D.scope.names [] y 20 eb = some p.2
/-- what stands for the generator expressions -/
structure GxUp (K : PySem.W.Frag) (mg : Str → Option Value) (base : Heap) (Ds : List DD) : Prop where
  tab : ∀ D ∈ Ds, D.gx = true → ∀ (f : Addr) (fd : FuncData), FunD K D.name D.name D.args D.body D.scope [] [] f fd → ∃ c P, fd.code = .ref c ∧ (c, P) ∈ tabsP K ∧ GxR.TabB base mg c P
  qds : ∀ D ∈ Ds, ∀ p ∈ D.qds, QdOk Ds p
theorem GxUp.none {K : PySem.W.Frag} {mg : Str → Option Value} {base : Heap} {Ds : List DD} (h : ∀ D ∈ Ds, D.gx = false ∧ D.qds = []) : GxUp K mg base Ds :=
  ⟨fun D hD e => (by rw [(h D hD).1] at e; cases e), fun D hD p hp => (by rw [(h D hD).2] at hp; cases hp)⟩
section
variable {P : Program} {w : World} {K : PySem.W.Frag} {mg : Str → Option Value} {base : Heap} {Ds : List DD} {defs : List (Str × Nat)} {consts : List (Str × AV)} {W n : Nat} {T : List (Str × DfE)}
theorem qdf_of (tp : Top K mg Ds defs consts) {X : Cx} (h1 : X.K = K) (h2 : X.mg = mg) {p : Str × (AV → Option AV)} (h : QdOk Ds p) : QDf X 0 p.1 p.2 := by
  obtain ⟨D, hD, y, eb, pr, n1, n2, n3, n4, n5, n6, n7⟩ := h
  obtain ⟨f, fd, q1, q2, q3⟩ := (tp.fns D hD).ex
  have S := (tp.fns D hD).sc
  subst h1 h2
  refine ⟨f, fd, y, eb, D.args, D.scope, pr, by rw [← n1]; exact q1, by rw [← n1, ← n3]; exact q2, by rw [← n2]; exact q3, S.kind, S.co, S.gen, n4, n6, ?_⟩
  exact cQ_gen (qds := []) (fun p hp => by cases hp) S.kind n4 n5 n7
theorem fn_ok (tp : Top K mg Ds defs consts) (gu : GxUp K mg base Ds) (hT : tabOf W n defs consts Ds = some T) (nd : (Ds.map (·.name)).Nodup) : ∀ (d : Nat) (D : DD), D ∈ Ds → ∀ (f : Addr) (fd : FuncData), FunD K D.name D.name D.args D.body D.scope [] [] f fd →
    FnOk P w K mg base CX0 (d + 2) f fd D.ps (spG K (lvl T d) D.name D.ps.length)
  | 0, D, hD, f, fd, F => by
    refine ⟨fun vs H Q E h => h.1, fun A outer s H args us vs Q E hr he hb hv hs => ?_⟩
    obtain ⟨_, _, _, _, _, _, _, _, e, _⟩ := hs
    cases e
  | d + 1, D, hD, f, fd, F => by
    have gt := gu.tab D hD
    obtain ⟨oc, od, dV, kV, doc, pm, an, cdv, ct, osl, rfl, lk, hcd, _, _⟩ := F.ex
    refine fn_of lk hcd (tp.fns D hD).sc (fun vs H Q E h => h.1) fun A outer s H vs Q E hr h => ?_
    obtain ⟨hl, F0, m, S, args, r, R, ra, e, k⟩ := h
    obtain ⟨e1, h1, h2⟩ := Option.bind_eq_some_iff.mp (show ((T.lookup D.name).bind fun e => runD e (lvl T d) args S) = some r from e)
    obtain ⟨b, h3, h4⟩ := tab_get hT nd D hD
    rw [h1] at h4
    cases h4
    have h2' : (if args.length = D.ps.length then (b (lvl T d) (frame D.N.length args S)).bind outV else none) = some r := h2
    split at h2'
    · rename_i hal
      obtain ⟨o, h5, h6⟩ := Option.bind_eq_some_iff.mp h2'
      have g : Good (lvl T d) (d + 2) (D.cc defs consts) (cxOf CX0 P w K mg base D.N D.name D.scope f cdv A outer s H E).nox := by
        refine ⟨rfl, rfl, rfl, (tp.fns D hD).sc.nd, (tp.fns D hD).sc.kind, rfl, fun _ _ => rfl, hr, tp.blt, fun p hp => ?_, tp.con, Nat.le_add_left 2 d, fun hg => ?_, fun p hp => qdf_of tp rfl rfl (gu.qds D hD p hp)⟩
        · obtain ⟨D', hD', n1, n2⟩ := tp.defs p hp
          obtain ⟨f', fd', q1, q2, q3⟩ := (tp.fns D' hD').ex
          obtain ⟨b', q4, q5⟩ := tab_get hT nd D' hD'
          refine ⟨⟨f', fd', D'.ps, by rw [← n1]; exact q1, q2.kp, q3, ?_⟩, fun as S r hr => ?_⟩
          · rw [← n1, ← n2]
            exact fn_ok tp gu hT nd d D' hD' f' fd' q2
          · rw [← n1] at hr
            rw [← n2]
            exact lvl_len q5 hr
        · obtain ⟨c, P', t1, t2, t3⟩ := gt hg f _ F
          exact ⟨c, P', t1, t2, t3⟩
      refine ⟨tS K F0 (lvl T d) b, PSs.nox ((sndS (lvl T d) (d + 2) W n).b g rfl h3), ?_⟩
      obtain ⟨o, a'⟩ := o
      refine ⟨m, _, (o, a'), R.frame ra, h5, ?_⟩
      cases o with
      | nx =>
        cases h6
        intro σ' H' m' R' s'
        obtain ⟨a1, a2, a3⟩ := R'.exit s' fun p => frame_own
        exact k _ H' m' a1 a2 .non
      | rt v =>
        cases h6
        intro x σ' H' m' R' s' rx
        obtain ⟨a1, a2, a3⟩ := R'.exit s' fun p => frame_own
        exact k _ H' m' a1 a2 (a3 _ _ rx)
      | bk => cases h6
      | ct => cases h6
    · cases h2'
end
end Pyx
end
section
set_option maxRecDepth 100000
namespace Pyx
open PySem PySem.Spec PyProof.Rows L2
abbrev opLt : Op2 := opI fun i j => decide (i < j)
abbrev opLe : Op2 := opI fun i j => decide (i ≤ j)
abbrev opGt : Op2 := opI fun i j => decide (j < i)
abbrev opGe : Op2 := opI fun i j => decide (j ≤ i)

/-! ### the evaluator, stepped by rewriting: each continuation has a name, so nothing is looked at before its turn -/
section
variable {G : Gm} {a : AS} {ρ : List (Option Slt)} {S : List SObj} {i n : Nat} {v w : AV} {xs ys : List AV} {f f' : Op2} {oa ob oc : MO} {e e' : ME} {c c' : MT} {s t : MS} {h h' : Hd} {b : Bool} {r : AV × AS} {q : Hd × AS}
-- results
def kV (a : AS) : Option AV → Option (AV × AS)
  | some v => some (v, a)
  | none => none
@[simp] theorem kV_s : kV a (some v) = some (v, a) := rfl
-- names
def kO (i : Nat) (a : AS) : Option (Option Slt) → Option (Hd × AS)
  | some (some _) => some (.slot i, a)
  | _ => none
@[simp] theorem oVar_ev : oVar i G ⟨ρ, S⟩ = kO i ⟨ρ, S⟩ ρ[i]? := by
  show (match ρ[i]? with | some (some _) => some (Hd.slot i, (⟨ρ, S⟩ : AS)) | _ => none) = _
  unfold kO
  split <;> rfl
@[simp] theorem kO_s {x : Slt} : kO i a (some (some x)) = some (.slot i, a) := rfl
def kE (i : Nat) (a : AS) : Option (Option Slt) → Option (AV × AS)
  | some (some (.val v)) => some (v, a)
  | some (some (.own xs)) => some (.lst xs, a.frz i xs)
  | _ => none
@[simp] theorem eVar_ev : eVar i G ⟨ρ, S⟩ = kE i ⟨ρ, S⟩ ρ[i]? := by
  show (match ρ[i]? with | some (some (.val v)) => some (v, (⟨ρ, S⟩ : AS)) | some (some (.own xs)) => some (.lst xs, AS.frz ⟨ρ, S⟩ i xs) | _ => none) = _
  unfold kE
  split <;> rfl
@[simp] theorem kE_v : kE i a (some (some (.val v))) = some (v, a) := rfl
@[simp] theorem kE_o : kE i a (some (some (.own xs))) = some (.lst xs, a.frz i xs) := rfl
@[simp] theorem put_mk : AS.put ⟨ρ, S⟩ i v = ⟨ρ.set i (some (.val v)), S⟩ := rfl
@[simp] theorem frz_mk : AS.frz ⟨ρ, S⟩ i xs = ⟨ρ.set i (some (.val (.lst xs))), S⟩ := rfl
@[simp] theorem drop_mk : AS.drop ⟨ρ, S⟩ i = ⟨ρ.set i none, S⟩ := rfl
@[simp] theorem putOwn_mk : AS.putOwn ⟨ρ, S⟩ i xs = ⟨ρ.set i (some (.own xs)), S⟩ := rfl
@[simp] theorem setS_mk {o : SObj} : AS.setS ⟨ρ, S⟩ i o = ⟨ρ, S.set i o⟩ := rfl
@[simp] theorem lay_mk {o : SObj} : AS.lay ⟨ρ, S⟩ o = ⟨ρ, S ++ [o]⟩ := rfl
@[simp] theorem wS_mk {S' : List SObj} : AS.wS ⟨ρ, S⟩ S' = ⟨ρ, S'⟩ := rfl
-- contents
@[simp] theorem cont_slot : cont ⟨ρ, S⟩ (.slot i) = slotV S ρ[i]? := rfl
@[simp] theorem cont_val : cont ⟨ρ, S⟩ (.val v) = some (res S v) := rfl
@[simp] theorem slotV_v : slotV S (some (some (.val v))) = some (res S v) := rfl
@[simp] theorem slotV_o : slotV S (some (some (.own xs))) = some (.lst xs) := rfl
@[simp] theorem res_non : res S .non = .non := rfl
@[simp] theorem res_bl : res S (.bl b) = .bl b := rfl
@[simp] theorem res_int {i : Int} : res S (.int i) = .int i := rfl
@[simp] theorem res_str {z : Str} : res S (.str z) = .str z := rfl
@[simp] theorem res_tup : res S (.tup xs) = .tup xs := rfl
@[simp] theorem res_lst : res S (.lst xs) = .lst xs := rfl
@[simp] theorem res_ref : res S (.ref n) = resL n S[n]? := rfl
@[simp] theorem resL_l : resL n (some (.lst xs)) = .lst xs := rfl
@[simp] theorem resL_d {kvs : List (Str × AV)} : resL n (some (.dic kvs)) = .ref n := rfl
theorem res_nr (h : v.nr = true) : res S v = v := by cases v <;> first | rfl | cases h
-- values
def kH : Option (AV × AS) → Option (Hd × AS)
  | some r => some (.val r.1, r.2)
  | none => none
@[simp] theorem oE_ev : oE e G a = kH (e G a) := by show (e G a).map _ = _; cases e G a <;> rfl
@[simp] theorem kH_s : kH (some (v, a)) = some (.val v, a) := rfl
@[simp] theorem eCon_ev : eCon v G a = some (v, a) := rfl
def kB1 (f : Op2) (ob : MO) (G : Gm) : Option (Hd × AS) → Option (AV × AS)
  | some r => (ob G r.2).bind fun r2 => (cont r2.2 r.1).bind fun x => (cont r2.2 r2.1).bind fun y => (f r2.2.S x y).map fun v => (v, r2.2)
  | none => none
def kB2 (f : Op2) (h : Hd) : Option (Hd × AS) → Option (AV × AS)
  | some r2 => (cont r2.2 h).bind fun x => (cont r2.2 r2.1).bind fun y => (f r2.2.S x y).map fun v => (v, r2.2)
  | none => none
def kB3 (f : Op2) (a : AS) : Option AV → Option AV → Option (AV × AS)
  | some x, some y => kV a (f a.S x y)
  | _, _ => none
@[simp] theorem eBin_ev : eBin f oa ob G a = kB1 f ob G (oa G a) := by show (oa G a).bind _ = _; cases oa G a <;> rfl
@[simp] theorem kB1_s : kB1 f ob G (some (h, a)) = kB2 f h (ob G a) := by show (ob G a).bind _ = _; cases ob G a <;> rfl
@[simp] theorem kB2_s : kB2 f h (some (h', ⟨ρ, S⟩)) = kB3 f ⟨ρ, S⟩ (cont ⟨ρ, S⟩ h) (cont ⟨ρ, S⟩ h') := by
  show (cont (⟨ρ, S⟩ : AS) h).bind _ = _
  cases cont (⟨ρ, S⟩ : AS) h with
  | none => rfl
  | some x =>
    show (cont (⟨ρ, S⟩ : AS) h').bind _ = _
    cases cont (⟨ρ, S⟩ : AS) h' with
    | none => rfl
    | some y => show (f S x y).map _ = kV _ (f S x y); cases f S x y <;> rfl
@[simp] theorem kB3_s : kB3 f ⟨ρ, S⟩ (some v) (some w) = kV ⟨ρ, S⟩ (f S v w) := rfl
def kC3 (f' : Op2) (oc : MO) (G : Gm) (h' : Hd) (a : AS) : Option AV → Option (AV × AS)
  | some (.bl true) => (oc G a).bind fun r3 => (cont r3.2 h').bind fun y' => (cont r3.2 r3.1).bind fun z => (f' r3.2.S y' z).map fun w => (w, r3.2)
  | some (.bl false) => some (.bl false, a)
  | _ => none
def kC2 (f f' : Op2) (oc : MO) (G : Gm) (h h' : Hd) (a : AS) : Option AV → Option AV → Option (AV × AS)
  | some x, some y => kC3 f' oc G h' a (f a.S x y)
  | _, _ => none
def kC1 (f f' : Op2) (oc : MO) (G : Gm) (h : Hd) : Option (Hd × AS) → Option (AV × AS)
  | some r2 => kC2 f f' oc G h r2.1 r2.2 (cont r2.2 h) (cont r2.2 r2.1)
  | none => none
def kC0 (f f' : Op2) (ob oc : MO) (G : Gm) : Option (Hd × AS) → Option (AV × AS)
  | some r1 => kC1 f f' oc G r1.1 (ob G r1.2)
  | none => none
@[simp] theorem eChain_ev : eChain f f' oa ob oc G a = kC0 f f' ob oc G (oa G a) := by
  show (oa G a).bind _ = _
  cases oa G a with
  | none => rfl
  | some r1 =>
    show (ob G r1.2).bind _ = kC1 f f' oc G r1.1 (ob G r1.2)
    cases ob G r1.2 with
    | none => rfl
    | some r2 =>
      show (cont r2.2 r1.1).bind _ = kC2 f f' oc G r1.1 r2.1 r2.2 (cont r2.2 r1.1) (cont r2.2 r2.1)
      cases cont r2.2 r1.1 with
      | none => rfl
      | some x =>
        show (cont r2.2 r2.1).bind _ = _
        cases cont r2.2 r2.1 with
        | none => rfl
        | some y =>
          show (f r2.2.S x y).bind _ = kC3 f' oc G r2.1 r2.2 (f r2.2.S x y)
          cases f r2.2.S x y with
          | none => rfl
          | some v => cases v <;> first | rfl | (rename_i b; cases b <;> rfl)
@[simp] theorem kC0_s : kC0 f f' ob oc G (some (h, a)) = kC1 f f' oc G h (ob G a) := rfl
@[simp] theorem kC1_s : kC1 f f' oc G h (some (h', ⟨ρ, S⟩)) = kC2 f f' oc G h h' ⟨ρ, S⟩ (cont ⟨ρ, S⟩ h) (cont ⟨ρ, S⟩ h') := rfl
@[simp] theorem kC2_s : kC2 f f' oc G h h' ⟨ρ, S⟩ (some v) (some w) = kC3 f' oc G h' ⟨ρ, S⟩ (f S v w) := rfl
@[simp] theorem kC3_t : kC3 f' oc G h' a (some (.bl true)) = kB2 f' h' (oc G a) := by show (oc G a).bind _ = _; cases oc G a <;> rfl
@[simp] theorem kC3_f : kC3 f' oc G h' a (some (.bl false)) = some (.bl false, a) := rfl
@[simp] theorem kC3_d {P : Prop} [Decidable P] : kC3 f' oc G h' a (some (.bl (decide P))) = if P then kB2 f' h' (oc G a) else some (.bl false, a) := by
  by_cases p : P <;> simp [p]
-- truth
def kM : Option (AV × AS) → Option (Bool × AS)
  | some (.bl b, a) => some (b, a)
  | _ => none
@[simp] theorem mBool_ev : mBool e G a = kM (e G a) := by
  show (e G a).bind _ = _
  cases e G a with
  | none => rfl
  | some r => obtain ⟨v, a⟩ := r; cases v <;> rfl
@[simp] theorem kM_s : kM (some (.bl b, a)) = some (b, a) := rfl
def kT1 : Option (Hd × AS) → Option (Bool × AS)
  | some r => (cont r.2 r.1).bind fun c => (truV r.2.S c).map fun b => (b, r.2)
  | none => none
def kT2 (a : AS) : Option Bool → Option (Bool × AS)
  | some b => some (b, a)
  | none => none
def kT3 (a : AS) : Option AV → Option (Bool × AS)
  | some v => kT2 a (truV a.S v)
  | none => none
@[simp] theorem mTru_ev : mTru oa G a = kT1 (oa G a) := by show (oa G a).bind _ = _; cases oa G a <;> rfl
@[simp] theorem kT1_s : kT1 (some (h, ⟨ρ, S⟩)) = kT3 ⟨ρ, S⟩ (cont ⟨ρ, S⟩ h) := by
  show (cont (⟨ρ, S⟩ : AS) h).bind _ = _
  cases cont (⟨ρ, S⟩ : AS) h with
  | none => rfl
  | some v => show (truV S v).map _ = kT2 _ (truV S v); cases truV S v <;> rfl
@[simp] theorem kT3_s : kT3 ⟨ρ, S⟩ (some v) = kT2 ⟨ρ, S⟩ (truV S v) := rfl
@[simp] theorem kT2_s : kT2 a (some b) = some (b, a) := rfl
@[simp] theorem truV_non : truV S .non = some false := rfl
@[simp] theorem truV_bl : truV S (.bl b) = some b := rfl
@[simp] theorem truV_int {i : Int} : truV S (.int i) = some (i != 0) := rfl
@[simp] theorem truV_tup : truV S (.tup xs) = some (!xs.isEmpty) := rfl
@[simp] theorem truV_lst : truV S (.lst xs) = some (!xs.isEmpty) := rfl
def kAn (e : ME) (G : Gm) : Option (AV × AS) → Option (AV × AS)
  | some (.bl true, a) => e G a
  | some (.bl false, a) => some (.bl false, a)
  | _ => none
@[simp] theorem eAnd_ev : eAnd e e' G a = kAn e' G (e G a) := by
  show (e G a).bind _ = _
  cases e G a with
  | none => rfl
  | some r => obtain ⟨v, a⟩ := r; cases v <;> first | rfl | (rename_i b; cases b <;> rfl)
@[simp] theorem kAn_t : kAn e G (some (.bl true, a)) = e G a := rfl
@[simp] theorem kAn_f : kAn e G (some (.bl false, a)) = some (.bl false, a) := rfl
@[simp] theorem kAn_d {P : Prop} [Decidable P] : kAn e G (some (.bl (decide P), a)) = if P then e G a else some (.bl false, a) := by by_cases p : P <;> simp [p]
def kOr (e : ME) (G : Gm) : Option (AV × AS) → Option (AV × AS)
  | some (.bl false, a) => e G a
  | some (.bl true, a) => some (.bl true, a)
  | _ => none
@[simp] theorem eOr_ev : eOr e e' G a = kOr e' G (e G a) := by
  show (e G a).bind _ = _
  cases e G a with
  | none => rfl
  | some r => obtain ⟨v, a⟩ := r; cases v <;> first | rfl | (rename_i b; cases b <;> rfl)
@[simp] theorem kOr_t : kOr e G (some (.bl true, a)) = some (.bl true, a) := rfl
@[simp] theorem kOr_f : kOr e G (some (.bl false, a)) = e G a := rfl
@[simp] theorem kOr_d {P : Prop} [Decidable P] : kOr e G (some (.bl (decide P), a)) = if P then some (.bl true, a) else e G a := by by_cases p : P <;> simp [p]
def kNo : Option (AV × AS) → Option (AV × AS)
  | some (.bl b, a) => some (.bl (!b), a)
  | _ => none
@[simp] theorem eNot_ev : eNot e G a = kNo (e G a) := by
  show (e G a).bind _ = _
  cases e G a with
  | none => rfl
  | some r => obtain ⟨v, a⟩ := r; cases v <;> rfl
@[simp] theorem kNo_s : kNo (some (.bl b, a)) = some (.bl (!b), a) := rfl
def kMA (c : MT) (G : Gm) : Option (Bool × AS) → Option (Bool × AS)
  | some (true, a) => c G a
  | some (false, a) => some (false, a)
  | none => none
@[simp] theorem mAnd_ev : mAnd c c' G a = kMA c' G (c G a) := by
  show (c G a).bind _ = _
  cases c G a with
  | none => rfl
  | some r => obtain ⟨v, a⟩ := r; cases v <;> rfl
@[simp] theorem kMA_t : kMA c G (some (true, a)) = c G a := rfl
@[simp] theorem kMA_f : kMA c G (some (false, a)) = some (false, a) := rfl
@[simp] theorem kMA_d {P : Prop} [Decidable P] : kMA c G (some (decide P, a)) = if P then c G a else some (false, a) := by by_cases p : P <;> simp [p]
def kMO (c : MT) (G : Gm) : Option (Bool × AS) → Option (Bool × AS)
  | some (false, a) => c G a
  | some (true, a) => some (true, a)
  | none => none
@[simp] theorem mOr_ev : mOr c c' G a = kMO c' G (c G a) := by
  show (c G a).bind _ = _
  cases c G a with
  | none => rfl
  | some r => obtain ⟨v, a⟩ := r; cases v <;> rfl
@[simp] theorem kMO_t : kMO c G (some (true, a)) = some (true, a) := rfl
@[simp] theorem kMO_f : kMO c G (some (false, a)) = c G a := rfl
@[simp] theorem kMO_d {P : Prop} [Decidable P] : kMO c G (some (decide P, a)) = if P then some (true, a) else c G a := by by_cases p : P <;> simp [p]
def kMN : Option (Bool × AS) → Option (Bool × AS)
  | some (b, a) => some (!b, a)
  | none => none
@[simp] theorem mNot_ev : mNot c G a = kMN (c G a) := by
  show (c G a).map _ = _
  cases c G a with
  | none => rfl
  | some r => rfl
@[simp] theorem kMN_s : kMN (some (b, a)) = some (!b, a) := rfl
@[simp] theorem mTrue_ev : mTrue G a = some (true, a) := rfl
def kIt (e e' : ME) (G : Gm) : Option (Bool × AS) → Option (AV × AS)
  | some (true, a) => e G a
  | some (false, a) => e' G a
  | none => none
@[simp] theorem eIte_ev : eIte c e e' G a = kIt e e' G (c G a) := by
  show (c G a).bind _ = _
  cases c G a with
  | none => rfl
  | some r => obtain ⟨v, a⟩ := r; cases v <;> rfl
@[simp] theorem kIt_t : kIt e e' G (some (true, a)) = e G a := rfl
@[simp] theorem kIt_f : kIt e e' G (some (false, a)) = e' G a := rfl
@[simp] theorem kIt_d {P : Prop} [Decidable P] : kIt e e' G (some (decide P, a)) = if P then e G a else e' G a := by by_cases p : P <;> simp [p]
-- lists of arguments
def kA1 (t : MAs) (G : Gm) : Option (AV × AS) → Option (List AV × AS)
  | some r => (t G r.2).map fun q => (r.1 :: q.1, q.2)
  | none => none
def kA2 (v : AV) : Option (List AV × AS) → Option (List AV × AS)
  | some q => some (v :: q.1, q.2)
  | none => none
@[simp] theorem aNil_ev : aNil G a = some ([], a) := rfl
@[simp] theorem aCons_ev {t : MAs} : aCons e t G a = kA1 t G (e G a) := by show (e G a).bind _ = _; cases e G a <;> rfl
@[simp] theorem kA1_s {t : MAs} : kA1 t G (some (v, a)) = kA2 v (t G a) := by show (t G a).map _ = _; cases t G a <;> rfl
@[simp] theorem kA2_s : kA2 v (some (xs, a)) = some (v :: xs, a) := rfl
def kS1 (t : MOs) (G : Gm) : Option (Hd × AS) → Option (List Hd × AS)
  | some r => (t G r.2).map fun q => (r.1 :: q.1, q.2)
  | none => none
def kS2 (v : Hd) : Option (List Hd × AS) → Option (List Hd × AS)
  | some q => some (v :: q.1, q.2)
  | none => none
@[simp] theorem osNil_ev : osNil G a = some ([], a) := rfl
@[simp] theorem osCons_ev {t : MOs} : osCons oa t G a = kS1 t G (oa G a) := by show (oa G a).bind _ = _; cases oa G a <;> rfl
@[simp] theorem kS1_s {t : MOs} : kS1 t G (some (h, a)) = kS2 h (t G a) := by show (t G a).map _ = _; cases t G a <;> rfl
@[simp] theorem kS2_s {hs : List Hd} : kS2 h (some (hs, a)) = some (h :: hs, a) := rfl
def kTu : Option (List AV × AS) → Option (AV × AS)
  | some r => if r.1.length ≤ sizeLine then some (.tup r.1, r.2) else none
  | none => none
@[simp] theorem eTup_ev {t : MAs} : eTup t G a = kTu (t G a) := by show (t G a).bind _ = _; cases t G a <;> rfl
theorem kTu_s' (h : xs.length ≤ sizeLine) : kTu (some (xs, a)) = some (.tup xs, a) := if_pos h
theorem le_sl {n : Nat} (h : n ≤ 100000) : n ≤ sizeLine := Nat.le_trans h (by decide)
@[simp] theorem kTu_s (h : xs.length ≤ 100000) : kTu (some (xs, a)) = some (.tup xs, a) := if_pos (le_sl h)
def kFz : Option (List AV × AS) → Option (AV × AS)
  | some r => some (.lst r.1, r.2)
  | none => none
@[simp] theorem eFrz_ev {t : MAs} : eFrz t G a = kFz (t G a) := by show (t G a).map _ = _; cases t G a <;> rfl
@[simp] theorem kFz_s : kFz (some (xs, a)) = some (.lst xs, a) := rfl
def kLy : Option (List AV × AS) → Option (AV × AS)
  | some r => some (.ref r.2.S.length, r.2.lay (.lst r.1))
  | none => none
@[simp] theorem eLay_ev {t : MAs} : eLay t G a = kLy (t G a) := by show (t G a).map _ = _; cases t G a <;> rfl
@[simp] theorem kLy_s : kLy (some (xs, ⟨ρ, S⟩)) = some (.ref S.length, ⟨ρ, S ++ [.lst xs]⟩) := rfl
def kFL : Option (List AV × AS) → Option (List AV × AS)
  | some r => if r.1.length ≤ sizeLine then some r else none
  | none => none
@[simp] theorem fLst_ev {t : MAs} : fLst t G a = kFL (t G a) := by show (t G a).bind _ = _; cases t G a <;> rfl
@[simp] theorem kFL_s (h : xs.length ≤ 100000) : kFL (some (xs, a)) = some (xs, a) := if_pos (le_sl h)
-- slices
@[simp] theorem pNone_ev : pNone G a = some (none, a) := rfl
def kP : Option (AV × AS) → Option (Option Int × AS)
  | some (.int i, a) => some (some i, a)
  | _ => none
@[simp] theorem pSome_ev : pSome e G a = kP (e G a) := by
  show (e G a).bind _ = _
  cases e G a with
  | none => rfl
  | some r => obtain ⟨v, a⟩ := r; cases v <;> rfl
@[simp] theorem kP_s {i : Int} : kP (some (.int i, a)) = some (some i, a) := rfl
def kL1 (lo hi : MP) (G : Gm) : Option (Hd × AS) → Option (AV × AS)
  | some r => (lo G r.2).bind fun r1 => (hi G r1.2).bind fun r2 => (cont r2.2 r.1).bind fun c => (slF c r1.1 r2.1).map fun v => (v, r2.2)
  | none => none
def kL2 (hi : MP) (G : Gm) (h : Hd) : Option (Option Int × AS) → Option (AV × AS)
  | some r1 => (hi G r1.2).bind fun r2 => (cont r2.2 h).bind fun c => (slF c r1.1 r2.1).map fun v => (v, r2.2)
  | none => none
def kL3 (h : Hd) (lo : Option Int) : Option (Option Int × AS) → Option (AV × AS)
  | some r2 => (cont r2.2 h).bind fun c => (slF c lo r2.1).map fun v => (v, r2.2)
  | none => none
def kL4 (lo hi : Option Int) (a : AS) : Option AV → Option (AV × AS)
  | some c => kV a (slF c lo hi)
  | none => none
@[simp] theorem eSl_ev {lo hi : MP} : eSl oa lo hi G a = kL1 lo hi G (oa G a) := by show (oa G a).bind _ = _; cases oa G a <;> rfl
@[simp] theorem kL1_s {lo hi : MP} : kL1 lo hi G (some (h, a)) = kL2 hi G h (lo G a) := by show (lo G a).bind _ = _; cases lo G a <;> rfl
@[simp] theorem kL2_s {hi : MP} {x : Option Int} : kL2 hi G h (some (x, a)) = kL3 h x (hi G a) := by show (hi G a).bind _ = _; cases hi G a <;> rfl
@[simp] theorem kL3_s {x y : Option Int} : kL3 h x (some (y, ⟨ρ, S⟩)) = kL4 x y ⟨ρ, S⟩ (cont ⟨ρ, S⟩ h) := by
  show (cont (⟨ρ, S⟩ : AS) h).bind _ = _
  cases cont (⟨ρ, S⟩ : AS) h with
  | none => rfl
  | some c => show (slF c x y).map _ = kV _ (slF c x y); cases slF c x y <;> rfl
@[simp] theorem kL4_s {x y : Option Int} : kL4 x y a (some v) = kV a (slF v x y) := rfl
@[simp] theorem slF_tup {x y : Option Int} : slF (.tup xs) x y = some (.tup (cutA xs x y)) := rfl
@[simp] theorem slF_lst {x y : Option Int} : slF (.lst xs) x y = some (.lst (cutA xs x y)) := rfl
-- built-ins
@[simp] theorem conts_nil : conts a [] = some [] := rfl
def kCs (v : Option AV) : Option (List AV) → Option (List AV)
  | some vs => v.map (· :: vs)
  | none => none
theorem conts_cons {hs : List Hd} : conts a (h :: hs) = kCs (cont a h) (conts a hs) := by
  show (cont a h).bind _ = _
  cases cont a h with
  | none => cases conts a hs <;> rfl
  | some v => cases conts a hs <;> rfl
@[simp] theorem conts1 : conts a [h] = (cont a h).map fun v => [v] := by
  show (cont a h).bind _ = _
  cases cont a h <;> rfl
@[simp] theorem conts2 : conts a [h, h'] = kCs (cont a h) (conts a [h']) := conts_cons
@[simp] theorem kCs_s : kCs (some v) (some xs) = some (v :: xs) := rfl
def kBi1 (f : Bi) : Option (List Hd × AS) → Option (AV × AS)
  | some r => (conts r.2 r.1).bind fun cs => (f r.2.S cs).map fun v => (v, r.2)
  | none => none
def kBi2 (f : Bi) (a : AS) : Option (List AV) → Option (AV × AS)
  | some cs => kV a (f a.S cs)
  | none => none
@[simp] theorem eBi_ev {f : Bi} {os : MOs} : eBi f os G a = kBi1 f (os G a) := by show (os G a).bind _ = _; cases os G a <;> rfl
@[simp] theorem kBi1_s {f : Bi} {hs : List Hd} : kBi1 f (some (hs, ⟨ρ, S⟩)) = kBi2 f ⟨ρ, S⟩ (conts ⟨ρ, S⟩ hs) := by
  show (conts (⟨ρ, S⟩ : AS) hs).bind _ = _
  cases conts (⟨ρ, S⟩ : AS) hs with
  | none => rfl
  | some c => show (f S c).map _ = kV _ (f S c); cases f S c <;> rfl
@[simp] theorem kBi2_s {f : Bi} : kBi2 f ⟨ρ, S⟩ (some xs) = kV ⟨ρ, S⟩ (f S xs) := rfl
def kFV (a : AS) : Option (List AV) → Option (List AV × AS)
  | some v => some (v, a)
  | none => none
@[simp] theorem kFV_s : kFV a (some xs) = some (xs, a) := rfl
def kFi1 (f : BiF) : Option (List Hd × AS) → Option (List AV × AS)
  | some r => (conts r.2 r.1).bind fun cs => (f r.2.S cs).map fun v => (v, r.2)
  | none => none
def kFi2 (f : BiF) (a : AS) : Option (List AV) → Option (List AV × AS)
  | some cs => kFV a (f a.S cs)
  | none => none
@[simp] theorem fBi_ev {f : BiF} {os : MOs} : fBi f os G a = kFi1 f (os G a) := by show (os G a).bind _ = _; cases os G a <;> rfl
@[simp] theorem kFi1_s {f : BiF} {hs : List Hd} : kFi1 f (some (hs, ⟨ρ, S⟩)) = kFi2 f ⟨ρ, S⟩ (conts ⟨ρ, S⟩ hs) := by
  show (conts (⟨ρ, S⟩ : AS) hs).bind _ = _
  cases conts (⟨ρ, S⟩ : AS) hs with
  | none => rfl
  | some c => show (f S c).map _ = kFV _ (f S c); cases f S c <;> rfl
@[simp] theorem kFi2_s {f : BiF} : kFi2 f ⟨ρ, S⟩ (some xs) = kFV ⟨ρ, S⟩ (f S xs) := rfl
def kSS (a : AS) : Option AV → Option (List AV × AS)
  | some (.lst xs) => (asInts xs).bind fun ns => if ns.length < 64 then some ((ssI ns).map .int, a) else none
  | _ => none
def kSS1 : Option (Hd × AS) → Option (List AV × AS)
  | some r => kSS r.2 (cont r.2 r.1)
  | none => none
@[simp] theorem fSS_ev : fSS oa G a = kSS1 (oa G a) := by
  show (oa G a).bind _ = _
  cases oa G a with
  | none => rfl
  | some r =>
    show (cont r.2 r.1).bind _ = kSS r.2 (cont r.2 r.1)
    cases cont r.2 r.1 with
    | none => rfl
    | some c => cases c <;> rfl
@[simp] theorem kSS1_s : kSS1 (some (h, ⟨ρ, S⟩)) = kSS ⟨ρ, S⟩ (cont ⟨ρ, S⟩ h) := rfl
@[simp] theorem kSS_s {ns : List Int} (h : ns.length < 64) : kSS a (some (.lst (ns.map .int))) = some ((ssI ns).map .int, a) := by
  show ((asInts (ns.map AV.int)).bind _) = _
  rw [asInts_map]
  exact if_pos h
def kIs (T : String) (a : AS) : Option String → Option (AV × AS)
  | some t => some (.bl (isiB t T), a)
  | none => none
def kIs2 (T : String) (a : AS) : Option AV → Option (AV × AS)
  | some v => kIs T a (tyN v)
  | none => none
def kIs1 (T : String) : Option (Hd × AS) → Option (AV × AS)
  | some r => kIs2 T r.2 (cont r.2 r.1)
  | none => none
@[simp] theorem eIsi_ev {T : String} : eIsi T oa G a = kIs1 T (oa G a) := by
  show (oa G a).bind _ = _
  cases oa G a with
  | none => rfl
  | some r =>
    show (cont r.2 r.1).bind _ = kIs2 T r.2 (cont r.2 r.1)
    cases cont r.2 r.1 with
    | none => rfl
    | some c => show (tyN c).map _ = kIs T _ (tyN c); cases tyN c <;> rfl
@[simp] theorem kIs1_s {T : String} : kIs1 T (some (h, ⟨ρ, S⟩)) = kIs2 T ⟨ρ, S⟩ (cont ⟨ρ, S⟩ h) := rfl
@[simp] theorem kIs2_s {T : String} : kIs2 T a (some v) = kIs T a (tyN v) := rfl
@[simp] theorem kIs_s {T t : String} : kIs T a (some t) = some (.bl (isiB t T), a) := rfl
@[simp] theorem tyN_non : tyN .non = some "NoneType" := rfl
@[simp] theorem tyN_bl : tyN (.bl b) = some "bool" := rfl
@[simp] theorem tyN_int {i : Int} : tyN (.int i) = some "int" := rfl
@[simp] theorem tyN_str {z : Str} : tyN (.str z) = some "str" := rfl
@[simp] theorem tyN_tup : tyN (.tup xs) = some "tuple" := rfl
@[simp] theorem isiB_ev {t T : String} : isiB t T = (t == T || (t == "bool" && T == "int")) := rfl
def kN1 : Option (Hd × AS) → Option (AV × AS)
  | some r => (cont r.2 r.1).bind fun c => (opNeg r.2.S c).map fun v => (v, r.2)
  | none => none
@[simp] theorem eNeg_ev : eNeg oa G a = kN1 (oa G a) := by show (oa G a).bind _ = _; cases oa G a <;> rfl
def kN2 (a : AS) : Option AV → Option (AV × AS)
  | some v => kV a (opNeg a.S v)
  | none => none
@[simp] theorem kN1_s : kN1 (some (h, ⟨ρ, S⟩)) = kN2 ⟨ρ, S⟩ (cont ⟨ρ, S⟩ h) := by
  show (cont (⟨ρ, S⟩ : AS) h).bind _ = _
  cases cont (⟨ρ, S⟩ : AS) h with
  | none => rfl
  | some c => show (opNeg S c).map _ = kV _ (opNeg S c); cases opNeg S c <;> rfl
@[simp] theorem kN2_s {i : Int} : kN2 a (some (.int i)) = some (.int (-i), a) := rfl
-- calls
def kCa (x : Str) (G : Gm) : Option (List AV × AS) → Option (AV × AS)
  | some r => (G x r.1 r.2.S).map fun q => (q.1, r.2.wS q.2)
  | none => none
def kRt (ρ : List (Option Slt)) : Option (AV × List SObj) → Option (AV × AS)
  | some q => some (q.1, ⟨ρ, q.2⟩)
  | none => none
@[simp] theorem eCall_ev {x : Str} {t : MAs} : eCall x t G a = kCa x G (t G a) := by show (t G a).bind _ = _; cases t G a <;> rfl
@[simp] theorem kCa_s {x : Str} : kCa x G (some (xs, ⟨ρ, S⟩)) = kRt ρ (G x xs S) := by show (G x xs S).map _ = _; cases G x xs S <;> rfl
@[simp] theorem kRt_s : kRt ρ (some (v, S)) = some (v, ⟨ρ, S⟩) := rfl
-- methods
def kAp1 (e : ME) (G : Gm) : Option (Hd × AS) → Option (AV × AS)
  | some r => (cont r.2 r.1).bind fun c => if isLst c = true then (e G r.2).bind fun q => (mutL q.2 (appL q.1) r.1).map fun a' => (.non, a') else none
  | none => none
def kAp2 (e : ME) (G : Gm) (h : Hd) (a : AS) : Option AV → Option (AV × AS)
  | some (.lst _) => (e G a).bind fun q => (mutL q.2 (appL q.1) h).map fun a' => (.non, a')
  | _ => none
def kU : Option AS → Option (AV × AS)
  | some a => some (.non, a)
  | none => none
def kAp3 (h : Hd) : Option (AV × AS) → Option (AV × AS)
  | some q => kU (mutL q.2 (appL q.1) h)
  | none => none
@[simp] theorem eApp_ev : eApp oa e G a = kAp1 e G (oa G a) := by show (oa G a).bind _ = _; cases oa G a <;> rfl
@[simp] theorem kAp1_s : kAp1 e G (some (h, ⟨ρ, S⟩)) = kAp2 e G h ⟨ρ, S⟩ (cont ⟨ρ, S⟩ h) := by
  show (cont (⟨ρ, S⟩ : AS) h).bind _ = _
  cases cont (⟨ρ, S⟩ : AS) h with
  | none => rfl
  | some c => cases c <;> rfl
@[simp] theorem kAp2_s : kAp2 e G h a (some (.lst xs)) = kAp3 h (e G a) := by
  show (e G a).bind _ = _
  cases e G a with
  | none => rfl
  | some q => show (mutL q.2 (appL q.1) h).map _ = kU (mutL q.2 (appL q.1) h); cases mutL q.2 (appL q.1) h <;> rfl
@[simp] theorem kAp3_s : kAp3 h (some (v, a)) = kU (mutL a (appL v) h) := rfl
@[simp] theorem kU_s : kU (some a) = some (.non, a) := rfl
@[simp] theorem mutL_v {g : List AV → Option (List AV)} : mutL a g (.val v) = mutV a g v := rfl
@[simp] theorem mutL_s {g : List AV → Option (List AV)} : mutL ⟨ρ, S⟩ g (.slot i) = mutO ⟨ρ, S⟩ i g ρ[i]? := rfl
def kMO1 (ρ : List (Option Slt)) (S : List SObj) (i : Nat) : Option (List AV) → Option AS
  | some ys => some ⟨ρ.set i (some (.own ys)), S⟩
  | none => none
@[simp] theorem mutO_o {g : List AV → Option (List AV)} : mutO ⟨ρ, S⟩ i g (some (some (.own xs))) = kMO1 ρ S i (g xs) := by show (g xs).map _ = _; cases g xs <;> rfl
@[simp] theorem mutO_v {g : List AV → Option (List AV)} : mutO a i g (some (some (.val v))) = mutV a g v := rfl
@[simp] theorem kMO1_s : kMO1 ρ S i (some ys) = some ⟨ρ.set i (some (.own ys)), S⟩ := rfl
@[simp] theorem mutV_r {g : List AV → Option (List AV)} : mutV ⟨ρ, S⟩ g (.ref n) = mutR ⟨ρ, S⟩ n g S[n]? := rfl
def kMR (ρ : List (Option Slt)) (S : List SObj) (n : Nat) : Option (List AV) → Option AS
  | some ys => some ⟨ρ, S.set n (.lst ys)⟩
  | none => none
@[simp] theorem mutR_s {g : List AV → Option (List AV)} : mutR ⟨ρ, S⟩ n g (some (.lst xs)) = kMR ρ S n (g xs) := by show (g xs).map _ = _; cases g xs <;> rfl
@[simp] theorem kMR_s : kMR ρ S n (some ys) = some ⟨ρ, S.set n (.lst ys)⟩ := rfl
@[simp] theorem appL_s (h : xs.length < 100000) : appL v xs = some (xs ++ [v]) := if_pos (Nat.lt_of_lt_of_le h (by decide))
def kSq1 (f : List AV → AV → Option AV) (ks : List Nat) (ob : MO) (G : Gm) : Option (Hd × AS) → Option (AV × AS)
  | some r => (cont r.2 r.1).bind fun c0 => if kind c0 ∈ ks then (ob G r.2).bind fun q => (cont q.2 r.1).bind fun c => (cont q.2 q.1).bind fun y => if kind c = kind c0 then (seqF f c y).map fun v => (v, q.2) else none else none
  | none => none
def kSq2 (f : List AV → AV → Option AV) (ks : List Nat) (ob : MO) (G : Gm) (h : Hd) (a : AS) : Option AV → Option (AV × AS)
  | some c0 => if kind c0 ∈ ks then (ob G a).bind fun q => (cont q.2 h).bind fun c => (cont q.2 q.1).bind fun y => if kind c = kind c0 then (seqF f c y).map fun v => (v, q.2) else none else none
  | none => none
def kSq3 (f : List AV → AV → Option AV) (h : Hd) (k : Nat) : Option (Hd × AS) → Option (AV × AS)
  | some q => (cont q.2 h).bind fun c => (cont q.2 q.1).bind fun y => if kind c = k then (seqF f c y).map fun v => (v, q.2) else none
  | none => none
def kSq4 (f : List AV → AV → Option AV) (k : Nat) (a : AS) : Option AV → Option AV → Option (AV × AS)
  | some c, some y => if kind c = k then kV a (seqF f c y) else none
  | _, _ => none
@[simp] theorem eSeqM_ev {g : List AV → AV → Option AV} {ks : List Nat} : eSeqM g ks oa ob G a = kSq1 g ks ob G (oa G a) := by show (oa G a).bind _ = _; cases oa G a <;> rfl
@[simp] theorem kSq1_s {g : List AV → AV → Option AV} {ks : List Nat} : kSq1 g ks ob G (some (h, ⟨ρ, S⟩)) = kSq2 g ks ob G h ⟨ρ, S⟩ (cont ⟨ρ, S⟩ h) := by
  show (cont (⟨ρ, S⟩ : AS) h).bind _ = _
  cases cont (⟨ρ, S⟩ : AS) h <;> rfl
@[simp] theorem kSq2_s {g : List AV → AV → Option AV} {ks : List Nat} (hk : kind v ∈ ks) : kSq2 g ks ob G h a (some v) = kSq3 g h (kind v) (ob G a) := by
  show (if kind v ∈ ks then _ else _) = _
  rw [if_pos hk]
  cases ob G a <;> rfl
@[simp] theorem kSq3_s {g : List AV → AV → Option AV} {k : Nat} : kSq3 g h k (some (h', ⟨ρ, S⟩)) = kSq4 g k ⟨ρ, S⟩ (cont ⟨ρ, S⟩ h) (cont ⟨ρ, S⟩ h') := by
  show (cont (⟨ρ, S⟩ : AS) h).bind _ = _
  cases cont (⟨ρ, S⟩ : AS) h with
  | none => rfl
  | some c =>
    show (cont (⟨ρ, S⟩ : AS) h').bind _ = _
    cases cont (⟨ρ, S⟩ : AS) h' with
    | none => rfl
    | some y =>
      show (if kind c = k then _ else _) = (if kind c = k then _ else _)
      cases seqF g c y <;> rfl
@[simp] theorem kSq4_s {g : List AV → AV → Option AV} {k : Nat} (hk : kind v = k) : kSq4 g k a (some v) (some w) = kV a (seqF g v w) := if_pos hk
@[simp] theorem kind_lst : kind (.lst xs) = 1 := rfl
@[simp] theorem kind_tup : kind (.tup xs) = 2 := rfl
@[simp] theorem seqF_lst {g : List AV → AV → Option AV} : seqF g (.lst xs) w = g xs w := rfl
@[simp] theorem seqF_tup {g : List AV → AV → Option AV} : seqF g (.tup xs) w = g xs w := rfl
-- statements
@[simp] theorem sSkip_ev : sSkip G a = some (.nx, a) := rfl
def kSeq (t : MS) (G : Gm) : Option (Out × AS) → Option (Out × AS)
  | some (.nx, a) => t G a
  | some (o, a) => some (o, a)
  | none => none
@[simp] theorem sSeq_ev : sSeq s t G a = kSeq t G (s G a) := by
  show (s G a).bind _ = _
  cases s G a with
  | none => rfl
  | some r => obtain ⟨o, a⟩ := r; cases o <;> rfl
@[simp] theorem kSeq_n : kSeq t G (some (.nx, a)) = t G a := rfl
@[simp] theorem kSeq_r : kSeq t G (some (.rt v, a)) = some (.rt v, a) := rfl
@[simp] theorem kSeq_b : kSeq t G (some (.bk, a)) = some (.bk, a) := rfl
@[simp] theorem kSeq_c : kSeq t G (some (.ct, a)) = some (.ct, a) := rfl
def kX : Option (AV × AS) → Option (Out × AS)
  | some r => some (.nx, r.2)
  | none => none
@[simp] theorem sExpr_ev : sExpr e G a = kX (e G a) := by show (e G a).map _ = _; cases e G a <;> rfl
@[simp] theorem kX_s : kX (some (v, a)) = some (.nx, a) := rfl
def kR : Option (AV × AS) → Option (Out × AS)
  | some r => some (.rt r.1, r.2)
  | none => none
@[simp] theorem sRet_ev : sRet e G a = kR (e G a) := by show (e G a).map _ = _; cases e G a <;> rfl
@[simp] theorem kR_s : kR (some (v, a)) = some (.rt v, a) := rfl
@[simp] theorem sRetN_ev : sRetN G a = some (.rt .non, a) := rfl
@[simp] theorem sBreak_ev : sBreak G a = some (.bk, a) := rfl
@[simp] theorem sCont_ev : sCont G a = some (.ct, a) := rfl
def kIf (s t : MS) (G : Gm) : Option (Bool × AS) → Option (Out × AS)
  | some (true, a) => s G a
  | some (false, a) => t G a
  | none => none
@[simp] theorem sIf_ev : sIf c s t G a = kIf s t G (c G a) := by
  show (c G a).bind _ = _
  cases c G a with
  | none => rfl
  | some r => obtain ⟨v, a⟩ := r; cases v <;> rfl
@[simp] theorem kIf_t : kIf s t G (some (true, a)) = s G a := rfl
@[simp] theorem kIf_f : kIf s t G (some (false, a)) = t G a := rfl
@[simp] theorem kIf_d {P : Prop} [Decidable P] : kIf s t G (some (decide P, a)) = if P then s G a else t G a := by by_cases p : P <;> simp [p]
def kAs (i : Nat) : Option (AV × AS) → Option (Out × AS)
  | some r => some (.nx, r.2.put i r.1)
  | none => none
@[simp] theorem sAsg_ev : sAsg i e G a = kAs i (e G a) := by show (e G a).map _ = _; cases e G a <;> rfl
@[simp] theorem kAs_s : kAs i (some (v, ⟨ρ, S⟩)) = some (.nx, ⟨ρ.set i (some (.val v)), S⟩) := rfl
def kOw (i : Nat) : Option (List AV × AS) → Option (Out × AS)
  | some r => some (.nx, r.2.putOwn i r.1)
  | none => none
@[simp] theorem sOwn_ev {t : MAs} : sOwn i t G a = kOw i (t G a) := by show (t G a).map _ = _; cases t G a <;> rfl
@[simp] theorem kOw_s : kOw i (some (xs, ⟨ρ, S⟩)) = some (.nx, ⟨ρ.set i (some (.own xs)), S⟩) := rfl
def kUn (is : List Nat) : Option (AV × AS) → Option (Out × AS)
  | some r => (seqOf r.2.S r.1).bind fun xs => (gNs is xs r.2).map fun a' => (.nx, a')
  | none => none
def kNx : Option AS → Option (Out × AS)
  | some a => some (.nx, a)
  | none => none
@[simp] theorem kNx_s : kNx (some a) = some (.nx, a) := rfl
def kUn2 (is : List Nat) (a : AS) : Option (List AV) → Option (Out × AS)
  | some xs => kNx (gNs is xs a)
  | none => none
@[simp] theorem sUnp_ev {is : List Nat} : sUnp is e G a = kUn is (e G a) := by show (e G a).bind _ = _; cases e G a <;> rfl
@[simp] theorem kUn_s {is : List Nat} : kUn is (some (v, ⟨ρ, S⟩)) = kUn2 is ⟨ρ, S⟩ (seqOf S v) := by
  show (seqOf S v).bind _ = _
  cases seqOf S v with
  | none => rfl
  | some xs => show (gNs is xs (⟨ρ, S⟩ : AS)).map _ = kNx (gNs is xs ⟨ρ, S⟩); cases gNs is xs (⟨ρ, S⟩ : AS) <;> rfl
@[simp] theorem kUn2_s {is : List Nat} : kUn2 is a (some xs) = kNx (gNs is xs a) := rfl
@[simp] theorem seqOf_tup : seqOf S (.tup xs) = some xs := rfl
@[simp] theorem seqOf_lst : seqOf S (.lst xs) = some xs := rfl
def kSO : AV → Option (List AV)
  | .lst xs => some xs
  | .tup xs => some xs
  | _ => none
@[simp] theorem seqOf_ref : seqOf S (.ref n) = kSO (resL n S[n]?) := by show (match res S (.ref n) with | .lst xs => some xs | .tup xs => some xs | _ => none) = _; rw [res_ref]; cases resL n S[n]? <;> rfl
@[simp] theorem kSO_l : kSO (.lst xs) = some xs := rfl
@[simp] theorem gNs_nil : gNs [] [] a = some a := rfl
@[simp] theorem gNs_cons {is : List Nat} : gNs (i :: is) (v :: xs) ⟨ρ, S⟩ = gNs is xs ⟨ρ.set i (some (.val v)), S⟩ := rfl
def kPa (is : List Nat) : Option (List AV × AS) → Option (Out × AS)
  | some r => kNx (gNs is r.1 r.2)
  | none => none
@[simp] theorem sPar_ev {is : List Nat} {t : MAs} : sPar is t G a = kPa is (t G a) := by
  show (t G a).bind _ = _
  cases t G a with
  | none => rfl
  | some r => show (gNs is r.1 r.2).map _ = kNx (gNs is r.1 r.2); cases gNs is r.1 r.2 <;> rfl
@[simp] theorem kPa_s {is : List Nat} : kPa is (some (xs, a)) = kNx (gNs is xs a) := rfl
def kSt1 (oa : MO) (e : ME) (G : Gm) : Option (AV × AS) → Option (Out × AS)
  | some r => (oa G r.2).bind fun r1 => (e G r1.2).bind fun r2 => (storeI r2.2 r1.1 r2.1 r.1).map fun a' => (.nx, a')
  | none => none
def kSt2 (e : ME) (G : Gm) (v : AV) : Option (Hd × AS) → Option (Out × AS)
  | some r1 => (e G r1.2).bind fun r2 => (storeI r2.2 r1.1 r2.1 v).map fun a' => (.nx, a')
  | none => none
def kSt3 (v : AV) (h : Hd) : Option (AV × AS) → Option (Out × AS)
  | some r2 => kNx (storeI r2.2 h r2.1 v)
  | none => none
@[simp] theorem sSet_ev {e1 e2 : ME} : sSet oa e1 e2 G a = kSt1 oa e1 G (e2 G a) := by show (e2 G a).bind _ = _; cases e2 G a <;> rfl
@[simp] theorem kSt1_s : kSt1 oa e G (some (v, a)) = kSt2 e G v (oa G a) := by show (oa G a).bind _ = _; cases oa G a <;> rfl
@[simp] theorem kSt2_s : kSt2 e G v (some (h, a)) = kSt3 v h (e G a) := by
  show (e G a).bind _ = _
  cases e G a with
  | none => rfl
  | some r2 => show (storeI r2.2 h r2.1 v).map _ = kNx (storeI r2.2 h r2.1 v); cases storeI r2.2 h r2.1 v <;> rfl
@[simp] theorem kSt3_s : kSt3 v h (some (w, a)) = kNx (storeI a h w v) := rfl
@[simp] theorem storeI_int {j : Int} : storeI a h (.int j) v = mutL a (setL j v) h := rfl
def kAu1 (f : Op2) (oa : MO) (G : Gm) (a : AS) (i : Nat) : Option AV → Option (Out × AS)
  | some (.int x) => (oa G a).bind fun r => (cont r.2 r.1).bind fun c => match c with
    | .int y => (f r.2.S (.int x) (.int y)).bind fun v => match v with
      | .int z => some (.nx, r.2.put i (.int z))
      | _ => none
    | _ => none
  | _ => none
def kAu2 (f : Op2) (i : Nat) (x : Int) : Option (Hd × AS) → Option (Out × AS)
  | some r => (cont r.2 r.1).bind fun c => match c with
    | .int y => (f r.2.S (.int x) (.int y)).bind fun v => match v with
      | .int z => some (.nx, r.2.put i (.int z))
      | _ => none
    | _ => none
  | none => none
def kAu4 (i : Nat) (a : AS) : Option AV → Option (Out × AS)
  | some (.int z) => some (.nx, a.put i (.int z))
  | _ => none
def kAu3 (f : Op2) (i : Nat) (x : Int) (a : AS) : Option AV → Option (Out × AS)
  | some (.int y) => kAu4 i a (f a.S (.int x) (.int y))
  | _ => none
@[simp] theorem sAug_ev : sAug i f oa G ⟨ρ, S⟩ = kAu1 f oa G ⟨ρ, S⟩ i (slotV S ρ[i]?) := by
  show (slotV S ρ[i]?).bind _ = _
  cases slotV S ρ[i]? with
  | none => rfl
  | some c =>
    cases c with
    | int x =>
      show (oa G (⟨ρ, S⟩ : AS)).bind _ = (oa G (⟨ρ, S⟩ : AS)).bind _
      cases oa G (⟨ρ, S⟩ : AS) with
      | none => rfl
      | some r =>
        show (cont r.2 r.1).bind _ = (cont r.2 r.1).bind _
        cases cont r.2 r.1 with
        | none => rfl
        | some c => cases c <;> rfl
    | _ =>
      show (oa G (⟨ρ, S⟩ : AS)).bind _ = none
      cases oa G (⟨ρ, S⟩ : AS) with
      | none => rfl
      | some r =>
        show (cont r.2 r.1).bind _ = none
        cases cont r.2 r.1 <;> rfl
@[simp] theorem kAu1_s {x : Int} : kAu1 f oa G a i (some (.int x)) = kAu2 f i x (oa G a) := by show (oa G a).bind _ = _; cases oa G a <;> rfl
@[simp] theorem kAu2_s {x : Int} : kAu2 f i x (some (h, ⟨ρ, S⟩)) = kAu3 f i x ⟨ρ, S⟩ (cont ⟨ρ, S⟩ h) := by
  show (cont (⟨ρ, S⟩ : AS) h).bind _ = _
  cases cont (⟨ρ, S⟩ : AS) h with
  | none => rfl
  | some c =>
    cases c with
    | int y => show (f S (.int x) (.int y)).bind _ = kAu4 i _ (f S (.int x) (.int y)); cases f S (.int x) (.int y) with
      | none => rfl
      | some v => cases v <;> rfl
    | _ => rfl
@[simp] theorem kAu3_s {x y : Int} : kAu3 f i x ⟨ρ, S⟩ (some (.int y)) = kAu4 i ⟨ρ, S⟩ (f S (.int x) (.int y)) := rfl
@[simp] theorem kAu4_s {z : Int} : kAu4 i ⟨ρ, S⟩ (some (.int z)) = some (.nx, ⟨ρ.set i (some (.val (.int z))), S⟩) := rfl
-- operators on plain values
@[simp] theorem opAdd_i {x y : Int} : opAdd S (.int x) (.int y) = some (.int (x + y)) := rfl
@[simp] theorem opAdd_t (h : xs.length + ys.length ≤ 100000) : opAdd S (.tup xs) (.tup ys) = some (.tup (xs ++ ys)) := if_pos (le_sl h)
@[simp] theorem opAdd_l (h : xs.length + ys.length ≤ 100000) : opAdd S (.lst xs) (.lst ys) = some (.lst (xs ++ ys)) := if_pos (le_sl h)
@[simp] theorem opSub_i {x y : Int} : opSub S (.int x) (.int y) = some (.int (x - y)) := rfl
theorem opMul_i {x y : Int} (h : (-(2 ^ 64) < x ∧ x < 2 ^ 64) ∨ (-(2 ^ 64) < y ∧ y < 2 ^ 64)) : opMul S (.int x) (.int y) = some (.int (x * y)) := if_pos h
theorem opMod_i {x y : Int} (h : 0 < y) : opMod S (.int x) (.int y) = some (.int (x % y)) := if_pos h
theorem opFdiv_i {x y : Int} (h : 0 < y ∧ y < 1073741824) : opFdiv S (.int x) (.int y) = some (.int (x / y)) := if_pos h
@[simp] theorem opI_i {g : Int → Int → Bool} {x y : Int} : opI g S (.int x) (.int y) = some (.bl (g x y)) := rfl
@[simp] theorem opIs_n : opIs S v .non = some (.bl (isNon v)) := by cases v <;> rfl
@[simp] theorem opIsN_n : opIsN S v .non = some (.bl (!isNon v)) := by cases v <;> rfl
@[simp] theorem isNon_non : isNon .non = true := rfl
@[simp] theorem isNon_bl : isNon (.bl b) = false := rfl
@[simp] theorem isNon_int {i : Int} : isNon (.int i) = false := rfl
@[simp] theorem isNon_str {z : Str} : isNon (.str z) = false := rfl
@[simp] theorem isNon_tup : isNon (.tup xs) = false := rfl
@[simp] theorem isNon_lst : isNon (.lst xs) = false := rfl
@[simp] theorem opIx_t {k : Int} : opIx S (.tup xs) (.int k) = atI xs k := rfl
@[simp] theorem opIx_l {k : Int} : opIx S (.lst xs) (.int k) = atI xs k := rfl
@[simp] theorem biLen_l : biLen S [.lst xs] = some (.int xs.length) := rfl
@[simp] theorem biLen_t : biLen S [.tup xs] = some (.int xs.length) := rfl
@[simp] theorem biTuple_l : biTuple S [.lst xs] = some (.tup xs) := rfl
@[simp] theorem biTuple_t : biTuple S [.tup xs] = some (.tup xs) := rfl
@[simp] theorem bfList_l : bfList S [.lst xs] = some xs := rfl
-- defs
@[simp] theorem runD_ev {e : DfE} (h : xs.length = e.n) : runD e G xs S = runB e.sz e.body G xs S := if_pos h
def kOut : Option (Out × AS) → Option (AV × List SObj)
  | some (.nx, a) => some (.non, a.S)
  | some (.rt v, a) => some (v, a.S)
  | _ => none
@[simp] theorem runB_ev {b : MS} {sz : Nat} : runB sz b G xs S = kOut (b G (frame sz xs S)) := by
  show (b G (frame sz xs S)).bind _ = _
  cases b G (frame sz xs S) with
  | none => rfl
  | some r => obtain ⟨o, a⟩ := r; cases o <;> rfl
@[simp] theorem kOut_n : kOut (some (.nx, ⟨ρ, S⟩)) = some (.non, S) := rfl
@[simp] theorem kOut_r : kOut (some (.rt v, ⟨ρ, S⟩)) = some (v, S) := rfl
end
/-! ### texts -/
theorem char_inj {c d : Char} (h : c.toNat = d.toNat) : c = d := by
  apply Char.ext
  exact UInt32.toNat_inj.mp h
theorem str_inj {s t : String} : PySem.Str.ofString s = PySem.Str.ofString t ↔ s = t := by
  constructor
  · intro h
    rw [PySem.Str.ofString_eq_toList, PySem.Str.ofString_eq_toList] at h
    have h1 : s.toList.map Char.toNat = t.toList.map Char.toNat := by
      have := congrArg PySem.Str.cps h
      simpa using this
    have h2 : s.toList = t.toList := by
      have inj : ∀ (l m : List Char), l.map Char.toNat = m.map Char.toNat → l = m := by
        intro l
        induction l with
        | nil => intro m h; cases m with
          | nil => rfl
          | cons _ _ => simp at h
        | cons c l ih =>
          intro m h
          cases m with
          | nil => simp at h
          | cons d m =>
            simp only [List.map_cons, List.cons.injEq] at h
            rw [char_inj h.1, ih m h.2]
      exact inj _ _ h1
    exact String.ext h2
  · rintro rfl; rfl
end Pyx
end
section
set_option maxRecDepth 100000
namespace Pyx
open PySem PySem.Spec PyProof.Rows L2

/-! ### what all laws' texts have: the tape, draws, sameness -/
def bTape : MS := (sSeq (sAsg 1 (eCon (.int 7))) (sSeq (sForV (eVar 0) (.one 2) (sSeq (sAsg 1 (eBin opMod (oE (eBi biInt (osCons (oE (eBin opAdd (oE (eBin opMul (oVar 1) (oE (eCon (.int 31))))) (oE (eBi biAbs (osCons (oE (eBi biInt (osCons (oVar 2) osNil))) osNil))))) osNil))) (oE (eCon (.int 2147483647))))) sSkip)) (sSeq (sRet (eLay (fLst (aCons (eFrz (fBi bfList (osCons (oVar 0) osNil))) (aCons (eCon (.int 0)) (aCons (eCon (.int 0)) (aCons (eVar 1) aNil))))))) sSkip)))
def bDraw : MS := (sSeq (sIf (mBool (eBin opEq (oE (eBin opIx (oVar 0) (oE (eCon (.int 2))))) (oE (eCon (.int 0))))) (sSeq (sAsg 2 (eBin opIx (oVar 0) (oE (eCon (.int 1))))) (sSeq (sAsg 3 (eCon (.int 0))) (sSeq (sIf (mBool (eBin opLt (oVar 2) (oE (eBi biLen (osCons (oE (eBin opIx (oVar 0) (oE (eCon (.int 0))))) osNil))))) (sSeq (sAsg 3 (eBi biAbs (osCons (oE (eBi biInt (osCons (oE (eBin opIx (oE (eBin opIx (oVar 0) (oE (eCon (.int 0))))) (oVar 2))) osNil))) osNil))) sSkip) (sSeq (sSet (oVar 0) (eCon (.int 3)) (eBin opMod (oE (eBi biInt (osCons (oE (eBin opAdd (oE (eBin opAdd (oE (eBin opMul (oE (eBin opIx (oVar 0) (oE (eCon (.int 3))))) (oE (eCon (.int 48271))))) (oVar 2))) (oE (eCon (.int 1))))) osNil))) (oE (eCon (.int 2147483647))))) (sSeq (sAsg 3 (eBin opIx (oVar 0) (oE (eCon (.int 3))))) sSkip))) (sSeq (sSet (oVar 0) (eCon (.int 1)) (eBin opAdd (oVar 2) (oE (eCon (.int 1))))) (sSeq (sIf (mBool (eBin opLt (oVar 3) (oE (eBin opPow (oE (eCon (.int 10))) (oE (eCon (.int 18))))))) (sSeq (sAsg 3 (eBin opMod (oE (eBi biInt (osCons (oE (eBin opAdd (oE (eBin opAdd (oE (eBin opMul (oVar 3) (oE (eCon (.int 48271))))) (oE (eBin opMul (oVar 2) (oE (eCon (.int 69621))))))) (oE (eCon (.int 5))))) osNil))) (oE (eCon (.int 2147483647))))) (sSeq (sAsg 3 (eBin opMod (oE (eBi biInt (osCons (oE (eBin opMul (oVar 3) (oE (eCon (.int 69621))))) osNil))) (oE (eCon (.int 2147483629))))) (sSeq (sRet (eBin opMod (oE (eBi biInt (osCons (oVar 3) osNil))) (oE (eBi biMax (osCons (oVar 1) (osCons (oE (eCon (.int 1))) osNil)))))) sSkip))) sSkip) (sSeq (sSet (oVar 0) (eCon (.int 2)) (eVar 3)) sSkip)))))) sSkip) (sSeq (sAsg 3 (eBin opIx (oVar 0) (oE (eCon (.int 2))))) (sSeq (sSet (oVar 0) (eCon (.int 2)) (eBin opFdiv (oVar 3) (oE (eBi biMax (osCons (oVar 1) (osCons (oE (eCon (.int 2))) osNil)))))) (sSeq (sRet (eBin opMod (oE (eBi biInt (osCons (oVar 3) osNil))) (oE (eBi biMax (osCons (oVar 1) (osCons (oE (eCon (.int 1))) osNil)))))) sSkip))))
def bPick : MS := (sSeq (sRet (eBin opIx (oVar 1) (oE (eCall "_law_draw" (aCons (eVar 0) (aCons (eBi biLen (osCons (oVar 1) osNil)) aNil)))))) sSkip)
def bSame : MS := (sSeq (sIf (mTru (oE (eIsi "tuple" (oVar 1)))) (sSeq (sIf (mOr (mNot (mTru (oE (eIsi "tuple" (oVar 0))))) (mBool (eBin opNe (oE (eBi biLen (osCons (oVar 0) osNil))) (oE (eBi biLen (osCons (oVar 1) osNil)))))) (sSeq (sRet (eCon (.bl false))) sSkip) sSkip) (sSeq (sRet (eBin opNotIn (oE (eCon (.bl false))) (oE (eFrz (fCompR asR1 (aCons (eBi biLen (osCons (oVar 1) osNil)) aNil) [2] (.one 2) mTrue (eCall "_law_same" (aCons (eBin opIx (oVar 0) (oVar 2)) (aCons (eBin opIx (oVar 1) (oVar 2)) aNil)))))))) sSkip)) sSkip) (sSeq (sIf (mOr (mBool (eBin opIs (oVar 1) (oE (eCon .non)))) (mBool (eBin opIs (oVar 0) (oE (eCon .non))))) (sSeq (sRet (eAnd (eBin opIs (oVar 1) (oE (eCon .non))) (eBin opIs (oVar 0) (oE (eCon .non))))) sSkip) sSkip) (sSeq (sIf (mOr (mBool (eBin opNe (oE (eIsi "bool" (oVar 0))) (oE (eIsi "bool" (oVar 1))))) (mBool (eBin opNe (oE (eIsi "str" (oVar 0))) (oE (eIsi "str" (oVar 1)))))) (sSeq (sRet (eCon (.bl false))) sSkip) sSkip) (sSeq (sRet (eAnd (eBin opEq (oE (eIsi "int" (oVar 0))) (oE (eIsi "int" (oVar 1)))) (eBin opEq (oVar 0) (oVar 1)))) sSkip))))

/-- the tape: the script, the place, what is left of a great number, the running total -/
structure Tp where
  cells : List Int
  place : Int
  rest : Int
  total : Int
def tpO (t : Tp) : SObj := .lst [.lst (t.cells.map .int), .int t.place, .int t.rest, .int t.total]
section
variable {G : Gm} {S : List SObj} {v : AV} {xs : List AV}
theorem atI_nat {α : Type} {xs : List α} {k : Nat} : L2.atI xs (k : Int) = xs[k]? := by
  unfold L2.atI L2.ixN
  rw [if_pos (by omega)]
  by_cases h : (k : Int) < xs.length
  · rw [if_pos h]; simp
  · rw [if_neg h]
    have : xs.length ≤ k := by omega
    simp [this]
theorem atI_lit {α : Type} {xs : List α} {k : Nat} [OfNat Int k] (h : (OfNat.ofNat k : Int) = (k : Int)) : L2.atI xs (OfNat.ofNat k : Int) = xs[k]? := by rw [h, atI_nat]
@[simp] theorem atI0 {α : Type} {xs : List α} : L2.atI xs 0 = xs[0]? := atI_nat (k := 0)
@[simp] theorem atI1 {α : Type} {xs : List α} : L2.atI xs 1 = xs[1]? := atI_nat (k := 1)
@[simp] theorem atI2 {α : Type} {xs : List α} : L2.atI xs 2 = xs[2]? := atI_nat (k := 2)
@[simp] theorem atI3 {α : Type} {xs : List α} : L2.atI xs 3 = xs[3]? := atI_nat (k := 3)
@[simp] theorem atI4 {α : Type} {xs : List α} : L2.atI xs 4 = xs[4]? := atI_nat (k := 4)
@[simp] theorem atI5 {α : Type} {xs : List α} : L2.atI xs 5 = xs[5]? := atI_nat (k := 5)
@[simp] theorem atI6 {α : Type} {xs : List α} : L2.atI xs 6 = xs[6]? := atI_nat (k := 6)
@[simp] theorem atI7 {α : Type} {xs : List α} : L2.atI xs 7 = xs[7]? := atI_nat (k := 7)
theorem ixN_nat {n k : Nat} (h : k < n) : L2.ixN n (k : Int) = some k := by
  unfold L2.ixN
  rw [if_pos (by omega), if_pos (by omega)]
  rfl
theorem setL_nat {k : Nat} (h : k < xs.length) : setL (k : Int) v xs = some (xs.set k v) := by
  unfold setL
  rw [ixN_nat h]
  rfl
@[simp] theorem setL0 (h : 0 < xs.length) : setL 0 v xs = some (xs.set 0 v) := setL_nat (k := 0) h
@[simp] theorem setL1 (h : 1 < xs.length) : setL 1 v xs = some (xs.set 1 v) := setL_nat (k := 1) h
@[simp] theorem setL2 (h : 2 < xs.length) : setL 2 v xs = some (xs.set 2 v) := setL_nat (k := 2) h
@[simp] theorem setL3 (h : 3 < xs.length) : setL 3 v xs = some (xs.set 3 v) := setL_nat (k := 3) h
@[simp] theorem setL4 (h : 4 < xs.length) : setL 4 v xs = some (xs.set 4 v) := setL_nat (k := 4) h
@[simp] theorem biInt_i {i : Int} : biInt S [.int i] = some (.int i) := rfl
@[simp] theorem biInt_b {b : Bool} : biInt S [.bl b] = some (.int (if b then 1 else 0)) := rfl
@[simp] theorem biAbs_i {i : Int} : biAbs S [.int i] = some (.int (if i < 0 then -i else i)) := rfl
@[simp] theorem biMax_i {i j : Int} : biMax S [.int i, .int j] = some (.int (if j > i then j else i)) := rfl
@[simp] theorem opEq_i {x y : Int} : opEq S (.int x) (.int y) = some (.bl (decide (x = y))) := by
  unfold opEq
  rw [if_pos ⟨rfl, rfl, by show min 0 0 ≤ 64; omega⟩]
  show some (AV.bl (PyData.eqv (.int x) (.int y))) = _
  simp [PyData.eqv, BEq.beq, decide_eq_decide]
end
/-- the draw's number is in its bounds, and the tape stays a tape -/
structure Tp.Ok (t : Tp) : Prop where
  pl : 0 ≤ t.place
  rs : 0 ≤ t.rest
theorem atI_cells {cs : List Int} {i : Int} (h0 : 0 ≤ i) (h1 : i < cs.length) : L2.atI (cs.map AV.int) i = some (.int (cs.getD i.toNat 0)) := by
  obtain ⟨k, rfl⟩ := Int.eq_ofNat_of_zero_le h0
  have hk : k < cs.length := by omega
  show L2.atI (cs.map AV.int) (k : Int) = _
  rw [atI_nat, List.getElem?_map, List.getElem?_eq_getElem hk]
  simp [List.getD, hk]
@[simp] theorem pow_18 {S : List SObj} : opPow S (.int 10) (.int 18) = some (.int 1000000000000000000) := by
  show (if (0 : Int) ≤ 18 ∧ (18 : Int) ≤ 1000000 ∧ (10 : Int).natAbs < 2 ^ 64 then some (AV.int ((10 : Int) ^ (18 : Int).toNat)) else none) = _
  rw [if_pos (by decide)]
  rfl
theorem pos_max {m c : Int} (h : 0 < c) : 0 < (if c > m then c else m) := by split <;> omega
theorem ex_of {α : Type} {x : Option α} {P : α → Prop} {y : α} (h : x = some y) (p : P y) : ∃ q, x = some q ∧ P q := ⟨y, h, p⟩
def DrawP (many : Int) (R : List SObj) (q : AV × List SObj) : Prop := ∃ (r : Int) (t' : Tp), q = (.int r, tpO t' :: R) ∧ t'.Ok ∧ 0 ≤ r ∧ (r < many ∨ r < 1)
theorem draw_ok (G : Gm) (t : Tp) (ht : t.Ok) (many : Int) (hm : many < 1073741824) (R : List SObj) :
    ∃ q, runD ⟨2, 4, bDraw⟩ G [.ref 0, .int many] (tpO t :: R) = some q ∧ DrawP many R q := by
  obtain ⟨cells, place, rest, total⟩ := t
  obtain ⟨hp, hr⟩ := ht
  simp only at hp hr
  have m1 : 0 < (if 1 > many then 1 else many) := pos_max (by omega)
  have m2 : 0 < (if 2 > many then 2 else many) ∧ (if 2 > many then 2 else many) < 1073741824 := by constructor <;> split <;> omega
  have fin : ∀ x : Int, 0 ≤ x % (if 1 > many then 1 else many) ∧ (x % (if 1 > many then 1 else many) < many ∨ x % (if 1 > many then 1 else many) < 1) := fun x => by
    refine ⟨Int.emod_nonneg _ (by omega), ?_⟩
    have := Int.emod_lt_of_pos x m1
    split at this <;> rename_i h <;> simp only [h, if_true, if_false] <;> omega
  have dv : ∀ x : Int, 0 ≤ x → 0 ≤ x / (if 2 > many then 2 else many) := fun x hx => Int.ediv_nonneg hx (by omega)
  have ab : ∀ x : Int, 0 ≤ (if x < 0 then -x else x) := fun x => by split <;> omega
  by_cases h0 : rest = 0
  · subst h0
    by_cases h1 : place < cells.length
    · have hc := atI_cells hp h1
      generalize cells.getD place.toNat 0 = z at hc
      have hz := ab z
      generalize hw : (if z < 0 then -z else z) = w at hz
      by_cases h2 : w < 1000000000000000000
      · apply ex_of
        · simp [bDraw, frame, tpO, h1, hc, hw, opMul_i, opMod_i, h2, m1, -gt_iff_lt]; rfl
        · exact ⟨_, ⟨cells, place + 1, 0, total⟩, rfl, ⟨by simp only; omega, by simp⟩, fin _⟩
      · apply ex_of
        · simp [bDraw, frame, tpO, h1, hc, hw, opMul_i, opMod_i, h2, m1, opFdiv_i m2, -gt_iff_lt]; rfl
        · exact ⟨_, ⟨cells, place + 1, _, total⟩, rfl, ⟨by simp only; omega, dv _ hz⟩, fin _⟩
    · have h2 : ((total * 48271 + place + 1) % 2147483647) < 1000000000000000000 := by omega
      apply ex_of
      · simp [bDraw, frame, tpO, h1, opMul_i, opMod_i, h2, m1, -gt_iff_lt]; rfl
      · exact ⟨_, ⟨cells, place + 1, 0, _⟩, rfl, ⟨by simp only; omega, by simp⟩, fin _⟩
  · apply ex_of
    · simp [bDraw, frame, tpO, h0, opMul_i, opMod_i, m1, opFdiv_i m2, -gt_iff_lt]; rfl
    · exact ⟨_, ⟨cells, place, _, total⟩, rfl, ⟨by simp only; omega, dv _ hr⟩, fin _⟩
end Pyx
end
section
set_option maxRecDepth 100000
namespace Pyx
open PySem PySem.Spec PyProof.Rows L2

/-! ### plain values of bounded depth -/
/-- no lists, no references -/
def sm : Nat → AV → Bool
  | _, .non => true
  | _, .bl _ => true
  | _, .int _ => true
  | _, .str z => PyData.strOk z
  | k + 1, .tup xs => decide (xs.length ≤ 10000) && xs.all (sm k)
  | _, _ => false
/-- numbers, texts and tuples of them: equal only where they are the same -/
def cn : Nat → AV → Bool
  | _, .int _ => true
  | _, .str z => PyData.strOk z
  | k + 1, .tup xs => decide (xs.length ≤ 10000) && xs.all (cn k)
  | _, _ => false
theorem sm_mk {k : Nat} {xs : List AV} (h : ∀ x ∈ xs, sm k x = true) (hl : xs.length ≤ 10000) : sm (k + 1) (.tup xs) = true := by
  show (decide (xs.length ≤ 10000) && xs.all (sm k)) = true
  rw [decide_eq_true hl, List.all_eq_true.mpr h]
  rfl
theorem cn_mk {k : Nat} {xs : List AV} (h : ∀ x ∈ xs, cn k x = true) (hl : xs.length ≤ 10000) : cn (k + 1) (.tup xs) = true := by
  show (decide (xs.length ≤ 10000) && xs.all (cn k)) = true
  rw [decide_eq_true hl, List.all_eq_true.mpr h]
  rfl
theorem sm_tup {k : Nat} {xs : List AV} (h : sm k (.tup xs) = true) : ∃ j, k = j + 1 ∧ (∀ x ∈ xs, sm j x = true) ∧ xs.length ≤ 10000 := by
  cases k with
  | zero => cases h
  | succ j =>
    have h' : (decide (xs.length ≤ 10000) && xs.all (sm j)) = true := h
    rw [Bool.and_eq_true] at h'
    exact ⟨j, rfl, fun x hx => List.all_eq_true.mp h'.2 x hx, of_decide_eq_true h'.1⟩
theorem cn_tup {k : Nat} {xs : List AV} (h : cn k (.tup xs) = true) : ∃ j, k = j + 1 ∧ (∀ x ∈ xs, cn j x = true) ∧ xs.length ≤ 10000 := by
  cases k with
  | zero => cases h
  | succ j =>
    have h' : (decide (xs.length ≤ 10000) && xs.all (cn j)) = true := h
    rw [Bool.and_eq_true] at h'
    exact ⟨j, rfl, fun x hx => List.all_eq_true.mp h'.2 x hx, of_decide_eq_true h'.1⟩
theorem cn_sm : ∀ (k : Nat) (v : AV), cn k v = true → sm k v = true
  | _, .int _, _ => by unfold sm; rfl
  | _, .str z, h => by unfold sm; unfold cn at h; exact h
  | k + 1, .tup xs, h => by
    obtain ⟨j, e, h', hl⟩ := cn_tup h
    cases e
    exact sm_mk (fun x hx => cn_sm k x (h' x hx)) hl
  | 0, .tup xs, h => by cases h
  | _, .non, h => by unfold cn at h; cases h
  | _, .bl _, h => by unfold cn at h; cases h
  | _, .lst _, h => by unfold cn at h; cases h
  | _, .ref _, h => by unfold cn at h; cases h
theorem okDs_all : ∀ {xs : List AV}, (∀ x ∈ xs, x.okD = true) → AV.okDs xs = true
  | [], _ => rfl
  | x :: xs, h => by
    show (x.okD && AV.okDs xs) = true
    rw [h x List.mem_cons_self, okDs_all fun y hy => h y (List.mem_cons_of_mem _ hy)]
    rfl
theorem nrs_all : ∀ {xs : List AV}, (∀ x ∈ xs, x.nr = true) → AV.nrs xs = true
  | [], _ => rfl
  | x :: xs, h => by
    show (x.nr && AV.nrs xs) = true
    rw [h x List.mem_cons_self, nrs_all fun y hy => h y (List.mem_cons_of_mem _ hy)]
    rfl
theorem deps_all {k : Nat} : ∀ {xs : List AV}, (∀ x ∈ xs, x.dep ≤ k) → PyData.depthAll (AV.pds xs) ≤ k
  | [], _ => Nat.zero_le _
  | x :: xs, h => by
    show max x.pd.depth (PyData.depthAll (AV.pds xs)) ≤ k
    have h1 : x.pd.depth ≤ k := h x List.mem_cons_self
    have h2 := deps_all (xs := xs) fun y hy => h y (List.mem_cons_of_mem _ hy)
    omega
theorem sm_okD : ∀ (k : Nat) (v : AV), sm k v = true → v.okD = true
  | _, .non, _ => rfl
  | _, .bl _, _ => rfl
  | _, .int _, _ => rfl
  | _, .str z, h => by unfold sm at h; exact h
  | k + 1, .tup xs, h => by
    obtain ⟨j, e, h', _⟩ := sm_tup h
    cases e
    exact okDs_all fun x hx => sm_okD k x (h' x hx)
  | 0, .tup xs, h => by cases h
  | _, .lst _, h => by unfold sm at h; cases h
  | _, .ref _, h => by unfold sm at h; cases h
theorem sm_nr : ∀ (k : Nat) (v : AV), sm k v = true → v.nr = true
  | _, .non, _ => rfl
  | _, .bl _, _ => rfl
  | _, .int _, _ => rfl
  | _, .str z, h => rfl
  | k + 1, .tup xs, h => by
    obtain ⟨j, e, h', _⟩ := sm_tup h
    cases e
    exact nrs_all fun x hx => sm_nr k x (h' x hx)
  | 0, .tup xs, h => by cases h
  | _, .lst _, h => by unfold sm at h; cases h
  | _, .ref _, h => by unfold sm at h; cases h
theorem sm_dep : ∀ (k : Nat) (v : AV), sm k v = true → v.dep ≤ k
  | _, .non, _ => Nat.zero_le _
  | _, .bl _, _ => Nat.zero_le _
  | _, .int _, _ => Nat.zero_le _
  | _, .str z, h => Nat.zero_le _
  | k + 1, .tup xs, h => by
    obtain ⟨j, e, h', _⟩ := sm_tup h
    cases e
    show PyData.depthAll (AV.pds xs) + 1 ≤ k + 1
    have := deps_all (k := k) (xs := xs) fun x hx => sm_dep k x (h' x hx)
    omega
  | 0, .tup xs, h => by cases h
  | _, .lst _, h => by unfold sm at h; cases h
  | _, .ref _, h => by unfold sm at h; cases h
mutual
theorem eqv_cn : ∀ (j k : Nat) (x y : AV), cn j x = true → cn k y = true → (PyData.eqv x.pd y.pd = true ↔ x = y)
  | j, k, .int i, .int i', _, _ => by simp [AV.pd, PyData.eqv]
  | j, k, .int i, .str z, _, _ => by simp [AV.pd, PyData.eqv]
  | j, k, .int i, .tup ys, _, _ => by simp [AV.pd, PyData.eqv]
  | j, k, .str z, .int i, _, _ => by simp [AV.pd, PyData.eqv]
  | j, k, .str z, .str z', _, _ => by simp [AV.pd, PyData.eqv]
  | j, k, .str z, .tup ys, _, _ => by simp [AV.pd, PyData.eqv]
  | j, k, .tup xs, .int i, _, _ => by simp [AV.pd, PyData.eqv]
  | j, k, .tup xs, .str z, _, _ => by simp [AV.pd, PyData.eqv]
  | j + 1, k + 1, .tup xs, .tup ys, h1, h2 => by
    obtain ⟨_, e1, h1', _⟩ := cn_tup h1
    obtain ⟨_, e2, h2', _⟩ := cn_tup h2
    cases e1; cases e2
    rw [show PyData.eqv (AV.tup xs).pd (AV.tup ys).pd = PyData.eqvAll (AV.pds xs) (AV.pds ys) by simp [AV.pd, PyData.eqv], eqvs_cn j k xs ys h1' h2']
    exact ⟨fun h => by rw [h], fun h => by cases h; rfl⟩
  | 0, _, .tup xs, _, h, _ => by cases h
  | _, 0, _, .tup xs, _, h => by cases h
  | _, _, .non, _, h, _ => by unfold cn at h; cases h
  | _, _, .bl _, _, h, _ => by unfold cn at h; cases h
  | _, _, .lst _, _, h, _ => by unfold cn at h; cases h
  | _, _, .ref _, _, h, _ => by unfold cn at h; cases h
  | _, _, _, .non, _, h => by unfold cn at h; cases h
  | _, _, _, .bl _, _, h => by unfold cn at h; cases h
  | _, _, _, .lst _, _, h => by unfold cn at h; cases h
  | _, _, _, .ref _, _, h => by unfold cn at h; cases h
theorem eqvs_cn : ∀ (j k : Nat) (xs ys : List AV), (∀ x ∈ xs, cn j x = true) → (∀ y ∈ ys, cn k y = true) → (PyData.eqvAll (AV.pds xs) (AV.pds ys) = true ↔ xs = ys)
  | j, k, [], [], _, _ => by simp [AV.pds, PyData.eqvAll]
  | j, k, [], _ :: _, _, _ => by simp [AV.pds, PyData.eqvAll]
  | j, k, _ :: _, [], _, _ => by simp [AV.pds, PyData.eqvAll]
  | j, k, x :: xs, y :: ys, h1, h2 => by
    rw [AV.pds, AV.pds, PyData.eqvAll, Bool.and_eq_true, eqv_cn j k x y (h1 _ List.mem_cons_self) (h2 _ List.mem_cons_self), eqvs_cn j k xs ys (fun z hz => h1 z (List.mem_cons_of_mem _ hz)) fun z hz => h2 z (List.mem_cons_of_mem _ hz), List.cons.injEq]
end
theorem eqb_cn {j k : Nat} {x y : AV} (h1 : cn j x = true) (h2 : cn k y = true) : x.eqb y = true ↔ x = y := eqv_cn j k x y h1 h2
theorem eqb_refl {k : Nat} {x : AV} (h : sm k x = true) : x.eqb x = true := PySem.SeqAt.eqv_refl _ (AV.okD_lay x (sm_okD k x h))
section
variable {S : List SObj} {x y : AV} {xs ys : List AV} {j k : Nat}
theorem opEq_sm (h1 : sm j x = true) (h2 : sm k y = true) (hk : j ≤ 64) : opEq S x y = some (.bl (x.eqb y)) := by
  unfold opEq
  rw [if_pos ⟨sm_okD j x h1, sm_okD k y h2, by have := sm_dep j x h1; omega⟩]
theorem opNe_sm (h1 : sm j x = true) (h2 : sm k y = true) (hk : j ≤ 64) : opNe S x y = some (.bl (!x.eqb y)) := by
  unfold opNe
  rw [if_pos ⟨sm_okD j x h1, sm_okD k y h2, by have := sm_dep j x h1; omega⟩]
theorem inSeq_sm (h1 : sm j x = true) (h2 : ∀ y ∈ ys, sm k y = true) (hk : j ≤ 64) : inSeq x ys = some (ys.any fun y => y.eqb x) := by
  unfold inSeq
  rw [if_pos ⟨sm_okD j x h1, okDs_all fun y hy => sm_okD k y (h2 y hy), by have := sm_dep j x h1; omega⟩]
theorem any_cn (h1 : cn j x = true) (h2 : ∀ y ∈ ys, cn k y = true) : (ys.any fun y => y.eqb x) = true ↔ x ∈ ys := by
  rw [List.any_eq_true]
  constructor
  · rintro ⟨y, hy, e⟩
    rw [← (eqb_cn (h2 y hy) h1).mp e]
    exact hy
  · intro h
    exact ⟨x, h, (eqb_cn h1 h1).mpr rfl⟩
/-- the place of a row -/
def pos (ys : List AV) (x : AV) : Option Nat := ys.findIdx? fun z => z.eqb x
theorem idxA_sm (h1 : sm j x = true) (h2 : ∀ y ∈ ys, sm k y = true) (hk : j ≤ 64) : idxA ys x = (pos ys x).map fun (n : Nat) => .int n := by
  unfold idxA pos
  rw [if_pos ⟨sm_okD j x h1, okDs_all fun y hy => sm_okD k y (h2 y hy), by have := sm_dep j x h1; omega⟩]
theorem pos_some {n : Nat} (h1 : cn j x = true) (h2 : ∀ y ∈ ys, cn k y = true) (h : pos ys x = some n) : ys[n]? = some x := by
  unfold pos at h
  rw [List.findIdx?_eq_some_iff_getElem] at h
  obtain ⟨hn, e, _⟩ := h
  rw [List.getElem?_eq_getElem hn, (eqb_cn (h2 _ (List.getElem_mem hn)) h1).mp e]
theorem pos_lt {n : Nat} (h : pos ys x = some n) : n < ys.length := by
  unfold pos at h
  rw [List.findIdx?_eq_some_iff_getElem] at h
  exact h.1
theorem pos_none (h1 : cn j x = true) (h2 : ∀ y ∈ ys, cn k y = true) : pos ys x = none ↔ x ∉ ys := by
  unfold pos
  rw [List.findIdx?_eq_none_iff]
  constructor
  · intro h hx
    have := h x hx
    rw [(eqb_cn h1 h1).mpr rfl] at this
    cases this
  · intro h z hz
    cases e : z.eqb x with
    | false => rfl
    | true => exact absurd ((eqb_cn (h2 z hz) h1).mp e ▸ hz) h
theorem any_pos : (ys.any fun y => y.eqb x) = (pos ys x).isSome := by
  unfold pos
  rw [List.findIdx?_isSome]
theorem pos_append_some {n : Nat} {zs : List AV} (h : pos ys x = some n) : pos (ys ++ zs) x = some n := by
  unfold pos at h ⊢
  rw [List.findIdx?_append, h]
  rfl
theorem pos_append_new (h1 : cn j x = true) (h : pos ys x = none) : pos (ys ++ [x]) x = some ys.length := by
  unfold pos at h ⊢
  rw [List.findIdx?_append, h]
  simp [List.findIdx?_cons, eqb_refl (cn_sm j x h1)]
end
/-! ### loops -/
theorem loopL_inv {tg : Tg} {body : AS → Option (Out × AS)} (I : Nat → AS → Prop) : ∀ {xs : List AV} {n : Nat} {a : AS},
    (∀ k x a, xs[k]? = some x → I (n + k) a → ∃ a1 o a2, asgT tg x a = some a1 ∧ body a1 = some (o, a2) ∧ (o = .nx ∨ o = .ct) ∧ I (n + k + 1) a2) → I n a → ∃ a', loopL tg body xs a = some (.nx, a') ∧ I (n + xs.length) a'
  | [], n, a, _, h0 => ⟨a, rfl, h0⟩
  | x :: xs, n, a, h, h0 => by
    obtain ⟨a1, o, a2, e1, e2, e3, e4⟩ := h 0 x a rfl h0
    obtain ⟨a', e5, e6⟩ := loopL_inv (tg := tg) (body := body) I (xs := xs) (n := n + 1) (a := a2) (fun k y b hk hI => by
      have := h (k + 1) y b (by simpa using hk) (by rw [show n + (k + 1) = n + 1 + k by omega]; exact hI)
      rw [show n + (k + 1) + 1 = n + 1 + k + 1 by omega] at this
      exact this) e4
    refine ⟨a', ?_, by rw [List.length_cons, show n + (xs.length + 1) = n + 1 + xs.length by omega]; exact e6⟩
    show ((asgT tg x a).bind fun a' => (body a').bind (turn (loopL tg body xs))) = _
    rw [e1]
    show (body a1).bind _ = _
    rw [e2]
    rcases e3 with rfl | rfl <;> exact e5
section
variable {G : Gm} {a : AS} {ρ : List (Option Slt)} {S : List SObj} {xs : List AV}
def kFo (tg : Tg) (b : MS) (G : Gm) : Option (AV × AS) → Option (Out × AS)
  | some (.lst xs, a) => loopL tg (b G) xs a
  | some (.tup xs, a) => loopL tg (b G) xs a
  | some (.ref n, a) => match a.S[n]? with
    | some (.lst xs) => loopR tg (b G) n xs.length xs.length a
    | _ => none
  | _ => none
@[simp] theorem sForV_ev {it : ME} {tg : Tg} {b : MS} : sForV it tg b G a = kFo tg b G (it G a) := by
  show (it G a).bind _ = _
  cases it G a with
  | none => rfl
  | some r => obtain ⟨v, a⟩ := r; cases v <;> rfl
@[simp] theorem kFo_l {tg : Tg} {b : MS} : kFo tg b G (some (.lst xs, a)) = loopL tg (b G) xs a := rfl
@[simp] theorem kFo_t {tg : Tg} {b : MS} : kFo tg b G (some (.tup xs, a)) = loopL tg (b G) xs a := rfl
def kFr (rg : List AV → Option (Int × Nat)) (tg : Tg) (b : MS) (G : Gm) : Option (List AV × AS) → Option (Out × AS)
  | some r => (rg r.1).bind fun p => loopL tg (b G) (rgA p.1 p.2) r.2
  | none => none
@[simp] theorem sForR_ev {rg : List AV → Option (Int × Nat)} {t : MAs} {tg : Tg} {b : MS} : sForR rg t tg b G a = kFr rg tg b G (t G a) := by show (t G a).bind _ = _; cases t G a <;> rfl
theorem asR1_nat {n : Nat} (h : n ≤ 1000000) : asR1 [.int (n : Int)] = some (0, n) := by
  have e : asR1 [.int (n : Int)] = if -(2 ^ 62) ≤ (n : Int) ∧ (n : Int) < 2 ^ 62 then some ((0 : Int), (n : Int).toNat) else none := rfl
  rw [e, if_pos ⟨by omega, by omega⟩, Int.toNat_natCast]
theorem kFr_1 {tg : Tg} {b : MS} {n : Nat} (h : n ≤ 1000000) : kFr asR1 tg b G (some ([.int (n : Int)], a)) = loopL tg (b G) (rgA 0 n) a := by
  show ((asR1 [.int (n : Int)]).bind fun p => loopL tg (b G) (rgA p.1 p.2) a) = loopL tg (b G) (rgA 0 n) a
  rw [asR1_nat h, Option.bind_some]
theorem rgA0_get {n i : Nat} (h : i < n) : (rgA 0 n)[i]? = some (.int (i : Int)) := by rw [rgA_get h]; simp
/-! ### comprehensions over one name, whose element changes nothing -/
theorem drop_put {i : Nat} {v : AV} : (AS.put ⟨ρ, S⟩ i v).drop i = AS.drop ⟨ρ, S⟩ i := by
  show (⟨(ρ.set i _).set i _, S⟩ : AS) = ⟨ρ.set i _, S⟩
  rw [List.set_set]
theorem put_drop {i : Nat} {v : AV} : (AS.drop ⟨ρ, S⟩ i).put i v = AS.put ⟨ρ, S⟩ i v := by
  show (⟨(ρ.set i _).set i _, S⟩ : AS) = ⟨ρ.set i _, S⟩
  rw [List.set_set]
theorem compL_pure {i : Nat} {tst : AS → Option (Bool × AS)} {elt : AS → Option (AV × AS)} {p : AV → Bool} {f : AV → AV} : ∀ {xs : List AV} {acc : List AV} {b : AS},
    b.drop i = AS.drop ⟨ρ, S⟩ i → (∀ x ∈ xs, tst (AS.put ⟨ρ, S⟩ i x) = some (p x, AS.put ⟨ρ, S⟩ i x)) → (∀ x ∈ xs, p x = true → elt (AS.put ⟨ρ, S⟩ i x) = some (f x, AS.put ⟨ρ, S⟩ i x)) → acc.length + xs.length ≤ 100000 →
    ∃ b', compL [i] (.one i) tst elt xs acc b = some (acc ++ (xs.filter p).map f, b') ∧ b'.drop i = AS.drop ⟨ρ, S⟩ i
  | [], acc, b, hb, _, _, _ => ⟨b, by simp [compL], hb⟩
  | x :: xs, acc, b, hb, h1, h2, hl => by
    have hl' : acc.length + xs.length + 1 ≤ 100000 := by simpa [Nat.add_assoc] using hl
    have e1 : compL [i] (.one i) tst elt (x :: xs) acc b = compT tst elt (compL [i] (.one i) tst elt xs) acc (AS.put ⟨ρ, S⟩ i x) := by
      show (asgT (.one i) x (clr b [i])).bind _ = _
      have : clr b [i] = AS.drop ⟨ρ, S⟩ i := hb
      rw [this]
      show compT tst elt (compL [i] (.one i) tst elt xs) acc ((AS.drop ⟨ρ, S⟩ i).put i x) = _
      rw [put_drop]
    rw [e1]
    unfold compT
    rw [h1 x List.mem_cons_self]
    cases hp : p x with
    | true =>
      obtain ⟨b', e2, e3⟩ := compL_pure (i := i) (tst := tst) (elt := elt) (p := p) (f := f) (xs := xs) (acc := acc ++ [f x]) (b := AS.put ⟨ρ, S⟩ i x) drop_put (fun y hy => h1 y (List.mem_cons_of_mem _ hy)) (fun y hy => h2 y (List.mem_cons_of_mem _ hy)) (by simp; omega)
      refine ⟨b', ?_, e3⟩
      show (if (true : Bool) = true then (if acc.length < sizeLine then (elt (AS.put ⟨ρ, S⟩ i x)).bind (fun q => compL [i] (.one i) tst elt xs (acc ++ [q.1]) q.2) else none) else compL [i] (.one i) tst elt xs acc (AS.put ⟨ρ, S⟩ i x)) = _
      rw [if_pos rfl, if_pos (Nat.lt_of_lt_of_le (by omega : acc.length < 100000) (by decide)), h2 x List.mem_cons_self hp]
      show compL [i] (.one i) tst elt xs (acc ++ [f x]) (AS.put ⟨ρ, S⟩ i x) = _
      rw [e2, List.filter_cons_of_pos hp]
      simp
    | false =>
      obtain ⟨b', e2, e3⟩ := compL_pure (i := i) (tst := tst) (elt := elt) (p := p) (f := f) (xs := xs) (acc := acc) (b := AS.put ⟨ρ, S⟩ i x) drop_put (fun y hy => h1 y (List.mem_cons_of_mem _ hy)) (fun y hy => h2 y (List.mem_cons_of_mem _ hy)) (by omega)
      refine ⟨b', ?_, e3⟩
      show (if (false : Bool) = true then (if acc.length < sizeLine then (elt (AS.put ⟨ρ, S⟩ i x)).bind (fun q => compL [i] (.one i) tst elt xs (acc ++ [q.1]) q.2) else none) else compL [i] (.one i) tst elt xs acc (AS.put ⟨ρ, S⟩ i x)) = _
      rw [if_neg (by decide), e2, List.filter_cons_of_neg (by rw [hp]; decide)]
def kFc (vs : List Nat) (tg : Tg) (tst : MT) (elt : ME) (G : Gm) : Option (AV × AS) → Option (List AV × AS)
  | some r => if noOwn r.2 vs = true then (compV vs tg (tst G) (elt G) r.2 r.1).map fun q => (q.1, rst r.2 (clr q.2 vs) vs) else none
  | none => none
@[simp] theorem fComp_ev {it : ME} {vs : List Nat} {tg : Tg} {tst : MT} {elt : ME} : fComp it vs tg tst elt G a = kFc vs tg tst elt G (it G a) := by show (it G a).bind _ = _; cases it G a <;> rfl
def kFcR (rg : List AV → Option (Int × Nat)) (vs : List Nat) (tg : Tg) (tst : MT) (elt : ME) (G : Gm) : Option (List AV × AS) → Option (List AV × AS)
  | some r => if noOwn r.2 vs = true then (rg r.1).bind fun p => (compL vs tg (tst G) (elt G) (rgA p.1 p.2) [] r.2).map fun q => (q.1, rst r.2 (clr q.2 vs) vs) else none
  | none => none
@[simp] theorem fCompR_ev {rg : List AV → Option (Int × Nat)} {t : MAs} {vs : List Nat} {tg : Tg} {tst : MT} {elt : ME} : fCompR rg t vs tg tst elt G a = kFcR rg vs tg tst elt G (t G a) := by show (t G a).bind _ = _; cases t G a <;> rfl
theorem rst_back {i : Nat} {b' : AS} (h : b'.drop i = AS.drop ⟨ρ, S⟩ i) : rst ⟨ρ, S⟩ (clr b' [i]) [i] = ⟨ρ, S⟩ := by
  have e : clr b' [i] = ⟨ρ.set i none, S⟩ := h
  rw [e]
  show (⟨(ρ.set i none).set i ((ρ[i]?).getD none), S⟩ : AS) = _
  rw [List.set_set]
  congr 1
  apply List.ext_getElem?
  intro j
  rw [List.getElem?_set]
  split
  · rename_i e; subst e
    split
    · rename_i hl; rw [List.getElem?_eq_getElem hl]; rfl
    · rename_i hl; rw [List.getElem?_eq_none (by omega)]
  · rfl
theorem comp_pure {i : Nat} {tst : MT} {elt : ME} {p : AV → Bool} {f : AV → AV} {v : AV} (hv : v = .lst xs ∨ v = .tup xs) (hn : noOwn ⟨ρ, S⟩ [i] = true) (h1 : ∀ x ∈ xs, tst G ⟨ρ.set i (some (.val x)), S⟩ = some (p x, ⟨ρ.set i (some (.val x)), S⟩))
    (h2 : ∀ x ∈ xs, p x = true → elt G ⟨ρ.set i (some (.val x)), S⟩ = some (f x, ⟨ρ.set i (some (.val x)), S⟩)) (hl : xs.length ≤ 100000) :
    kFc [i] (.one i) tst elt G (some (v, ⟨ρ, S⟩)) = some ((xs.filter p).map f, ⟨ρ, S⟩) := by
  obtain ⟨b', e1, e2⟩ := compL_pure (ρ := ρ) (S := S) (i := i) (tst := tst G) (elt := elt G) (p := p) (f := f) (xs := xs) (acc := []) (b := ⟨ρ, S⟩) rfl h1 h2 (by simpa using hl)
  show (if noOwn (⟨ρ, S⟩ : AS) [i] = true then (compV [i] (.one i) (tst G) (elt G) ⟨ρ, S⟩ v).map (fun q => (q.1, rst ⟨ρ, S⟩ (clr q.2 [i]) [i])) else none) = _
  rw [if_pos hn]
  have e3 : compV [i] (.one i) (tst G) (elt G) ⟨ρ, S⟩ v = compL [i] (.one i) (tst G) (elt G) xs [] ⟨ρ, S⟩ := by rcases hv with rfl | rfl <;> rfl
  rw [e3, e1]
  show some (_, rst ⟨ρ, S⟩ (clr b' [i]) [i]) = _
  rw [rst_back e2]
  rfl
theorem compR_pure {i n : Nat} {tst : MT} {elt : ME} {p : AV → Bool} {f : AV → AV} (hn : noOwn ⟨ρ, S⟩ [i] = true) (h1 : ∀ k : Nat, k < n → tst G ⟨ρ.set i (some (.val (.int (k : Int)))), S⟩ = some (p (.int k), ⟨ρ.set i (some (.val (.int (k : Int)))), S⟩))
    (h2 : ∀ k : Nat, k < n → p (.int k) = true → elt G ⟨ρ.set i (some (.val (.int (k : Int)))), S⟩ = some (f (.int k), ⟨ρ.set i (some (.val (.int (k : Int)))), S⟩)) (hl : n ≤ 100000) :
    kFcR asR1 [i] (.one i) tst elt G (some ([.int (n : Int)], ⟨ρ, S⟩)) = some (((rgA 0 n).filter p).map f, ⟨ρ, S⟩) := by
  have mem : ∀ x ∈ rgA 0 n, ∃ k : Nat, k < n ∧ x = .int (k : Int) := fun x hx => by
    obtain ⟨k, hk, e⟩ := List.mem_map.mp hx
    exact ⟨k, List.mem_range.mp hk, by rw [← e]; simp⟩
  obtain ⟨b', e1, e2⟩ := compL_pure (ρ := ρ) (S := S) (i := i) (tst := tst G) (elt := elt G) (p := p) (f := f) (xs := rgA 0 n) (acc := []) (b := ⟨ρ, S⟩) rfl
    (fun x hx => by obtain ⟨k, hk, rfl⟩ := mem x hx; exact h1 k hk) (fun x hx => by obtain ⟨k, hk, rfl⟩ := mem x hx; exact h2 k hk) (by simp [rgA_length]; exact hl)
  show (if noOwn (⟨ρ, S⟩ : AS) [i] = true then (asR1 [.int (n : Int)]).bind (fun p => (compL [i] (.one i) (tst G) (elt G) (rgA p.1 p.2) [] ⟨ρ, S⟩).map fun q => (q.1, rst ⟨ρ, S⟩ (clr q.2 [i]) [i])) else none) = _
  rw [if_pos hn, asR1_nat (by omega)]
  show (compL [i] (.one i) (tst G) (elt G) (rgA 0 n) [] ⟨ρ, S⟩).map _ = _
  rw [e1]
  show some (_, rst ⟨ρ, S⟩ (clr b' [i]) [i]) = _
  rw [rst_back e2]
  rfl
end
/-! ### _law_same of a thing with itself -/
theorem allT {n : Nat} : (((rgA 0 n).filter fun _ => true).map fun _ => AV.bl true) = List.replicate n (.bl true) := by
  rw [List.filter_eq_self.mpr fun _ _ => rfl]
  apply List.ext_getElem?
  intro j
  rw [List.getElem?_map, List.getElem?_replicate]
  split
  · rename_i h; rw [rgA_get h]; rfl
  · rename_i h; rw [List.getElem?_eq_none (by rw [rgA_length]; omega)]; rfl
theorem notIn_allT {S : List SObj} {n : Nat} : opNotIn S (.bl false) (.lst (List.replicate n (.bl true))) = some (.bl true) := by
  show (inSeq (.bl false) (List.replicate n (.bl true))).map _ = _
  rw [inSeq_sm (j := 0) (k := 0) (by unfold sm; rfl) (fun y hy => by rw [List.eq_of_mem_replicate hy]; unfold sm; rfl) (by omega)]
  have : ((List.replicate n (AV.bl true)).any fun y => y.eqb (.bl false)) = false := by
    rw [List.any_eq_false]
    intro y hy
    rw [List.eq_of_mem_replicate hy]
    decide
  rw [this]
  rfl
@[simp] theorem opNe_i {S : List SObj} {x y : Int} : opNe S (.int x) (.int y) = some (.bl (!decide (x = y))) := by
  rw [opNe_sm (j := 0) (k := 0) (by unfold sm; rfl) (by unfold sm; rfl) (by omega)]
  have : (AV.int x).eqb (.int y) = decide (x = y) := by simp [AV.eqb, AV.pd, PyData.eqv, BEq.beq]
  rw [this]
@[simp] theorem opNe_b {S : List SObj} {x y : Bool} : opNe S (.bl x) (.bl y) = some (.bl (x != y)) := by
  rw [opNe_sm (j := 0) (k := 0) (by unfold sm; rfl) (by unfold sm; rfl) (by omega)]
  have : (AV.bl x).eqb (.bl y) = (x == y) := by simp [AV.eqb, AV.pd, PyData.eqv]
  rw [this]; rfl
@[simp] theorem opEq_b {S : List SObj} {x y : Bool} : opEq S (.bl x) (.bl y) = some (.bl (x == y)) := by
  rw [opEq_sm (j := 0) (k := 0) (by unfold sm; rfl) (by unfold sm; rfl) (by omega)]
  have : (AV.bl x).eqb (.bl y) = (x == y) := by simp [AV.eqb, AV.pd, PyData.eqv]
  rw [this]
theorem opEq_refl {S : List SObj} {k : Nat} {x : AV} (h : sm k x = true) (hk : k ≤ 64) : opEq S x x = some (.bl true) := by rw [opEq_sm h h hk, eqb_refl h]
theorem same_ok {T : List (Str × DfE)} (hT : T.lookup ("_law_same" : Str) = some (⟨2, 3, bSame⟩ : DfE)) : ∀ (k d : Nat) (v : AV) (S : List SObj), sm k v = true → lvl T (d + k + 1) "_law_same" [v, v] S = some (.bl true, S) := by
  have step : ∀ (d : Nat) (args : List AV) (S : List SObj), lvl T (d + 1) "_law_same" args S = runD ⟨2, 3, bSame⟩ (lvl T d) args S := fun d args S => by
    show ((T.lookup ("_law_same" : Str)).bind fun e => runD e (lvl T d) args S) = _
    rw [hT]
    rfl
  intro k
  induction k with
  | zero =>
    intro d v S h
    rw [Nat.add_zero, step]
    cases v with
    | non => simp [bSame, frame]
    | bl b => cases b <;> simp [bSame, frame]
    | int i => simp [bSame, frame]
    | str z => simp [bSame, frame, opEq_refl h]
    | _ => cases h
  | succ k ih =>
    intro d v S h
    rw [show d + (k + 1) + 1 = (d + k + 1) + 1 by omega, step]
    cases v with
    | non => simp [bSame, frame]
    | bl b => cases b <;> simp [bSame, frame]
    | int i => simp [bSame, frame]
    | str z => simp [bSame, frame, opEq_refl (k := 0) (x := .str z) (by unfold sm; unfold sm at h; exact h)]
    | tup xs =>
      obtain ⟨j, e, h', hl⟩ := sm_tup h
      cases e
      have cp := compR_pure (G := lvl T (d + k + 1)) (ρ := [some (.val (.tup xs)), some (.val (.tup xs)), none]) (S := S) (i := 2) (n := xs.length) (tst := mTrue) (elt := eCall "_law_same" (aCons (eBin opIx (oVar 0) (oVar 2)) (aCons (eBin opIx (oVar 1) (oVar 2)) aNil))) (p := fun _ => true) (f := fun _ => .bl true) (by rfl)
        (fun i hi => rfl) (fun i hi _ => by
          have hx : xs[i]? = some xs[i] := List.getElem?_eq_getElem hi
          simp [atI_nat, hx, ih d xs[i] S (h' _ (List.getElem_mem hi))]) (by omega)
      rw [allT] at cp
      simp -implicitDefEqProofs [bSame, frame, cp, notIn_allT]
    | _ => cases h
end Pyx
end
section
set_option maxRecDepth 100000
namespace Pyx
open PySem L2
open PySem.Spec PyProof.Rows

/-! ### more stepping rules -/
section
variable {G : Gm} {a : AS} {ρ : List (Option Slt)} {S : List SObj} {i n : Nat} {v w : AV} {xs ys : List AV} {h h' : Hd} {oa ob : MO} {e e' : ME}
-- xs.pop()
def kPp4 (y : AV) : Option AS → Option (AV × AS)
  | some a => some (y, a)
  | none => none
@[simp] theorem kPp4_s {y : AV} : kPp4 y (some a) = some (y, a) := rfl
def kPp3 (a : AS) (h : Hd) : Option AV → Option (AV × AS)
  | some y => kPp4 y (mutL a (fun xs => some xs.dropLast) h)
  | none => none
@[simp] theorem kPp3_s {y : AV} : kPp3 a h (some y) = kPp4 y (mutL a (fun xs => some xs.dropLast) h) := rfl
def kPp2 (a : AS) (h : Hd) : Option AV → Option (AV × AS)
  | some (.lst xs) => kPp3 a h xs[xs.length - 1]?
  | _ => none
@[simp] theorem kPp2_s : kPp2 a h (some (.lst xs)) = kPp3 a h xs[xs.length - 1]? := rfl
def kPp1 : Option (Hd × AS) → Option (AV × AS)
  | some (h, a) => kPp2 a h (cont a h)
  | none => none
@[simp] theorem kPp1_s : kPp1 (some (h, ⟨ρ, S⟩)) = kPp2 ⟨ρ, S⟩ h (cont ⟨ρ, S⟩ h) := rfl
@[simp] theorem ePop_ev : ePop oa G a = kPp1 (oa G a) := by
  show (oa G a).bind _ = _
  cases oa G a with
  | none => rfl
  | some r =>
    obtain ⟨h, a⟩ := r
    show (cont a h).bind _ = kPp2 a h (cont a h)
    cases cont a h with
    | none => rfl
    | some c =>
      cases c with
      | lst xs =>
        show (xs[xs.length - 1]?).bind _ = kPp3 a h xs[xs.length - 1]?
        cases xs[xs.length - 1]? with
        | none => rfl
        | some y => show (mutL a (fun xs => some xs.dropLast) h).map _ = kPp4 y (mutL a (fun xs => some xs.dropLast) h); cases mutL a (fun xs => some xs.dropLast) h <;> rfl
      | _ => rfl
-- xs.pop(i)
def kPa3 (a : AS) (h : Hd) (k : Nat) : Option AV → Option (AV × AS)
  | some y => kPp4 y (mutL a (fun xs => some (xs.eraseIdx k)) h)
  | none => none
@[simp] theorem kPa3_s {k : Nat} {y : AV} : kPa3 a h k (some y) = kPp4 y (mutL a (fun xs => some (xs.eraseIdx k)) h) := rfl
def kPa2 (a : AS) (h : Hd) (iv : AV) : Option AV → Option (AV × AS)
  | some c => match c, iv with
    | .lst xs, .int i => if 0 ≤ i ∧ i < 2 ^ 63 then kPa3 a h i.toNat xs[i.toNat]? else none
    | _, _ => none
  | none => none
theorem kPa2_s {k : Nat} (hk : k < 1000000) : kPa2 a h (.int (k : Int)) (some (.lst xs)) = kPa3 a h k xs[k]? := by
  simp only [kPa2]
  rw [if_pos ⟨by omega, by omega⟩, Int.toNat_natCast]
def kPa1 (h : Hd) : Option (AV × AS) → Option (AV × AS)
  | some (v, a) => kPa2 a h v (cont a h)
  | none => none
@[simp] theorem kPa1_s : kPa1 h (some (v, ⟨ρ, S⟩)) = kPa2 ⟨ρ, S⟩ h v (cont ⟨ρ, S⟩ h) := rfl
def kPa0 (e : ME) (G : Gm) (h : Hd) (a : AS) : Option AV → Option (AV × AS)
  | some c0 => if isLst c0 = true then kPa1 h (e G a) else none
  | none => none
@[simp] theorem kPa0_s : kPa0 e G h a (some (.lst xs)) = kPa1 h (e G a) := rfl
def kPaO (e : ME) (G : Gm) : Option (Hd × AS) → Option (AV × AS)
  | some (h, a) => kPa0 e G h a (cont a h)
  | none => none
@[simp] theorem kPaO_s : kPaO e G (some (h, ⟨ρ, S⟩)) = kPa0 e G h ⟨ρ, S⟩ (cont ⟨ρ, S⟩ h) := rfl
@[simp] theorem ePopAt_ev : ePopAt oa e G a = kPaO e G (oa G a) := by
  show (oa G a).bind _ = _
  cases oa G a with
  | none => rfl
  | some r =>
    obtain ⟨h, a⟩ := r
    show (cont a h).bind _ = kPa0 e G h a (cont a h)
    cases cont a h with
    | none => rfl
    | some c0 =>
      show (if isLst c0 = true then _ else none) = (if isLst c0 = true then kPa1 h (e G a) else none)
      split
      · show (e G a).bind _ = kPa1 h (e G a)
        cases e G a with
        | none => rfl
        | some q =>
          obtain ⟨v, a⟩ := q
          show (cont a h).bind _ = kPa2 a h v (cont a h)
          cases cont a h with
          | none => rfl
          | some c =>
            cases c with
            | lst xs =>
              cases v with
              | int i =>
                show (if 0 ≤ i ∧ i < 2 ^ 63 then _ else none) = (if 0 ≤ i ∧ i < 2 ^ 63 then kPa3 a h i.toNat xs[i.toNat]? else none)
                split
                · show (xs[i.toNat]?).bind _ = _
                  cases xs[i.toNat]? with
                  | none => rfl
                  | some y => show (mutL a (fun xs => some (xs.eraseIdx i.toNat)) h).map _ = kPp4 y (mutL a (fun xs => some (xs.eraseIdx i.toNat)) h); cases mutL a (fun xs => some (xs.eraseIdx i.toNat)) h <;> rfl
                · rfl
              | _ => rfl
            | _ => cases v <;> rfl
      · rfl
-- a lent call
def kLd3 (a : AS) : Option (AV × List SObj) → Option (AV × AS)
  | some q => if isSc q.1 = true then some (q.1, a) else none
  | none => none
@[simp] theorem kLd3_s (hs : isSc v = true) : kLd3 a (some (v, S)) = some (v, a) := if_pos hs
def kLd2 (x : Str) (G : Gm) (a : AS) : Option (List AV) → Option (AV × AS)
  | some cs => if AV.nrs cs = true then kLd3 a (G x cs []) else none
  | none => none
theorem kLd2_s {x : Str} (hn : AV.nrs xs = true) : kLd2 x G a (some xs) = kLd3 a (G x xs []) := if_pos hn
def kLd1 (x : Str) (G : Gm) : Option (List Hd × AS) → Option (AV × AS)
  | some r => kLd2 x G r.2 (conts r.2 r.1)
  | none => none
@[simp] theorem kLd1_s {x : Str} {hs : List Hd} : kLd1 x G (some (hs, ⟨ρ, S⟩)) = kLd2 x G ⟨ρ, S⟩ (conts ⟨ρ, S⟩ hs) := rfl
@[simp] theorem eLend_ev {x : Str} {t : MOs} : eLend x t G a = kLd1 x G (t G a) := by
  show (t G a).bind _ = _
  cases t G a with
  | none => rfl
  | some r =>
    obtain ⟨hs, a⟩ := r
    show (conts a hs).bind _ = kLd2 x G a (conts a hs)
    cases conts a hs with
    | none => rfl
    | some cs =>
      show (if AV.nrs cs = true then _ else none) = (if AV.nrs cs = true then kLd3 a (G x cs []) else none)
      split
      · show (G x cs []).bind _ = kLd3 a (G x cs [])
        cases G x cs [] <;> rfl
      · rfl
-- a call behind which the store is cut
def kCt2 (ρ : List (Option Slt)) (n : Nat) : Option (AV × List SObj) → Option (AV × AS)
  | some q => if (q.1.rlt n && (q.2.take n).all (SObj.rlt n)) = true ∧ n ≤ q.2.length then some (q.1, ⟨ρ, q.2.take n⟩) else none
  | none => none
theorem kCt2_s {S' : List SObj} (h1 : v.rlt n = true) (h2 : ∀ o ∈ S', o.rlt n = true) (h3 : S'.length = n) {R : List SObj} : kCt2 ρ n (some (v, S' ++ R)) = some (v, ⟨ρ, S'⟩) := by
  have e : (S' ++ R).take n = S' := by rw [← h3]; simp
  show (if (v.rlt n && ((S' ++ R).take n).all (SObj.rlt n)) = true ∧ n ≤ (S' ++ R).length then some (v, (⟨ρ, (S' ++ R).take n⟩ : AS)) else none) = _
  rw [e, if_pos ⟨by rw [h1, List.all_eq_true.mpr h2]; rfl, by rw [List.length_append]; omega⟩]
def kCt1 (x : Str) (G : Gm) : Option (List AV × AS) → Option (AV × AS)
  | some r => kCt2 r.2.ρ r.2.S.length (G x r.1 r.2.S)
  | none => none
@[simp] theorem kCt1_s {x : Str} : kCt1 x G (some (xs, ⟨ρ, S⟩)) = kCt2 ρ S.length (G x xs S) := rfl
@[simp] theorem eCallT_ev {x : Str} {t : MAs} : eCallT x t G a = kCt1 x G (t G a) := by
  show (t G a).bind _ = _
  cases t G a with
  | none => rfl
  | some r => show (G x r.1 r.2.S).bind _ = kCt2 r.2.ρ r.2.S.length (G x r.1 r.2.S); cases G x r.1 r.2.S <;> rfl
-- sums and slices as fresh lists
def kCat3 (a : AS) : Option AV → Option AV → Option (List AV × AS)
  | some x, some y => kFV a (catL x y)
  | _, _ => none
@[simp] theorem kCat3_s : kCat3 a (some v) (some w) = kFV a (catL v w) := rfl
@[simp] theorem catL_s (hl : xs.length + ys.length ≤ 100000) : catL (.lst xs) (.lst ys) = some (xs ++ ys) := if_pos (le_sl hl)
def kCat2 (h : Hd) : Option (Hd × AS) → Option (List AV × AS)
  | some (h', a) => kCat3 a (cont a h) (cont a h')
  | none => none
@[simp] theorem kCat2_s : kCat2 h (some (h', ⟨ρ, S⟩)) = kCat3 ⟨ρ, S⟩ (cont ⟨ρ, S⟩ h) (cont ⟨ρ, S⟩ h') := rfl
def kCat1 (ob : MO) (G : Gm) : Option (Hd × AS) → Option (List AV × AS)
  | some (h, a) => kCat2 h (ob G a)
  | none => none
@[simp] theorem kCat1_s : kCat1 ob G (some (h, a)) = kCat2 h (ob G a) := rfl
@[simp] theorem fCat_ev : fCat oa ob G a = kCat1 ob G (oa G a) := by
  show (oa G a).bind _ = _
  cases oa G a with
  | none => rfl
  | some r =>
    obtain ⟨h, a⟩ := r
    show (ob G a).bind _ = kCat2 h (ob G a)
    cases ob G a with
    | none => rfl
    | some r2 =>
      obtain ⟨h', a⟩ := r2
      show (cont a h).bind _ = kCat3 a (cont a h) (cont a h')
      cases cont a h with
      | none => rfl
      | some x =>
        show (cont a h').bind _ = kCat3 a (some x) (cont a h')
        cases cont a h' with
        | none => rfl
        | some y => show (catL x y).map _ = kFV a (catL x y); cases catL x y <;> rfl
-- list(range(n))
def kRg : Option (AV × AS) → Option (List AV × AS)
  | some (.int j, a) => if rgOk j = true then some (rgA 0 j.toNat, a) else none
  | _ => none
theorem kRg_s {n : Nat} (hn : n ≤ 1000000) : kRg (some (.int (n : Int), a)) = some (rgA 0 n, a) := by
  show (if rgOk (n : Int) = true then some (rgA 0 (n : Int).toNat, a) else none) = _
  have ok : rgOk (n : Int) = true := decide_eq_true ⟨by omega, by omega⟩
  rw [if_pos ok, Int.toNat_natCast]
@[simp] theorem fRg_ev : fRg e G a = kRg (e G a) := by
  show (e G a).bind _ = _
  cases e G a with
  | none => rfl
  | some r => obtain ⟨v, a⟩ := r; cases v <;> rfl
-- t[::-1]
def kRv2 (a : AS) : Option AV → Option (AV × AS)
  | some (.tup xs) => some (.tup xs.reverse, a)
  | _ => none
@[simp] theorem kRv2_s : kRv2 a (some (.tup xs)) = some (.tup xs.reverse, a) := rfl
def kRv1 : Option (Hd × AS) → Option (AV × AS)
  | some (h, a) => kRv2 a (cont a h)
  | none => none
@[simp] theorem kRv1_s : kRv1 (some (h, ⟨ρ, S⟩)) = kRv2 ⟨ρ, S⟩ (cont ⟨ρ, S⟩ h) := rfl
@[simp] theorem eRevT_ev : eRevT oa G a = kRv1 (oa G a) := by
  show (oa G a).bind _ = _
  cases oa G a with
  | none => rfl
  | some r =>
    obtain ⟨h, a⟩ := r
    show (cont a h).bind _ = kRv2 a (cont a h)
    cases cont a h with
    | none => rfl
    | some c => cases c <;> rfl
-- sep.join(xs)
def kJn1 (z : Str) : Option (Hd × AS) → Option (AV × AS)
  | some (h, a) => kJn2 z a (cont a h)
  | none => none
where kJn2 (z : Str) (a : AS) : Option AV → Option (AV × AS)
  | some c => kV a (joinA z c)
  | none => none
@[simp] theorem kJn1_s {z : Str} : kJn1 z (some (h, ⟨ρ, S⟩)) = kJn1.kJn2 z ⟨ρ, S⟩ (cont ⟨ρ, S⟩ h) := rfl
@[simp] theorem kJn2_s {z : Str} : kJn1.kJn2 z a (some v) = kV a (joinA z v) := rfl
@[simp] theorem eJoin_ev {z : Str} : eJoin z oa G a = kJn1 z (oa G a) := by
  show (oa G a).bind _ = _
  cases oa G a with
  | none => rfl
  | some r =>
    obtain ⟨h, a⟩ := r
    show (cont a h).bind _ = kJn1.kJn2 z a (cont a h)
    cases cont a h with
    | none => rfl
    | some c => show (joinA z c).map _ = kV a (joinA z c); cases joinA z c <;> rfl
-- a dict's display
def kDi (ks : List Str) : Option (List AV × AS) → Option (AV × AS)
  | some r => if r.1.length = ks.length then some (.ref r.2.S.length, r.2.lay (.dic (ks.zip r.1))) else none
  | none => none
@[simp] theorem kDi_s {ks : List Str} (hl : xs.length = ks.length) : kDi ks (some (xs, ⟨ρ, S⟩)) = some (.ref S.length, ⟨ρ, S ++ [.dic (ks.zip xs)]⟩) := if_pos hl
@[simp] theorem eDic_ev {ks : List Str} {t : MAs} : eDic ks t G a = kDi ks (t G a) := by show (t G a).bind _ = _; cases t G a <;> rfl
-- enumerate
def kFoE (is : List Nat) (b : MS) (G : Gm) : Option (AV × AS) → Option (Out × AS)
  | some (.lst xs, a) => loopL (.many is) (b G) (enA xs) a
  | some (.tup xs, a) => loopL (.many is) (b G) (enA xs) a
  | some (.ref n, a) => match a.S[n]? with
    | some (.lst xs) => loopE (.many is) (b G) n xs.length xs.length a
    | _ => none
  | _ => none
@[simp] theorem kFoE_t {is : List Nat} {b : MS} : kFoE is b G (some (.tup xs, a)) = loopL (.many is) (b G) (enA xs) a := rfl
@[simp] theorem kFoE_l {is : List Nat} {b : MS} : kFoE is b G (some (.lst xs, a)) = loopL (.many is) (b G) (enA xs) a := rfl
@[simp] theorem sForE_ev {it : ME} {is : List Nat} {b : MS} : sForE it is b G a = kFoE is b G (it G a) := by
  show (it G a).bind _ = _
  cases it G a with
  | none => rfl
  | some r => obtain ⟨v, a⟩ := r; cases v <;> rfl
def kFcE (vs is : List Nat) (tst : MT) (elt : ME) (G : Gm) : Option (AV × AS) → Option (List AV × AS)
  | some r => if noOwn r.2 vs = true then (compVE vs (.many is) (tst G) (elt G) r.2 r.1).map fun q => (q.1, rst r.2 (clr q.2 vs) vs) else none
  | none => none
@[simp] theorem fCompE_ev {it : ME} {vs is : List Nat} {tst : MT} {elt : ME} : fCompE it vs is tst elt G a = kFcE vs is tst elt G (it G a) := by show (it G a).bind _ = _; cases it G a <;> rfl
-- a dict of the store
@[simp] theorem opIx_d {k : Str} : opIx S (.ref n) (.str k) = ixD k S[n]? := rfl
@[simp] theorem ixD_s {k : Str} {kvs : List (Str × AV)} : ixD k (some (.dic kvs)) = dGet kvs k := rfl
@[simp] theorem inD_s {k : Str} : opIn S (.str k) (.ref n) = (match S[n]? with | some (.dic kvs) => some (dHas kvs k) | _ => none).map AV.bl := rfl
def kSd (a : AS) (k : Str) (v : AV) : Option Nat → Option AS
  | some n => putD a n k v a.S[n]?
  | none => none
@[simp] theorem kSd_s {k : Str} : kSd ⟨ρ, S⟩ k v (some n) = putD ⟨ρ, S⟩ n k v S[n]? := rfl
@[simp] theorem storeI_str {k : Str} : storeI a h (.str k) v = kSd a k v (hdRef a h) := by
  show (hdRef a h).bind _ = _
  cases hdRef a h <;> rfl
@[simp] theorem hdRef_v : hdRef a (.val (.ref n)) = some n := rfl
def hdO : Option (Option Slt) → Option Nat
  | some (some (.val (.ref n))) => some n
  | _ => none
@[simp] theorem hdRef_s : hdRef ⟨ρ, S⟩ (.slot i) = hdO ρ[i]? := by
  show (match ρ[i]? with | some (some (.val (.ref n))) => some n | _ => none) = _
  unfold hdO
  split <;> rfl
@[simp] theorem hdO_s : hdO (some (some (.val (.ref n)))) = some n := rfl
@[simp] theorem putD_s {k : Str} {kvs : List (Str × AV)} (hl : kvs.length < 100000) : putD ⟨ρ, S⟩ n k v (some (.dic kvs)) = some ⟨ρ, S.set n (.dic (dPut kvs k v))⟩ := if_pos (Nat.lt_of_lt_of_le hl (by decide))
-- texts
@[simp] theorem opAdd_s {x y : Str} (hl : x.length + y.length ≤ 100000) : opAdd S (.str x) (.str y) = some (.str (x ++ y)) := if_pos (le_sl hl)
@[simp] theorem opIx_s {z : Str} {k : Int} : opIx S (.str z) (.int k) = ixS z k := rfl
theorem ixS_nat {z : Str} {k : Nat} {c : Nat} (hl : z.length ≤ 100000) (h : z.cps.toList[k]? = some c) : ixS z (k : Int) = some (.str ⟨#[c]⟩) := by
  unfold ixS
  rw [if_pos (le_sl hl), Pyx.atI_nat, h]
  rfl
@[simp] theorem biLen_s {z : Str} (hl : z.length ≤ 100000) : biLen S [.str z] = some (.int z.length) := if_pos (le_sl hl)
end
end Pyx
end
section
set_option maxRecDepth 100000
namespace Pyx
open PySem L2
open PySem.Spec PyProof.Rows

/-! ### comprehensions whose element changes the store -/
section
variable {G : Gm} {ρ : List (Option Slt)} {i : Nat} {elt : ME}
theorem compL_st (I : Nat → List SObj → Prop) (P : AV → Prop) : ∀ {xs acc : List AV} {b : AS} {k : Nat}, b.ρ.set i none = ρ.set i none → I k b.S → acc.length + xs.length ≤ 100000 →
    (∀ j x S, xs[j]? = some x → I (k + j) S → ∃ v S', elt G ⟨ρ.set i (some (.val x)), S⟩ = some (v, ⟨ρ.set i (some (.val x)), S'⟩) ∧ P v ∧ I (k + j + 1) S') →
    ∃ vs b', compL [i] (.one i) (mTrue G) (elt G) xs acc b = some (acc ++ vs, b') ∧ b'.ρ.set i none = ρ.set i none ∧ vs.length = xs.length ∧ (∀ v ∈ vs, P v) ∧ I (k + xs.length) b'.S
  | [], acc, b, k, hb, hI, _, _ => ⟨[], b, by simp [compL], hb, rfl, by simp, hI⟩
  | x :: xs, acc, b, k, hb, hI, hl, h => by
    have hl' : acc.length + xs.length + 1 ≤ 100000 := by simpa [Nat.add_assoc] using hl
    obtain ⟨v, S', e1, p1, i1⟩ := h 0 x b.S rfl hI
    have st : (b.ρ.set i none).set i (some (Slt.val x)) = ρ.set i (some (.val x)) := by rw [hb, List.set_set]
    obtain ⟨vs, b', e2, e3, e4, e5, e6⟩ := compL_st I P (xs := xs) (acc := acc ++ [v]) (b := ⟨ρ.set i (some (.val x)), S'⟩) (k := k + 1) (by simp [List.set_set]) i1 (by simp; omega) (fun j y S hy hI => by
      have := h (j + 1) y S (by simpa using hy) (by rw [show k + (j + 1) = k + 1 + j by omega]; exact hI)
      rw [show k + (j + 1) + 1 = k + 1 + j + 1 by omega] at this
      exact this)
    refine ⟨v :: vs, b', ?_, e3, by simp [e4], by simpa using ⟨p1, e5⟩, by rw [List.length_cons, show k + (xs.length + 1) = k + 1 + xs.length by omega]; exact e6⟩
    show compT (mTrue G) (elt G) (compL [i] (.one i) (mTrue G) (elt G) xs) acc ⟨(b.ρ.set i none).set i (some (.val x)), b.S⟩ = _
    rw [st]
    show (if (true : Bool) = true then (if acc.length < sizeLine then (elt G ⟨ρ.set i (some (.val x)), b.S⟩).bind (fun q => compL [i] (.one i) (mTrue G) (elt G) xs (acc ++ [q.1]) q.2) else none) else compL [i] (.one i) (mTrue G) (elt G) xs acc ⟨ρ.set i (some (.val x)), b.S⟩) = _
    rw [if_pos rfl, if_pos (Nat.lt_of_lt_of_le (by omega : acc.length < 100000) (by decide)), e1]
    show compL [i] (.one i) (mTrue G) (elt G) xs (acc ++ [v]) ⟨ρ.set i (some (.val x)), S'⟩ = _
    rw [e2]
    simp
theorem rst_st {S : List SObj} {b : AS} (h : b.ρ.set i none = ρ.set i none) : rst ⟨ρ, S⟩ (clr b [i]) [i] = ⟨ρ, b.S⟩ := by
  show (⟨(b.ρ.set i none).set i ((ρ[i]?).getD none), b.S⟩ : AS) = _
  rw [h, List.set_set]
  congr 1
  apply List.ext_getElem?
  intro j
  rw [List.getElem?_set]
  split
  · rename_i e; subst e
    split
    · rename_i hl; rw [List.getElem?_eq_getElem hl]; rfl
    · rename_i hl; rw [List.getElem?_eq_none (by omega)]
  · rfl
/-- over a range -/
theorem compR_st {S : List SObj} {n : Nat} (I : Nat → List SObj → Prop) (P : AV → Prop) (hn : noOwn ⟨ρ, S⟩ [i] = true) (h0 : I 0 S) (hl : n ≤ 100000)
    (h : ∀ (k : Nat) S, k < n → I k S → ∃ v S', elt G ⟨ρ.set i (some (.val (.int (k : Int)))), S⟩ = some (v, ⟨ρ.set i (some (.val (.int (k : Int)))), S'⟩) ∧ P v ∧ I (k + 1) S') :
    ∃ vs S', kFcR asR1 [i] (.one i) mTrue elt G (some ([.int (n : Int)], ⟨ρ, S⟩)) = some (vs, ⟨ρ, S'⟩) ∧ vs.length = n ∧ (∀ v ∈ vs, P v) ∧ I n S' := by
  obtain ⟨vs, b', e1, e2, e3, e4, e5⟩ := compL_st (G := G) (ρ := ρ) (i := i) (elt := elt) I P (xs := rgA 0 n) (acc := []) (b := ⟨ρ, S⟩) (k := 0) rfl h0 (by simp [rgA_length]; exact hl) (fun j x S hx hI => by
    have hj : j < n := by
      have := (List.getElem?_eq_some_iff.mp hx).1
      rwa [rgA_length] at this
    rw [rgA0_get hj] at hx
    cases hx
    rw [Nat.zero_add] at hI ⊢
    exact h j S hj hI)
  rw [rgA_length] at e3 e5
  rw [Nat.zero_add] at e5
  refine ⟨vs, b'.S, ?_, e3, e4, e5⟩
  show (if noOwn (⟨ρ, S⟩ : AS) [i] = true then (asR1 [.int (n : Int)]).bind (fun p => (compL [i] (.one i) (mTrue G) (elt G) (rgA p.1 p.2) [] ⟨ρ, S⟩).map fun q => (q.1, rst ⟨ρ, S⟩ (clr q.2 [i]) [i])) else none) = _
  rw [if_pos hn, asR1_nat (by omega)]
  show (compL [i] (.one i) (mTrue G) (elt G) (rgA 0 n) [] ⟨ρ, S⟩).map _ = _
  rw [e1]
  show some (_, rst ⟨ρ, S⟩ (clr b' [i]) [i]) = _
  rw [rst_st e2]
  simp
end
end Pyx
end
section
set_option maxRecDepth 100000
namespace Pyx
open PySem L2
open PySem.Spec PyProof.Rows
/-! a value that is run through: a list, a tuple, or a list of the store -/
def itS (S : List SObj) (v : AV) (xs : List AV) : Prop := v = .lst xs ∨ v = .tup xs ∨ ∃ n, v = .ref n ∧ S[n]? = some (.lst xs)
theorem itS_res {S : List SObj} {v : AV} {xs : List AV} (h : itS S v xs) : res S v = .lst xs ∨ res S v = .tup xs := by
  rcases h with rfl | rfl | ⟨n, rfl, h⟩
  · exact .inl rfl
  · exact .inr rfl
  · refine .inl ?_
    show resL n S[n]? = _
    rw [h]
    rfl
theorem itS_ix {S : List SObj} {v : AV} {xs : List AV} (h : itS S v xs) (i : Int) : opIx S (res S v) (.int i) = atI xs i := by
  rcases itS_res h with e | e <;> rw [e] <;> rfl
theorem itS_len {S : List SObj} {v : AV} {xs : List AV} (h : itS S v xs) : biLen S [res S v] = some (.int xs.length) := by
  rcases itS_res h with e | e <;> rw [e] <;> rfl
section
variable {G : Gm} {ρ : List (Option Slt)} {S : List SObj} {i : Nat}
theorem compR_pureS {n : Nat} {tst : AS → Option (Bool × AS)} {elt : AS → Option (AV × AS)} {p : AV → Bool} {f : AV → AV} {xs : List AV} (hS : S[n]? = some (.lst xs)) (h1 : ∀ x ∈ xs, tst ⟨ρ.set i (some (.val x)), S⟩ = some (p x, ⟨ρ.set i (some (.val x)), S⟩))
    (h2 : ∀ x ∈ xs, p x = true → elt ⟨ρ.set i (some (.val x)), S⟩ = some (f x, ⟨ρ.set i (some (.val x)), S⟩)) : ∀ (k : Nat) (acc : List AV) (b : AS), k ≤ xs.length → b.drop i = AS.drop ⟨ρ, S⟩ i → acc.length + k ≤ 100000 →
    ∃ b', compR [i] (.one i) tst elt n xs.length k acc b = some (acc ++ ((xs.drop (xs.length - k)).filter p).map f, b') ∧ b'.drop i = AS.drop ⟨ρ, S⟩ i := by
  intro k
  induction k with
  | zero =>
    intro acc b hk hb hl
    refine ⟨b, ?_, hb⟩
    have hbS : b.S = S := by
      have := congrArg AS.S hb
      exact this
    have hlen : lenIs b n xs.length = true := by
      unfold lenIs
      rw [hbS, hS]
      simp
    rw [show xs.drop (xs.length - 0) = [] by simp]
    show (if lenIs b n xs.length = true then some (acc, b) else none) = _
    rw [if_pos hlen]
    simp
  | succ k ih =>
    intro acc b hk hb hl
    have hbS : b.S = S := by
      have := congrArg AS.S hb
      exact this
    have hi : xs.length - (k + 1) < xs.length := by omega
    have hit : itemAt b n xs.length (xs.length - (k + 1)) = some xs[xs.length - (k + 1)] := by
      unfold itemAt
      rw [hbS, hS]
      simp [hi]
    have hd : xs.drop (xs.length - (k + 1)) = xs[xs.length - (k + 1)] :: xs.drop (xs.length - k) := by
      rw [List.drop_eq_getElem_cons hi, show xs.length - (k + 1) + 1 = xs.length - k by omega]
    have hm : xs[xs.length - (k + 1)] ∈ xs := List.getElem_mem hi
    generalize xs[xs.length - (k + 1)] = x at hit hd hm
    have hp : AS.put b i x = AS.put ⟨ρ, S⟩ i x := by
      have e1 : b.ρ.set i none = ρ.set i none := congrArg AS.ρ hb
      show (⟨b.ρ.set i _, b.S⟩ : AS) = ⟨ρ.set i _, S⟩
      rw [hbS]
      congr 1
      have := congrArg (fun r => r.set i (some (Slt.val x))) e1
      simpa [List.set_set] using this
    have hc : asgT (.one i) x (clr b [i]) = some (AS.put ⟨ρ, S⟩ i x) := by
      rw [← hp]
      show some (⟨(b.ρ.set i none).set i (some (.val x)), b.S⟩ : AS) = some ⟨b.ρ.set i (some (.val x)), b.S⟩
      rw [List.set_set]
    have ht : tst (AS.put ⟨ρ, S⟩ i x) = some (p x, AS.put ⟨ρ, S⟩ i x) := h1 x hm
    have st : compR [i] (.one i) tst elt n xs.length (k + 1) acc b = (if p x = true then (if acc.length < sizeLine then (elt (AS.put ⟨ρ, S⟩ i x)).bind (fun q => compR [i] (.one i) tst elt n xs.length k (acc ++ [q.1]) q.2) else none) else compR [i] (.one i) tst elt n xs.length k acc (AS.put ⟨ρ, S⟩ i x)) := by
      show (itemAt b n xs.length (xs.length - (k + 1))).bind _ = _
      rw [hit, Option.bind_some, hc, Option.bind_some]
      unfold compT
      rw [ht]
      rfl
    rw [hd, st]
    cases hpx : p x with
    | true =>
      obtain ⟨b', e2, e3⟩ := ih (acc ++ [f x]) (AS.put ⟨ρ, S⟩ i x) (by omega) drop_put (by simp; omega)
      refine ⟨b', ?_, e3⟩
      rw [if_pos rfl, if_pos (Nat.lt_of_lt_of_le (by omega : acc.length < 100000) (by decide)), show elt (AS.put ⟨ρ, S⟩ i x) = some (f x, AS.put ⟨ρ, S⟩ i x) from h2 x hm hpx]
      show compR [i] (.one i) tst elt n xs.length k (acc ++ [f x]) (AS.put ⟨ρ, S⟩ i x) = _
      rw [e2, List.filter_cons_of_pos hpx]
      simp
    | false =>
      obtain ⟨b', e2, e3⟩ := ih acc (AS.put ⟨ρ, S⟩ i x) (by omega) drop_put (by omega)
      refine ⟨b', ?_, e3⟩
      rw [if_neg (by decide), e2, List.filter_cons_of_neg (by rw [hpx]; decide)]
theorem comp_it {tst : MT} {elt : ME} {p : AV → Bool} {f : AV → AV} {v : AV} {xs : List AV} (hv : itS S v xs) (hn : noOwn ⟨ρ, S⟩ [i] = true) (h1 : ∀ x ∈ xs, tst G ⟨ρ.set i (some (.val x)), S⟩ = some (p x, ⟨ρ.set i (some (.val x)), S⟩))
    (h2 : ∀ x ∈ xs, p x = true → elt G ⟨ρ.set i (some (.val x)), S⟩ = some (f x, ⟨ρ.set i (some (.val x)), S⟩)) (hl : xs.length ≤ 100000) :
    kFc [i] (.one i) tst elt G (some (v, ⟨ρ, S⟩)) = some ((xs.filter p).map f, ⟨ρ, S⟩) := by
  rcases hv with rfl | rfl | ⟨n, rfl, hS⟩
  · exact comp_pure (.inl rfl) hn h1 h2 hl
  · exact comp_pure (.inr rfl) hn h1 h2 hl
  · obtain ⟨b', e1, e2⟩ := compR_pureS (ρ := ρ) (S := S) (i := i) (tst := tst G) (elt := elt G) (p := p) (f := f) hS h1 h2 xs.length [] ⟨ρ, S⟩ (Nat.le_refl _) rfl (by simpa using hl)
    show (if noOwn (⟨ρ, S⟩ : AS) [i] = true then (compV [i] (.one i) (tst G) (elt G) ⟨ρ, S⟩ (.ref n)).map (fun q => (q.1, rst ⟨ρ, S⟩ (clr q.2 [i]) [i])) else none) = _
    rw [if_pos hn]
    have e3 : compV [i] (.one i) (tst G) (elt G) ⟨ρ, S⟩ (.ref n) = compR [i] (.one i) (tst G) (elt G) n xs.length xs.length [] ⟨ρ, S⟩ := by
      show (match S[n]? with | some (.lst xs) => compR [i] (.one i) (tst G) (elt G) n xs.length xs.length [] ⟨ρ, S⟩ | _ => none) = _
      rw [hS]
    rw [e3, e1]
    show some (_, rst ⟨ρ, S⟩ (clr b' [i]) [i]) = _
    rw [rst_back e2]
    simp
end
/-! a loop that returns at the first turn at which something holds -/
section
variable {tg : Tg} {body : AS → Option (Out × AS)} {S : List SObj} {w : AV}
theorem loopL_any (I : AS → Prop) {p : AV → Bool} : ∀ {xs : List AV} {a : AS}, (∀ a, I a → a.S = S) → (∀ x ∈ xs, ∀ a, I a → ∃ a1, asgT tg x a = some a1 ∧ (p x = true → ∃ a2, body a1 = some (.rt w, a2) ∧ a2.S = S) ∧ (p x = false → ∃ a2, body a1 = some (.nx, a2) ∧ I a2)) → I a →
    (xs.any p = true → ∃ a', loopL tg body xs a = some (.rt w, a') ∧ a'.S = S) ∧ (xs.any p = false → ∃ a', loopL tg body xs a = some (.nx, a') ∧ I a')
  | [], a, _, _, h0 => ⟨fun h => (by cases h), fun _ => ⟨a, rfl, h0⟩⟩
  | x :: xs, a, hI, h, h0 => by
    obtain ⟨a1, e1, t1, t2⟩ := h x List.mem_cons_self a h0
    cases hp : p x with
    | true =>
      obtain ⟨a2, e2, e3⟩ := t1 hp
      refine ⟨fun _ => ⟨a2, ?_, e3⟩, fun hf => ?_⟩
      · show ((asgT tg x a).bind fun a' => (body a').bind (turn (loopL tg body xs))) = _
        rw [e1]
        show (body a1).bind _ = _
        rw [e2]
        rfl
      · rw [List.any_cons, hp] at hf; cases hf
    | false =>
      obtain ⟨a2, e2, i2⟩ := t2 hp
      have ih := loopL_any I (p := p) (xs := xs) hI (fun y hy => h y (List.mem_cons_of_mem _ hy)) i2
      have st : loopL tg body (x :: xs) a = loopL tg body xs a2 := by
        show ((asgT tg x a).bind fun a' => (body a').bind (turn (loopL tg body xs))) = _
        rw [e1]
        show (body a1).bind _ = _
        rw [e2]
        rfl
      rw [st, List.any_cons, hp, Bool.false_or]
      exact ih
theorem loopR_any {n : Nat} {xs : List AV} (hS : S[n]? = some (.lst xs)) (I : AS → Prop) {p : AV → Bool} (hI : ∀ a, I a → a.S = S) (h : ∀ x ∈ xs, ∀ a, I a → ∃ a1, asgT tg x a = some a1 ∧ (p x = true → ∃ a2, body a1 = some (.rt w, a2) ∧ a2.S = S) ∧ (p x = false → ∃ a2, body a1 = some (.nx, a2) ∧ I a2)) : ∀ (k : Nat) (a : AS), k ≤ xs.length → I a →
    ((xs.drop (xs.length - k)).any p = true → ∃ a', loopR tg body n xs.length k a = some (.rt w, a') ∧ a'.S = S) ∧ ((xs.drop (xs.length - k)).any p = false → ∃ a', loopR tg body n xs.length k a = some (.nx, a') ∧ I a') := by
  intro k
  induction k with
  | zero =>
    intro a _ h0
    have hlen : lenIs a n xs.length = true := by
      unfold lenIs
      rw [hI a h0, hS]
      simp
    rw [show xs.drop (xs.length - 0) = [] by simp]
    refine ⟨fun h => (by cases h), fun _ => ⟨a, ?_, h0⟩⟩
    show (if lenIs a n xs.length = true then some (Out.nx, a) else none) = _
    rw [if_pos hlen]
  | succ k ih =>
    intro a hk h0
    have hi : xs.length - (k + 1) < xs.length := by omega
    have hit : itemAt a n xs.length (xs.length - (k + 1)) = some xs[xs.length - (k + 1)] := by
      unfold itemAt
      rw [hI a h0, hS]
      simp [hi]
    have hd : xs.drop (xs.length - (k + 1)) = xs[xs.length - (k + 1)] :: xs.drop (xs.length - k) := by
      rw [List.drop_eq_getElem_cons hi, show xs.length - (k + 1) + 1 = xs.length - k by omega]
    obtain ⟨a1, e1, t1, t2⟩ := h _ (List.getElem_mem hi) a h0
    generalize xs[xs.length - (k + 1)] = x at hit hd e1 t1 t2
    have st : loopR tg body n xs.length (k + 1) a = (body a1).bind (turn (loopR tg body n xs.length k)) := by
      show (itemAt a n xs.length (xs.length - (k + 1))).bind _ = _
      rw [hit, Option.bind_some, e1, Option.bind_some]
    rw [hd, List.any_cons, st]
    cases hp : p x with
    | true =>
      obtain ⟨a2, e2, e3⟩ := t1 hp
      rw [e2]
      exact ⟨fun _ => ⟨a2, rfl, e3⟩, fun hf => (by cases hf)⟩
    | false =>
      obtain ⟨a2, e2, i2⟩ := t2 hp
      rw [e2, Bool.false_or]
      exact ih a2 (by omega) i2
theorem fo_any {G : Gm} {b : MS} {v : AV} {xs : List AV} {a : AS} (hv : itS S v xs) (I : AS → Prop) {p : AV → Bool} (hI : ∀ a, I a → a.S = S) (h : ∀ x ∈ xs, ∀ a, I a → ∃ a1, asgT tg x a = some a1 ∧ (p x = true → ∃ a2, b G a1 = some (.rt w, a2) ∧ a2.S = S) ∧ (p x = false → ∃ a2, b G a1 = some (.nx, a2) ∧ I a2)) (h0 : I a) :
    (xs.any p = true → ∃ a', kFo tg b G (some (v, a)) = some (.rt w, a') ∧ a'.S = S) ∧ (xs.any p = false → ∃ a', kFo tg b G (some (v, a)) = some (.nx, a') ∧ I a') := by
  rcases hv with rfl | rfl | ⟨n, rfl, hS⟩
  · exact loopL_any I hI h h0
  · exact loopL_any I hI h h0
  · have := loopR_any hS I hI h xs.length a (Nat.le_refl _) h0
    rw [show xs.drop (xs.length - xs.length) = xs by simp] at this
    have e : kFo tg b G (some (.ref n, a)) = loopR tg (b G) n xs.length xs.length a := by
      show (match a.S[n]? with | some (.lst xs) => loopR tg (b G) n xs.length xs.length a | _ => none) = _
      rw [hI a h0, hS]
    rw [e]
    exact this
end
end Pyx
end
section
set_option maxRecDepth 100000
namespace Pyx
open PySem PySem.Spec PyProof.Rows L2
/-! the other text of _law_same: by kinds -/
def bSame2 : MS := (sSeq (sIf (mTru (oE (eIsi "tuple" (oVar 1)))) (sSeq (sIf (mOr (mNot (mTru (oE (eIsi "tuple" (oVar 0))))) (mBool (eBin opNe (oE (eBi biLen (osCons (oVar 0) osNil))) (oE (eBi biLen (osCons (oVar 1) osNil)))))) (sSeq (sRet (eCon (.bl false))) sSkip) sSkip) (sSeq (sRet (eBin opNotIn (oE (eCon (.bl false))) (oE (eFrz (fCompR asR1 (aCons (eBi biLen (osCons (oVar 1) osNil)) aNil) [4] (.one 4) mTrue (eCall "_law_same" (aCons (eBin opIx (oVar 0) (oVar 4)) (aCons (eBin opIx (oVar 1) (oVar 4)) aNil)))))))) sSkip)) sSkip) (sSeq (sIf (mOr (mBool (eBin opIs (oVar 1) (oE (eCon .non)))) (mBool (eBin opIs (oVar 0) (oE (eCon .non))))) (sSeq (sRet (eAnd (eBin opIs (oVar 1) (oE (eCon .non))) (eBin opIs (oVar 0) (oE (eCon .non))))) sSkip) sSkip) (sSeq (sAsg 2 (eFrz (fComp (eFrz (fLst (aCons (eVar 0) (aCons (eVar 1) aNil)))) [3] (.one 3) mTrue (eFrz (fLst (aCons (eIsi "bool" (oVar 3)) (aCons (eIsi "str" (oVar 3)) (aCons (eIsi "int" (oVar 3)) aNil)))))))) (sSeq (sRet (eAnd (eBin opEq (oE (eBin opIx (oVar 2) (oE (eCon (.int 0))))) (oE (eBin opIx (oVar 2) (oE (eCon (.int 1)))))) (eBin opEq (oVar 0) (oVar 1)))) sSkip))))
theorem opEq_bl3 {S : List SObj} {a b c : Bool} : opEq S (.lst [.bl a, .bl b, .bl c]) (.lst [.bl a, .bl b, .bl c]) = some (.bl true) := by
  have h : (AV.lst [.bl a, .bl b, .bl c]).eqb (.lst [.bl a, .bl b, .bl c]) = true := by
    cases a <;> cases b <;> cases c <;> decide +kernel
  unfold opEq
  rw [h, if_pos ⟨rfl, rfl, by cases a <;> cases b <;> cases c <;> decide +kernel⟩]
theorem same_ok2 {T : List (Str × DfE)} (hT : T.lookup ("_law_same" : Str) = some (⟨2, 5, bSame2⟩ : DfE)) : ∀ (k d : Nat) (v : AV) (S : List SObj), sm k v = true → lvl T (d + k + 1) "_law_same" [v, v] S = some (.bl true, S) := by
  have step : ∀ (d : Nat) (args : List AV) (S : List SObj), lvl T (d + 1) "_law_same" args S = runD ⟨2, 5, bSame2⟩ (lvl T d) args S := fun d args S => by
    show ((T.lookup ("_law_same" : Str)).bind fun e => runD e (lvl T d) args S) = _
    rw [hT]
    rfl
  have kinds : ∀ (G : Gm) (v : AV) (S : List SObj) (s : String), tyN v = some s → res S v = v → v.nr = true → kFc [3] (.one 3) mTrue (eFrz (fLst (aCons (eIsi "bool" (oVar 3)) (aCons (eIsi "str" (oVar 3)) (aCons (eIsi "int" (oVar 3)) aNil))))) G (some (.lst [v, v], ⟨[some (.val v), some (.val v), none, none, none], S⟩)) =
      some ([.lst [.bl (isiB s "bool"), .bl (isiB s "str"), .bl (isiB s "int")], .lst [.bl (isiB s "bool"), .bl (isiB s "str"), .bl (isiB s "int")]], ⟨[some (.val v), some (.val v), none, none, none], S⟩) := fun G v S s h1 h2 h3 => by
    have := comp_pure (G := G) (ρ := [some (.val v), some (.val v), none, none, none]) (S := S) (i := 3) (xs := [v, v]) (tst := mTrue) (elt := eFrz (fLst (aCons (eIsi "bool" (oVar 3)) (aCons (eIsi "str" (oVar 3)) (aCons (eIsi "int" (oVar 3)) aNil))))) (p := fun _ => true) (f := fun _ => .lst [.bl (isiB s "bool"), .bl (isiB s "str"), .bl (isiB s "int")]) (v := .lst [v, v]) (.inl rfl) rfl
      (fun x hx => rfl) (fun x hx _ => by
        have hx : x = v := by simpa using hx
        subst hx
        simp [h1, h2, -isiB_ev]) (by simp)
    exact this
  intro k
  induction k with
  | zero =>
    intro d v S h
    rw [Nat.add_zero, step]
    cases v with
    | non => simp [bSame2, frame]
    | bl b =>
      have := kinds (lvl T d) (.bl b) S "bool" rfl rfl rfl
      simp -implicitDefEqProofs [bSame2, frame, this, opEq_bl3, -isiB_ev, show isiB "bool" "tuple" = false by decide +kernel]
    | int i =>
      have := kinds (lvl T d) (.int i) S "int" rfl rfl rfl
      simp -implicitDefEqProofs [bSame2, frame, this, opEq_bl3, -isiB_ev, show isiB "int" "tuple" = false by decide +kernel]
    | str z =>
      have := kinds (lvl T d) (.str z) S "str" rfl rfl rfl
      simp -implicitDefEqProofs [bSame2, frame, this, opEq_bl3, -isiB_ev, show isiB "str" "tuple" = false by decide +kernel, opEq_refl h]
    | _ => cases h
  | succ k ih =>
    intro d v S h
    rw [show d + (k + 1) + 1 = (d + k + 1) + 1 by omega, step]
    cases v with
    | non => simp [bSame2, frame]
    | bl b =>
      have := kinds (lvl T (d + k + 1)) (.bl b) S "bool" rfl rfl rfl
      simp -implicitDefEqProofs [bSame2, frame, this, opEq_bl3, -isiB_ev, show isiB "bool" "tuple" = false by decide +kernel]
    | int i =>
      have := kinds (lvl T (d + k + 1)) (.int i) S "int" rfl rfl rfl
      simp -implicitDefEqProofs [bSame2, frame, this, opEq_bl3, -isiB_ev, show isiB "int" "tuple" = false by decide +kernel]
    | str z =>
      have := kinds (lvl T (d + k + 1)) (.str z) S "str" rfl rfl rfl
      simp -implicitDefEqProofs [bSame2, frame, this, opEq_bl3, -isiB_ev, show isiB "str" "tuple" = false by decide +kernel, opEq_refl (k := 0) (x := .str z) (by unfold sm; unfold sm at h; exact h)]
    | tup xs =>
      obtain ⟨j, e, h', hl⟩ := sm_tup h
      cases e
      have cp := compR_pure (G := lvl T (d + k + 1)) (ρ := [some (.val (.tup xs)), some (.val (.tup xs)), none, none, none]) (S := S) (i := 4) (n := xs.length) (tst := mTrue) (elt := eCall "_law_same" (aCons (eBin opIx (oVar 0) (oVar 4)) (aCons (eBin opIx (oVar 1) (oVar 4)) aNil))) (p := fun _ => true) (f := fun _ => .bl true) (by rfl)
        (fun i hi => rfl) (fun i hi _ => by
          have hx : xs[i]? = some xs[i] := List.getElem?_eq_getElem hi
          simp [Pyx.atI_nat, hx, ih d xs[i] S (h' _ (List.getElem_mem hi))]) (by omega)
      rw [allT] at cp
      simp -implicitDefEqProofs [bSame2, frame, cp, notIn_allT]
    | _ => cases h
end Pyx
end
section
set_option maxRecDepth 100000
/-! stepping: generator expressions, min with a default -/
namespace Pyx
open PySem PySem.Spec PyProof.Rows L2
section
variable {G : Gm} {a : AS} {ρ : List (Option Slt)} {S : List SObj} {h : Hd} {v : AV} {xs ys : List AV} {oa : MO} {it : ME} {ft : AV → Option Bool} {fe : AV → Option AV}
def kGA2 (a : AS) (ys : Option (List AV)) : Option (AV × AS) := (ys.bind bls).map fun bs => (.bl (bs.any id), a)
def kGA (ft : AV → Option Bool) (fe : AV → Option AV) : Option (AV × AS) → Option (AV × AS)
  | some (.tup xs, a) => kGA2 a (gL ft fe xs)
  | _ => none
@[simp] theorem eGAny_ev : eGAny ft fe it G a = kGA ft fe (it G a) := by
  show (it G a).bind _ = _
  cases it G a with
  | none => rfl
  | some r =>
    obtain ⟨r1, r2⟩ := r
    cases r1 with
    | tup xs =>
      show (gL ft fe xs).bind _ = kGA2 r2 (gL ft fe xs)
      cases gL ft fe xs with
      | none => rfl
      | some ys => rfl
    | _ => rfl
@[simp] theorem kGA_t : kGA ft fe (some (.tup xs, a)) = kGA2 a (gL ft fe xs) := rfl
theorem kGA2_s {bs : List Bool} (h : bls ys = some bs) : kGA2 a (some ys) = some (.bl (bs.any id), a) := by
  show ((some ys).bind bls).map _ = _
  rw [Option.bind_some, h]; rfl
def kGT2 (a : AS) (ys : Option (List AV)) : Option (AV × AS) := ys.map fun ys => (.tup ys, a)
def kGT (ft : AV → Option Bool) (fe : AV → Option AV) : Option (AV × AS) → Option (AV × AS)
  | some (.tup xs, a) => kGT2 a (gL ft fe xs)
  | _ => none
@[simp] theorem eGTup_ev : eGTup ft fe it G a = kGT ft fe (it G a) := by
  show (it G a).bind _ = _
  cases it G a with
  | none => rfl
  | some r =>
    obtain ⟨r1, r2⟩ := r
    cases r1 <;> rfl
@[simp] theorem kGT_t : kGT ft fe (some (.tup xs, a)) = kGT2 a (gL ft fe xs) := rfl
@[simp] theorem kGT2_s : kGT2 a (some ys) = some (.tup ys, a) := rfl
def kMd2 (a : AS) : Option AV → Option (AV × AS)
  | some c => kV a (minD c)
  | none => none
def kMd : Option (Hd × AS) → Option (AV × AS)
  | some r => kMd2 r.2 (cont r.2 r.1)
  | none => none
@[simp] theorem eMinD_ev : eMinD oa G a = kMd (oa G a) := by
  show (oa G a).bind _ = _
  cases oa G a with
  | none => rfl
  | some r =>
    show (cont r.2 r.1).bind _ = kMd2 r.2 (cont r.2 r.1)
    cases cont r.2 r.1 with
    | none => rfl
    | some c => show (minD c).map _ = kV r.2 (minD c); cases minD c <;> rfl
@[simp] theorem kMd_s : kMd (some (h, ⟨ρ, S⟩)) = kMd2 ⟨ρ, S⟩ (cont ⟨ρ, S⟩ h) := rfl
@[simp] theorem kMd2_s : kMd2 a (some v) = kV a (minD v) := rfl
/-- the least, if there is one -/
def minO (ns : List Int) : Option Int := if ns = [] then none else some (minI ns)
def oA : Option Int → AV
  | none => .non
  | some i => .int i
theorem minD_map {ns : List Int} : minD (.lst (ns.map AV.int)) = some (oA (minO ns)) := by
  cases ns with
  | nil => rfl
  | cons n r =>
    show (asInts ((n :: r).map AV.int)).bind (fun ns => if ns.isEmpty then none else some (AV.int (minI ns))) = _
    rw [asInts_map]
    rfl
theorem biMin_map {ns : List Int} (h : ns ≠ []) : biMin S [.lst (ns.map AV.int)] = some (.int (minI ns)) := by
  show (asInts (ns.map AV.int)).bind (fun ns => if ns.isEmpty then none else some (AV.int (minI ns))) = _
  rw [asInts_map]
  cases ns with
  | nil => exact absurd rfl h
  | cons n r => rfl
theorem biMax_map {ns : List Int} (h : ns ≠ []) : biMax S [.lst (ns.map AV.int)] = some (.int (maxI ns)) := by
  show (asInts (ns.map AV.int)).bind (fun ns => if ns.isEmpty then none else some (AV.int (maxI ns))) = _
  rw [asInts_map]
  cases ns with
  | nil => exact absurd rfl h
  | cons n r => rfl
@[simp] theorem atI_m1 : L2.atI xs (-1) = xs.getLast? := by
  cases xs with
  | nil => rfl
  | cons x r =>
    unfold L2.atI L2.ixN
    rw [if_neg (by omega), if_pos (by simp; omega)]
    rw [List.getLast?_eq_getElem?]
    have : ((-1 : Int) + ((x :: r).length : Int)).toNat = (x :: r).length - 1 := by
      have e : (x :: r).length = r.length + 1 := rfl
      omega
    first
      | rw [this]; rfl
      | (simp [this])
/-- a comprehension over a list that is read through A -/
theorem compL_map {α : Type} {A : α → AV} {i : Nat} {tst : AS → Option (Bool × AS)} {elt : AS → Option (AV × AS)} {p : α → Bool} {g : α → AV} : ∀ {l : List α} {acc : List AV} {b : AS},
    b.drop i = AS.drop ⟨ρ, S⟩ i → (∀ r ∈ l, tst (AS.put ⟨ρ, S⟩ i (A r)) = some (p r, AS.put ⟨ρ, S⟩ i (A r))) → (∀ r ∈ l, p r = true → elt (AS.put ⟨ρ, S⟩ i (A r)) = some (g r, AS.put ⟨ρ, S⟩ i (A r))) → acc.length + l.length ≤ 100000 →
    ∃ b', compL [i] (.one i) tst elt (l.map A) acc b = some (acc ++ (l.filter p).map g, b') ∧ b'.drop i = AS.drop ⟨ρ, S⟩ i
  | [], acc, b, hb, _, _, _ => ⟨b, by simp [compL], hb⟩
  | r :: l, acc, b, hb, h1, h2, hl => by
    have hl' : acc.length + l.length + 1 ≤ 100000 := by simpa [Nat.add_assoc] using hl
    have e1 : compL [i] (.one i) tst elt ((r :: l).map A) acc b = compT tst elt (compL [i] (.one i) tst elt (l.map A)) acc (AS.put ⟨ρ, S⟩ i (A r)) := by
      show (asgT (.one i) (A r) (clr b [i])).bind _ = _
      have : clr b [i] = AS.drop ⟨ρ, S⟩ i := hb
      rw [this]
      show compT tst elt (compL [i] (.one i) tst elt (l.map A)) acc ((AS.drop ⟨ρ, S⟩ i).put i (A r)) = _
      rw [put_drop]
    rw [e1]
    unfold compT
    rw [h1 r List.mem_cons_self]
    cases hp : p r with
    | true =>
      obtain ⟨b', e2, e3⟩ := compL_map (A := A) (i := i) (tst := tst) (elt := elt) (p := p) (g := g) (l := l) (acc := acc ++ [g r]) (b := AS.put ⟨ρ, S⟩ i (A r)) drop_put (fun y hy => h1 y (List.mem_cons_of_mem _ hy)) (fun y hy => h2 y (List.mem_cons_of_mem _ hy)) (by simp; omega)
      refine ⟨b', ?_, e3⟩
      show (if (true : Bool) = true then (if acc.length < sizeLine then (elt (AS.put ⟨ρ, S⟩ i (A r))).bind (fun q => compL [i] (.one i) tst elt (l.map A) (acc ++ [q.1]) q.2) else none) else compL [i] (.one i) tst elt (l.map A) acc (AS.put ⟨ρ, S⟩ i (A r))) = _
      rw [if_pos rfl, if_pos (Nat.lt_of_lt_of_le (by omega : acc.length < 100000) (by decide)), h2 r List.mem_cons_self hp]
      show compL [i] (.one i) tst elt (l.map A) (acc ++ [g r]) (AS.put ⟨ρ, S⟩ i (A r)) = _
      rw [e2, List.filter_cons_of_pos hp]
      simp
    | false =>
      obtain ⟨b', e2, e3⟩ := compL_map (A := A) (i := i) (tst := tst) (elt := elt) (p := p) (g := g) (l := l) (acc := acc) (b := AS.put ⟨ρ, S⟩ i (A r)) drop_put (fun y hy => h1 y (List.mem_cons_of_mem _ hy)) (fun y hy => h2 y (List.mem_cons_of_mem _ hy)) (by omega)
      refine ⟨b', ?_, e3⟩
      show (if (false : Bool) = true then (if acc.length < sizeLine then (elt (AS.put ⟨ρ, S⟩ i (A r))).bind (fun q => compL [i] (.one i) tst elt (l.map A) (acc ++ [q.1]) q.2) else none) else compL [i] (.one i) tst elt (l.map A) acc (AS.put ⟨ρ, S⟩ i (A r))) = _
      rw [if_neg (by decide), e2, List.filter_cons_of_neg (by rw [hp]; decide)]
theorem comp_map {α : Type} {A : α → AV} {l : List α} {i : Nat} {tst : MT} {elt : ME} {p : α → Bool} {g : α → AV} {v : AV} (hv : v = .lst (l.map A) ∨ v = .tup (l.map A)) (hn : noOwn ⟨ρ, S⟩ [i] = true)
    (h1 : ∀ r ∈ l, tst G ⟨ρ.set i (some (.val (A r))), S⟩ = some (p r, ⟨ρ.set i (some (.val (A r))), S⟩))
    (h2 : ∀ r ∈ l, p r = true → elt G ⟨ρ.set i (some (.val (A r))), S⟩ = some (g r, ⟨ρ.set i (some (.val (A r))), S⟩)) (hl : l.length ≤ 100000) :
    kFc [i] (.one i) tst elt G (some (v, ⟨ρ, S⟩)) = some ((l.filter p).map g, ⟨ρ, S⟩) := by
  obtain ⟨b', e1, e2⟩ := compL_map (ρ := ρ) (S := S) (A := A) (i := i) (tst := tst G) (elt := elt G) (p := p) (g := g) (l := l) (acc := []) (b := ⟨ρ, S⟩) rfl h1 h2 (by simpa using hl)
  show (if noOwn (⟨ρ, S⟩ : AS) [i] = true then (compV [i] (.one i) (tst G) (elt G) ⟨ρ, S⟩ v).map (fun q => (q.1, rst ⟨ρ, S⟩ (clr q.2 [i]) [i])) else none) = _
  rw [if_pos hn]
  have e3 : compV [i] (.one i) (tst G) (elt G) ⟨ρ, S⟩ v = compL [i] (.one i) (tst G) (elt G) (l.map A) [] ⟨ρ, S⟩ := by rcases hv with rfl | rfl <;> rfl
  rw [e3, e1]
  show some (_, rst ⟨ρ, S⟩ (clr b' [i]) [i]) = _
  rw [rst_back e2]
  rfl
/-- a loop over such a list: I done a: what holds when done is done -/
theorem loop_map' {α : Type} {A : α → AV} {tg : Tg} {body : AS → Option (Out × AS)} {l0 : List α} (I : List α → AS → Prop) (h : ∀ r done rest a, l0 = done ++ r :: rest → I done a → ∃ a1 o a2, asgT tg (A r) a = some a1 ∧ body a1 = some (o, a2) ∧ (o = .nx ∨ o = .ct) ∧ I (done ++ [r]) a2) :
    ∀ {l done : List α} {a : AS}, l0 = done ++ l → I done a → ∃ a', loopL tg body (l.map A) a = some (.nx, a') ∧ I l0 a'
  | [], done, a, e, h0 => ⟨a, rfl, by rw [e, List.append_nil]; exact h0⟩
  | r :: l, done, a, e, h0 => by
    obtain ⟨a1, o, a2, e1, e2, e3, e4⟩ := h r done l a e h0
    obtain ⟨a', e5, e6⟩ := loop_map' (A := A) (tg := tg) (body := body) I h (l := l) (done := done ++ [r]) (a := a2) (by rw [e]; simp) e4
    refine ⟨a', ?_, e6⟩
    show ((asgT tg (A r) a).bind fun a' => (body a').bind (turn (loopL tg body (l.map A)))) = _
    rw [e1]
    show (body a1).bind _ = _
    rw [e2]
    rcases e3 with rfl | rfl <;> exact e5
theorem loop_map {α : Type} {A : α → AV} {tg : Tg} {body : AS → Option (Out × AS)} {l0 : List α} (I : List α → AS → Prop) {a : AS} (h : ∀ r done rest a, l0 = done ++ r :: rest → I done a → ∃ a1 o a2, asgT tg (A r) a = some a1 ∧ body a1 = some (o, a2) ∧ (o = .nx ∨ o = .ct) ∧ I (done ++ [r]) a2)
    (h0 : I [] a) : ∃ a', loopL tg body (l0.map A) a = some (.nx, a') ∧ I l0 a' := loop_map' I h rfl h0
/-- one that returns w at the first r with p -/
theorem loop_anyM {α : Type} {A : α → AV} {tg : Tg} {body : AS → Option (Out × AS)} {w : AV} (I : AS → Prop) {p : α → Bool} : ∀ {l : List α} {a : AS}, (∀ a, I a → a.S = S) →
    (∀ r ∈ l, ∀ a, I a → ∃ a1, asgT tg (A r) a = some a1 ∧ (p r = true → ∃ a2, body a1 = some (.rt w, a2) ∧ a2.S = S) ∧ (p r = false → ∃ a2, body a1 = some (.nx, a2) ∧ I a2)) → I a →
    (l.any p = true → ∃ a', loopL tg body (l.map A) a = some (.rt w, a') ∧ a'.S = S) ∧ (l.any p = false → ∃ a', loopL tg body (l.map A) a = some (.nx, a') ∧ I a')
  | [], a, _, _, h0 => ⟨fun h => (by cases h), fun _ => ⟨a, rfl, h0⟩⟩
  | r :: l, a, hI, h, h0 => by
    obtain ⟨a1, e1, t1, t2⟩ := h r List.mem_cons_self a h0
    cases hp : p r with
    | true =>
      obtain ⟨a2, e2, e3⟩ := t1 hp
      refine ⟨fun _ => ⟨a2, ?_, e3⟩, fun hf => ?_⟩
      · show ((asgT tg (A r) a).bind fun a' => (body a').bind (turn (loopL tg body (l.map A)))) = _
        rw [e1]
        show (body a1).bind _ = _
        rw [e2]
        rfl
      · rw [List.any_cons, hp] at hf; cases hf
    | false =>
      obtain ⟨a2, e2, i2⟩ := t2 hp
      have ih := loop_anyM (A := A) (w := w) I (p := p) (l := l) hI (fun y hy => h y (List.mem_cons_of_mem _ hy)) i2
      have st : loopL tg body ((r :: l).map A) a = loopL tg body (l.map A) a2 := by
        show ((asgT tg (A r) a).bind fun a' => (body a').bind (turn (loopL tg body (l.map A)))) = _
        rw [e1]
        show (body a1).bind _ = _
        rw [e2]
        rfl
      rw [st, List.any_cons, hp, Bool.false_or]
      exact ih
end
end Pyx
end
section
set_option maxRecDepth 100000
namespace K41
open PySem PySem.Spec PyProof.Rows L2 Pyx
def top (i : Nat) : Stmt := PySem.Challenge.pw_sealedlink_k41_whole_four_fates_of_a_pac.main.body.getD i (.Pass ⟨0, 0, 0, 0⟩)
def q_is_eliciting : AV → Option AV := (qAnd (fun c => (((qIx 0) c).bind (qNe "ack")).map AV.bl) (fun c => (((qIx 0) c).bind (qNe "close")).map AV.bl))
abbrev D_contains : DD := ⟨"contains", ["ranges", "number"], ["ranges", "number", "low", "high"], defArgs (top 1), defBody (top 1), defScope (top 1), [], false, []⟩
abbrev D_greatest : DD := ⟨"greatest", ["ranges"], ["ranges"], defArgs (top 2), defBody (top 2), defScope (top 2), [], false, []⟩
abbrev D_is_eliciting : DD := ⟨"is_eliciting", ["frame"], ["frame"], defArgs (top 4), defBody (top 4), defScope (top 4), [], false, []⟩
abbrev D_new_sent : DD := ⟨"new_sent", [], [], defArgs (top 7), defBody (top 7), defScope (top 7), [], false, []⟩
abbrev D_send_packet : DD := ⟨"send_packet", ["sent", "time", "size", "path", "serial", "content"], ["sent", "time", "size", "path", "serial", "content", "number", "under_way", "reported", "due", "frames"], defArgs (top 8), defBody (top 8), defScope (top 8), [], true, [(("is_eliciting" : Str), q_is_eliciting)]⟩
abbrev D_take_report : DD := ⟨"take_report", ["sent", "ranges"], ["sent", "ranges", "following", "under_way", "reported", "due", "top", "acknowledged", "left", "row"], defArgs (top 9), defBody (top 9), defScope (top 9), [((29, 19), 1), ((30, 11), 1)], false, []⟩
abbrev D_loss_deadline : DD := ⟨"loss_deadline", ["row", "waits"], ["row", "waits"], defArgs (top 10), defBody (top 10), defScope (top 10), [], false, []⟩
abbrev D_look : DD := ⟨"look", ["sent", "now", "waits"], ["sent", "now", "waits", "following", "under_way", "reported", "due", "lost", "left", "times", "row"], defArgs (top 11), defBody (top 11), defScope (top 11), [((43, 11), 1), ((44, 11), 1), ((45, 12), 1)], false, []⟩
abbrev D_drop_rows : DD := ⟨"drop_rows", ["sent"], ["sent", "following", "under_way", "reported", "due"], defArgs (top 12), defBody (top 12), defScope (top 12), [], false, []⟩
abbrev D__law_tape : DD := ⟨"_law_tape", ["script"], ["script", "total", "cell"], defArgs (top 14), defBody (top 14), defScope (top 14), [((63, 11), 2)], false, []⟩
abbrev D__law_draw : DD := ⟨"_law_draw", ["tape", "many"], ["tape", "many", "place", "number"], defArgs (top 15), defBody (top 15), defScope (top 15), [], false, []⟩
abbrev D__law_same : DD := ⟨"_law_same", ["told", "due"], ["told", "due", "kinds", "one", "k"], defArgs (top 16), defBody (top 16), defScope (top 16), [], false, []⟩
abbrev D__law_put : DD := ⟨"_law_put", ["pairs", "low", "high"], ["pairs", "low", "high", "ahead", "behind", "met", "joined", "pair"], defArgs (top 17), defBody (top 17), defScope (top 17), [], false, []⟩
abbrev D__law_in : DD := ⟨"_law_in", ["pairs", "number"], ["pairs", "number", "pair"], defArgs (top 18), defBody (top 18), defScope (top 18), [], false, []⟩
abbrev D__law_equal : DD := ⟨"_law_equal", ["told", "due"], ["told", "due"], defArgs (top 19), defBody (top 19), defScope (top 19), [], false, []⟩
abbrev D__law_eliciting : DD := ⟨"_law_eliciting", ["content"], ["content", "frame"], defArgs (top 20), defBody (top 20), defScope (top 20), [], false, []⟩
abbrev D__law_sent : DD := ⟨"_law_sent", ["sent", "time", "size", "path", "serial", "content"], ["sent", "time", "size", "path", "serial", "content", "rows", "frame"], defArgs (top 21), defBody (top 21), defScope (top 21), [], false, []⟩
abbrev D__law_reports : DD := ⟨"_law_reports", ["sent", "pairs"], ["sent", "pairs", "rows", "left", "top", "row"], defArgs (top 22), defBody (top 22), defScope (top 22), [], false, []⟩
abbrev D__law_looks : DD := ⟨"_law_looks", ["sent", "now", "lags"], ["sent", "now", "lags", "below", "lost", "left", "sums", "row"], defArgs (top 23), defBody (top 23), defScope (top 23), [], false, []⟩
abbrev D__law_units : DD := ⟨"_law_units", ["tape", "many"], ["tape", "many", "first", "leap", "k"], defArgs (top 24), defBody (top 24), defScope (top 24), [], false, []⟩
abbrev D__law_frame : DD := ⟨"_law_frame", ["tape"], ["tape", "choice", "number", "low", "menu"], defArgs (top 25), defBody (top 25), defScope (top 25), [], false, []⟩
abbrev D__law_due : DD := ⟨"_law_due", ["door", "sent", "rest"], ["door", "sent", "rest"], defArgs (top 26), defBody (top 26), defScope (top 26), [], false, []⟩
abbrev D__law_told : DD := ⟨"_law_told", ["door", "sent", "rest"], ["door", "sent", "rest"], defArgs (top 27), defBody (top 27), defScope (top 27), [], false, []⟩
abbrev D__law_some_report : DD := ⟨"_law_some_report", ["tape", "sent"], ["tape", "sent", "pairs", "choice", "k", "spot", "low"], defArgs (top 28), defBody (top 28), defScope (top 28), [], false, []⟩
abbrev D__law_rest : DD := ⟨"_law_rest", ["tape", "door", "sent", "now", "lags"], ["tape", "door", "sent", "now", "lags", "content", "k"], defArgs (top 29), defBody (top 29), defScope (top 29), [], false, []⟩
abbrev D__law_changed : DD := ⟨"_law_changed", ["tape", "door", "rest"], ["tape", "door", "rest", "k", "other"], defArgs (top 30), defBody (top 30), defScope (top 30), [], false, []⟩
abbrev D__law_beside : DD := ⟨"_law_beside", ["tape", "sent", "now", "lags"], ["tape", "sent", "now", "lags", "times", "time", "told", "each"], defArgs (top 31), defBody (top 31), defScope (top 31), [], false, []⟩
abbrev D__law_asked_again : DD := ⟨"_law_asked_again", ["tape", "kept"], ["tape", "kept", "k", "door", "sent", "rest"], defArgs (top 32), defBody (top 32), defScope (top 32), [], false, []⟩
abbrev D__law_once_each : DD := ⟨"_law_once_each", ["eliciting", "sent", "met"], ["eliciting", "sent", "met", "under_way", "number", "row", "pair"], defArgs (top 33), defBody (top 33), defScope (top 33), [], false, []⟩
abbrev D_law : DD := ⟨"law", ["script"], ["script", "tape", "now", "lags", "sent", "mine", "eliciting", "met", "kept", "k", "door", "j", "rest", "told", "due", "other", "row"], defArgs (top 34), defBody (top 34), defScope (top 34), [((214, 11), 2), ((219, 16), 1), ((220, 10), 1), ((221, 11), 1)], false, []⟩
abbrev Ds : List DD := [D_contains, D_greatest, D_is_eliciting, D_new_sent, D_send_packet, D_take_report, D_loss_deadline, D_look, D_drop_rows, D__law_tape, D__law_draw, D__law_same, D__law_put, D__law_in, D__law_equal, D__law_eliciting, D__law_sent, D__law_reports, D__law_looks, D__law_units, D__law_frame, D__law_due, D__law_told, D__law_some_report, D__law_rest, D__law_changed, D__law_beside, D__law_asked_again, D__law_once_each, D_law]
abbrev defs : List (Str × Nat) := [(("contains" : Str), 2), (("greatest" : Str), 1), (("is_eliciting" : Str), 1), (("new_sent" : Str), 0), (("send_packet" : Str), 6), (("take_report" : Str), 2), (("loss_deadline" : Str), 2), (("look" : Str), 3), (("drop_rows" : Str), 1), (("_law_tape" : Str), 1), (("_law_draw" : Str), 2), (("_law_same" : Str), 2), (("_law_put" : Str), 3), (("_law_in" : Str), 2), (("_law_equal" : Str), 2), (("_law_eliciting" : Str), 1), (("_law_sent" : Str), 6), (("_law_reports" : Str), 2), (("_law_looks" : Str), 3), (("_law_units" : Str), 2), (("_law_frame" : Str), 1), (("_law_due" : Str), 3), (("_law_told" : Str), 3), (("_law_some_report" : Str), 2), (("_law_rest" : Str), 5), (("_law_changed" : Str), 3), (("_law_beside" : Str), 4), (("_law_asked_again" : Str), 2), (("_law_once_each" : Str), 3), (("law" : Str), 1)]
abbrev consts : List (Str × AV) := [(("PACKETS_BEHIND" : Str), (.int 3))]
abbrev W : Nat := 1000
def b_contains : MS := (sSeq (sForV (eVar 0) (.many [2, 3]) (sSeq (sIf (mBool (eChain opLe opLe (oVar 2) (oVar 1) (oVar 3))) (sSeq (sRet (eCon (.bl true))) sSkip) sSkip) sSkip)) (sSeq (sRet (eCon (.bl false))) sSkip))
def b_greatest : MS := (sSeq (sIf (mNot (mTru (oVar 0))) (sSeq (sRet (eCon .non)) sSkip) sSkip) (sSeq (sRet (eBin opIx (oE (eBin opIx (oVar 0) (oE (eNeg (oE (eCon (.int 1))))))) (oE (eCon (.int 1))))) sSkip))
def b_is_eliciting : MS := (sSeq (sRet (eAnd (eBin opNe (oE (eBin opIx (oVar 0) (oE (eCon (.int 0))))) (oE (eCon (.str "ack")))) (eBin opNe (oE (eBin opIx (oVar 0) (oE (eCon (.int 0))))) (oE (eCon (.str "close")))))) sSkip)
def b_new_sent : MS := (sSeq (sRet (eTup (aCons (eCon (.int 0)) (aCons (eTup aNil) (aCons (eCon .non) (aCons (eCon .non) aNil)))))) sSkip)
def b_send_packet : MS := (sSeq (sUnp [6, 7, 8, 9] (eVar 0)) (sSeq (sIf (mTru (oE (eGAny (fun _ => some true) (fun c => (some c).bind q_is_eliciting) (eVar 5)))) (sSeq (sAsg 10 (eGTup (fun c => ((qIx 0) c).bind (qNe "ack")) some (eVar 5))) (sSeq (sAsg 7 (eBin opAdd (oVar 7) (oE (eTup (aCons (eTup (aCons (eVar 6) (aCons (eVar 1) (aCons (eVar 2) (aCons (eVar 3) (aCons (eVar 4) (aCons (eVar 10) aNil))))))) aNil))))) sSkip)) sSkip) (sSeq (sRet (eTup (aCons (eBin opAdd (oVar 6) (oE (eCon (.int 1)))) (aCons (eVar 7) (aCons (eVar 8) (aCons (eVar 9) aNil)))))) sSkip)))
def b_take_report : MS := (sSeq (sUnp [2, 3, 4, 5] (eVar 0)) (sSeq (sAsg 6 (eCall "greatest" (aCons (eVar 1) aNil))) (sSeq (sIf (mBool (eBin opGe (oVar 6) (oVar 2))) (sSeq (sRet (eCon .non)) sSkip) sSkip) (sSeq (sOwn 7 (fLst aNil)) (sSeq (sOwn 8 (fLst aNil)) (sSeq (sForV (eVar 3) (.one 9) (sSeq (sIf (mTru (oE (eCall "contains" (aCons (eVar 1) (aCons (eBin opIx (oVar 9) (oE (eCon (.int 0)))) aNil))))) (sSeq (sExpr (eApp (oVar 7) (eVar 9))) sSkip) (sSeq (sExpr (eApp (oVar 8) (eVar 9))) sSkip)) sSkip)) (sSeq (sIf (mOr (mBool (eBin opIs (oVar 4) (oE (eCon .non)))) (mBool (eBin opLt (oVar 4) (oVar 6)))) (sSeq (sAsg 4 (eVar 6)) sSkip) sSkip) (sSeq (sRet (eTup (aCons (eTup (aCons (eVar 2) (aCons (eBi biTuple (osCons (oVar 8) osNil)) (aCons (eVar 4) (aCons (eVar 5) aNil))))) (aCons (eBi biTuple (osCons (oVar 7) osNil)) aNil)))) sSkip))))))))
def b_loss_deadline : MS := (sSeq (sRet (eBin opAdd (oE (eBin opIx (oVar 0) (oE (eCon (.int 1))))) (oE (eBin opIx (oVar 1) (oE (eBin opIx (oVar 0) (oE (eCon (.int 3))))))))) sSkip)
def b_look : MS := (sSeq (sUnp [3, 4, 5, 6] (eVar 0)) (sSeq (sOwn 7 (fLst aNil)) (sSeq (sOwn 8 (fLst aNil)) (sSeq (sOwn 9 (fLst aNil)) (sSeq (sForV (eVar 4) (.one 10) (sSeq (sIf (mOr (mBool (eBin opIs (oVar 5) (oE (eCon .non)))) (mBool (eBin opGe (oE (eBin opIx (oVar 10) (oE (eCon (.int 0))))) (oVar 5)))) (sSeq (sExpr (eApp (oVar 8) (eVar 10))) sSkip) (sSeq (sIf (mOr (mBool (eBin opLe (oE (eBin opAdd (oE (eBin opIx (oVar 10) (oE (eCon (.int 0))))) (oE (eCon (.int 3))))) (oVar 5))) (mBool (eBin opLe (oE (eCall "loss_deadline" (aCons (eVar 10) (aCons (eVar 2) aNil)))) (oVar 1)))) (sSeq (sExpr (eApp (oVar 7) (eVar 10))) sSkip) (sSeq (sExpr (eApp (oVar 8) (eVar 10))) (sSeq (sExpr (eApp (oVar 9) (eCall "loss_deadline" (aCons (eVar 10) (aCons (eVar 2) aNil))))) sSkip))) sSkip)) sSkip)) (sSeq (sRet (eTup (aCons (eTup (aCons (eVar 3) (aCons (eBi biTuple (osCons (oVar 8) osNil)) (aCons (eVar 5) (aCons (eMinD (oVar 9)) aNil))))) (aCons (eBi biTuple (osCons (oVar 7) osNil)) aNil)))) sSkip))))))
def b_drop_rows : MS := (sSeq (sUnp [1, 2, 3, 4] (eVar 0)) (sSeq (sRet (eTup (aCons (eTup (aCons (eVar 1) (aCons (eTup aNil) (aCons (eVar 3) (aCons (eCon .non) aNil))))) (aCons (eVar 2) aNil)))) sSkip))
def b__law_tape : MS := (sSeq (sAsg 1 (eCon (.int 7))) (sSeq (sForV (eVar 0) (.one 2) (sSeq (sAsg 1 (eBin opMod (oE (eBi biInt (osCons (oE (eBin opAdd (oE (eBin opMul (oVar 1) (oE (eCon (.int 31))))) (oE (eBi biAbs (osCons (oE (eBi biInt (osCons (oVar 2) osNil))) osNil))))) osNil))) (oE (eCon (.int 2147483647))))) sSkip)) (sSeq (sRet (eLay (fLst (aCons (eFrz (fBi bfList (osCons (oVar 0) osNil))) (aCons (eCon (.int 0)) (aCons (eCon (.int 0)) (aCons (eVar 1) aNil))))))) sSkip)))
def b__law_draw : MS := (sSeq (sIf (mBool (eBin opEq (oE (eBin opIx (oVar 0) (oE (eCon (.int 2))))) (oE (eCon (.int 0))))) (sSeq (sAsg 2 (eBin opIx (oVar 0) (oE (eCon (.int 1))))) (sSeq (sAsg 3 (eCon (.int 0))) (sSeq (sIf (mBool (eBin opLt (oVar 2) (oE (eBi biLen (osCons (oE (eBin opIx (oVar 0) (oE (eCon (.int 0))))) osNil))))) (sSeq (sAsg 3 (eBi biAbs (osCons (oE (eBi biInt (osCons (oE (eBin opIx (oE (eBin opIx (oVar 0) (oE (eCon (.int 0))))) (oVar 2))) osNil))) osNil))) sSkip) (sSeq (sSet (oVar 0) (eCon (.int 3)) (eBin opMod (oE (eBi biInt (osCons (oE (eBin opAdd (oE (eBin opAdd (oE (eBin opMul (oE (eBin opIx (oVar 0) (oE (eCon (.int 3))))) (oE (eCon (.int 48271))))) (oVar 2))) (oE (eCon (.int 1))))) osNil))) (oE (eCon (.int 2147483647))))) (sSeq (sAsg 3 (eBin opIx (oVar 0) (oE (eCon (.int 3))))) sSkip))) (sSeq (sSet (oVar 0) (eCon (.int 1)) (eBin opAdd (oVar 2) (oE (eCon (.int 1))))) (sSeq (sIf (mBool (eBin opLt (oVar 3) (oE (eBin opPow (oE (eCon (.int 10))) (oE (eCon (.int 18))))))) (sSeq (sAsg 3 (eBin opMod (oE (eBi biInt (osCons (oE (eBin opAdd (oE (eBin opAdd (oE (eBin opMul (oVar 3) (oE (eCon (.int 48271))))) (oE (eBin opMul (oVar 2) (oE (eCon (.int 69621))))))) (oE (eCon (.int 5))))) osNil))) (oE (eCon (.int 2147483647))))) (sSeq (sAsg 3 (eBin opMod (oE (eBi biInt (osCons (oE (eBin opMul (oVar 3) (oE (eCon (.int 69621))))) osNil))) (oE (eCon (.int 2147483629))))) (sSeq (sRet (eBin opMod (oE (eBi biInt (osCons (oVar 3) osNil))) (oE (eBi biMax (osCons (oVar 1) (osCons (oE (eCon (.int 1))) osNil)))))) sSkip))) sSkip) (sSeq (sSet (oVar 0) (eCon (.int 2)) (eVar 3)) sSkip)))))) sSkip) (sSeq (sAsg 3 (eBin opIx (oVar 0) (oE (eCon (.int 2))))) (sSeq (sSet (oVar 0) (eCon (.int 2)) (eBin opFdiv (oVar 3) (oE (eBi biMax (osCons (oVar 1) (osCons (oE (eCon (.int 2))) osNil)))))) (sSeq (sRet (eBin opMod (oE (eBi biInt (osCons (oVar 3) osNil))) (oE (eBi biMax (osCons (oVar 1) (osCons (oE (eCon (.int 1))) osNil)))))) sSkip))))
def b__law_same : MS := (sSeq (sIf (mTru (oE (eIsi "tuple" (oVar 1)))) (sSeq (sIf (mOr (mNot (mTru (oE (eIsi "tuple" (oVar 0))))) (mBool (eBin opNe (oE (eBi biLen (osCons (oVar 0) osNil))) (oE (eBi biLen (osCons (oVar 1) osNil)))))) (sSeq (sRet (eCon (.bl false))) sSkip) sSkip) (sSeq (sRet (eBin opNotIn (oE (eCon (.bl false))) (oE (eFrz (fCompR asR1 (aCons (eBi biLen (osCons (oVar 1) osNil)) aNil) [4] (.one 4) mTrue (eCall "_law_same" (aCons (eBin opIx (oVar 0) (oVar 4)) (aCons (eBin opIx (oVar 1) (oVar 4)) aNil)))))))) sSkip)) sSkip) (sSeq (sIf (mOr (mBool (eBin opIs (oVar 1) (oE (eCon .non)))) (mBool (eBin opIs (oVar 0) (oE (eCon .non))))) (sSeq (sRet (eAnd (eBin opIs (oVar 1) (oE (eCon .non))) (eBin opIs (oVar 0) (oE (eCon .non))))) sSkip) sSkip) (sSeq (sAsg 2 (eFrz (fComp (eFrz (fLst (aCons (eVar 0) (aCons (eVar 1) aNil)))) [3] (.one 3) mTrue (eFrz (fLst (aCons (eIsi "bool" (oVar 3)) (aCons (eIsi "str" (oVar 3)) (aCons (eIsi "int" (oVar 3)) aNil)))))))) (sSeq (sRet (eAnd (eBin opEq (oE (eBin opIx (oVar 2) (oE (eCon (.int 0))))) (oE (eBin opIx (oVar 2) (oE (eCon (.int 1)))))) (eBin opEq (oVar 0) (oVar 1)))) sSkip))))
def b__law_put : MS := (sSeq (sAsg 3 (eFrz (fComp (eVar 0) [7] (.one 7) (mBool (eBin opLt (oE (eBin opIx (oVar 7) (oE (eCon (.int 1))))) (oE (eBin opSub (oVar 1) (oE (eCon (.int 1))))))) (eVar 7)))) (sSeq (sAsg 4 (eFrz (fComp (eVar 0) [7] (.one 7) (mBool (eBin opGt (oE (eBin opIx (oVar 7) (oE (eCon (.int 0))))) (oE (eBin opAdd (oVar 2) (oE (eCon (.int 1))))))) (eVar 7)))) (sSeq (sAsg 5 (eSl (oE (eFrz (fBi bfList (osCons (oVar 0) osNil)))) (pSome (eBi biLen (osCons (oVar 3) osNil))) (pSome (eBin opSub (oE (eBi biLen (osCons (oVar 0) osNil))) (oE (eBi biLen (osCons (oVar 4) osNil))))))) (sSeq (sAsg 6 (eTup (aCons (eBi biMin (osCons (oE (eBin opAdd (oE (eFrz (fLst (aCons (eVar 1) aNil)))) (oE (eFrz (fComp (eVar 5) [7] (.one 7) mTrue (eBin opIx (oVar 7) (oE (eCon (.int 0))))))))) osNil)) (aCons (eBi biMax (osCons (oE (eBin opAdd (oE (eFrz (fLst (aCons (eVar 2) aNil)))) (oE (eFrz (fComp (eVar 5) [7] (.one 7) mTrue (eBin opIx (oVar 7) (oE (eCon (.int 1))))))))) osNil)) aNil)))) (sSeq (sRet (eBi biTuple (osCons (oE (eBin opAdd (oE (eBin opAdd (oVar 3) (oE (eFrz (fLst (aCons (eVar 6) aNil)))))) (oVar 4))) osNil))) sSkip)))))
def b__law_in : MS := (sSeq (sRet (eBin opGt (oE (eBi biLen (osCons (oE (eFrz (fComp (eVar 0) [2] (.one 2) (mAnd (mBool (eBin opLe (oE (eBin opIx (oVar 2) (oE (eCon (.int 0))))) (oVar 1))) (mBool (eBin opLe (oVar 1) (oE (eBin opIx (oVar 2) (oE (eCon (.int 1)))))))) (eVar 2)))) osNil))) (oE (eCon (.int 0))))) sSkip)
def b__law_equal : MS := (sSeq (sRet (eAnd (eIsi "tuple" (oVar 0)) (eBin opEq (oVar 0) (oVar 1)))) sSkip)
def b__law_eliciting : MS := (sSeq (sRet (eBin opGt (oE (eBi biLen (osCons (oE (eFrz (fComp (eVar 0) [1] (.one 1) (mBool (eBin opNotIn (oE (eBin opIx (oVar 1) (oE (eCon (.int 0))))) (oE (eFrz (fLst (aCons (eCon (.str "ack")) (aCons (eCon (.str "close")) aNil))))))) (eVar 1)))) osNil))) (oE (eCon (.int 0))))) sSkip)
def b__law_sent : MS := (sSeq (sAsg 6 (eBin opIx (oVar 0) (oE (eCon (.int 1))))) (sSeq (sIf (mTru (oE (eCall "_law_eliciting" (aCons (eVar 5) aNil)))) (sSeq (sAsg 6 (eBin opAdd (oVar 6) (oE (eTup (aCons (eTup (aCons (eBin opIx (oVar 0) (oE (eCon (.int 0)))) (aCons (eVar 1) (aCons (eVar 2) (aCons (eVar 3) (aCons (eVar 4) (aCons (eBi biTuple (osCons (oE (eFrz (fComp (eVar 5) [7] (.one 7) (mBool (eBin opNe (oE (eBin opIx (oVar 7) (oE (eCon (.int 0))))) (oE (eCon (.str "ack"))))) (eVar 7)))) osNil)) aNil))))))) aNil))))) sSkip) sSkip) (sSeq (sRet (eTup (aCons (eBin opAdd (oE (eBin opIx (oVar 0) (oE (eCon (.int 0))))) (oE (eCon (.int 1)))) (aCons (eVar 6) (aCons (eBin opIx (oVar 0) (oE (eCon (.int 2)))) (aCons (eBin opIx (oVar 0) (oE (eCon (.int 3)))) aNil)))))) sSkip)))
def b__law_reports : MS := (sSeq (sIf (mBool (eBin opGe (oE (eBin opIx (oE (eBin opIx (oVar 1) (oE (eNeg (oE (eCon (.int 1))))))) (oE (eCon (.int 1))))) (oE (eBin opIx (oVar 0) (oE (eCon (.int 0))))))) (sSeq (sRet (eCon .non)) sSkip) sSkip) (sSeq (sAsg 2 (eBi biTuple (osCons (oE (eFrz (fComp (eBin opIx (oVar 0) (oE (eCon (.int 1)))) [5] (.one 5) (mTru (oE (eCall "_law_in" (aCons (eVar 1) (aCons (eBin opIx (oVar 5) (oE (eCon (.int 0)))) aNil))))) (eVar 5)))) osNil))) (sSeq (sAsg 3 (eBi biTuple (osCons (oE (eFrz (fComp (eBin opIx (oVar 0) (oE (eCon (.int 1)))) [5] (.one 5) (mNot (mTru (oE (eCall "_law_in" (aCons (eVar 1) (aCons (eBin opIx (oVar 5) (oE (eCon (.int 0)))) aNil)))))) (eVar 5)))) osNil))) (sSeq (sAsg 4 (eIte (mBool (eBin opIs (oE (eBin opIx (oVar 0) (oE (eCon (.int 2))))) (oE (eCon .non)))) (eBin opIx (oE (eBin opIx (oVar 1) (oE (eNeg (oE (eCon (.int 1))))))) (oE (eCon (.int 1)))) (eBi biMax (osCons (oE (eBin opIx (oVar 0) (oE (eCon (.int 2))))) (osCons (oE (eBin opIx (oE (eBin opIx (oVar 1) (oE (eNeg (oE (eCon (.int 1))))))) (oE (eCon (.int 1))))) osNil))))) (sSeq (sRet (eTup (aCons (eTup (aCons (eBin opIx (oVar 0) (oE (eCon (.int 0)))) (aCons (eVar 3) (aCons (eVar 4) (aCons (eBin opIx (oVar 0) (oE (eCon (.int 3)))) aNil))))) (aCons (eVar 2) aNil)))) sSkip)))))
def b__law_looks : MS := (sSeq (sAsg 3 (eFrz (fComp (eBin opIx (oVar 0) (oE (eCon (.int 1)))) [7] (.one 7) (mAnd (mBool (eBin opIsN (oE (eBin opIx (oVar 0) (oE (eCon (.int 2))))) (oE (eCon .non)))) (mBool (eBin opLt (oE (eBin opIx (oVar 7) (oE (eCon (.int 0))))) (oE (eBin opIx (oVar 0) (oE (eCon (.int 2)))))))) (eVar 7)))) (sSeq (sAsg 4 (eFrz (fComp (eVar 3) [7] (.one 7) (mOr (mBool (eBin opLe (oE (eBin opAdd (oE (eBin opIx (oVar 7) (oE (eCon (.int 0))))) (oE (eCon (.int 3))))) (oE (eBin opIx (oVar 0) (oE (eCon (.int 2))))))) (mBool (eBin opLe (oE (eBin opAdd (oE (eBin opIx (oVar 7) (oE (eCon (.int 1))))) (oE (eBin opIx (oVar 2) (oE (eBin opIx (oVar 7) (oE (eCon (.int 3))))))))) (oVar 1)))) (eVar 7)))) (sSeq (sAsg 5 (eFrz (fComp (eBin opIx (oVar 0) (oE (eCon (.int 1)))) [7] (.one 7) (mBool (eBin opNotIn (oVar 7) (oVar 4))) (eVar 7)))) (sSeq (sAsg 6 (eFrz (fComp (eVar 5) [7] (.one 7) (mBool (eBin opIn (oVar 7) (oVar 3))) (eBin opAdd (oE (eBin opIx (oVar 7) (oE (eCon (.int 1))))) (oE (eBin opIx (oVar 2) (oE (eBin opIx (oVar 7) (oE (eCon (.int 3))))))))))) (sSeq (sRet (eTup (aCons (eTup (aCons (eBin opIx (oVar 0) (oE (eCon (.int 0)))) (aCons (eBi biTuple (osCons (oVar 5) osNil)) (aCons (eBin opIx (oVar 0) (oE (eCon (.int 2)))) (aCons (eIte (mTru (oVar 6)) (eBi biMin (osCons (oVar 6) osNil)) (eCon .non)) aNil))))) (aCons (eBi biTuple (osCons (oVar 4) osNil)) aNil)))) sSkip)))))
def b__law_units : MS := (sSeq (sAsg 2 (eCall "_law_draw" (aCons (eVar 0) (aCons (eCon (.int 256)) aNil)))) (sSeq (sAsg 3 (eBin opIx (oE (eFrz (fLst (aCons (eCon (.int 0)) (aCons (eCon (.int 1)) (aCons (eCon (.int 7)) aNil)))))) (oE (eCall "_law_draw" (aCons (eVar 0) (aCons (eCon (.int 3)) aNil)))))) (sSeq (sRet (eBi biTuple (osCons (oE (eFrz (fCompR asR1 (aCons (eVar 1) aNil) [4] (.one 4) mTrue (eBin opMod (oE (eBi biInt (osCons (oE (eBin opAdd (oVar 2) (oE (eBin opMul (oVar 3) (oVar 4))))) osNil))) (oE (eCon (.int 256))))))) osNil))) sSkip)))
def b__law_frame : MS := (sSeq (sAsg 1 (eCall "_law_draw" (aCons (eVar 0) (aCons (eCon (.int 12)) aNil)))) (sSeq (sAsg 2 (eBin opIx (oE (eFrz (fLst (aCons (eCon (.int 0)) (aCons (eCon (.int 1)) (aCons (eCon (.int 7)) (aCons (eCon (.int 999999999)) aNil))))))) (oE (eCall "_law_draw" (aCons (eVar 0) (aCons (eCon (.int 4)) aNil)))))) (sSeq (sAsg 3 (eCall "_law_draw" (aCons (eVar 0) (aCons (eCon (.int 4)) aNil)))) (sSeq (sAsg 4 (eFrz (fLst (aCons (eTup (aCons (eCon (.str "ping")) aNil)) (aCons (eTup (aCons (eCon (.str "ack")) (aCons (eVar 2) (aCons (eTup (aCons (eTup (aCons (eVar 3) (aCons (eBin opAdd (oVar 3) (oE (eCon (.int 2)))) aNil))) (aCons (eTup (aCons (eBin opAdd (oVar 3) (oE (eCon (.int 4)))) (aCons (eBin opAdd (oVar 3) (oE (eCon (.int 4)))) aNil))) aNil))) aNil)))) (aCons (eTup (aCons (eCon (.str "message")) (aCons (eVar 3) (aCons (eTup (aCons (eCon (.str "finished")) (aCons (eVar 2) aNil))) aNil)))) aNil)))))) (sSeq (sAsg 4 (eBin opAdd (oVar 4) (oE (eFrz (fLst (aCons (eTup (aCons (eCon (.str "stream")) (aCons (eVar 3) (aCons (eVar 2) (aCons (eCall "_law_units" (aCons (eVar 0) (aCons (eVar 3) aNil))) (aCons (eCall "_law_draw" (aCons (eVar 0) (aCons (eCon (.int 2)) aNil))) aNil)))))) (aCons (eTup (aCons (eCon (.str "credit")) (aCons (eVar 2) aNil))) aNil))))))) (sSeq (sAsg 4 (eBin opAdd (oVar 4) (oE (eFrz (fLst (aCons (eTup (aCons (eCon (.str "stream credit")) (aCons (eVar 3) (aCons (eVar 2) aNil)))) (aCons (eTup (aCons (eCon (.str "identifier")) (aCons (eVar 3) (aCons (eVar 2) aNil)))) (aCons (eTup (aCons (eCon (.str "retire")) (aCons (eVar 2) aNil))) (aCons (eTup (aCons (eCon (.str "challenge")) (aCons (eVar 2) aNil))) aNil))))))))) (sSeq (sRet (eBin opIx (oE (eBin opAdd (oVar 4) (oE (eFrz (fLst (aCons (eTup (aCons (eCon (.str "response")) (aCons (eVar 2) aNil))) (aCons (eTup (aCons (eCon (.str "done")) aNil)) (aCons (eTup (aCons (eCon (.str "close")) (aCons (eVar 3) aNil))) aNil)))))))) (oVar 1))) sSkip)))))))
def b__law_due : MS := (sSeq (sIf (mBool (eBin opEq (oVar 0) (oE (eCon (.int 0))))) (sSeq (sRet (eCall "_law_sent" (aCons (eVar 1) (aCons (eBin opIx (oVar 2) (oE (eCon (.int 0)))) (aCons (eBin opIx (oVar 2) (oE (eCon (.int 1)))) (aCons (eBin opIx (oVar 2) (oE (eCon (.int 2)))) (aCons (eBin opIx (oVar 2) (oE (eCon (.int 3)))) (aCons (eBin opIx (oVar 2) (oE (eCon (.int 4)))) aNil)))))))) sSkip) sSkip) (sSeq (sIf (mBool (eBin opEq (oVar 0) (oE (eCon (.int 1))))) (sSeq (sRet (eCall "_law_reports" (aCons (eVar 1) (aCons (eVar 2) aNil)))) sSkip) sSkip) (sSeq (sIf (mBool (eBin opEq (oVar 0) (oE (eCon (.int 2))))) (sSeq (sRet (eCall "_law_looks" (aCons (eVar 1) (aCons (eBin opIx (oVar 2) (oE (eCon (.int 0)))) (aCons (eBin opIx (oVar 2) (oE (eCon (.int 1)))) aNil))))) sSkip) sSkip) (sSeq (sRet (eTup (aCons (eTup (aCons (eBin opIx (oVar 1) (oE (eCon (.int 0)))) (aCons (eTup aNil) (aCons (eBin opIx (oVar 1) (oE (eCon (.int 2)))) (aCons (eCon .non) aNil))))) (aCons (eBin opIx (oVar 1) (oE (eCon (.int 1)))) aNil)))) sSkip))))
def b__law_told : MS := (sSeq (sIf (mBool (eBin opEq (oVar 0) (oE (eCon (.int 0))))) (sSeq (sRet (eCall "send_packet" (aCons (eVar 1) (aCons (eBin opIx (oVar 2) (oE (eCon (.int 0)))) (aCons (eBin opIx (oVar 2) (oE (eCon (.int 1)))) (aCons (eBin opIx (oVar 2) (oE (eCon (.int 2)))) (aCons (eBin opIx (oVar 2) (oE (eCon (.int 3)))) (aCons (eBin opIx (oVar 2) (oE (eCon (.int 4)))) aNil)))))))) sSkip) sSkip) (sSeq (sIf (mBool (eBin opEq (oVar 0) (oE (eCon (.int 1))))) (sSeq (sRet (eCall "take_report" (aCons (eVar 1) (aCons (eVar 2) aNil)))) sSkip) sSkip) (sSeq (sIf (mBool (eBin opEq (oVar 0) (oE (eCon (.int 2))))) (sSeq (sRet (eCall "look" (aCons (eVar 1) (aCons (eBin opIx (oVar 2) (oE (eCon (.int 0)))) (aCons (eBin opIx (oVar 2) (oE (eCon (.int 1)))) aNil))))) sSkip) sSkip) (sSeq (sRet (eCall "drop_rows" (aCons (eVar 1) aNil))) sSkip))))
def b__law_some_report : MS := (sSeq (sAsg 2 (eTup aNil)) (sSeq (sAsg 3 (eCall "_law_draw" (aCons (eVar 0) (aCons (eCon (.int 10)) aNil)))) (sSeq (sForR asR1 (aCons (eBin opAdd (oE (eCon (.int 1))) (oE (eCall "_law_draw" (aCons (eVar 0) (aCons (eCon (.int 3)) aNil))))) aNil) (.one 4) (sSeq (sAsg 5 (eCall "_law_draw" (aCons (eVar 0) (aCons (eBin opIx (oVar 1) (oE (eCon (.int 0)))) aNil)))) (sSeq (sIf (mAnd (mTru (oE (eBin opIx (oVar 1) (oE (eCon (.int 1)))))) (mBool (eBin opEq (oE (eCall "_law_draw" (aCons (eVar 0) (aCons (eCon (.int 2)) aNil)))) (oE (eCon (.int 0)))))) (sSeq (sAsg 5 (eBin opIx (oE (eBin opIx (oE (eBin opIx (oVar 1) (oE (eCon (.int 1))))) (oE (eCall "_law_draw" (aCons (eVar 0) (aCons (eBi biLen (osCons (oE (eBin opIx (oVar 1) (oE (eCon (.int 1))))) osNil)) aNil)))))) (oE (eCon (.int 0))))) sSkip) sSkip) (sSeq (sAsg 6 (eBi biMax (osCons (oE (eBin opSub (oVar 5) (oE (eCall "_law_draw" (aCons (eVar 0) (aCons (eCon (.int 2)) aNil)))))) (osCons (oE (eCon (.int 0))) osNil)))) (sSeq (sAsg 2 (eCall "_law_put" (aCons (eVar 2) (aCons (eVar 6) (aCons (eBi biMin (osCons (oE (eBin opAdd (oVar 5) (oE (eBin opIx (oE (eFrz (fLst (aCons (eCon (.int 0)) (aCons (eCon (.int 0)) (aCons (eCon (.int 1)) (aCons (eCon (.int 2)) aNil))))))) (oE (eCall "_law_draw" (aCons (eVar 0) (aCons (eCon (.int 4)) aNil)))))))) (osCons (oE (eBi biMax (osCons (oE (eBin opSub (oE (eBin opIx (oVar 1) (oE (eCon (.int 0))))) (oE (eCon (.int 1))))) (osCons (oVar 5) osNil)))) osNil))) aNil))))) sSkip))))) (sSeq (sIf (mBool (eBin opEq (oVar 3) (oE (eCon (.int 0))))) (sSeq (sAsg 2 (eCall "_law_put" (aCons (eVar 2) (aCons (eBin opIx (oVar 1) (oE (eCon (.int 0)))) (aCons (eBin opAdd (oE (eBin opIx (oVar 1) (oE (eCon (.int 0))))) (oE (eCall "_law_draw" (aCons (eVar 0) (aCons (eCon (.int 2)) aNil))))) aNil))))) sSkip) sSkip) (sSeq (sIf (mBool (eBin opEq (oVar 3) (oE (eCon (.int 1))))) (sSeq (sAsg 2 (eCall "_law_put" (aCons (eVar 2) (aCons (eBin opAdd (oE (eBin opIx (oVar 1) (oE (eCon (.int 0))))) (oE (eCon (.int 1)))) (aCons (eBin opAdd (oE (eBin opIx (oVar 1) (oE (eCon (.int 0))))) (oE (eBin opIx (oE (eFrz (fLst (aCons (eCon (.int 1)) (aCons (eCon (.int 2)) (aCons (eCon (.int 500000)) aNil)))))) (oE (eCall "_law_draw" (aCons (eVar 0) (aCons (eCon (.int 3)) aNil))))))) aNil))))) sSkip) sSkip) (sSeq (sIf (mAnd (mBool (eBin opIn (oVar 3) (oE (eFrz (fLst (aCons (eCon (.int 2)) (aCons (eCon (.int 3)) aNil))))))) (mBool (eBin opGt (oE (eBin opIx (oVar 1) (oE (eCon (.int 0))))) (oE (eCon (.int 0)))))) (sSeq (sAsg 2 (eCall "_law_put" (aCons (eVar 2) (aCons (eBin opSub (oE (eBin opIx (oVar 1) (oE (eCon (.int 0))))) (oE (eCon (.int 1)))) (aCons (eBin opSub (oE (eBin opIx (oVar 1) (oE (eCon (.int 0))))) (oE (eCon (.int 1)))) aNil))))) sSkip) sSkip) (sSeq (sIf (mAnd (mBool (eBin opEq (oVar 3) (oE (eCon (.int 4))))) (mBool (eBin opGt (oE (eBin opIx (oVar 1) (oE (eCon (.int 0))))) (oE (eCon (.int 2)))))) (sSeq (sForR asR1 (aCons (eBi biMin (osCons (oE (eCon (.int 20))) (osCons (oE (eBin opFdiv (oE (eBin opIx (oVar 1) (oE (eCon (.int 0))))) (oE (eCon (.int 2))))) osNil))) aNil) (.one 4) (sSeq (sAsg 2 (eCall "_law_put" (aCons (eVar 2) (aCons (eBin opSub (oE (eBin opSub (oE (eBin opIx (oVar 1) (oE (eCon (.int 0))))) (oE (eCon (.int 2))))) (oE (eBin opMul (oE (eCon (.int 2))) (oVar 4)))) (aCons (eBin opSub (oE (eBin opSub (oE (eBin opIx (oVar 1) (oE (eCon (.int 0))))) (oE (eCon (.int 2))))) (oE (eBin opMul (oE (eCon (.int 2))) (oVar 4)))) aNil))))) sSkip)) sSkip) sSkip) (sSeq (sRet (eSl (oVar 2) (pSome (eNeg (oE (eCon (.int 20))))) pNone)) sSkip))))))))
def b__law_rest : MS := (sSeq (sIf (mBool (eBin opEq (oVar 1) (oE (eCon (.int 0))))) (sSeq (sAsg 5 (eBi biTuple (osCons (oE (eFrz (fCompR asR1 (aCons (eBin opIx (oE (eFrz (fLst (aCons (eCon (.int 1)) (aCons (eCon (.int 1)) (aCons (eCon (.int 2)) (aCons (eCon (.int 2)) (aCons (eCon (.int 3)) (aCons (eCon (.int 0)) aNil))))))))) (oE (eCall "_law_draw" (aCons (eVar 0) (aCons (eCon (.int 6)) aNil))))) aNil) [6] (.one 6) mTrue (eCall "_law_frame" (aCons (eVar 0) aNil))))) osNil))) (sSeq (sRet (eTup (aCons (eVar 3) (aCons (eBin opAdd (oE (eCon (.int 5))) (oE (eCall "_law_draw" (aCons (eVar 0) (aCons (eCon (.int 96)) aNil))))) (aCons (eCall "_law_draw" (aCons (eVar 0) (aCons (eCon (.int 3)) aNil))) (aCons (eCall "_law_draw" (aCons (eVar 0) (aCons (eCon (.int 60)) aNil))) (aCons (eVar 5) aNil))))))) sSkip)) sSkip) (sSeq (sIf (mBool (eBin opEq (oVar 1) (oE (eCon (.int 1))))) (sSeq (sRet (eCall "_law_some_report" (aCons (eVar 0) (aCons (eVar 2) aNil)))) sSkip) sSkip) (sSeq (sIf (mBool (eBin opEq (oVar 1) (oE (eCon (.int 2))))) (sSeq (sRet (eTup (aCons (eVar 3) (aCons (eBi biTuple (osCons (oVar 4) osNil)) aNil)))) sSkip) sSkip) (sSeq (sRet (eTup aNil)) sSkip))))
def b__law_changed : MS := (sSeq (sIf (mBool (eBin opEq (oVar 1) (oE (eCon (.int 0))))) (sSeq (sAsg 3 (eCall "_law_draw" (aCons (eVar 0) (aCons (eCon (.int 5)) aNil)))) (sSeq (sAsg 4 (eFrz (fLst (aCons (eBi biMin (osCons (oE (eBin opAdd (oE (eBin opIx (oVar 2) (oE (eCon (.int 0))))) (oE (eCon (.int 1))))) (osCons (oE (eCon (.int 1000000))) osNil))) (aCons (eIte (mBool (eBin opGt (oE (eBin opIx (oVar 2) (oE (eCon (.int 1))))) (oE (eCon (.int 5))))) (eBin opSub (oE (eBin opIx (oVar 2) (oE (eCon (.int 1))))) (oE (eCon (.int 1)))) (eCon (.int 6))) (aCons (eBin opMod (oE (eBi biInt (osCons (oE (eBin opAdd (oE (eBin opIx (oVar 2) (oE (eCon (.int 2))))) (oE (eCon (.int 1))))) osNil))) (oE (eCon (.int 3)))) (aCons (eBin opAdd (oE (eBin opIx (oVar 2) (oE (eCon (.int 3))))) (oE (eCon (.int 1)))) (aCons (eBin opAdd (oE (eBin opIx (oVar 2) (oE (eCon (.int 4))))) (oE (eTup (aCons (eTup (aCons (eCon (.str "ack")) (aCons (eCon (.int 3)) (aCons (eTup (aCons (eTup (aCons (eCon (.int 0)) (aCons (eCon (.int 4)) aNil))) aNil)) aNil)))) aNil)))) aNil)))))))) (sSeq (sRet (eBin opAdd (oE (eBin opAdd (oE (eSl (oVar 2) pNone (pSome (eVar 3)))) (oE (eTup (aCons (eBin opIx (oVar 4) (oVar 3)) aNil))))) (oE (eSl (oVar 2) (pSome (eBin opAdd (oVar 3) (oE (eCon (.int 1))))) pNone)))) sSkip))) sSkip) (sSeq (sIf (mBool (eBin opEq (oVar 1) (oE (eCon (.int 1))))) (sSeq (sRet (eIte (mBool (eBin opEq (oE (eCall "_law_draw" (aCons (eVar 0) (aCons (eCon (.int 2)) aNil)))) (oE (eCon (.int 0))))) (eCall "_law_put" (aCons (eVar 2) (aCons (eBin opAdd (oE (eBin opIx (oE (eBin opIx (oVar 2) (oE (eNeg (oE (eCon (.int 1))))))) (oE (eCon (.int 1))))) (oE (eCon (.int 1)))) (aCons (eBin opAdd (oE (eBin opIx (oE (eBin opIx (oVar 2) (oE (eNeg (oE (eCon (.int 1))))))) (oE (eCon (.int 1))))) (oE (eCon (.int 1)))) aNil)))) (eSl (oVar 2) (pSome (eNeg (oE (eCon (.int 1))))) pNone))) sSkip) sSkip) (sSeq (sIf (mBool (eBin opEq (oVar 1) (oE (eCon (.int 2))))) (sSeq (sIf (mBool (eBin opEq (oE (eCall "_law_draw" (aCons (eVar 0) (aCons (eCon (.int 2)) aNil)))) (oE (eCon (.int 0))))) (sSeq (sRet (eTup (aCons (eBi biMin (osCons (oE (eBin opAdd (oE (eBin opAdd (oE (eBin opIx (oVar 2) (oE (eCon (.int 0))))) (oE (eCon (.int 1))))) (oE (eCall "_law_draw" (aCons (eVar 0) (aCons (eCon (.int 30)) aNil)))))) (osCons (oE (eCon (.int 1000000))) osNil))) (aCons (eBin opIx (oVar 2) (oE (eCon (.int 1)))) aNil)))) sSkip) sSkip) (sSeq (sAsg 3 (eCall "_law_draw" (aCons (eVar 0) (aCons (eCon (.int 3)) aNil)))) (sSeq (sRet (eTup (aCons (eBin opIx (oVar 2) (oE (eCon (.int 0)))) (aCons (eBin opAdd (oE (eBin opAdd (oE (eSl (oE (eBin opIx (oVar 2) (oE (eCon (.int 1))))) pNone (pSome (eVar 3)))) (oE (eTup (aCons (eBin opAdd (oE (eCon (.int 1))) (oE (eCall "_law_draw" (aCons (eVar 0) (aCons (eCon (.int 50)) aNil))))) aNil))))) (oE (eSl (oE (eBin opIx (oVar 2) (oE (eCon (.int 1))))) (pSome (eBin opAdd (oVar 3) (oE (eCon (.int 1))))) pNone))) aNil)))) sSkip))) sSkip) (sSeq (sRet (eTup aNil)) sSkip))))
def b__law_beside : MS := (sSeq (sAsg 4 (eFrz (fLst (aCons (eVar 2) (aCons (eBin opAdd (oVar 2) (oE (eCall "_law_draw" (aCons (eVar 0) (aCons (eCon (.int 60)) aNil))))) aNil))))) (sSeq (sIf (mBool (eBin opIsN (oE (eBin opIx (oVar 1) (oE (eCon (.int 3))))) (oE (eCon .non)))) (sSeq (sAsg 4 (eFrz (fLst (aCons (eBi biMax (osCons (oE (eBin opSub (oE (eBin opIx (oVar 1) (oE (eCon (.int 3))))) (oE (eCon (.int 1))))) (osCons (oVar 2) osNil))) (aCons (eBi biMax (osCons (oE (eBin opIx (oVar 1) (oE (eCon (.int 3))))) (osCons (oVar 2) osNil))) aNil))))) sSkip) sSkip) (sSeq (sForV (eFrz (fComp (eVar 4) [7] (.one 7) mTrue (eBi biMin (osCons (oVar 7) (osCons (oE (eCon (.int 1000000))) osNil))))) (.one 5) (sSeq (sAsg 6 (eCall "look" (aCons (eVar 1) (aCons (eVar 5) (aCons (eBi biTuple (osCons (oVar 3) osNil)) aNil))))) (sSeq (sIf (mNot (mTru (oE (eCall "_law_equal" (aCons (eVar 6) (aCons (eCall "_law_looks" (aCons (eVar 1) (aCons (eVar 5) (aCons (eBi biTuple (osCons (oVar 3) osNil)) aNil)))) aNil)))))) (sSeq (sRet (eCon (.bl false))) sSkip) sSkip) sSkip))) (sSeq (sRet (eCon (.bl true))) sSkip))))
def b__law_asked_again : MS := (sSeq (sForR asR1 (aCons (eCon (.int 3)) aNil) (.one 2) (sSeq (sUnp [3, 4, 5] (eBin opIx (oVar 1) (oE (eCall "_law_draw" (aCons (eVar 0) (aCons (eBi biLen (osCons (oVar 1) osNil)) aNil)))))) (sSeq (sIf (mNot (mTru (oE (eCall "_law_same" (aCons (eCall "_law_told" (aCons (eVar 3) (aCons (eVar 4) (aCons (eVar 5) aNil)))) (aCons (eCall "_law_due" (aCons (eVar 3) (aCons (eVar 4) (aCons (eVar 5) aNil)))) aNil)))))) (sSeq (sRet (eCon (.bl false))) sSkip) sSkip) sSkip))) (sSeq (sRet (eCon (.bl true))) sSkip))
def b__law_once_each : MS := (sSeq (sAsg 3 (eFrz (fComp (eBin opIx (oVar 1) (oE (eCon (.int 1)))) [5] (.one 5) mTrue (eBin opIx (oVar 5) (oE (eCon (.int 0))))))) (sSeq (sForV (eVar 0) (.one 4) (sSeq (sIf (mBool (eBin opNe (oE (eBin opAdd (oE (eSeqM cntA [1] (oVar 3) (oVar 4))) (oE (eBi biLen (osCons (oE (eFrz (fComp (eVar 2) [6] (.one 6) (mBool (eBin opEq (oE (eBin opIx (oVar 6) (oE (eCon (.int 0))))) (oVar 4))) (eVar 6)))) osNil))))) (oE (eCon (.int 1))))) (sSeq (sRet (eCon (.bl false))) sSkip) sSkip) sSkip)) (sSeq (sRet (eBin opEq (oE (eBin opAdd (oE (eBi biLen (osCons (oVar 3) osNil))) (oE (eBi biLen (osCons (oVar 2) osNil))))) (oE (eBi biLen (osCons (oVar 0) osNil))))) sSkip)))
def b_law : MS := (sSeq (sAsg 1 (eCall "_law_tape" (aCons (eVar 0) aNil))) (sSeq (sAsg 2 (eBin opIx (oE (eFrz (fLst (aCons (eCon (.int 0)) (aCons (eCon (.int 3)) (aCons (eCon (.int 500)) (aCons (eCon (.int 999900)) aNil))))))) (oE (eCall "_law_draw" (aCons (eVar 1) (aCons (eCon (.int 4)) aNil)))))) (sSeq (sAsg 3 (eLay (fCompR asR1 (aCons (eCon (.int 3)) aNil) [9] (.one 9) mTrue (eBin opIx (oE (eFrz (fLst (aCons (eCon (.int 1)) (aCons (eCon (.int 3)) (aCons (eCon (.int 9)) (aCons (eCon (.int 22)) (aCons (eCon (.int 41)) (aCons (eCon (.int 400)) aNil))))))))) (oE (eCall "_law_draw" (aCons (eVar 1) (aCons (eCon (.int 6)) aNil)))))))) (sSeq (sAsg 4 (eCall "new_sent" aNil)) (sSeq (sAsg 5 (eTup (aCons (eCon (.int 0)) (aCons (eTup aNil) (aCons (eCon .non) (aCons (eCon .non) aNil)))))) (sSeq (sIf (mNot (mTru (oE (eCall "_law_same" (aCons (eVar 4) (aCons (eVar 5) aNil)))))) (sSeq (sRet (eCon (.bl false))) sSkip) sSkip) (sSeq (sOwn 6 (fLst aNil)) (sSeq (sOwn 7 (fLst aNil)) (sSeq (sOwn 8 (fLst aNil)) (sSeq (sForR asR1 (aCons (eBin opAdd (oE (eCon (.int 6))) (oE (eCall "_law_draw" (aCons (eVar 1) (aCons (eCon (.int 25)) aNil))))) aNil) (.one 9) (sSeq (sAsg 10 (eBin opIx (oE (eFrz (fLst (aCons (eCon (.int 0)) (aCons (eCon (.int 0)) (aCons (eCon (.int 0)) (aCons (eCon (.int 0)) (aCons (eCon (.int 1)) (aCons (eCon (.int 1)) (aCons (eCon (.int 2)) (aCons (eCon (.int 2)) (aCons (eCon (.int 3)) aNil)))))))))))) (oE (eCall "_law_draw" (aCons (eVar 1) (aCons (eCon (.int 9)) aNil)))))) (sSeq (sAsg 2 (eBi biMin (osCons (oE (eBin opAdd (oVar 2) (oE (eBin opIx (oE (eFrz (fLst (aCons (eCon (.int 0)) (aCons (eCon (.int 0)) (aCons (eCon (.int 1)) (aCons (eCon (.int 2)) (aCons (eCon (.int 9)) (aCons (eCon (.int 22)) (aCons (eCon (.int 41)) (aCons (eCon (.int 60)) aNil))))))))))) (oE (eCall "_law_draw" (aCons (eVar 1) (aCons (eCon (.int 8)) aNil)))))))) (osCons (oE (eCon (.int 1000000))) osNil)))) (sSeq (sIf (mBool (eBin opEq (oE (eCall "_law_draw" (aCons (eVar 1) (aCons (eCon (.int 6)) aNil)))) (oE (eCon (.int 0))))) (sSeq (sSet (oVar 3) (eCall "_law_draw" (aCons (eVar 1) (aCons (eCon (.int 3)) aNil))) (eBin opIx (oE (eFrz (fLst (aCons (eCon (.int 1)) (aCons (eCon (.int 2)) (aCons (eCon (.int 9)) (aCons (eCon (.int 22)) (aCons (eCon (.int 41)) (aCons (eCon (.int 400)) aNil))))))))) (oE (eCall "_law_draw" (aCons (eVar 1) (aCons (eCon (.int 6)) aNil)))))) sSkip) sSkip) (sSeq (sIf (mAnd (mBool (eBin opEq (oVar 10) (oE (eCon (.int 0))))) (mBool (eBin opGt (oE (eBi biLen (osCons (oE (eBin opIx (oVar 4) (oE (eCon (.int 1))))) osNil))) (oE (eCon (.int 12)))))) (sSeq (sAsg 10 (eBin opAdd (oE (eCon (.int 1))) (oE (eCall "_law_draw" (aCons (eVar 1) (aCons (eCon (.int 2)) aNil)))))) sSkip) sSkip) (sSeq (sForR asR1 (aCons (eIte (mBool (eBin opEq (oVar 10) (oE (eCon (.int 0))))) (eBin opIx (oE (eFrz (fLst (aCons (eCon (.int 1)) (aCons (eCon (.int 1)) (aCons (eCon (.int 2)) (aCons (eCon (.int 5)) (aCons (eCon (.int 9)) aNil)))))))) (oE (eCall "_law_draw" (aCons (eVar 1) (aCons (eCon (.int 5)) aNil))))) (eCon (.int 1))) aNil) (.one 11) (sSeq (sAsg 12 (eCall "_law_rest" (aCons (eVar 1) (aCons (eVar 10) (aCons (eVar 4) (aCons (eVar 2) (aCons (eVar 3) aNil))))))) (sSeq (sAsg 13 (eCall "_law_told" (aCons (eVar 10) (aCons (eVar 4) (aCons (eVar 12) aNil))))) (sSeq (sAsg 14 (eCall "_law_due" (aCons (eVar 10) (aCons (eVar 4) (aCons (eVar 12) aNil))))) (sSeq (sIf (mAnd (mBool (eBin opEq (oE (eCall "_law_draw" (aCons (eVar 1) (aCons (eCon (.int 8)) aNil)))) (oE (eCon (.int 0))))) (mNot (mTru (oE (eCall "_law_same" (aCons (eVar 13) (aCons (eVar 14) aNil))))))) (sSeq (sRet (eCon (.bl false))) sSkip) sSkip) (sSeq (sIf (mOr (mBool (eBin opNe (oE (eBin opIs (oVar 13) (oE (eCon .non)))) (oE (eBin opIs (oVar 14) (oE (eCon .non)))))) (mAnd (mBool (eBin opIsN (oVar 14) (oE (eCon .non)))) (mNot (mTru (oE (eCall "_law_equal" (aCons (eVar 13) (aCons (eVar 14) aNil)))))))) (sSeq (sRet (eCon (.bl false))) sSkip) sSkip) (sSeq (sIf (mBool (eBin opEq (oE (eCall "_law_draw" (aCons (eVar 1) (aCons (eCon (.int 4)) aNil)))) (oE (eCon (.int 0))))) (sSeq (sAsg 15 (eCall "_law_changed" (aCons (eVar 1) (aCons (eVar 10) (aCons (eVar 12) aNil))))) (sSeq (sIf (mOr (mBool (eBin opNe (oE (eCall "_law_told" (aCons (eVar 10) (aCons (eVar 4) (aCons (eVar 15) aNil))))) (oE (eCall "_law_due" (aCons (eVar 10) (aCons (eVar 4) (aCons (eVar 15) aNil))))))) (mBool (eBin opNe (oE (eCall "_law_told" (aCons (eVar 10) (aCons (eVar 4) (aCons (eVar 12) aNil))))) (oVar 14)))) (sSeq (sRet (eCon (.bl false))) sSkip) sSkip) sSkip)) sSkip) (sSeq (sExpr (eApp (oVar 8) (eTup (aCons (eVar 10) (aCons (eVar 4) (aCons (eVar 12) aNil)))))) (sSeq (sIf (mBool (eBin opEq (oVar 10) (oE (eCon (.int 0))))) (sSeq (sIf (mTru (oE (eCall "_law_eliciting" (aCons (eBin opIx (oVar 12) (oE (eCon (.int 4)))) aNil)))) (sSeq (sExpr (eApp (oVar 6) (eBin opIx (oVar 4) (oE (eCon (.int 0)))))) sSkip) sSkip) (sSeq (sAsg 4 (eVar 13)) (sSeq (sAsg 5 (eVar 14)) sSkip))) (sSeq (sIf (mBool (eBin opIsN (oVar 14) (oE (eCon .non)))) (sSeq (sIf (mNot (mTru (oE (eCall "_law_same" (aCons (eBin opIx (oVar 13) (oE (eCon (.int 1)))) (aCons (eBin opIx (oVar 14) (oE (eCon (.int 1)))) aNil)))))) (sSeq (sRet (eCon (.bl false))) sSkip) sSkip) (sSeq (sExpr (eExt (oVar 7) (fComp (eBin opIx (oVar 13) (oE (eCon (.int 1)))) [16] (.one 16) mTrue (eTup (aCons (eBin opIx (oVar 16) (oE (eCon (.int 0)))) (aCons (eVar 10) aNil)))))) (sSeq (sAsg 4 (eBin opIx (oVar 13) (oE (eCon (.int 0))))) (sSeq (sAsg 5 (eBin opIx (oVar 14) (oE (eCon (.int 0))))) sSkip)))) sSkip) sSkip)) sSkip))))))))) (sSeq (sIf (mAnd (mBool (eBin opEq (oE (eCall "_law_draw" (aCons (eVar 1) (aCons (eCon (.int 3)) aNil)))) (oE (eCon (.int 0))))) (mNot (mTru (oE (eCall "_law_beside" (aCons (eVar 1) (aCons (eVar 4) (aCons (eVar 2) (aCons (eVar 3) aNil))))))))) (sSeq (sRet (eCon (.bl false))) sSkip) sSkip) sSkip))))))) (sSeq (sRet (eAnd (eCall "_law_asked_again" (aCons (eVar 1) (aCons (eVar 8) aNil))) (eAnd (eCall "_law_same" (aCons (eVar 4) (aCons (eVar 5) aNil))) (eCall "_law_once_each" (aCons (eVar 6) (aCons (eVar 4) (aCons (eVar 7) aNil))))))) sSkip)))))))))))
theorem c_contains : cB W 60 (D_contains.cc defs consts) D_contains.body = some b_contains := by kernel_rfl
theorem c_greatest : cB W 60 (D_greatest.cc defs consts) D_greatest.body = some b_greatest := by kernel_rfl
theorem c_is_eliciting : cB W 60 (D_is_eliciting.cc defs consts) D_is_eliciting.body = some b_is_eliciting := by kernel_rfl
theorem c_new_sent : cB W 60 (D_new_sent.cc defs consts) D_new_sent.body = some b_new_sent := by kernel_rfl
theorem c_send_packet : cB W 60 (D_send_packet.cc defs consts) D_send_packet.body = some b_send_packet := by kernel_rfl
theorem c_take_report : cB W 60 (D_take_report.cc defs consts) D_take_report.body = some b_take_report := by kernel_rfl
theorem c_loss_deadline : cB W 60 (D_loss_deadline.cc defs consts) D_loss_deadline.body = some b_loss_deadline := by kernel_rfl
theorem c_look : cB W 60 (D_look.cc defs consts) D_look.body = some b_look := by kernel_rfl
theorem c_drop_rows : cB W 60 (D_drop_rows.cc defs consts) D_drop_rows.body = some b_drop_rows := by kernel_rfl
theorem c__law_tape : cB W 60 (D__law_tape.cc defs consts) D__law_tape.body = some b__law_tape := by kernel_rfl
theorem c__law_draw : cB W 60 (D__law_draw.cc defs consts) D__law_draw.body = some b__law_draw := by kernel_rfl
theorem c__law_same : cB W 60 (D__law_same.cc defs consts) D__law_same.body = some b__law_same := by kernel_rfl
theorem c__law_put : cB W 60 (D__law_put.cc defs consts) D__law_put.body = some b__law_put := by kernel_rfl
theorem c__law_in : cB W 60 (D__law_in.cc defs consts) D__law_in.body = some b__law_in := by kernel_rfl
theorem c__law_equal : cB W 60 (D__law_equal.cc defs consts) D__law_equal.body = some b__law_equal := by kernel_rfl
theorem c__law_eliciting : cB W 60 (D__law_eliciting.cc defs consts) D__law_eliciting.body = some b__law_eliciting := by kernel_rfl
theorem c__law_sent : cB W 60 (D__law_sent.cc defs consts) D__law_sent.body = some b__law_sent := by kernel_rfl
theorem c__law_reports : cB W 60 (D__law_reports.cc defs consts) D__law_reports.body = some b__law_reports := by kernel_rfl
theorem c__law_looks : cB W 60 (D__law_looks.cc defs consts) D__law_looks.body = some b__law_looks := by kernel_rfl
theorem c__law_units : cB W 60 (D__law_units.cc defs consts) D__law_units.body = some b__law_units := by kernel_rfl
theorem c__law_frame : cB W 60 (D__law_frame.cc defs consts) D__law_frame.body = some b__law_frame := by kernel_rfl
theorem c__law_due : cB W 60 (D__law_due.cc defs consts) D__law_due.body = some b__law_due := by kernel_rfl
theorem c__law_told : cB W 60 (D__law_told.cc defs consts) D__law_told.body = some b__law_told := by kernel_rfl
theorem c__law_some_report : cB W 60 (D__law_some_report.cc defs consts) D__law_some_report.body = some b__law_some_report := by kernel_rfl
theorem c__law_rest : cB W 60 (D__law_rest.cc defs consts) D__law_rest.body = some b__law_rest := by kernel_rfl
theorem c__law_changed : cB W 60 (D__law_changed.cc defs consts) D__law_changed.body = some b__law_changed := by kernel_rfl
theorem c__law_beside : cB W 60 (D__law_beside.cc defs consts) D__law_beside.body = some b__law_beside := by kernel_rfl
theorem c__law_asked_again : cB W 60 (D__law_asked_again.cc defs consts) D__law_asked_again.body = some b__law_asked_again := by kernel_rfl
theorem c__law_once_each : cB W 60 (D__law_once_each.cc defs consts) D__law_once_each.body = some b__law_once_each := by kernel_rfl
theorem c_law : cB W 60 (D_law.cc defs consts) D_law.body = some b_law := by kernel_rfl
abbrev T : List (Str × DfE) := [(("contains" : Str), ⟨2, 4, b_contains⟩), (("greatest" : Str), ⟨1, 1, b_greatest⟩), (("is_eliciting" : Str), ⟨1, 1, b_is_eliciting⟩), (("new_sent" : Str), ⟨0, 0, b_new_sent⟩), (("send_packet" : Str), ⟨6, 11, b_send_packet⟩), (("take_report" : Str), ⟨2, 10, b_take_report⟩), (("loss_deadline" : Str), ⟨2, 2, b_loss_deadline⟩), (("look" : Str), ⟨3, 11, b_look⟩), (("drop_rows" : Str), ⟨1, 5, b_drop_rows⟩), (("_law_tape" : Str), ⟨1, 3, b__law_tape⟩), (("_law_draw" : Str), ⟨2, 4, b__law_draw⟩), (("_law_same" : Str), ⟨2, 5, b__law_same⟩), (("_law_put" : Str), ⟨3, 8, b__law_put⟩), (("_law_in" : Str), ⟨2, 3, b__law_in⟩), (("_law_equal" : Str), ⟨2, 2, b__law_equal⟩), (("_law_eliciting" : Str), ⟨1, 2, b__law_eliciting⟩), (("_law_sent" : Str), ⟨6, 8, b__law_sent⟩), (("_law_reports" : Str), ⟨2, 6, b__law_reports⟩), (("_law_looks" : Str), ⟨3, 8, b__law_looks⟩), (("_law_units" : Str), ⟨2, 5, b__law_units⟩), (("_law_frame" : Str), ⟨1, 5, b__law_frame⟩), (("_law_due" : Str), ⟨3, 3, b__law_due⟩), (("_law_told" : Str), ⟨3, 3, b__law_told⟩), (("_law_some_report" : Str), ⟨2, 7, b__law_some_report⟩), (("_law_rest" : Str), ⟨5, 7, b__law_rest⟩), (("_law_changed" : Str), ⟨3, 5, b__law_changed⟩), (("_law_beside" : Str), ⟨4, 8, b__law_beside⟩), (("_law_asked_again" : Str), ⟨2, 6, b__law_asked_again⟩), (("_law_once_each" : Str), ⟨3, 7, b__law_once_each⟩), (("law" : Str), ⟨1, 17, b_law⟩)]
theorem l_contains (d : Nat) (args : List AV) (S : List SObj) : lvl T (d + 1) "contains" args S = runD ⟨2, 4, b_contains⟩ (lvl T d) args S := by rfl
theorem l_greatest (d : Nat) (args : List AV) (S : List SObj) : lvl T (d + 1) "greatest" args S = runD ⟨1, 1, b_greatest⟩ (lvl T d) args S := by rfl
theorem l_is_eliciting (d : Nat) (args : List AV) (S : List SObj) : lvl T (d + 1) "is_eliciting" args S = runD ⟨1, 1, b_is_eliciting⟩ (lvl T d) args S := by rfl
theorem l_new_sent (d : Nat) (args : List AV) (S : List SObj) : lvl T (d + 1) "new_sent" args S = runD ⟨0, 0, b_new_sent⟩ (lvl T d) args S := by rfl
theorem l_send_packet (d : Nat) (args : List AV) (S : List SObj) : lvl T (d + 1) "send_packet" args S = runD ⟨6, 11, b_send_packet⟩ (lvl T d) args S := by rfl
theorem l_take_report (d : Nat) (args : List AV) (S : List SObj) : lvl T (d + 1) "take_report" args S = runD ⟨2, 10, b_take_report⟩ (lvl T d) args S := by rfl
theorem l_loss_deadline (d : Nat) (args : List AV) (S : List SObj) : lvl T (d + 1) "loss_deadline" args S = runD ⟨2, 2, b_loss_deadline⟩ (lvl T d) args S := by rfl
theorem l_look (d : Nat) (args : List AV) (S : List SObj) : lvl T (d + 1) "look" args S = runD ⟨3, 11, b_look⟩ (lvl T d) args S := by rfl
theorem l_drop_rows (d : Nat) (args : List AV) (S : List SObj) : lvl T (d + 1) "drop_rows" args S = runD ⟨1, 5, b_drop_rows⟩ (lvl T d) args S := by rfl
theorem l__law_tape (d : Nat) (args : List AV) (S : List SObj) : lvl T (d + 1) "_law_tape" args S = runD ⟨1, 3, b__law_tape⟩ (lvl T d) args S := by rfl
theorem l__law_draw (d : Nat) (args : List AV) (S : List SObj) : lvl T (d + 1) "_law_draw" args S = runD ⟨2, 4, b__law_draw⟩ (lvl T d) args S := by rfl
theorem l__law_same (d : Nat) (args : List AV) (S : List SObj) : lvl T (d + 1) "_law_same" args S = runD ⟨2, 5, b__law_same⟩ (lvl T d) args S := by rfl
theorem l__law_put (d : Nat) (args : List AV) (S : List SObj) : lvl T (d + 1) "_law_put" args S = runD ⟨3, 8, b__law_put⟩ (lvl T d) args S := by rfl
theorem l__law_in (d : Nat) (args : List AV) (S : List SObj) : lvl T (d + 1) "_law_in" args S = runD ⟨2, 3, b__law_in⟩ (lvl T d) args S := by rfl
theorem l__law_equal (d : Nat) (args : List AV) (S : List SObj) : lvl T (d + 1) "_law_equal" args S = runD ⟨2, 2, b__law_equal⟩ (lvl T d) args S := by rfl
theorem l__law_eliciting (d : Nat) (args : List AV) (S : List SObj) : lvl T (d + 1) "_law_eliciting" args S = runD ⟨1, 2, b__law_eliciting⟩ (lvl T d) args S := by rfl
theorem l__law_sent (d : Nat) (args : List AV) (S : List SObj) : lvl T (d + 1) "_law_sent" args S = runD ⟨6, 8, b__law_sent⟩ (lvl T d) args S := by rfl
theorem l__law_reports (d : Nat) (args : List AV) (S : List SObj) : lvl T (d + 1) "_law_reports" args S = runD ⟨2, 6, b__law_reports⟩ (lvl T d) args S := by rfl
theorem l__law_looks (d : Nat) (args : List AV) (S : List SObj) : lvl T (d + 1) "_law_looks" args S = runD ⟨3, 8, b__law_looks⟩ (lvl T d) args S := by rfl
theorem l__law_units (d : Nat) (args : List AV) (S : List SObj) : lvl T (d + 1) "_law_units" args S = runD ⟨2, 5, b__law_units⟩ (lvl T d) args S := by rfl
theorem l__law_frame (d : Nat) (args : List AV) (S : List SObj) : lvl T (d + 1) "_law_frame" args S = runD ⟨1, 5, b__law_frame⟩ (lvl T d) args S := by rfl
theorem l__law_due (d : Nat) (args : List AV) (S : List SObj) : lvl T (d + 1) "_law_due" args S = runD ⟨3, 3, b__law_due⟩ (lvl T d) args S := by rfl
theorem l__law_told (d : Nat) (args : List AV) (S : List SObj) : lvl T (d + 1) "_law_told" args S = runD ⟨3, 3, b__law_told⟩ (lvl T d) args S := by rfl
theorem l__law_some_report (d : Nat) (args : List AV) (S : List SObj) : lvl T (d + 1) "_law_some_report" args S = runD ⟨2, 7, b__law_some_report⟩ (lvl T d) args S := by rfl
theorem l__law_rest (d : Nat) (args : List AV) (S : List SObj) : lvl T (d + 1) "_law_rest" args S = runD ⟨5, 7, b__law_rest⟩ (lvl T d) args S := by rfl
theorem l__law_changed (d : Nat) (args : List AV) (S : List SObj) : lvl T (d + 1) "_law_changed" args S = runD ⟨3, 5, b__law_changed⟩ (lvl T d) args S := by rfl
theorem l__law_beside (d : Nat) (args : List AV) (S : List SObj) : lvl T (d + 1) "_law_beside" args S = runD ⟨4, 8, b__law_beside⟩ (lvl T d) args S := by rfl
theorem l__law_asked_again (d : Nat) (args : List AV) (S : List SObj) : lvl T (d + 1) "_law_asked_again" args S = runD ⟨2, 6, b__law_asked_again⟩ (lvl T d) args S := by rfl
theorem l__law_once_each (d : Nat) (args : List AV) (S : List SObj) : lvl T (d + 1) "_law_once_each" args S = runD ⟨3, 7, b__law_once_each⟩ (lvl T d) args S := by rfl
theorem l_law (d : Nat) (args : List AV) (S : List SObj) : lvl T (d + 1) "law" args S = runD ⟨1, 17, b_law⟩ (lvl T d) args S := by rfl
end K41
end
section
set_option maxRecDepth 100000
set_option maxHeartbeats 3000000
namespace K41
open PySem L2 Pyx
open PySem.Spec PyProof.Rows
/-! ### words -/
theorem opEq_st {S : List SObj} {x y : Str} (hx : PyData.strOk x = true) (hy : PyData.strOk y = true) : opEq S (.str x) (.str y) = some (.bl (decide (x = y))) := by
  rw [opEq_sm (j := 0) (k := 0) (by unfold sm; exact hx) (by unfold sm; exact hy) (by omega)]
  have : (AV.str x).eqb (.str y) = decide (x = y) := by simp [AV.eqb, AV.pd, PyData.eqv, BEq.beq]
  rw [this]
theorem opNe_st {S : List SObj} {x y : Str} (hx : PyData.strOk x = true) (hy : PyData.strOk y = true) : opNe S (.str x) (.str y) = some (.bl (!decide (x = y))) := by
  rw [opNe_sm (j := 0) (k := 0) (by unfold sm; exact hx) (by unfold sm; exact hy) (by omega)]
  have : (AV.str x).eqb (.str y) = decide (x = y) := by simp [AV.eqb, AV.pd, PyData.eqv, BEq.beq]
  rw [this]
theorem ok_ack : PyData.strOk ("ack" : Str) = true := by decide +kernel
theorem ok_close : PyData.strOk ("close" : Str) = true := by decide +kernel
/-! ### draws, sameness -/
section
variable {t : Tp} {R : List SObj}
theorem s_draw (d : Nat) (ht : t.Ok) (many : Int) (hm : many < 1073741824) (R : List SObj) :
    ∃ (r : Nat) (t' : Tp), lvl T (d + 1) "_law_draw" [.ref 0, .int many] (tpO t :: R) = some (.int (r : Nat), tpO t' :: R) ∧ t'.Ok ∧ ((r : Int) < many ∨ (r : Int) < 1) := by
  obtain ⟨q, h1, r, t', rfl, h2, h3, h4⟩ := draw_ok (lvl T d) t ht many hm R
  obtain ⟨n, rfl⟩ := Int.eq_ofNat_of_zero_le h3
  exact ⟨n, t', h1, h2, h4⟩
end
theorem s_same (d : Nat) {k : Nat} {v : AV} (S : List SObj) (h : sm k v = true) (hd : k ≤ d) : lvl T (d + 1) "_law_same" [v, v] S = some (.bl true, S) := by
  obtain ⟨e, rfl⟩ : ∃ e, d = e + k := ⟨d - k, by omega⟩
  exact same_ok2 rfl k e v S h
theorem s_tape (d : Nat) (ns : List Int) : ∃ t : Tp, lvl T (d + 1) "_law_tape" [.lst (ns.map .int)] [] = some (.ref 0, [tpO t]) ∧ t.Ok := by
  obtain ⟨a', e1, x, x2, ea⟩ := loopL_inv (tg := .one 2) (body := (sSeq (sAsg 1 (eBin opMod (oE (eBi biInt (osCons (oE (eBin opAdd (oE (eBin opMul (oVar 1) (oE (eCon (.int 31))))) (oE (eBi biAbs (osCons (oE (eBi biInt (osCons (oVar 2) osNil))) osNil))))) osNil))) (oE (eCon (.int 2147483647))))) sSkip) (lvl T d))
    (fun _ a => ∃ (x : Int) (x2 : Option Slt), a = ⟨[some (.val (.lst (ns.map .int))), some (.val (.int x)), x2], []⟩) (xs := ns.map .int) (n := 0) (a := ⟨[some (.val (.lst (ns.map .int))), some (.val (.int 7)), none], []⟩)
    (fun k y a hk ⟨x, x2, ea⟩ => by
      obtain ⟨n, _, rfl⟩ := List.mem_map.mp (List.mem_of_getElem? hk)
      subst ea
      refine ⟨_, .nx, ⟨[some (.val (.lst (ns.map .int))), some (.val (.int ((x * 31 + (if n < 0 then -n else n)) % 2147483647))), some (.val (.int n))], []⟩, rfl, ?_, .inl rfl, ⟨_, _, rfl⟩⟩
      simp -implicitDefEqProofs [opMul_i, opMod_i]) ⟨7, none, rfl⟩
  subst ea
  refine ⟨⟨ns, 0, 0, x⟩, ?_, ⟨by simp, by simp⟩⟩
  rw [l__law_tape]
  simp -implicitDefEqProofs [b__law_tape, frame, e1, tpO]
/-! ### frames, packets, rows, what was sent -/
structure Fr where
  nm : Str
  rest : List AV
structure Fr.Ok (f : Fr) : Prop where
  s : PyData.strOk f.nm = true
  r : ∀ x ∈ f.rest, cn 2 x = true
  l : f.rest.length ≤ 10
def Fr.A (f : Fr) : AV := .tup (.str f.nm :: f.rest)
theorem Fr.cn {f : Fr} (h : f.Ok) : Pyx.cn 3 f.A = true := cn_mk (fun x hx => by
  rcases List.mem_cons.mp hx with rfl | hx
  · unfold Pyx.cn; exact h.s
  · exact h.r x hx) (by simp; have := h.l; omega)
def elic (f : Fr) : Bool := !decide (f.nm = "ack") && !decide (f.nm = "close")
def nack (f : Fr) : Bool := !decide (f.nm = "ack")
abbrev fA (cs : List Fr) : List AV := cs.map Fr.A
structure Pk where
  time : Int
  size : Int
  path : Nat
  serial : Int
  cs : List Fr
structure Pk.Ok (p : Pk) : Prop where
  pt : p.path < 3
  c : ∀ f ∈ p.cs, f.Ok
  l : p.cs.length ≤ 10
def Pk.A (p : Pk) : AV := .tup [.int p.time, .int p.size, .int (p.path : Nat), .int p.serial, .tup (fA p.cs)]
structure Rw where
  n : Nat
  time : Int
  size : Int
  path : Nat
  serial : Int
  fr : List Fr
structure Rw.Ok (r : Rw) : Prop where
  pt : r.path < 3
  c : ∀ f ∈ r.fr, f.Ok
  l : r.fr.length ≤ 10
def Rw.A (r : Rw) : AV := .tup [.int (r.n : Nat), .int r.time, .int r.size, .int (r.path : Nat), .int r.serial, .tup (fA r.fr)]
theorem fA_cn {cs : List Fr} (h : ∀ f ∈ cs, f.Ok) (hl : cs.length ≤ 10) : Pyx.cn 4 (.tup (fA cs)) = true := cn_mk (fun x hx => by
  obtain ⟨f, hf, rfl⟩ := List.mem_map.mp hx
  exact Fr.cn (h f hf)) (by simp; omega)
theorem Rw.cn {r : Rw} (h : r.Ok) : Pyx.cn 5 r.A = true := cn_mk (fun x hx => by
  simp only [List.mem_cons, List.not_mem_nil, or_false] at hx
  rcases hx with rfl | rfl | rfl | rfl | rfl | rfl
  · rfl
  · rfl
  · rfl
  · rfl
  · rfl
  · exact fA_cn h.c h.l) (by simp)
abbrev rA (rs : List Rw) : List AV := rs.map Rw.A
structure Sn where
  n : Nat
  rows : List Rw
  top : Option Int
  due : Option Int
structure Sn.Ok (s : Sn) : Prop where
  r : ∀ r ∈ s.rows, r.Ok
  l : s.rows.length ≤ 1000
def Sn.A (s : Sn) : AV := .tup [.int (s.n : Nat), .tup (rA s.rows), oA s.top, oA s.due]
theorem rA_sm {rs : List Rw} (h : ∀ r ∈ rs, r.Ok) (hl : rs.length ≤ 1000) : sm 6 (.tup (rA rs)) = true := sm_mk (fun x hx => by
  obtain ⟨f, hf, rfl⟩ := List.mem_map.mp hx
  exact cn_sm _ _ (Rw.cn (h f hf))) (by simp; omega)
theorem oA_sm {k : Nat} {o : Option Int} : sm k (oA o) = true := by cases o <;> cases k <;> rfl
theorem Sn.sm {s : Sn} (h : s.Ok) : Pyx.sm 7 s.A = true := sm_mk (fun x hx => by
  simp only [List.mem_cons, List.not_mem_nil, or_false] at hx
  rcases hx with rfl | rfl | rfl | rfl
  · rfl
  · exact rA_sm h.r h.l
  · exact oA_sm
  · exact oA_sm) (by simp)
/-! ### sending -/
def Sn.send (s : Sn) (p : Pk) : Sn := ⟨s.n + 1, if p.cs.any elic = true then s.rows ++ [⟨s.n, p.time, p.size, p.path, p.serial, p.cs.filter nack⟩] else s.rows, s.top, s.due⟩
theorem gL_elic {cs : List Fr} : gL (fun _ => some true) (fun c => q_is_eliciting c) (fA cs) = some (cs.map fun f => .bl (elic f)) := by
  induction cs with
  | nil => rfl
  | cons f cs ih =>
    have e : q_is_eliciting f.A = some (.bl (elic f)) := by
      unfold q_is_eliciting qAnd Fr.A elic qIx qNe
      by_cases h : f.nm = "ack"
      · simp [h]
      · simp [h]
    show ((some true).bind fun b => if b = true then (q_is_eliciting f.A).bind fun y => (gL _ _ (fA cs)).map (y :: ·) else gL _ _ (fA cs)) = _
    rw [Option.bind_some, if_pos rfl, e, Option.bind_some, ih]
    rfl
theorem bls_map {α : Type} {f : α → Bool} {xs : List α} : bls (xs.map fun x => .bl (f x)) = some (xs.map f) := by
  induction xs with
  | nil => rfl
  | cons x xs ih =>
    show (bls (xs.map fun x => .bl (f x))).map (f x :: ·) = _
    rw [ih]; rfl
theorem gL_nack {cs : List Fr} : gL (fun c => ((qIx 0) c).bind (qNe "ack")) some (fA cs) = some (fA (cs.filter nack)) := by
  induction cs with
  | nil => rfl
  | cons f cs ih =>
    have e : (qIx 0 f.A).bind (qNe "ack") = some (nack f) := by
      unfold Fr.A nack qIx qNe
      simp
    show (((qIx 0 f.A).bind (qNe "ack")).bind fun b => if b = true then (some f.A).bind fun y => (gL _ _ (fA cs)).map (y :: ·) else gL _ _ (fA cs)) = _
    rw [e, Option.bind_some, ih]
    cases h : nack f with
    | true => rw [if_pos rfl, List.filter_cons_of_pos h]; rfl
    | false => rw [if_neg (by decide), List.filter_cons_of_neg (by rw [h]; decide)]
section
variable {s : Sn} {p : Pk} {d : Nat} {S : List SObj}
theorem s_new : lvl T (d + 1) "new_sent" [] S = some (Sn.A ⟨0, [], none, none⟩, S) := by
  rw [l_new_sent]
  simp -implicitDefEqProofs [b_new_sent, frame, Sn.A, oA]
theorem s_send (hs : s.Ok) : lvl T (d + 1) "send_packet" [s.A, .int p.time, .int p.size, .int (p.path : Nat), .int p.serial, .tup (fA p.cs)] S = some ((s.send p).A, S) := by
  rw [l_send_packet]
  have h1 := gL_elic (cs := p.cs)
  have h2 := gL_nack (cs := p.cs)
  have h3 : ∀ a, kGA2 a (some (p.cs.map fun f => .bl (elic f))) = some (.bl (p.cs.any elic), a) := fun a => by rw [kGA2_s bls_map]; simp [List.any_map]
  generalize (p.cs.map fun f => AV.bl (elic f)) = EE at h1 h3
  have hl : (rA s.rows).length + 1 ≤ 100000 := by have := hs.l; simp; omega
  have hr : rA (s.rows ++ [⟨s.n, p.time, p.size, p.path, p.serial, p.cs.filter nack⟩]) = rA s.rows ++ [.tup [.int (s.n : Nat), .int p.time, .int p.size, .int (p.path : Nat), .int p.serial, .tup (fA (p.cs.filter nack))]] := by simp [Rw.A]
  have hn : ((s.n + 1 : Nat) : Int) = (s.n : Int) + 1 := by omega
  unfold Sn.send Sn.A
  by_cases c : p.cs.any elic = true
  · rw [if_pos c]
    simp only [hr, hn]
    rw [c] at h3
    generalize rA s.rows = RR at *
    generalize fA (p.cs.filter nack) = FF at *
    generalize fA p.cs = CC at *
    simp -implicitDefEqProofs [b_send_packet, frame, h1, h2, h3, hl]
  · rw [if_neg c]
    have c' : p.cs.any elic = false := by simpa using c
    rw [c'] at h3
    simp only [hn]
    generalize rA s.rows = RR at *
    generalize fA p.cs = CC at *
    simp -implicitDefEqProofs [b_send_packet, frame, h1, h3]
end
end K41
end
section
set_option maxRecDepth 100000
set_option maxHeartbeats 3000000
namespace K41
open PySem L2 Pyx
open PySem.Spec PyProof.Rows
/-! ### reports -/
abbrev Pr : Type := Int × Int
def prA (p : Pr) : AV := .tup [.int p.1, .int p.2]
abbrev pA (ps : List Pr) : List AV := ps.map prA
def inP (ps : List Pr) (x : Int) : Bool := ps.any fun p => decide (p.1 ≤ x) && decide (x ≤ p.2)
def lastP (ps : List Pr) : Int := (ps.getLast?.getD (0, 0)).2
theorem last_A {ps : List Pr} (h : ps ≠ []) : ∃ l, (pA ps).getLast? = some (.tup [.int l, .int (lastP ps)]) := by
  obtain ⟨q, hq⟩ : ∃ q, ps.getLast? = some q := by
    cases e : ps.getLast? with
    | none => exact absurd (List.getLast?_eq_none_iff.mp e) h
    | some q => exact ⟨q, rfl⟩
  refine ⟨q.1, ?_⟩
  rw [List.getLast?_map, hq]
  unfold lastP
  rw [hq]; rfl
section
variable {s : Sn} {d : Nat} {S : List SObj} {ps : List Pr}
theorem s_greatest (h : ps ≠ []) : lvl T (d + 1) "greatest" [.tup (pA ps)] S = some (.int (lastP ps), S) := by
  rw [l_greatest]
  obtain ⟨l, e⟩ := last_A h
  have he : (pA ps).isEmpty = false := by cases ps with
    | nil => exact absurd rfl h
    | cons _ _ => rfl
  generalize pA ps = P at *
  simp -implicitDefEqProofs [b_greatest, frame, opNeg, e, he]
theorem s_contains {x : Int} : lvl T (d + 1) "contains" [.tup (pA ps), .int x] S = some (.bl (inP ps x), S) := by
  rw [l_contains]
  obtain ⟨h1, h2⟩ := loop_anyM (A := prA) (S := S) (tg := .many [2, 3]) (w := .bl true) (body := (sSeq (sIf (mBool (eChain opLe opLe (oVar 2) (oVar 1) (oVar 3))) (sSeq (sRet (eCon (.bl true))) sSkip) sSkip) sSkip) (lvl T d))
    (fun a => ∃ x2 x3, a = ⟨[some (.val (.tup (pA ps))), some (.val (.int x)), x2, x3], S⟩) (p := fun p => decide (p.1 ≤ x) && decide (x ≤ p.2)) (l := ps) (a := ⟨[some (.val (.tup (pA ps))), some (.val (.int x)), none, none], S⟩)
    (fun a ⟨_, _, e⟩ => by rw [e]) (fun r hr a ⟨x2, x3, e⟩ => by
      subst e
      refine ⟨⟨[some (.val (.tup (pA ps))), some (.val (.int x)), some (.val (.int r.1)), some (.val (.int r.2))], S⟩, rfl, fun h => ?_, fun h => ?_⟩
      · simp only [Bool.and_eq_true, decide_eq_true_eq] at h
        refine ⟨⟨[some (.val (.tup (pA ps))), some (.val (.int x)), some (.val (.int r.1)), some (.val (.int r.2))], S⟩, ?_, rfl⟩
        generalize pA ps = P
        simp -implicitDefEqProofs [h.1, h.2]
      · refine ⟨_, ?_, some (.val (.int r.1)), some (.val (.int r.2)), rfl⟩
        generalize pA ps = P
        by_cases c1 : r.1 ≤ x
        · have c2 : ¬ x ≤ r.2 := by simpa [c1] using h
          simp -implicitDefEqProofs [c1, c2]
        · simp -implicitDefEqProofs [c1]) ⟨none, none, rfl⟩
  unfold inP
  cases c : (ps.any fun p => decide (p.1 ≤ x) && decide (x ≤ p.2)) with
  | true =>
    obtain ⟨a', e, eS⟩ := h1 c
    clear h1 h2
    have hP : List.map prA ps = pA ps := rfl
    rw [hP] at e
    obtain ⟨ρ', S'⟩ := a'
    simp only at eS
    subst eS
    generalize pA ps = P at *
    simp -implicitDefEqProofs [b_contains, frame, e]
  | false =>
    obtain ⟨a', e, x2, x3, ea⟩ := h2 c
    clear h1 h2
    have hP : List.map prA ps = pA ps := rfl
    rw [hP] at e
    subst ea
    generalize pA ps = P at *
    simp -implicitDefEqProofs [b_contains, frame, e]
def topMax (o : Option Int) (x : Int) : Option Int := match o with
  | none => some x
  | some t => some (if x > t then x else t)
def Sn.rep (s : Sn) (ps : List Pr) : Option (Sn × List Rw) :=
  if lastP ps ≥ (s.n : Int) then none else some (⟨s.n, s.rows.filter (fun r => !inP ps (r.n : Int)), topMax s.top (lastP ps), s.due⟩, s.rows.filter fun r => inP ps (r.n : Int))
def outA : Option (Sn × List Rw) → AV
  | none => .non
  | some (s, rs) => .tup [s.A, .tup (rA rs)]
def BR : MS := (sSeq (sIf (mTru (oE (eCall "contains" (aCons (eVar 1) (aCons (eBin opIx (oVar 9) (oE (eCon (.int 0)))) aNil))))) (sSeq (sExpr (eApp (oVar 7) (eVar 9))) sSkip) (sSeq (sExpr (eApp (oVar 8) (eVar 9))) sSkip)) sSkip)
theorem rep_loop (hs : s.Ok) (x0 x2 x4 x5 x6 : Option Slt) (x3 : Option Slt) : ∃ x9, loopL (.one 9) (BR (lvl T (d + 1))) (rA s.rows) ⟨[x0, some (.val (.tup (pA ps))), x2, x3, x4, x5, x6, some (.own []), some (.own []), none], S⟩ =
    some (.nx, ⟨[x0, some (.val (.tup (pA ps))), x2, x3, x4, x5, x6, some (.own (rA (s.rows.filter fun r => inP ps (r.n : Int)))), some (.own (rA (s.rows.filter fun r => !inP ps (r.n : Int)))), x9], S⟩) := by
  obtain ⟨a', e, x9, ea⟩ := loop_map (A := Rw.A) (tg := .one 9) (body := BR (lvl T (d + 1))) (l0 := s.rows) (fun done a => ∃ x9, a = ⟨[x0, some (.val (.tup (pA ps))), x2, x3, x4, x5, x6, some (.own (rA (done.filter fun r => inP ps (r.n : Int)))), some (.own (rA (done.filter fun r => !inP ps (r.n : Int)))), x9], S⟩)
    (a := ⟨[x0, some (.val (.tup (pA ps))), x2, x3, x4, x5, x6, some (.own []), some (.own []), none], S⟩) (fun r done rest a hd ⟨x9, ea⟩ => by
      subst ea
      have hl := hs.l
      rw [hd] at hl
      simp only [List.length_append, List.length_cons] at hl
      have l1 : (rA (done.filter fun r => inP ps (r.n : Int))).length < 100000 := by
        have := List.length_filter_le (fun r : Rw => inP ps (r.n : Int)) done
        simp only [List.length_map]; omega
      have l2 : (rA (done.filter fun r => !inP ps (r.n : Int))).length < 100000 := by
        have := List.length_filter_le (fun r : Rw => !inP ps (r.n : Int)) done
        simp only [List.length_map]; omega
      have hc := s_contains (d := d) (S := S) (ps := ps) (x := (r.n : Int))
      refine ⟨⟨[x0, some (.val (.tup (pA ps))), x2, x3, x4, x5, x6, some (.own (rA (done.filter fun r => inP ps (r.n : Int)))), some (.own (rA (done.filter fun r => !inP ps (r.n : Int)))), some (.val r.A)], S⟩, .nx, _, rfl, ?_, .inl rfl, some (.val r.A), rfl⟩
      rw [List.filter_append, List.filter_append]
      have e1 : ∀ x y : List Rw, rA (x ++ y) = rA x ++ rA y := fun x y => List.map_append
      rw [e1, e1]
      generalize rA (done.filter fun r => inP ps (r.n : Int)) = D1 at *
      generalize rA (done.filter fun r => !inP ps (r.n : Int)) = D2 at *
      have hA : r.A = .tup [.int (r.n : Nat), .int r.time, .int r.size, .int (r.path : Nat), .int r.serial, .tup (fA r.fr)] := rfl
      unfold BR
      cases c : inP ps (r.n : Int) with
      | true =>
        rw [c] at hc
        have f1 : [r].filter (fun r => inP ps (r.n : Int)) = [r] := by simp [c]
        have f2 : [r].filter (fun r => !inP ps (r.n : Int)) = [] := by simp [c]
        rw [f1, f2]
        show _ = some (Out.nx, (⟨[x0, some (.val (.tup (pA ps))), x2, x3, x4, x5, x6, some (.own (D1 ++ [r.A])), some (.own (D2 ++ [])), some (.val r.A)], S⟩ : AS))
        rw [hA]
        generalize fA r.fr = FF
        generalize pA ps = P at *
        simp -implicitDefEqProofs [hc, l1, l2]
      | false =>
        rw [c] at hc
        have f1 : [r].filter (fun r => inP ps (r.n : Int)) = [] := by simp [c]
        have f2 : [r].filter (fun r => !inP ps (r.n : Int)) = [r] := by simp [c]
        rw [f1, f2]
        show _ = some (Out.nx, (⟨[x0, some (.val (.tup (pA ps))), x2, x3, x4, x5, x6, some (.own (D1 ++ [])), some (.own (D2 ++ [r.A])), some (.val r.A)], S⟩ : AS))
        rw [hA]
        generalize fA r.fr = FF
        generalize pA ps = P at *
        simp -implicitDefEqProofs [hc, l1, l2]) ⟨none, rfl⟩
  subst ea
  exact ⟨x9, e⟩
theorem oA_n : oA none = .non := rfl
theorem oA_i {i : Int} : oA (some i) = .int i := rfl
theorem s_report (hs : s.Ok) (hp : ps ≠ []) : lvl T (d + 2) "take_report" [s.A, .tup (pA ps)] S = some (outA (s.rep ps), S) := by
  rw [l_take_report]
  have h1 := s_greatest (d := d) (S := S) hp
  have hBR : (sSeq (sIf (mTru (oE (eCall "contains" (aCons (eVar 1) (aCons (eBin opIx (oVar 9) (oE (eCon (.int 0)))) aNil))))) (sSeq (sExpr (eApp (oVar 7) (eVar 9))) sSkip) (sSeq (sExpr (eApp (oVar 8) (eVar 9))) sSkip)) sSkip) = BR := rfl
  by_cases c : lastP ps ≥ (s.n : Int)
  · have e : s.rep ps = none := by unfold Sn.rep; rw [if_pos c]
    rw [e]
    unfold Sn.A outA
    generalize rA s.rows = RR at *
    generalize pA ps = P at *
    generalize lastP ps = L at *
    simp -implicitDefEqProofs [b_take_report, frame, h1, c]
  · have e : s.rep ps = some (⟨s.n, s.rows.filter (fun r => !inP ps (r.n : Int)), topMax s.top (lastP ps), s.due⟩, s.rows.filter fun r => inP ps (r.n : Int)) := by unfold Sn.rep; rw [if_neg c]
    rw [e]
    have c' : ¬ (s.n : Int) ≤ lastP ps := by omega
    obtain ⟨x9, hl⟩ := rep_loop (ps := ps) (d := d) (S := S) hs (some (.val s.A)) (some (.val (.int (s.n : Nat)))) (some (.val (oA s.top))) (some (.val (oA s.due))) (some (.val (.int (lastP ps)))) (some (.val (.tup (rA s.rows))))
    unfold outA Sn.A at *
    simp only
    generalize rA (s.rows.filter fun r => inP ps (r.n : Int)) = D1 at *
    generalize rA (s.rows.filter fun r => !inP ps (r.n : Int)) = D2 at *
    generalize rA s.rows = RR at *
    unfold b_take_report
    rw [hBR]
    generalize BR = br at *
    cases ht : s.top with
    | none =>
      rw [ht] at hl
      simp only [topMax, oA_n, oA_i] at hl ⊢
      generalize oA s.due = DU at *
      generalize pA ps = P at *
      generalize lastP ps = L at *
      simp -implicitDefEqProofs [frame, h1, c', hl]
    | some t =>
      rw [ht] at hl
      simp only [topMax, oA_n, oA_i] at hl ⊢
      generalize oA s.due = DU at *
      generalize pA ps = P at *
      generalize lastP ps = L at *
      by_cases c2 : t < L
      · have c3 : L > t := c2
        simp -implicitDefEqProofs [frame, h1, c', hl, c2]
      · have c3 : ¬ L > t := c2
        simp -implicitDefEqProofs [frame, h1, c', hl, c2]
end
end K41
end
section
set_option maxRecDepth 100000
set_option maxHeartbeats 3000000
namespace K41
open PySem L2 Pyx
open PySem.Spec PyProof.Rows
/-! ### looks -/
abbrev wA (ws : List Int) : List AV := ws.map AV.int
def lag (ws : List Int) (p : Nat) : Int := ws.getD p 0
def dead (ws : List Int) (r : Rw) : Int := r.time + lag ws r.path
def blw (top : Option Int) (r : Rw) : Bool := match top with
  | none => false
  | some t => decide ((r.n : Int) < t)
def lst (top : Option Int) (now : Int) (ws : List Int) (r : Rw) : Bool := blw top r && (match top with
  | none => false
  | some t => decide ((r.n : Int) + 3 ≤ t) || decide (dead ws r ≤ now))
def sav (top : Option Int) (now : Int) (ws : List Int) (r : Rw) : Bool := blw top r && !lst top now ws r
def Sn.look (s : Sn) (now : Int) (ws : List Int) : Sn × List Rw :=
  (⟨s.n, s.rows.filter (fun r => !lst s.top now ws r), s.top, minO ((s.rows.filter (sav s.top now ws)).map (dead ws))⟩, s.rows.filter (lst s.top now ws))
section
variable {s : Sn} {d : Nat} {S : List SObj} {ws : List Int} {now : Int}
theorem lag_at {p : Nat} (h : p < 3) (hw : ws.length = 3) : (wA ws)[p]? = some (.int (lag ws p)) := by
  rw [List.getElem?_map, List.getElem?_eq_getElem (by omega)]
  unfold lag
  simp [List.getD, show p < ws.length by omega]
theorem s_loss {r : Rw} (hr : r.Ok) (hw : ws.length = 3) : lvl T (d + 1) "loss_deadline" [r.A, .tup (wA ws)] S = some (.int (dead ws r), S) := by
  rw [l_loss_deadline]
  have h := lag_at (ws := ws) hr.pt hw
  unfold dead
  have hA : r.A = .tup [.int (r.n : Nat), .int r.time, .int r.size, .int (r.path : Nat), .int r.serial, .tup (fA r.fr)] := rfl
  rw [hA]
  generalize fA r.fr = FF
  generalize wA ws = W at *
  simp -implicitDefEqProofs [b_loss_deadline, frame, Pyx.atI_nat, h]
def BLk : MS := (sSeq (sIf (mOr (mBool (eBin opIs (oVar 5) (oE (eCon .non)))) (mBool (eBin opGe (oE (eBin opIx (oVar 10) (oE (eCon (.int 0))))) (oVar 5)))) (sSeq (sExpr (eApp (oVar 8) (eVar 10))) sSkip) (sSeq (sIf (mOr (mBool (eBin opLe (oE (eBin opAdd (oE (eBin opIx (oVar 10) (oE (eCon (.int 0))))) (oE (eCon (.int 3))))) (oVar 5))) (mBool (eBin opLe (oE (eCall "loss_deadline" (aCons (eVar 10) (aCons (eVar 2) aNil)))) (oVar 1)))) (sSeq (sExpr (eApp (oVar 7) (eVar 10))) sSkip) (sSeq (sExpr (eApp (oVar 8) (eVar 10))) (sSeq (sExpr (eApp (oVar 9) (eCall "loss_deadline" (aCons (eVar 10) (aCons (eVar 2) aNil))))) sSkip))) sSkip)) sSkip)
def FL (x0 x3 x4 x6 : Option Slt) (now : Int) (ws : List Int) (top : Option Int) (rs : List Rw) (x10 : Option Slt) : List (Option Slt) :=
  [x0, some (.val (.int now)), some (.val (.tup (wA ws))), x3, x4, some (.val (oA top)), x6, some (.own (rA (rs.filter (lst top now ws)))), some (.own (rA (rs.filter fun r => !lst top now ws r))), some (.own ((rs.filter (sav top now ws)).map fun r => .int (dead ws r))), x10]
theorem look_loop (hs : s.Ok) (hw : ws.length = 3) (x0 x3 x4 x6 : Option Slt) : ∃ x10, loopL (.one 10) (BLk (lvl T (d + 1))) (rA s.rows) ⟨FL x0 x3 x4 x6 now ws s.top [] none, S⟩ = some (.nx, ⟨FL x0 x3 x4 x6 now ws s.top s.rows x10, S⟩) := by
  obtain ⟨a', e, x9, ea⟩ := loop_map (A := Rw.A) (tg := .one 10) (body := BLk (lvl T (d + 1))) (l0 := s.rows) (fun done a => ∃ x10, a = ⟨FL x0 x3 x4 x6 now ws s.top done x10, S⟩)
    (a := ⟨FL x0 x3 x4 x6 now ws s.top [] none, S⟩) (fun r done rest a hd ⟨x9, ea⟩ => by
      subst ea
      have hr : r.Ok := hs.r r (by rw [hd]; simp)
      have hl := hs.l
      rw [hd] at hl
      simp only [List.length_append, List.length_cons] at hl
      have ll : ∀ p : Rw → Bool, (done.filter p).length ≤ done.length := fun p => List.length_filter_le _ _
      have l1 : (rA (done.filter (lst s.top now ws))).length < 100000 := by have := ll (lst s.top now ws); simp only [List.length_map]; omega
      have l2 : (rA (done.filter fun r => !lst s.top now ws r)).length < 100000 := by have := ll (fun r => !lst s.top now ws r); simp only [List.length_map]; omega
      have l3 : ((done.filter (sav s.top now ws)).map fun r => AV.int (dead ws r)).length < 100000 := by have := ll (sav s.top now ws); simp only [List.length_map]; omega
      have hc := s_loss (d := d) (S := S) (ws := ws) hr hw
      refine ⟨⟨FL x0 x3 x4 x6 now ws s.top done (some (.val r.A)), S⟩, .nx, ⟨FL x0 x3 x4 x6 now ws s.top (done ++ [r]) (some (.val r.A)), S⟩, rfl, ?_, .inl rfl, some (.val r.A), rfl⟩
      unfold FL
      have e1 : ∀ x y : List Rw, rA (x ++ y) = rA x ++ rA y := fun x y => List.map_append
      rw [List.filter_append, List.filter_append, List.filter_append, e1, e1, List.map_append]
      generalize rA (done.filter (lst s.top now ws)) = D1 at *
      generalize rA (done.filter fun r => !lst s.top now ws r) = D2 at *
      generalize ((done.filter (sav s.top now ws)).map fun r => AV.int (dead ws r)) = D3 at *
      have hA : r.A = .tup [.int (r.n : Nat), .int r.time, .int r.size, .int (r.path : Nat), .int r.serial, .tup (fA r.fr)] := rfl
      rw [hA] at hc
      have main : ∀ (b1 b3 : Bool), lst s.top now ws r = b1 → sav s.top now ws r = b3 →
          BLk (lvl T (d + 1)) ⟨[x0, some (.val (.int now)), some (.val (.tup (wA ws))), x3, x4, some (.val (oA s.top)), x6, some (.own D1), some (.own D2), some (.own D3), some (.val r.A)], S⟩ =
          some (.nx, ⟨[x0, some (.val (.int now)), some (.val (.tup (wA ws))), x3, x4, some (.val (oA s.top)), x6, some (.own (if b1 = true then D1 ++ [r.A] else D1)), some (.own (if b1 = true then D2 else D2 ++ [r.A])), some (.own (if b3 = true then D3 ++ [.int (dead ws r)] else D3)), some (.val r.A)], S⟩) := by
        intro b1 b3 hb1 hb3
        rw [hA]
        generalize fA r.fr = FF at *
        generalize hDD : dead ws r = DD at *
        unfold BLk
        cases ht : s.top with
        | none =>
          have q1 : b1 = false := by rw [← hb1, ht]; rfl
          have q3 : b3 = false := by rw [← hb3, ht]; rfl
          rw [q1, q3]
          simp only [oA_n]
          generalize wA ws = W at *
          simp -implicitDefEqProofs [l2]
        | some t =>
          simp only [oA_i]
          have hbv : b1 = (decide ((r.n : Int) < t) && (decide ((r.n : Int) + 3 ≤ t) || decide (DD ≤ now))) := by rw [← hb1, ht, ← hDD]; rfl
          have hcv : b3 = (decide ((r.n : Int) < t) && !(decide ((r.n : Int) < t) && (decide ((r.n : Int) + 3 ≤ t) || decide (DD ≤ now)))) := by rw [← hb3, ht, ← hDD]; rfl
          clear hb1 hb3
          generalize wA ws = W at *
          by_cases c1 : t ≤ (r.n : Int)
          · have c1' : ¬ (r.n : Int) < t := by omega
            simp only [c1', decide_false, Bool.false_and] at hbv hcv
            subst b1 b3
            simp -implicitDefEqProofs [l2, c1]
          · have c1' : (r.n : Int) < t := by omega
            simp only [c1', decide_true, Bool.true_and] at hbv hcv
            by_cases c2 : (r.n : Int) + 3 ≤ t
            · simp only [c2, decide_true, Bool.true_or, Bool.not_true] at hbv hcv
              subst b1 b3
              simp -implicitDefEqProofs [l1, c1, c2]
            · simp only [c2, decide_false, Bool.false_or] at hbv hcv
              by_cases c3 : DD ≤ now
              · simp only [c3, decide_true, Bool.not_true] at hbv hcv
                subst b1 b3
                simp -implicitDefEqProofs [l1, c1, c2, c3, hc]
              · simp only [c3, decide_false, Bool.not_false] at hbv hcv
                subst b1 b3
                simp -implicitDefEqProofs [l2, l3, c1, c2, c3, hc]
      rw [main _ _ rfl rfl]
      cases h1 : lst s.top now ws r with
      | true =>
        have h3 : sav s.top now ws r = false := by unfold sav; rw [h1]; simp
        simp [h1, h3]
      | false =>
        cases h3 : sav s.top now ws r with
        | true => simp [h1, h3]
        | false => simp [h1, h3]) ⟨none, rfl⟩
  subst ea
  exact ⟨x9, e⟩
def lookA (q : Sn × List Rw) : AV := .tup [q.1.A, .tup (rA q.2)]
theorem s_look (hs : s.Ok) (hw : ws.length = 3) : lvl T (d + 2) "look" [s.A, .int now, .tup (wA ws)] S = some (lookA (s.look now ws), S) := by
  rw [l_look]
  obtain ⟨x10, hl⟩ := look_loop (d := d) (S := S) (ws := ws) (now := now) hs hw (some (.val s.A)) (some (.val (.int (s.n : Nat)))) (some (.val (.tup (rA s.rows)))) (some (.val (oA s.due)))
  have hm : minD (.lst ((s.rows.filter (sav s.top now ws)).map fun r => AV.int (dead ws r))) = some (oA (minO ((s.rows.filter (sav s.top now ws)).map (dead ws)))) := by
    rw [← minD_map, List.map_map]; rfl
  have hBL : (sSeq (sIf (mOr (mBool (eBin opIs (oVar 5) (oE (eCon .non)))) (mBool (eBin opGe (oE (eBin opIx (oVar 10) (oE (eCon (.int 0))))) (oVar 5)))) (sSeq (sExpr (eApp (oVar 8) (eVar 10))) sSkip) (sSeq (sIf (mOr (mBool (eBin opLe (oE (eBin opAdd (oE (eBin opIx (oVar 10) (oE (eCon (.int 0))))) (oE (eCon (.int 3))))) (oVar 5))) (mBool (eBin opLe (oE (eCall "loss_deadline" (aCons (eVar 10) (aCons (eVar 2) aNil)))) (oVar 1)))) (sSeq (sExpr (eApp (oVar 7) (eVar 10))) sSkip) (sSeq (sExpr (eApp (oVar 8) (eVar 10))) (sSeq (sExpr (eApp (oVar 9) (eCall "loss_deadline" (aCons (eVar 10) (aCons (eVar 2) aNil))))) sSkip))) sSkip)) sSkip) = BLk := rfl
  unfold FL at hl
  unfold lookA Sn.look Sn.A at *
  simp only [List.filter_nil, List.map_nil] at hl
  simp only
  generalize minO ((s.rows.filter (sav s.top now ws)).map (dead ws)) = MM at *
  generalize ((s.rows.filter (sav s.top now ws)).map fun r => AV.int (dead ws r)) = D3 at *
  have g1 : rA (s.rows.filter (lst s.top now ws)) = List.map Rw.A (s.rows.filter (lst s.top now ws)) := rfl
  generalize rA (s.rows.filter (lst s.top now ws)) = D1 at *
  generalize rA (s.rows.filter fun r => !lst s.top now ws r) = D2 at *
  generalize rA s.rows = RR at *
  unfold b_look
  rw [hBL]
  generalize BLk = bl at *
  generalize oA s.due = DU at *
  generalize oA s.top = TT at *
  generalize oA MM = OM at *
  generalize wA ws = W at *
  simp -implicitDefEqProofs [frame, hl, hm]
end
end K41
end
section
set_option maxRecDepth 100000
set_option maxHeartbeats 3000000
namespace K41
open PySem L2 Pyx
open PySem.Spec PyProof.Rows
def Sn.drop (s : Sn) : Sn × List Rw := (⟨s.n, [], s.top, none⟩, s.rows)
section
variable {s : Sn} {p : Pk} {d : Nat} {S : List SObj} {ps : List Pr} {ws : List Int} {now : Int}
theorem s_drop : lvl T (d + 1) "drop_rows" [s.A] S = some (lookA s.drop, S) := by
  rw [l_drop_rows]
  unfold lookA Sn.drop Sn.A
  generalize rA s.rows = RR
  simp -implicitDefEqProofs [b_drop_rows, frame, oA_n]
/-! ### the law's own -/
theorem in2 {nm : Str} (h : PyData.strOk nm = true) : opNotIn S (.str nm) (.lst [.str "ack", .str "close"]) = some (.bl (!decide (nm = "ack") && !decide (nm = "close"))) := by
  have e : inSeq (.str nm) [.str "ack", .str "close"] = some (decide (nm = "ack") || decide (nm = "close")) := by
    rw [inSeq_sm (j := 0) (k := 0) (by unfold sm; exact h) (by intro y hy; simp only [List.mem_cons, List.not_mem_nil, or_false] at hy; rcases hy with rfl | rfl <;> decide +kernel) (by omega)]
    have e1 : ∀ z : Str, (AV.str z).eqb (.str nm) = decide (nm = z) := fun z => by
      simp [AV.eqb, AV.pd, PyData.eqv, BEq.beq]
      by_cases q : nm = z
      · subst q; simp
      · have q' : ¬ z = nm := fun e => q e.symm
        simp [q, q']
    simp [e1]
  show (inSeq (.str nm) [.str "ack", .str "close"]).map (fun b => AV.bl (!b)) = _
  rw [e]
  simp
theorem len_pos {α : Type} {l : List α} {p : α → Bool} : decide (0 < ((l.filter p).length : Int)) = l.any p := by
  rw [Bool.eq_iff_iff, decide_eq_true_eq, List.any_eq_true]
  constructor
  · intro h
    have : 0 < (l.filter p).length := by omega
    obtain ⟨x, hx⟩ := List.exists_mem_of_length_pos this
    exact ⟨x, (List.mem_filter.mp hx).1, (List.mem_filter.mp hx).2⟩
  · rintro ⟨x, h1, h2⟩
    have : x ∈ l.filter p := List.mem_filter.mpr ⟨h1, h2⟩
    have := List.length_pos_of_mem this
    omega
theorem s_elic {cs : List Fr} (hc : ∀ f ∈ cs, f.Ok) (hl : cs.length ≤ 20) : lvl T (d + 1) "_law_eliciting" [.tup (fA cs)] S = some (.bl (cs.any elic), S) := by
  rw [l__law_eliciting]
  have cp := comp_map (G := lvl T d) (A := Fr.A) (l := cs) (i := 1) (ρ := [some (.val (.tup (fA cs))), none]) (S := S) (tst := mBool (eBin opNotIn (oE (eBin opIx (oVar 1) (oE (eCon (.int 0))))) (oE (eFrz (fLst (aCons (eCon (.str "ack")) (aCons (eCon (.str "close")) aNil))))))) (elt := eVar 1) (p := elic) (g := Fr.A) (v := .tup (fA cs)) (.inr rfl) rfl
    (fun f hf => by
      have h := in2 (S := S) (hc f hf).s
      unfold Fr.A elic
      generalize fA cs = CC
      simp -implicitDefEqProofs [h]) (fun f hf _ => by
      generalize fA cs = CC
      simp -implicitDefEqProofs) (by omega)
  have hn := len_pos (l := cs) (p := elic)
  have hlen : ((List.map Fr.A (cs.filter elic)).length : Int) = ((cs.filter elic).length : Int) := by simp
  generalize fA cs = CC at *
  generalize List.map Fr.A (cs.filter elic) = FF at *
  rw [← hlen] at hn
  rw [← hn]
  simp -implicitDefEqProofs [b__law_eliciting, frame, cp]
theorem s_law_sent (hs : s.Ok) (hp : p.Ok) : lvl T (d + 2) "_law_sent" [s.A, .int p.time, .int p.size, .int (p.path : Nat), .int p.serial, .tup (fA p.cs)] S = some ((s.send p).A, S) := by
  rw [l__law_sent]
  have he := s_elic (d := d) (S := S) hp.c (by have := hp.l; omega)
  have hl : (rA s.rows).length + 1 ≤ 100000 := by have := hs.l; simp; omega
  have hr : rA (s.rows ++ [⟨s.n, p.time, p.size, p.path, p.serial, p.cs.filter nack⟩]) = rA s.rows ++ [.tup [.int (s.n : Nat), .int p.time, .int p.size, .int (p.path : Nat), .int p.serial, .tup (fA (p.cs.filter nack))]] := by simp [Rw.A]
  have hn : ((s.n + 1 : Nat) : Int) = (s.n : Int) + 1 := by omega
  have cp := comp_map (G := lvl T (d + 1)) (A := Fr.A) (l := p.cs) (i := 7) (ρ := [some (.val s.A), some (.val (.int p.time)), some (.val (.int p.size)), some (.val (.int (p.path : Nat))), some (.val (.int p.serial)), some (.val (.tup (fA p.cs))), some (.val (.tup (rA s.rows))), none]) (S := S) (tst := mBool (eBin opNe (oE (eBin opIx (oVar 7) (oE (eCon (.int 0))))) (oE (eCon (.str "ack"))))) (elt := eVar 7) (p := nack) (g := Fr.A) (v := .tup (fA p.cs)) (.inr rfl) rfl
    (fun f hf => by
      have h := opNe_st (S := S) (hp.c f hf).s ok_ack
      unfold Fr.A nack
      generalize fA p.cs = CC
      generalize s.A = SA
      generalize rA s.rows = RR
      simp -implicitDefEqProofs [h]) (fun f hf _ => by
      generalize fA p.cs = CC
      generalize s.A = SA
      generalize rA s.rows = RR
      simp -implicitDefEqProofs) (by have := hp.l; omega)
  have hF : List.map Fr.A (p.cs.filter nack) = fA (p.cs.filter nack) := rfl
  rw [hF] at cp
  unfold Sn.send Sn.A at *
  by_cases c : p.cs.any elic = true
  · rw [if_pos c]
    simp only [hr, hn]
    rw [c] at he
    generalize rA s.rows = RR at *
    generalize fA (p.cs.filter nack) = FF at *
    generalize fA p.cs = CC at *
    simp -implicitDefEqProofs [b__law_sent, frame, he, cp, hl]
  · rw [if_neg c]
    have c' : p.cs.any elic = false := by simpa using c
    rw [c'] at he
    simp only [hn]
    generalize rA s.rows = RR at *
    generalize fA p.cs = CC at *
    simp -implicitDefEqProofs [b__law_sent, frame, he]
theorem s_law_in {x : Int} (hl : ps.length ≤ 1000) : lvl T (d + 1) "_law_in" [.tup (pA ps), .int x] S = some (.bl (inP ps x), S) := by
  rw [l__law_in]
  have cp := comp_map (G := lvl T d) (A := prA) (l := ps) (i := 2) (ρ := [some (.val (.tup (pA ps))), some (.val (.int x)), none]) (S := S) (tst := mAnd (mBool (eBin opLe (oE (eBin opIx (oVar 2) (oE (eCon (.int 0))))) (oVar 1))) (mBool (eBin opLe (oVar 1) (oE (eBin opIx (oVar 2) (oE (eCon (.int 1)))))))) (elt := eVar 2) (p := fun p => decide (p.1 ≤ x) && decide (x ≤ p.2)) (g := prA) (v := .tup (pA ps)) (.inr rfl) rfl
    (fun f hf => by
      unfold prA
      generalize pA ps = P
      by_cases c1 : f.1 ≤ x
      · simp -implicitDefEqProofs [c1]
      · simp -implicitDefEqProofs [c1]) (fun f hf _ => by
      generalize pA ps = P
      simp -implicitDefEqProofs) (by omega)
  have hn := len_pos (l := ps) (p := fun p => decide (p.1 ≤ x) && decide (x ≤ p.2))
  have hlen : ((List.map prA (ps.filter fun p => decide (p.1 ≤ x) && decide (x ≤ p.2))).length : Int) = ((ps.filter fun p => decide (p.1 ≤ x) && decide (x ≤ p.2)).length : Int) := by simp
  unfold inP
  generalize (ps.filter fun p => decide (p.1 ≤ x) && decide (x ≤ p.2)) = FI at *
  generalize List.map prA FI = FF at *
  generalize pA ps = P at *
  rw [← hlen] at hn
  rw [← hn]
  simp -implicitDefEqProofs [b__law_in, frame, cp]
end
end K41
end
section
set_option maxRecDepth 100000
set_option maxHeartbeats 3000000
namespace K41
open PySem L2 Pyx
open PySem.Spec PyProof.Rows
theorem Fr.inj {f g : Fr} (h : f.A = g.A) : f = g := by
  cases f; cases g
  simp only [Fr.A, AV.tup.injEq, List.cons.injEq, AV.str.injEq] at h
  obtain ⟨rfl, rfl⟩ := h
  rfl
theorem fA_inj : ∀ {xs ys : List Fr}, fA xs = fA ys → xs = ys
  | [], [], _ => rfl
  | x :: xs, y :: ys, h => by
    have h' : x.A :: fA xs = y.A :: fA ys := h
    injection h' with h1 h2
    rw [Fr.inj h1, fA_inj h2]
  | [], _ :: _, h => by cases h
  | _ :: _, [], h => by cases h
theorem Rw.inj {f g : Rw} (h : f.A = g.A) : f = g := by
  cases f; cases g
  simp only [Rw.A, AV.tup.injEq, List.cons.injEq, AV.int.injEq, and_true] at h
  obtain ⟨h1, rfl, rfl, h4, rfl, h6⟩ := h
  rw [fA_inj h6, show _ = _ from Int.ofNat.inj h1, show _ = _ from Int.ofNat.inj h4]
section
variable {s : Sn} {p : Pk} {d : Nat} {S : List SObj} {ps : List Pr} {ws : List Int} {now : Int}
theorem in_rows {rs : List Rw} (h : ∀ r ∈ rs, r.Ok) (q : Rw → Bool) {r : Rw} (hr : r ∈ rs) : inSeq r.A (rA (rs.filter q)) = some (q r) := by
  have hm : ∀ y ∈ rA (rs.filter q), cn 5 y = true := fun y hy => by
    obtain ⟨z, hz, rfl⟩ := List.mem_map.mp hy
    exact Rw.cn (h z (List.mem_filter.mp hz).1)
  rw [inSeq_sm (j := 5) (k := 5) (cn_sm _ _ (Rw.cn (h r hr))) (fun y hy => cn_sm _ _ (hm y hy)) (by omega)]
  congr 1
  rw [Bool.eq_iff_iff, any_cn (Rw.cn (h r hr)) hm]
  constructor
  · intro hx
    obtain ⟨z, hz, e⟩ := List.mem_map.mp hx
    rw [← Rw.inj e]
    exact (List.mem_filter.mp hz).2
  · intro hq
    exact List.mem_map.mpr ⟨r, List.mem_filter.mpr ⟨hr, hq⟩, rfl⟩
theorem s_law_reports (hs : s.Ok) (hp : ps ≠ []) (hl : ps.length ≤ 1000) : lvl T (d + 2) "_law_reports" [s.A, .tup (pA ps)] S = some (outA (s.rep ps), S) := by
  rw [l__law_reports]
  obtain ⟨l0, hlast⟩ := last_A hp
  have hin := fun x => s_law_in (d := d) (S := S) (ps := ps) (x := x) hl
  have hlr := hs.l
  by_cases c : lastP ps ≥ (s.n : Int)
  · have e : s.rep ps = none := by unfold Sn.rep; rw [if_pos c]
    rw [e]
    unfold Sn.A outA
    generalize rA s.rows = RR at *
    generalize pA ps = P at *
    generalize lastP ps = L at *
    simp -implicitDefEqProofs [b__law_reports, frame, opNeg, hlast, c]
  · have e : s.rep ps = some (⟨s.n, s.rows.filter (fun r => !inP ps (r.n : Int)), topMax s.top (lastP ps), s.due⟩, s.rows.filter fun r => inP ps (r.n : Int)) := by unfold Sn.rep; rw [if_neg c]
    rw [e]
    have c' : ¬ (s.n : Int) ≤ lastP ps := by omega
    have cp1 := comp_map (G := lvl T (d + 1)) (A := Rw.A) (l := s.rows) (i := 5) (ρ := [some (.val s.A), some (.val (.tup (pA ps))), none, none, none, none]) (S := S) (tst := mTru (oE (eCall "_law_in" (aCons (eVar 1) (aCons (eBin opIx (oVar 5) (oE (eCon (.int 0)))) aNil))))) (elt := eVar 5) (p := fun r => inP ps (r.n : Int)) (g := Rw.A) (v := .tup (rA s.rows)) (.inr rfl) rfl
      (fun r hr => by
        have h := hin (r.n : Int)
        unfold Rw.A
        generalize inP ps (r.n : Int) = b at *
        generalize fA r.fr = FF
        generalize pA ps = P at *
        generalize s.A = SA
        simp -implicitDefEqProofs [h]) (fun r hr _ => by
        generalize r.A = ra
        generalize pA ps = P at *
        generalize s.A = SA
        simp -implicitDefEqProofs) (by omega)
    have cp2 := comp_map (G := lvl T (d + 1)) (A := Rw.A) (l := s.rows) (i := 5) (ρ := [some (.val s.A), some (.val (.tup (pA ps))), some (.val (.tup (rA (s.rows.filter fun r => inP ps (r.n : Int))))), none, none, none]) (S := S) (tst := mNot (mTru (oE (eCall "_law_in" (aCons (eVar 1) (aCons (eBin opIx (oVar 5) (oE (eCon (.int 0)))) aNil)))))) (elt := eVar 5) (p := fun r => !inP ps (r.n : Int)) (g := Rw.A) (v := .tup (rA s.rows)) (.inr rfl) rfl
      (fun r hr => by
        have h := hin (r.n : Int)
        unfold Rw.A
        generalize inP ps (r.n : Int) = b at *
        generalize fA r.fr = FF
        generalize rA (s.rows.filter fun r => inP ps (r.n : Int)) = DD
        generalize pA ps = P at *
        generalize s.A = SA
        simp -implicitDefEqProofs [h]) (fun r hr _ => by
        generalize r.A = ra
        generalize rA (s.rows.filter fun r => inP ps (r.n : Int)) = DD
        generalize pA ps = P at *
        generalize s.A = SA
        simp -implicitDefEqProofs) (by omega)
    have e1 : List.map Rw.A (s.rows.filter fun r => inP ps (r.n : Int)) = rA (s.rows.filter fun r => inP ps (r.n : Int)) := rfl
    have e2 : List.map Rw.A (s.rows.filter fun r => !inP ps (r.n : Int)) = rA (s.rows.filter fun r => !inP ps (r.n : Int)) := rfl
    rw [e1] at cp1
    rw [e2] at cp2
    clear hin e1 e2 hlr
    unfold outA Sn.A at *
    simp only
    generalize rA (s.rows.filter fun r => inP ps (r.n : Int)) = D1 at *
    generalize rA (s.rows.filter fun r => !inP ps (r.n : Int)) = D2 at *
    generalize rA s.rows = RR at *
    generalize oA s.due = DU at *
    cases ht : s.top with
    | none =>
      rw [ht] at cp1 cp2
      simp only [topMax, oA_n, oA_i] at cp1 cp2 ⊢
      generalize pA ps = P at *
      generalize lastP ps = L at *
      simp -implicitDefEqProofs [b__law_reports, frame, opNeg, hlast, c', cp1, cp2]
    | some t =>
      rw [ht] at cp1 cp2
      simp only [topMax, oA_n, oA_i] at cp1 cp2 ⊢
      generalize pA ps = P at *
      generalize lastP ps = L at *
      simp -implicitDefEqProofs [b__law_reports, frame, opNeg, hlast, c', cp1, cp2]
end
end K41
end
section
set_option maxRecDepth 100000
set_option maxHeartbeats 3000000
namespace K41
open PySem L2 Pyx
open PySem.Spec PyProof.Rows
section
variable {s : Sn} {p : Pk} {d : Nat} {S : List SObj} {ps : List Pr} {ws : List Int} {now : Int}
def lst2 (top : Option Int) (now : Int) (ws : List Int) (r : Rw) : Bool := match top with
  | none => false
  | some t => decide ((r.n : Int) + 3 ≤ t) || decide (dead ws r ≤ now)
theorem filt2 {rs : List Rw} {top : Option Int} : (rs.filter (blw top)).filter (lst2 top now ws) = rs.filter (lst top now ws) := by
  rw [List.filter_filter]
  refine List.filter_congr fun r _ => ?_
  show (lst2 top now ws r && blw top r) = (blw top r && lst2 top now ws r)
  exact Bool.and_comm _ _
theorem filt4 {rs : List Rw} {top : Option Int} : (rs.filter fun r => !lst top now ws r).filter (blw top) = rs.filter (sav top now ws) := by
  rw [List.filter_filter]
  rfl
theorem notIn_rows {rs : List Rw} (h : ∀ r ∈ rs, r.Ok) (q : Rw → Bool) {r : Rw} (hr : r ∈ rs) : opNotIn S r.A (.lst (rA (rs.filter q))) = some (.bl (!q r)) := by
  show (inSeq r.A (rA (rs.filter q))).map (fun b => AV.bl (!b)) = _
  rw [in_rows h q hr]; rfl
theorem isIn_rows {rs : List Rw} (h : ∀ r ∈ rs, r.Ok) (q : Rw → Bool) {r : Rw} (hr : r ∈ rs) : opIn S r.A (.lst (rA (rs.filter q))) = some (.bl (q r)) := by
  show (inSeq r.A (rA (rs.filter q))).map AV.bl = _
  rw [in_rows h q hr]; rfl
theorem s_law_looks (hs : s.Ok) (hw : ws.length = 3) : lvl T (d + 1) "_law_looks" [s.A, .int now, .tup (wA ws)] S = some (lookA (s.look now ws), S) := by
  rw [l__law_looks]
  have hlr := hs.l
  have ll : ∀ q : Rw → Bool, (s.rows.filter q).length ≤ s.rows.length := fun q => List.length_filter_le _ _
  have cp1 := comp_map (G := lvl T d) (A := Rw.A) (l := s.rows) (i := 7) (ρ := [some (.val s.A), some (.val (.int now)), some (.val (.tup (wA ws))), none, none, none, none, none]) (S := S) (tst := mAnd (mBool (eBin opIsN (oE (eBin opIx (oVar 0) (oE (eCon (.int 2))))) (oE (eCon .non)))) (mBool (eBin opLt (oE (eBin opIx (oVar 7) (oE (eCon (.int 0))))) (oE (eBin opIx (oVar 0) (oE (eCon (.int 2)))))))) (elt := eVar 7) (p := blw s.top) (g := Rw.A) (v := .tup (rA s.rows)) (.inr rfl) rfl
    (fun r hr => by
      unfold Rw.A Sn.A
      generalize fA r.fr = FF
      generalize rA s.rows = RR
      generalize oA s.due = DU
      generalize wA ws = W
      cases ht : s.top with
      | none =>
        simp only [oA_n]
        simp -implicitDefEqProofs [blw]
      | some t =>
        simp only [oA_i]
        simp -implicitDefEqProofs [blw]) (fun r hr _ => by
      generalize r.A = ra
      generalize s.A = SA
      generalize wA ws = W
      simp -implicitDefEqProofs) (by omega)
  have cp2 := comp_map (G := lvl T d) (A := Rw.A) (l := s.rows.filter (blw s.top)) (i := 7) (ρ := [some (.val s.A), some (.val (.int now)), some (.val (.tup (wA ws))), some (.val (.lst (rA (s.rows.filter (blw s.top))))), none, none, none, none]) (S := S) (tst := mOr (mBool (eBin opLe (oE (eBin opAdd (oE (eBin opIx (oVar 7) (oE (eCon (.int 0))))) (oE (eCon (.int 3))))) (oE (eBin opIx (oVar 0) (oE (eCon (.int 2))))))) (mBool (eBin opLe (oE (eBin opAdd (oE (eBin opIx (oVar 7) (oE (eCon (.int 1))))) (oE (eBin opIx (oVar 2) (oE (eBin opIx (oVar 7) (oE (eCon (.int 3))))))))) (oVar 1)))) (elt := eVar 7) (p := lst2 s.top now ws) (g := Rw.A) (v := .lst (rA (s.rows.filter (blw s.top)))) (.inl rfl) rfl
    (fun r hr => by
      obtain ⟨h1, h2⟩ := List.mem_filter.mp hr
      have hl := lag_at (ws := ws) (hs.r r h1).pt hw
      cases ht : s.top with
      | none => rw [ht] at h2; cases h2
      | some t =>
        unfold Rw.A Sn.A lst2 dead
        rw [ht]
        simp only [oA_i]
        generalize fA r.fr = FF
        generalize rA (s.rows.filter (blw (some t))) = BB
        generalize rA s.rows = RR
        generalize oA s.due = DU
        generalize wA ws = W at *
        by_cases c1 : (r.n : Int) + 3 ≤ t
        · simp -implicitDefEqProofs [c1]
        · simp -implicitDefEqProofs [c1, Pyx.atI_nat, hl]) (fun r hr _ => by
      generalize r.A = ra
      generalize rA (s.rows.filter (blw s.top)) = BB
      generalize s.A = SA
      generalize wA ws = W
      simp -implicitDefEqProofs) (by have := ll (blw s.top); omega)
  rw [filt2] at cp2
  have cp3 := comp_map (G := lvl T d) (A := Rw.A) (l := s.rows) (i := 7) (ρ := [some (.val s.A), some (.val (.int now)), some (.val (.tup (wA ws))), some (.val (.lst (rA (s.rows.filter (blw s.top))))), some (.val (.lst (rA (s.rows.filter (lst s.top now ws))))), none, none, none]) (S := S) (tst := mBool (eBin opNotIn (oVar 7) (oVar 4))) (elt := eVar 7) (p := fun r => !lst s.top now ws r) (g := Rw.A) (v := .tup (rA s.rows)) (.inr rfl) rfl
    (fun r hr => by
      have h := notIn_rows (S := S) hs.r (lst s.top now ws) hr
      have hrr : res S r.A = r.A := rfl
      generalize r.A = ra at *
      generalize rA (s.rows.filter (blw s.top)) = BB
      generalize rA (s.rows.filter (lst s.top now ws)) = LL at *
      generalize s.A = SA
      generalize wA ws = W
      simp -implicitDefEqProofs [hrr, h]) (fun r hr _ => by
      generalize r.A = ra
      generalize rA (s.rows.filter (blw s.top)) = BB
      generalize rA (s.rows.filter (lst s.top now ws)) = LL at *
      generalize s.A = SA
      generalize wA ws = W
      simp -implicitDefEqProofs) (by omega)
  have cp4 := comp_map (G := lvl T d) (A := Rw.A) (l := s.rows.filter fun r => !lst s.top now ws r) (i := 7) (ρ := [some (.val s.A), some (.val (.int now)), some (.val (.tup (wA ws))), some (.val (.lst (rA (s.rows.filter (blw s.top))))), some (.val (.lst (rA (s.rows.filter (lst s.top now ws))))), some (.val (.lst (rA (s.rows.filter fun r => !lst s.top now ws r)))), none, none]) (S := S) (tst := mBool (eBin opIn (oVar 7) (oVar 3))) (elt := eBin opAdd (oE (eBin opIx (oVar 7) (oE (eCon (.int 1))))) (oE (eBin opIx (oVar 2) (oE (eBin opIx (oVar 7) (oE (eCon (.int 3)))))))) (p := blw s.top) (g := fun r => .int (dead ws r)) (v := .lst (rA (s.rows.filter fun r => !lst s.top now ws r))) (.inl rfl) rfl
    (fun r hr => by
      have h := isIn_rows (S := S) hs.r (blw s.top) (List.mem_filter.mp hr).1
      have hrr : res S r.A = r.A := rfl
      generalize r.A = ra at *
      generalize rA (s.rows.filter (blw s.top)) = BB at *
      generalize rA (s.rows.filter (lst s.top now ws)) = LL at *
      generalize rA (s.rows.filter fun r => !lst s.top now ws r) = EE at *
      generalize s.A = SA
      generalize wA ws = W
      simp -implicitDefEqProofs [hrr, h]) (fun r hr _ => by
      have hl := lag_at (ws := ws) (hs.r r (List.mem_filter.mp hr).1).pt hw
      unfold Rw.A dead
      generalize fA r.fr = FF
      generalize rA (s.rows.filter (blw s.top)) = BB
      generalize rA (s.rows.filter (lst s.top now ws)) = LL at *
      generalize rA (s.rows.filter fun r => !lst s.top now ws r) = EE at *
      generalize s.A = SA
      generalize wA ws = W at *
      simp -implicitDefEqProofs [Pyx.atI_nat, hl]) (by have := ll (fun r => !lst s.top now ws r); omega)
  rw [filt4] at cp4
  have hmin : ∀ a : AS, a.S = S → True := fun _ _ => trivial
  have e1 : List.map Rw.A (s.rows.filter (blw s.top)) = rA (s.rows.filter (blw s.top)) := rfl
  have e2 : List.map Rw.A (s.rows.filter (lst s.top now ws)) = rA (s.rows.filter (lst s.top now ws)) := rfl
  have e3 : List.map Rw.A (s.rows.filter fun r => !lst s.top now ws r) = rA (s.rows.filter fun r => !lst s.top now ws r) := rfl
  rw [e1] at cp1
  rw [e2] at cp2
  rw [e3] at cp3
  have e4 : ((s.rows.filter (sav s.top now ws)).map fun r => AV.int (dead ws r)) = ((s.rows.filter (sav s.top now ws)).map (dead ws)).map AV.int := by rw [List.map_map]; rfl
  rw [e4] at cp4
  clear e1 e2 e3 e4 hmin ll hlr
  unfold lookA Sn.look
  simp only
  unfold Sn.A at *
  simp only
  generalize (s.rows.filter (sav s.top now ws)).map (dead ws) = DL at *
  generalize rA (s.rows.filter (blw s.top)) = BB at *
  generalize rA (s.rows.filter (lst s.top now ws)) = LL at *
  generalize rA (s.rows.filter fun r => !lst s.top now ws r) = EE at *
  generalize rA s.rows = RR at *
  generalize oA s.due = DU at *
  generalize oA s.top = TT at *
  generalize wA ws = W at *
  by_cases hd : DL = []
  · subst hd
    simp only [List.map_nil] at cp4
    have : minO [] = none := rfl
    rw [this, oA_n]
    simp -implicitDefEqProofs [b__law_looks, frame, cp1, cp2, cp3, cp4]
  · have hm := biMin_map (S := S) hd
    have hne : (DL.map AV.int).isEmpty = false := by cases DL with
      | nil => exact absurd rfl hd
      | cons _ _ => rfl
    have : minO DL = some (minI DL) := by unfold minO; rw [if_neg hd]
    rw [this, oA_i]
    generalize DL.map AV.int = DM at *
    simp -implicitDefEqProofs [b__law_looks, frame, cp1, cp2, cp3, cp4, hm, hne]
end
end K41
end
section
set_option maxRecDepth 100000
set_option maxHeartbeats 3000000
namespace K41
open PySem L2 Pyx
open PySem.Spec PyProof.Rows
/-- what is asked of a door -/
inductive Rs where
  | pk (p : Pk)
  | rp (ps : List Pr)
  | lk (now : Int) (ws : List Int)
  | no
def Rs.door : Rs → Nat
  | .pk _ => 0
  | .rp _ => 1
  | .lk _ _ => 2
  | .no => 3
def Rs.A : Rs → AV
  | .pk p => p.A
  | .rp ps => .tup (pA ps)
  | .lk now ws => .tup [.int now, .tup (wA ws)]
  | .no => .tup []
def Rs.Ok : Rs → Prop
  | .pk p => p.Ok
  | .rp ps => ps ≠ [] ∧ ps.length ≤ 1000
  | .lk _ ws => ws.length = 3
  | .no => True
def told (s : Sn) : Rs → AV
  | .pk p => (s.send p).A
  | .rp ps => outA (s.rep ps)
  | .lk now ws => lookA (s.look now ws)
  | .no => lookA s.drop
section
variable {s : Sn} {p : Pk} {d : Nat} {S : List SObj} {ps : List Pr} {ws : List Int} {now : Int} {r : Rs}
theorem s_told (hs : s.Ok) (hr : r.Ok) : lvl T (d + 3) "_law_told" [.int (r.door : Nat), s.A, r.A] S = some (told s r, S) := by
  rw [l__law_told]
  cases r with
  | pk p =>
    have h := s_send (d := d + 1) (S := S) (p := p) hs
    simp only [Rs.A, told, Rs.door, Pk.A]
    generalize fA p.cs = CC at *
    generalize s.A = SA at *
    generalize (s.send p).A = SB at *
    simp -implicitDefEqProofs [b__law_told, frame, h]
  | rp ps =>
    have h := s_report (d := d) (S := S) hs hr.1
    simp only [Rs.A, told, Rs.door]
    generalize pA ps = P at *
    generalize s.A = SA at *
    generalize outA (s.rep ps) = SB at *
    simp -implicitDefEqProofs [b__law_told, frame, h]
  | lk now ws =>
    have h := s_look (d := d) (S := S) (now := now) (ws := ws) hs hr
    simp only [Rs.A, told, Rs.door]
    generalize wA ws = W at *
    generalize s.A = SA at *
    generalize lookA (s.look now ws) = SB at *
    simp -implicitDefEqProofs [b__law_told, frame, h]
  | no =>
    have h := s_drop (d := d + 1) (S := S) (s := s)
    simp only [Rs.A, told, Rs.door]
    generalize s.A = SA at *
    generalize lookA s.drop = SB at *
    simp -implicitDefEqProofs [b__law_told, frame, h]
theorem s_due (hs : s.Ok) (hr : r.Ok) : lvl T (d + 3) "_law_due" [.int (r.door : Nat), s.A, r.A] S = some (told s r, S) := by
  rw [l__law_due]
  cases r with
  | pk p =>
    have h := s_law_sent (d := d) (S := S) (p := p) hs hr
    simp only [Rs.A, told, Rs.door, Pk.A]
    generalize fA p.cs = CC at *
    generalize s.A = SA at *
    generalize (s.send p).A = SB at *
    simp -implicitDefEqProofs [b__law_due, frame, h]
  | rp ps =>
    have h := s_law_reports (d := d) (S := S) hs hr.1 hr.2
    simp only [Rs.A, told, Rs.door]
    generalize pA ps = P at *
    generalize s.A = SA at *
    generalize outA (s.rep ps) = SB at *
    simp -implicitDefEqProofs [b__law_due, frame, h]
  | lk now ws =>
    have h := s_law_looks (d := d + 1) (S := S) (now := now) (ws := ws) hs hr
    simp only [Rs.A, told, Rs.door]
    generalize wA ws = W at *
    generalize s.A = SA at *
    generalize lookA (s.look now ws) = SB at *
    simp -implicitDefEqProofs [b__law_due, frame, h]
  | no =>
    simp only [Rs.A, told, Rs.door, lookA, Sn.drop, Sn.A]
    simp only [oA_n]
    generalize rA s.rows = RR at *
    generalize oA s.top = TT
    generalize oA s.due = DU
    simp -implicitDefEqProofs [b__law_due, frame]
/-! ### the classes of what is told -/
theorem send_ok (hs : s.Ok) (hp : p.Ok) (hl : s.rows.length ≤ 900) : (s.send p).Ok ∧ (s.send p).rows.length ≤ s.rows.length + 1 := by
  unfold Sn.send
  by_cases c : p.cs.any elic = true
  · simp only [c, if_true]
    refine ⟨⟨fun r hr => ?_, by simp; omega⟩, by simp⟩
    rcases List.mem_append.mp hr with h | h
    · exact hs.r r h
    · rw [List.mem_singleton.mp h]
      exact ⟨hp.pt, fun f hf => hp.c f (List.mem_filter.mp hf).1, Nat.le_trans (List.length_filter_le _ _) hp.l⟩
  · simp only [c, if_false]
    exact ⟨⟨hs.r, hs.l⟩, by simp⟩
theorem filt_ok (hs : s.Ok) (q : Rw → Bool) : (∀ r ∈ s.rows.filter q, r.Ok) ∧ (s.rows.filter q).length ≤ s.rows.length := ⟨fun r hr => hs.r r (List.mem_filter.mp hr).1, List.length_filter_le _ _⟩
theorem rep_ok (hs : s.Ok) {q : Sn × List Rw} (h : s.rep ps = some q) : q.1.Ok ∧ q.1.rows.length ≤ s.rows.length ∧ (∀ r ∈ q.2, r.Ok) ∧ q.2.length ≤ 1000 := by
  unfold Sn.rep at h
  split at h
  · cases h
  · cases h
    have h1 := filt_ok hs (fun r => !inP ps (r.n : Int))
    have h2 := filt_ok hs (fun r => inP ps (r.n : Int))
    exact ⟨⟨h1.1, Nat.le_trans h1.2 hs.l⟩, h1.2, h2.1, Nat.le_trans h2.2 hs.l⟩
theorem look_ok (hs : s.Ok) : (s.look now ws).1.Ok ∧ (s.look now ws).1.rows.length ≤ s.rows.length ∧ (∀ r ∈ (s.look now ws).2, r.Ok) ∧ (s.look now ws).2.length ≤ 1000 := by
  have h1 := filt_ok hs (fun r => !lst s.top now ws r)
  have h2 := filt_ok hs (lst s.top now ws)
  exact ⟨⟨h1.1, Nat.le_trans h1.2 hs.l⟩, h1.2, h2.1, Nat.le_trans h2.2 hs.l⟩
theorem drop_ok (hs : s.Ok) : s.drop.1.Ok ∧ s.drop.1.rows.length ≤ s.rows.length ∧ (∀ r ∈ s.drop.2, r.Ok) ∧ s.drop.2.length ≤ 1000 := ⟨⟨fun r h => (by cases h), Nat.zero_le _⟩, Nat.zero_le _, hs.r, hs.l⟩
theorem two_sm {q : Sn × List Rw} (h1 : q.1.Ok) (h2 : ∀ r ∈ q.2, r.Ok) (h3 : q.2.length ≤ 1000) : sm 8 (lookA q) = true := sm_mk (fun x hx => by
  simp only [List.mem_cons, List.not_mem_nil, or_false] at hx
  rcases hx with rfl | rfl
  · exact Sn.sm h1
  · obtain ⟨j, e, h⟩ := sm_tup (rA_sm h2 h3)
    exact sm_mk (k := 6) (fun y hy => by
      obtain ⟨r, hr, rfl⟩ := List.mem_map.mp hy
      have := cn_sm _ _ (Rw.cn (h2 r hr))
      obtain ⟨j, e, h⟩ := sm_tup this
      cases e
      exact sm_mk (fun z hz => by
        have hz := h.1 z hz
        exact sm_up hz) h.2) (by simp; omega)) (by simp)
where
  sm_up {k : Nat} {v : AV} (h : Pyx.sm k v = true) : Pyx.sm (k + 1) v = true := by
    revert v
    induction k with
    | zero => intro v h; cases v <;> first | rfl | exact h | cases h
    | succ k ih =>
      intro v h
      cases v with
      | tup xs =>
        obtain ⟨j, e, h1, h2⟩ := sm_tup h
        cases e
        exact sm_mk (fun x hx => ih (h1 x hx)) h2
      | lst xs => cases h
      | ref n => cases h
      | _ => first | rfl | exact h
theorem told_sm (hs : s.Ok) (hr : r.Ok) (hl : s.rows.length ≤ 900) : sm 8 (told s r) = true := by
  cases r with
  | pk p => exact two_sm.sm_up (Sn.sm (send_ok hs hr hl).1)
  | rp ps =>
    show sm 8 (outA (s.rep ps)) = true
    cases e : s.rep ps with
    | none => rfl
    | some q =>
      obtain ⟨h1, _, h2, h3⟩ := rep_ok hs e
      exact two_sm h1 h2 h3
  | lk now ws => exact two_sm (look_ok hs).1 (look_ok hs).2.2.1 (look_ok hs).2.2.2
  | no => exact two_sm (drop_ok hs).1 (drop_ok hs).2.2.1 (drop_ok hs).2.2.2
end
end K41
end
section
set_option maxRecDepth 100000
set_option maxHeartbeats 3000000
namespace K41
open PySem L2 Pyx
open PySem.Spec PyProof.Rows
/-! ### pairs are put together -/
def Vd (ps : List Pr) : Prop := ∀ p ∈ ps, p.1 ≤ p.2
theorem cut_pA {ps : List Pr} {a b : Option Int} : ∃ ms, cutA (pA ps) a b = pA ms ∧ ms.length ≤ ps.length ∧ ∀ m ∈ ms, m ∈ ps := by
  refine ⟨(ps.drop (HT.sIx (pA ps).length 0 a)).take (HT.sIx (pA ps).length (pA ps).length b - HT.sIx (pA ps).length 0 a), ?_, ?_, fun m hm => List.mem_of_mem_drop (List.mem_of_mem_take hm)⟩
  · unfold cutA
    rw [← List.map_drop, ← List.map_take]
  · rw [List.length_take, List.length_drop]; omega
theorem two_filt {ps : List Pr} {p q : Pr → Bool} (h : ∀ x ∈ ps, p x = true → q x = true → False) : (ps.filter p).length + (ps.filter q).length ≤ ps.length := by
  induction ps with
  | nil => simp
  | cons x ps ih =>
    have ih := ih fun y hy => h y (List.mem_cons_of_mem _ hy)
    have hx := h x List.mem_cons_self
    cases hp : p x with
    | true =>
      cases hq : q x with
      | true => exact (hx hp hq).elim
      | false => rw [List.filter_cons_of_pos hp, List.filter_cons_of_neg (by rw [hq]; decide)]; simp only [List.length_cons]; omega
    | false =>
      cases hq : q x with
      | true => rw [List.filter_cons_of_neg (by rw [hp]; decide), List.filter_cons_of_pos hq]; simp only [List.length_cons]; omega
      | false => rw [List.filter_cons_of_neg (by rw [hp]; decide), List.filter_cons_of_neg (by rw [hq]; decide)]; simp only [List.length_cons]; omega
section
variable {d : Nat} {S : List SObj} {ps : List Pr} {lo hi : Int}
theorem s_put (hl : ps.length ≤ 500) (hv : Vd ps) (hh : lo ≤ hi) : ∃ qs, lvl T (d + 1) "_law_put" [.tup (pA ps), .int lo, .int hi] S = some (.tup (pA qs), S) ∧ qs ≠ [] ∧ Vd qs ∧ qs.length ≤ ps.length + 1 := by
  let ah : List Pr := ps.filter fun p => decide (p.2 < lo - 1)
  let bh : List Pr := ps.filter fun p => decide (hi + 1 < p.1)
  obtain ⟨ms, hm, hml, hmm⟩ := cut_pA (ps := ps) (a := some ((pA ah).length : Int)) (b := some (((pA ps).length : Int) - ((pA bh).length : Int)))
  have cp1 := comp_map (G := lvl T d) (A := prA) (l := ps) (i := 7) (ρ := [some (.val (.tup (pA ps))), some (.val (.int lo)), some (.val (.int hi)), none, none, none, none, none]) (S := S) (tst := mBool (eBin opLt (oE (eBin opIx (oVar 7) (oE (eCon (.int 1))))) (oE (eBin opSub (oVar 1) (oE (eCon (.int 1))))))) (elt := eVar 7) (p := fun p => decide (p.2 < lo - 1)) (g := prA) (v := .tup (pA ps)) (.inr rfl) rfl
    (fun r hr => by
      unfold prA
      generalize pA ps = P
      simp -implicitDefEqProofs) (fun r hr _ => by
      generalize pA ps = P
      simp -implicitDefEqProofs) (by omega)
  have cp2 := comp_map (G := lvl T d) (A := prA) (l := ps) (i := 7) (ρ := [some (.val (.tup (pA ps))), some (.val (.int lo)), some (.val (.int hi)), some (.val (.lst (pA ah))), none, none, none, none]) (S := S) (tst := mBool (eBin opGt (oE (eBin opIx (oVar 7) (oE (eCon (.int 0))))) (oE (eBin opAdd (oVar 2) (oE (eCon (.int 1))))))) (elt := eVar 7) (p := fun p => decide (hi + 1 < p.1)) (g := prA) (v := .tup (pA ps)) (.inr rfl) rfl
    (fun r hr => by
      unfold prA
      generalize pA ah = AH
      generalize pA ps = P
      simp -implicitDefEqProofs) (fun r hr _ => by
      generalize pA ah = AH
      generalize pA ps = P
      simp -implicitDefEqProofs) (by omega)
  have cp3 := comp_map (G := lvl T d) (A := prA) (l := ms) (i := 7) (ρ := [some (.val (.tup (pA ps))), some (.val (.int lo)), some (.val (.int hi)), some (.val (.lst (pA ah))), some (.val (.lst (pA bh))), some (.val (.lst (pA ms))), none, none]) (S := S) (tst := mTrue) (elt := eBin opIx (oVar 7) (oE (eCon (.int 0)))) (p := fun _ => true) (g := fun p => .int p.1) (v := .lst (pA ms)) (.inl rfl) rfl
    (fun r hr => by rfl) (fun r hr _ => by
      unfold prA
      generalize pA ah = AH
      generalize pA bh = BH
      generalize pA ms = MS
      generalize pA ps = P
      simp -implicitDefEqProofs) (by omega)
  have cp4 := comp_map (G := lvl T d) (A := prA) (l := ms) (i := 7) (ρ := [some (.val (.tup (pA ps))), some (.val (.int lo)), some (.val (.int hi)), some (.val (.lst (pA ah))), some (.val (.lst (pA bh))), some (.val (.lst (pA ms))), none, none]) (S := S) (tst := mTrue) (elt := eBin opIx (oVar 7) (oE (eCon (.int 1)))) (p := fun _ => true) (g := fun p => .int p.2) (v := .lst (pA ms)) (.inl rfl) rfl
    (fun r hr => by rfl) (fun r hr _ => by
      unfold prA
      generalize pA ah = AH
      generalize pA bh = BH
      generalize pA ms = MS
      generalize pA ps = P
      simp -implicitDefEqProofs) (by omega)
  have tt : ms.filter (fun _ => true) = ms := by simp
  rw [tt] at cp3 cp4
  have m1 := biMin_map (S := S) (ns := lo :: ms.map (·.1)) (by simp)
  have m2 := biMax_map (S := S) (ns := hi :: ms.map (·.2)) (by simp)
  have a1 : minI (lo :: ms.map (·.1)) ≤ lo := minI_le _ (by simp)
  have a2 : hi ≤ maxI (hi :: ms.map (·.2)) := maxI_ge _ (by simp)
  have dj : ah.length + bh.length ≤ ps.length := two_filt (ps := ps) (p := fun p => decide (p.2 < lo - 1)) (q := fun p => decide (hi + 1 < p.1)) (fun x hx h1 h2 => by
    have := hv x hx
    simp only [decide_eq_true_eq] at h1 h2
    omega)
  have n1 : List.map AV.int (lo :: ms.map (·.1)) = .int lo :: (ms.map fun p => AV.int p.1) := by simp
  have n2 : List.map AV.int (hi :: ms.map (·.2)) = .int hi :: (ms.map fun p => AV.int p.2) := by simp
  rw [n1] at m1
  rw [n2] at m2
  generalize minI (lo :: ms.map (·.1)) = u at *
  generalize maxI (hi :: ms.map (·.2)) = v at *
  refine ⟨ah ++ [(u, v)] ++ bh, ?_, by simp, fun p hp => ?_, by simp only [List.length_append, List.length_cons, List.length_nil]; omega⟩
  · rw [l__law_put]
    have e1 : List.map prA (ps.filter fun p => decide (p.2 < lo - 1)) = pA ah := rfl
    have e2 : List.map prA (ps.filter fun p => decide (hi + 1 < p.1)) = pA bh := rfl
    have e3 : pA (ah ++ [(u, v)] ++ bh) = pA ah ++ .tup [.int u, .int v] :: pA bh := by simp [prA]
    rw [e1] at cp1
    rw [e2] at cp2
    rw [e3]
    have l2 : (pA ah).length + 1 + (pA bh).length ≤ 100000 := by simp only [List.length_map]; omega
    have l3 : 1 + (ms.map fun p => AV.int p.1).length ≤ 100000 := by simp only [List.length_map]; omega
    have l4 : 1 + (ms.map fun p => AV.int p.2).length ≤ 100000 := by simp only [List.length_map]; omega
    clear e1 e2 e3 n1 n2 tt dj
    clear_value ah bh
    generalize (ms.map fun p => AV.int p.1) = M1 at *
    generalize (ms.map fun p => AV.int p.2) = M2 at *
    generalize pA ms = MS at *
    generalize pA ah = AH at *
    generalize pA bh = BH at *
    generalize pA ps = P at *
    have bl : bfList S [.tup P] = some P := rfl
    have o1 : opAdd S (.lst [.int lo]) (.lst M1) = some (.lst (.int lo :: M1)) := opAdd_l (by simp only [List.length_cons, List.length_nil]; omega)
    have o2 : opAdd S (.lst [.int hi]) (.lst M2) = some (.lst (.int hi :: M2)) := opAdd_l (by simp only [List.length_cons, List.length_nil]; omega)
    have o3 : opAdd S (.lst AH) (.lst [.tup [.int u, .int v]]) = some (.lst (AH ++ [.tup [.int u, .int v]])) := opAdd_l (by simp only [List.length_cons, List.length_nil]; omega)
    have o4 : opAdd S (.lst (AH ++ [.tup [.int u, .int v]])) (.lst BH) = some (.lst (AH ++ .tup [.int u, .int v] :: BH)) := by
      rw [opAdd_l (by simp only [List.length_append, List.length_cons, List.length_nil]; omega)]
      simp
    simp -implicitDefEqProofs [b__law_put, frame, bl, cp1, cp2, hm, cp3, cp4, m1, m2, o1, o2, o3, o4]
  · simp only [List.mem_append, List.mem_singleton] at hp
    rcases hp with (h | h) | h
    · exact hv p (List.mem_filter.mp h).1
    · subst h; show u ≤ v; omega
    · exact hv p (List.mem_filter.mp h).1
end
end K41
end
section
set_option maxRecDepth 100000
set_option maxHeartbeats 4000000
namespace K41
open PySem L2 Pyx
open PySem.Spec PyProof.Rows
theorem pickL {xs : List Int} {k : Nat} (h : k < xs.length) : ∃ v ∈ xs, (xs.map AV.int)[k]? = some (.int v) := ⟨xs[k], List.getElem_mem h, by rw [List.getElem?_map, List.getElem?_eq_getElem h]; rfl⟩
section
variable {t : Tp} {d : Nat} {R : List SObj}
def uF (a v : Int) : AV → AV
  | .int k => .int ((a + v * k) % 256)
  | x => x
theorem s_units (ht : t.Ok) {m : Nat} (hm : m ≤ 10) : ∃ us t', lvl T (d + 2) "_law_units" [.ref 0, .int (m : Nat)] (tpO t :: R) = some (.tup us, tpO t' :: R) ∧ t'.Ok ∧ (∀ u ∈ us, cn 0 u = true) ∧ us.length ≤ 10 := by
  obtain ⟨a, t1, e1, k1, _⟩ := s_draw d ht 256 (by omega) R
  obtain ⟨i, t2, e2, k2, b2⟩ := s_draw d k1 3 (by omega) R
  obtain ⟨v, hvm, hv⟩ := pickL (xs := [0, 1, 7]) (k := i) (by simp only [List.length_cons, List.length_nil]; omega)
  have hv : ([.int 0, .int 1, .int 7] : List AV)[i]? = some (.int v) := hv
  have hb : -(2 ^ 64) < v ∧ v < 2 ^ 64 := by
    simp only [List.mem_cons, List.not_mem_nil, or_false] at hvm
    rcases hvm with rfl | rfl | rfl <;> omega
  have cp := compR_pure (G := lvl T (d + 1)) (ρ := [some (.val (.ref 0)), some (.val (.int (m : Nat))), some (.val (.int (a : Nat))), some (.val (.int v)), none]) (S := tpO t2 :: R) (i := 4) (n := m) (tst := mTrue) (elt := eBin opMod (oE (eBi biInt (osCons (oE (eBin opAdd (oVar 2) (oE (eBin opMul (oVar 3) (oVar 4))))) osNil))) (oE (eCon (.int 256)))) (p := fun _ => true) (f := uF (a : Int) v) rfl
    (fun k hk => rfl) (fun k hk _ => by
      have h := fun S => opMul_i (S := S) (x := v) (y := (k : Int)) (.inl hb)
      simp -implicitDefEqProofs [h, opMod_i, uF]) (by omega)
  refine ⟨((rgA 0 m).filter fun _ => true).map (uF (a : Int) v), t2, ?_, k2, fun u hu => ?_, ?_⟩
  rotate_left
  · obtain ⟨x, hx, rfl⟩ := List.mem_map.mp hu
    obtain ⟨k, hk, rfl⟩ := List.mem_map.mp (List.mem_filter.mp hx).1
    rfl
  · rw [List.length_map]
    refine Nat.le_trans (List.length_filter_le _ _) ?_
    rw [rgA_length]; exact hm
  · rw [l__law_units]
    generalize ((rgA 0 m).filter fun _ => true).map (uF (a : Int) v) = L at cp ⊢
    simp -implicitDefEqProofs [b__law_units, frame, e1, e2, Pyx.atI_nat, hv, cp]
def frs (number : Int) (low : Nat) (us : List AV) (b : Nat) : List Fr :=
  [⟨"ping", []⟩, ⟨"ack", [.int number, .tup [.tup [.int (low : Nat), .int ((low : Nat) + 2)], .tup [.int ((low : Nat) + 4), .int ((low : Nat) + 4)]]]⟩, ⟨"message", [.int (low : Nat), .tup [.str "finished", .int number]]⟩,
   ⟨"stream", [.int (low : Nat), .int number, .tup us, .int (b : Nat)]⟩, ⟨"credit", [.int number]⟩, ⟨"stream credit", [.int (low : Nat), .int number]⟩, ⟨"identifier", [.int (low : Nat), .int number]⟩, ⟨"retire", [.int number]⟩,
   ⟨"challenge", [.int number]⟩, ⟨"response", [.int number]⟩, ⟨"done", []⟩, ⟨"close", [.int (low : Nat)]⟩]
theorem frs_ok {number : Int} {low : Nat} {us : List AV} {b : Nat} (h : ∀ u ∈ us, cn 0 u = true) (hl : us.length ≤ 10) : ∀ f ∈ frs number low us b, f.Ok := by
  have hu : cn 1 (.tup us) = true := cn_mk (fun x hx => h x hx) (by omega)
  have hu2 : cn 2 (.tup us) = true := cn_mk (fun x hx => by
    have := h x hx
    cases x <;> first | (exact this) | (cases this)) (by omega)
  have fin : PyData.strOk ("finished" : Str) = true := by decide +kernel
  intro f hf
  simp only [frs, List.mem_cons, List.not_mem_nil, or_false] at hf
  rcases hf with rfl | rfl | rfl | rfl | rfl | rfl | rfl | rfl | rfl | rfl | rfl | rfl <;> refine ⟨by show PyData.strOk (Str.ofString _) = true; decide +kernel, fun x hx => ?_, by simp⟩ <;> simp only [List.mem_cons, List.not_mem_nil, or_false] at hx
  · rcases hx with rfl | rfl
    · rfl
    · simp [cn]
  · rcases hx with rfl | rfl
    · rfl
    · simp [cn, fin]
  · rcases hx with rfl | rfl | rfl | rfl
    · rfl
    · rfl
    · exact hu2
    · rfl
  · subst hx; rfl
  · rcases hx with rfl | rfl <;> rfl
  · rcases hx with rfl | rfl <;> rfl
  · subst hx; rfl
  · subst hx; rfl
  · subst hx; rfl
  · subst hx; rfl
theorem s_frame (ht : t.Ok) : ∃ f t', lvl T (d + 3) "_law_frame" [.ref 0] (tpO t :: R) = some (Fr.A f, tpO t' :: R) ∧ t'.Ok ∧ f.Ok := by
  obtain ⟨c, t1, e1, k1, b1⟩ := s_draw (d + 1) ht 12 (by omega) R
  obtain ⟨i, t2, e2, k2, b2⟩ := s_draw (d + 1) k1 4 (by omega) R
  obtain ⟨low, t3, e3, k3, b3⟩ := s_draw (d + 1) k2 4 (by omega) R
  obtain ⟨us, t4, e4, k4, u1, u2⟩ := s_units (d := d) (R := R) k3 (m := low) (by omega)
  obtain ⟨b, t5, e5, k5, b5⟩ := s_draw (d + 1) k4 2 (by omega) R
  obtain ⟨v, hvm, hv⟩ := pickL (xs := [0, 1, 7, 999999999]) (k := i) (by simp only [List.length_cons, List.length_nil]; omega)
  have hv : ([.int 0, .int 1, .int 7, .int 999999999] : List AV)[i]? = some (.int v) := hv
  have hc : c < (frs v low us b).length := by simp only [frs, List.length_cons, List.length_nil]; omega
  have hg : ((frs v low us b).map Fr.A)[c]? = some (frs v low us b)[c].A := by rw [List.getElem?_map, List.getElem?_eq_getElem hc]; rfl
  have hm := frs_ok (number := v) (low := low) (b := b) u1 u2 _ (List.getElem_mem hc)
  generalize (frs v low us b)[c] = f at hg hm
  refine ⟨f, t5, ?_, k5, hm⟩
  rw [l__law_frame]
  simp only [frs, List.map_cons, List.map_nil, Fr.A] at hg
  have hF : Fr.A f = .tup (.str f.nm :: f.rest) := rfl
  rw [hF]
  clear hF
  simp -implicitDefEqProofs [b__law_frame, frame, e1, e2, Pyx.atI_nat, hv, e3, e4, e5]
  rw [hg]
  rfl
end
end K41
end
section
set_option maxRecDepth 100000
set_option maxHeartbeats 4000000
namespace K41
open PySem L2 Pyx
open PySem.Spec PyProof.Rows
@[simp] theorem biMin_i {S : List SObj} {i j : Int} : biMin S [.int i, .int j] = some (.int (if j < i then j else i)) := rfl
section
variable {t : Tp} {d : Nat} {R : List SObj} {s : Sn}
/-! ### some report -/
def FS (s : Sn) (qs : List Pr) (ch : Int) (x4 x5 x6 : Option Slt) : List (Option Slt) := [some (.val (.ref 0)), some (.val s.A), some (.val (.tup (pA qs))), some (.val (.int ch)), x4, x5, x6]
def Gd (s : Sn) (R : List SObj) (ch : Int) (k : Nat) (a : AS) : Prop := ∃ t qs x4 x5 x6, a = ⟨FS s qs ch x4 x5 x6, tpO t :: R⟩ ∧ Tp.Ok t ∧ Vd qs ∧ qs.length ≤ k ∧ (0 < k → qs ≠ [])
theorem Gd.up {ch : Int} {k j : Nat} {a : AS} (h : Gd s R ch k a) (hk : 0 < k) (hj : k ≤ j) : Gd s R ch j a := by
  obtain ⟨t, qs, x4, x5, x6, e, h1, h2, h3, h4⟩ := h
  exact ⟨t, qs, x4, x5, x6, e, h1, h2, by omega, fun _ => h4 hk⟩
def ST1 : MS := sIf (mAnd (mTru (oE (eBin opIx (oVar 1) (oE (eCon (.int 1)))))) (mBool (eBin opEq (oE (eCall "_law_draw" (aCons (eVar 0) (aCons (eCon (.int 2)) aNil)))) (oE (eCon (.int 0)))))) (sSeq (sAsg 5 (eBin opIx (oE (eBin opIx (oE (eBin opIx (oVar 1) (oE (eCon (.int 1))))) (oE (eCall "_law_draw" (aCons (eVar 0) (aCons (eBi biLen (osCons (oE (eBin opIx (oVar 1) (oE (eCon (.int 1))))) osNil)) aNil)))))) (oE (eCon (.int 0))))) sSkip) sSkip
theorem st1 (hs : s.Ok) (ht : t.Ok) {qs : List Pr} {ch : Int} {x4 x6 : Option Slt} {sp : Nat} : ∃ (sp' : Nat) (t' : Tp), ST1 (lvl T (d + 2)) ⟨FS s qs ch x4 (some (.val (.int (sp : Nat)))) x6, tpO t :: R⟩ = some (.nx, ⟨FS s qs ch x4 (some (.val (.int (sp' : Nat)))) x6, tpO t' :: R⟩) ∧ t'.Ok := by
  unfold ST1 FS
  cases hr : s.rows with
  | nil =>
    refine ⟨sp, t, ?_, ht⟩
    unfold Sn.A
    rw [hr]
    generalize pA qs = P
    simp -implicitDefEqProofs
  | cons r0 rs =>
    obtain ⟨b, t1, e1, k1, _⟩ := s_draw (d + 1) ht 2 (by omega) R
    by_cases hb : b = 0
    · subst hb
      have hl : (s.rows.length : Int) < 1073741824 := by have := hs.l; omega
      obtain ⟨i, t2, e2, k2, b2⟩ := s_draw (d + 1) k1 (s.rows.length : Int) hl R
      have hi : i < s.rows.length := by rw [hr] at b2 ⊢; simp only [List.length_cons] at b2 ⊢; omega
      have hg : (rA s.rows)[i]? = some s.rows[i].A := by rw [List.getElem?_map, List.getElem?_eq_getElem hi]; rfl
      generalize s.rows[i] = r at hg
      refine ⟨r.n, t2, ?_, k2⟩
      have hne : (rA s.rows).isEmpty = false := by rw [hr]; rfl
      have hlen : ((rA s.rows).length : Int) = (s.rows.length : Int) := by simp
      have hrA : r.A = .tup [.int (r.n : Nat), .int r.time, .int r.size, .int (r.path : Nat), .int r.serial, .tup (fA r.fr)] := rfl
      rw [hrA] at hg
      rw [← hlen] at e2
      unfold Sn.A
      generalize fA r.fr = FF at *
      generalize rA s.rows = RR at *
      generalize pA qs = P
      simp -implicitDefEqProofs [hne, e1, e2, Pyx.atI_nat, hg]
    · refine ⟨sp, t1, ?_, k1⟩
      have hb' : ¬ (b : Int) = 0 := by omega
      have hne : (rA s.rows).isEmpty = false := by rw [hr]; rfl
      unfold Sn.A
      generalize rA s.rows = RR at *
      generalize pA qs = P
      simp -implicitDefEqProofs [hne, e1, hb, hb']
def BQ : MS := (sSeq (sAsg 5 (eCall "_law_draw" (aCons (eVar 0) (aCons (eBin opIx (oVar 1) (oE (eCon (.int 0)))) aNil)))) (sSeq ST1 (sSeq (sAsg 6 (eBi biMax (osCons (oE (eBin opSub (oVar 5) (oE (eCall "_law_draw" (aCons (eVar 0) (aCons (eCon (.int 2)) aNil)))))) (osCons (oE (eCon (.int 0))) osNil)))) (sSeq (sAsg 2 (eCall "_law_put" (aCons (eVar 2) (aCons (eVar 6) (aCons (eBi biMin (osCons (oE (eBin opAdd (oVar 5) (oE (eBin opIx (oE (eFrz (fLst (aCons (eCon (.int 0)) (aCons (eCon (.int 0)) (aCons (eCon (.int 1)) (aCons (eCon (.int 2)) aNil))))))) (oE (eCall "_law_draw" (aCons (eVar 0) (aCons (eCon (.int 4)) aNil)))))))) (osCons (oE (eBi biMax (osCons (oE (eBin opSub (oE (eBin opIx (oVar 1) (oE (eCon (.int 0))))) (oE (eCon (.int 1))))) (osCons (oVar 5) osNil)))) osNil))) aNil))))) sSkip))))
theorem bq (hs : s.Ok) (hn : s.n ≤ 1000000) {ch : Int} {k : Nat} {a : AS} (hk : k ≤ 400) (x : Int) (h : Gd s R ch k a) : ∃ a1 a2, asgT (.one 4) (.int x) a = some a1 ∧ BQ (lvl T (d + 2)) a1 = some (.nx, a2) ∧ Gd s R ch (k + 1) a2 := by
  obtain ⟨t, qs, x4, x5, x6, rfl, k0, hv, hq, _⟩ := h
  refine ⟨⟨FS s qs ch (some (.val (.int x))) x5 x6, tpO t :: R⟩, ?_⟩
  obtain ⟨sp0, t1, e1, k1, _⟩ := s_draw (d + 1) k0 (s.n : Nat) (by omega) R
  obtain ⟨sp, t2, e2, k2⟩ := st1 (d := d) (R := R) hs k1 (qs := qs) (ch := ch) (x4 := some (.val (.int x))) (x6 := x6) (sp := sp0)
  obtain ⟨b, t3, e3, k3, _⟩ := s_draw (d + 1) k2 2 (by omega) R
  obtain ⟨i, t4, e4, k4, b4⟩ := s_draw (d + 1) k3 4 (by omega) R
  obtain ⟨v, hvm, hpick⟩ := pickL (xs := [0, 0, 1, 2]) (k := i) (by simp only [List.length_cons, List.length_nil]; omega)
  have hpick : ([.int 0, .int 0, .int 1, .int 2] : List AV)[i]? = some (.int v) := hpick
  have hv0 : 0 ≤ v := by
    simp only [List.mem_cons, List.not_mem_nil, or_false] at hvm
    rcases hvm with rfl | rfl | rfl | rfl <;> omega
  let lo : Int := if 0 > (sp : Int) - (b : Int) then 0 else (sp : Int) - (b : Int)
  let mx : Int := if (sp : Int) > (s.n : Int) - 1 then (sp : Int) else (s.n : Int) - 1
  let hi : Int := if mx < (sp : Int) + v then mx else (sp : Int) + v
  have hlo : lo ≤ (sp : Int) := by
    show (if 0 > (sp : Int) - (b : Int) then (0 : Int) else (sp : Int) - (b : Int)) ≤ (sp : Int)
    split <;> omega
  have hmx : (sp : Int) ≤ mx := by
    show (sp : Int) ≤ (if (sp : Int) > (s.n : Int) - 1 then (sp : Int) else (s.n : Int) - 1)
    split <;> omega
  have hhi : (sp : Int) ≤ hi := by
    show (sp : Int) ≤ (if mx < (sp : Int) + v then mx else (sp : Int) + v)
    split <;> omega
  obtain ⟨rs, e5, r1, r2, r3⟩ := s_put (d := d + 1) (S := tpO t4 :: R) (ps := qs) (lo := lo) (hi := hi) (by omega) hv (by omega)
  refine ⟨⟨FS s rs ch (some (.val (.int x))) (some (.val (.int (sp : Nat)))) (some (.val (.int lo))), tpO t4 :: R⟩, rfl, ?_, t4, rs, _, _, _, rfl, k4, r2, by omega, fun _ => r1⟩
  unfold FS at *
  unfold Sn.A at *
  unfold BQ
  generalize ST1 = s1 at *
  generalize rA s.rows = RR at *
  generalize pA qs = P at *
  generalize pA rs = Q at *
  simp -implicitDefEqProofs [e1, e2, e3, e4, Pyx.atI_nat, hpick]
  exact e5 ▸ rfl
end
end K41
end
section
set_option maxRecDepth 100000
set_option maxHeartbeats 4000000
namespace K41
open PySem L2 Pyx
open PySem.Spec PyProof.Rows
section
variable {t : Tp} {d : Nat} {R : List SObj} {s : Sn}
def IF0 : MS := (sIf (mBool (eBin opEq (oVar 3) (oE (eCon (.int 0))))) (sSeq (sAsg 2 (eCall "_law_put" (aCons (eVar 2) (aCons (eBin opIx (oVar 1) (oE (eCon (.int 0)))) (aCons (eBin opAdd (oE (eBin opIx (oVar 1) (oE (eCon (.int 0))))) (oE (eCall "_law_draw" (aCons (eVar 0) (aCons (eCon (.int 2)) aNil))))) aNil))))) sSkip) sSkip)
def IF1 : MS := (sIf (mBool (eBin opEq (oVar 3) (oE (eCon (.int 1))))) (sSeq (sAsg 2 (eCall "_law_put" (aCons (eVar 2) (aCons (eBin opAdd (oE (eBin opIx (oVar 1) (oE (eCon (.int 0))))) (oE (eCon (.int 1)))) (aCons (eBin opAdd (oE (eBin opIx (oVar 1) (oE (eCon (.int 0))))) (oE (eBin opIx (oE (eFrz (fLst (aCons (eCon (.int 1)) (aCons (eCon (.int 2)) (aCons (eCon (.int 500000)) aNil)))))) (oE (eCall "_law_draw" (aCons (eVar 0) (aCons (eCon (.int 3)) aNil))))))) aNil))))) sSkip) sSkip)
def IF2 : MS := (sIf (mAnd (mBool (eBin opIn (oVar 3) (oE (eFrz (fLst (aCons (eCon (.int 2)) (aCons (eCon (.int 3)) aNil))))))) (mBool (eBin opGt (oE (eBin opIx (oVar 1) (oE (eCon (.int 0))))) (oE (eCon (.int 0)))))) (sSeq (sAsg 2 (eCall "_law_put" (aCons (eVar 2) (aCons (eBin opSub (oE (eBin opIx (oVar 1) (oE (eCon (.int 0))))) (oE (eCon (.int 1)))) (aCons (eBin opSub (oE (eBin opIx (oVar 1) (oE (eCon (.int 0))))) (oE (eCon (.int 1)))) aNil))))) sSkip) sSkip)
def B4 : MS := (sSeq (sAsg 2 (eCall "_law_put" (aCons (eVar 2) (aCons (eBin opSub (oE (eBin opSub (oE (eBin opIx (oVar 1) (oE (eCon (.int 0))))) (oE (eCon (.int 2))))) (oE (eBin opMul (oE (eCon (.int 2))) (oVar 4)))) (aCons (eBin opSub (oE (eBin opSub (oE (eBin opIx (oVar 1) (oE (eCon (.int 0))))) (oE (eCon (.int 2))))) (oE (eBin opMul (oE (eCon (.int 2))) (oVar 4)))) aNil))))) sSkip)
def IF4 : MS := (sIf (mAnd (mBool (eBin opEq (oVar 3) (oE (eCon (.int 4))))) (mBool (eBin opGt (oE (eBin opIx (oVar 1) (oE (eCon (.int 0))))) (oE (eCon (.int 2)))))) (sSeq (sForR asR1 (aCons (eBi biMin (osCons (oE (eCon (.int 20))) (osCons (oE (eBin opFdiv (oE (eBin opIx (oVar 1) (oE (eCon (.int 0))))) (oE (eCon (.int 2))))) osNil))) aNil) (.one 4) B4) sSkip) sSkip)
theorem if0 (hs : s.Ok) {ch : Int} {k : Nat} {a : AS} (hk : k ≤ 400) (hk0 : 0 < k) (h : Gd s R ch k a) : ∃ a', IF0 (lvl T (d + 2)) a = some (.nx, a') ∧ Gd s R ch (k + 1) a' := by
  obtain ⟨t, qs, x4, x5, x6, rfl, k0, hv, hq, hq0⟩ := h
  by_cases c : ch = 0
  · subst c
    obtain ⟨b, t1, e1, k1, _⟩ := s_draw (d + 1) k0 2 (by omega) R
    obtain ⟨rs, e5, r1, r2, r3⟩ := s_put (d := d + 1) (S := tpO t1 :: R) (ps := qs) (lo := (s.n : Int)) (hi := (s.n : Int) + (b : Int)) (by omega) hv (by omega)
    refine ⟨⟨FS s rs 0 x4 x5 x6, tpO t1 :: R⟩, ?_, t1, rs, _, _, _, rfl, k1, r2, by omega, fun _ => r1⟩
    unfold FS Sn.A IF0 at *
    generalize rA s.rows = RR at *
    generalize pA qs = P at *
    generalize pA rs = Q at *
    simp -implicitDefEqProofs [e1, e5]
  · refine ⟨⟨FS s qs ch x4 x5 x6, tpO t :: R⟩, ?_, t, qs, _, _, _, rfl, k0, hv, by omega, fun _ => hq0 hk0⟩
    unfold FS IF0 at *
    generalize s.A = SA at *
    generalize pA qs = P at *
    simp -implicitDefEqProofs [c]
theorem if1 (hs : s.Ok) {ch : Int} {k : Nat} {a : AS} (hk : k ≤ 400) (hk0 : 0 < k) (h : Gd s R ch k a) : ∃ a', IF1 (lvl T (d + 2)) a = some (.nx, a') ∧ Gd s R ch (k + 1) a' := by
  obtain ⟨t, qs, x4, x5, x6, rfl, k0, hv, hq, hq0⟩ := h
  by_cases c : ch = 1
  · subst c
    obtain ⟨i, t1, e1, k1, b1⟩ := s_draw (d + 1) k0 3 (by omega) R
    obtain ⟨v, hvm, hpick⟩ := pickL (xs := [1, 2, 500000]) (k := i) (by simp only [List.length_cons, List.length_nil]; omega)
    have hpick : ([.int 1, .int 2, .int 500000] : List AV)[i]? = some (.int v) := hpick
    have hv0 : 1 ≤ v := by
      simp only [List.mem_cons, List.not_mem_nil, or_false] at hvm
      rcases hvm with rfl | rfl | rfl <;> omega
    obtain ⟨rs, e5, r1, r2, r3⟩ := s_put (d := d + 1) (S := tpO t1 :: R) (ps := qs) (lo := (s.n : Int) + 1) (hi := (s.n : Int) + v) (by omega) hv (by omega)
    refine ⟨⟨FS s rs 1 x4 x5 x6, tpO t1 :: R⟩, ?_, t1, rs, _, _, _, rfl, k1, r2, by omega, fun _ => r1⟩
    unfold FS Sn.A IF1 at *
    generalize rA s.rows = RR at *
    generalize pA qs = P at *
    generalize pA rs = Q at *
    simp -implicitDefEqProofs [e1, e5, Pyx.atI_nat, hpick]
  · refine ⟨⟨FS s qs ch x4 x5 x6, tpO t :: R⟩, ?_, t, qs, _, _, _, rfl, k0, hv, by omega, fun _ => hq0 hk0⟩
    unfold FS IF1 at *
    generalize s.A = SA at *
    generalize pA qs = P at *
    simp -implicitDefEqProofs [c]
theorem in_23 {S : List SObj} {x : Int} : opIn S (.int x) (.lst [.int 2, .int 3]) = some (.bl (decide (x = 2) || decide (x = 3))) := by
  have e : inSeq (.int x) [.int 2, .int 3] = some (decide (x = 2) || decide (x = 3)) := by
    rw [inSeq_sm (j := 0) (k := 0) rfl (by intro y hy; simp only [List.mem_cons, List.not_mem_nil, or_false] at hy; rcases hy with rfl | rfl <;> rfl) (by omega)]
    have e1 : ∀ z : Int, (AV.int z).eqb (.int x) = decide (x = z) := fun z => by
      simp [AV.eqb, AV.pd, PyData.eqv, BEq.beq]
      by_cases q : x = z
      · subst q; simp
      · have q' : ¬ z = x := fun e => q e.symm
        simp [q, q']
    simp [e1]
  show (inSeq (.int x) [.int 2, .int 3]).map AV.bl = _
  rw [e]; rfl
theorem if2 (hs : s.Ok) {ch : Int} {k : Nat} {a : AS} (hk : k ≤ 400) (hk0 : 0 < k) (h : Gd s R ch k a) : ∃ a', IF2 (lvl T (d + 2)) a = some (.nx, a') ∧ Gd s R ch (k + 1) a' := by
  obtain ⟨t, qs, x4, x5, x6, rfl, k0, hv, hq, hq0⟩ := h
  have hin := in_23 (S := tpO t :: R) (x := ch)
  cases c : (decide (ch = 2) || decide (ch = 3)) with
  | true =>
    rw [c] at hin
    by_cases c2 : 0 < (s.n : Int)
    · obtain ⟨rs, e5, r1, r2, r3⟩ := s_put (d := d + 1) (S := tpO t :: R) (ps := qs) (lo := (s.n : Int) - 1) (hi := (s.n : Int) - 1) (by omega) hv (by omega)
      refine ⟨⟨FS s rs ch x4 x5 x6, tpO t :: R⟩, ?_, t, rs, _, _, _, rfl, k0, r2, by omega, fun _ => r1⟩
      unfold FS Sn.A IF2 at *
      generalize rA s.rows = RR at *
      generalize pA qs = P at *
      generalize pA rs = Q at *
      generalize (s.n : Int) = N at *
      simp -implicitDefEqProofs [hin, c2, e5]
    · refine ⟨⟨FS s qs ch x4 x5 x6, tpO t :: R⟩, ?_, t, qs, _, _, _, rfl, k0, hv, by omega, fun _ => hq0 hk0⟩
      unfold FS Sn.A IF2 at *
      generalize rA s.rows = RR at *
      generalize pA qs = P at *
      generalize (s.n : Int) = N at *
      simp -implicitDefEqProofs [hin, c2]
  | false =>
    rw [c] at hin
    refine ⟨⟨FS s qs ch x4 x5 x6, tpO t :: R⟩, ?_, t, qs, _, _, _, rfl, k0, hv, by omega, fun _ => hq0 hk0⟩
    unfold FS IF2 at *
    generalize s.A = SA at *
    generalize pA qs = P at *
    simp -implicitDefEqProofs [hin]
theorem b4 (hs : s.Ok) {ch : Int} {k : Nat} {a : AS} (hk : k ≤ 400) (x : Int) (h : Gd s R ch k a) : ∃ a1 a2, asgT (.one 4) (.int x) a = some a1 ∧ B4 (lvl T (d + 2)) a1 = some (.nx, a2) ∧ Gd s R ch (k + 1) a2 := by
  obtain ⟨t, qs, x4, x5, x6, rfl, k0, hv, hq, _⟩ := h
  obtain ⟨rs, e5, r1, r2, r3⟩ := s_put (d := d + 1) (S := tpO t :: R) (ps := qs) (lo := (s.n : Int) - 2 - 2 * x) (hi := (s.n : Int) - 2 - 2 * x) (by omega) hv (by omega)
  refine ⟨⟨FS s qs ch (some (.val (.int x))) x5 x6, tpO t :: R⟩, ⟨FS s rs ch (some (.val (.int x))) x5 x6, tpO t :: R⟩, rfl, ?_, t, rs, _, _, _, rfl, k0, r2, by omega, fun _ => r1⟩
  have hm := fun S => opMul_i (S := S) (x := 2) (y := x) (.inl (by decide))
  unfold FS Sn.A B4 at *
  generalize rA s.rows = RR at *
  generalize pA qs = P at *
  generalize pA rs = Q at *
  simp -implicitDefEqProofs [hm, e5]
theorem if4 (hs : s.Ok) (hn : s.n ≤ 1000000) {ch : Int} {k : Nat} {a : AS} (hk : k ≤ 300) (hk0 : 0 < k) (h : Gd s R ch k a) : ∃ a', IF4 (lvl T (d + 2)) a = some (.nx, a') ∧ Gd s R ch (k + 20) a' := by
  by_cases c : ch = 4 ∧ 2 < (s.n : Int)
  · obtain ⟨c1, c2⟩ := c
    subst c1
    obtain ⟨m, hm, hm2⟩ : ∃ m : Nat, (if (s.n : Int) / 2 < 20 then (s.n : Int) / 2 else 20) = (m : Int) ∧ m ≤ 20 := by
      by_cases q : (s.n : Int) / 2 < 20
      · rw [if_pos q]; exact ⟨((s.n : Int) / 2).toNat, by omega, by omega⟩
      · rw [if_neg q]; exact ⟨20, rfl, by omega⟩
    obtain ⟨a', e1, g⟩ := loopL_inv (tg := .one 4) (body := B4 (lvl T (d + 2))) (fun j a => Gd s R 4 j a ∧ k ≤ j) (xs := rgA 0 m) (n := k) (a := a) (fun j x a hx hI => by
      have hj : j < m := by
        have := (List.getElem?_eq_some_iff.mp hx).1
        rwa [rgA_length] at this
      rw [rgA0_get hj] at hx
      cases hx
      obtain ⟨a1, a2, q1, q2, q3⟩ := b4 (d := d) hs (by omega) (j : Int) hI.1
      exact ⟨a1, .nx, a2, q1, q2, .inl rfl, q3, by omega⟩) ⟨h, Nat.le_refl _⟩
    rw [rgA_length] at g
    have g2 := g.1.up (by omega) (show k + m ≤ k + 20 by omega)
    obtain ⟨t, qs, x4, x5, x6, rfl, k0, hv, hq, hq0⟩ := h
    refine ⟨a', ?_, g2⟩
    have lp : kFr asR1 (.one 4) B4 (lvl T (d + 2)) (some ([.int (m : Int)], ⟨FS s qs 4 x4 x5 x6, tpO t :: R⟩)) = some (.nx, a') := by
      rw [kFr_1 (by omega)]; exact e1
    have hf := fun S => opFdiv_i (S := S) (x := (s.n : Int)) (y := 2) (by decide)
    have hmn : ∀ S, biMin S [.int 20, .int ((s.n : Int) / 2)] = some (.int (m : Int)) := fun S => by rw [biMin_i, ← hm]
    clear e1 g g2 hm
    unfold IF4
    generalize B4 = bb at *
    unfold FS Sn.A at *
    generalize rA s.rows = RR at *
    generalize pA qs = P at *
    generalize (s.n : Int) = N at *
    simp -implicitDefEqProofs [c2, hf, hmn, lp, -biMin_i]
  · refine ⟨a, ?_, h.up hk0 (by omega)⟩
    obtain ⟨t, qs, x4, x5, x6, rfl, k0, hv, hq, hq0⟩ := h
    unfold IF4
    generalize B4 = bb at *
    unfold FS Sn.A at *
    generalize rA s.rows = RR at *
    generalize pA qs = P at *
    generalize (s.n : Int) = N at *
    by_cases c1 : ch = 4
    · have c2 : ¬ 2 < N := fun q => c ⟨c1, q⟩
      simp -implicitDefEqProofs [c1, c2]
    · simp -implicitDefEqProofs [c1]
end
end K41
end
section
set_option maxRecDepth 100000
set_option maxHeartbeats 4000000
namespace K41
open PySem L2 Pyx
open PySem.Spec PyProof.Rows
theorem cut_end {ps : List Pr} (h : ps ≠ []) {k : Nat} (hk : 0 < k) : ∃ ms, cutA (pA ps) (some (-(k : Int))) none = pA ms ∧ ms ≠ [] ∧ ms.length ≤ ps.length ∧ ∀ m ∈ ms, m ∈ ps := by
  have hl : 0 < ps.length := List.length_pos_iff.mpr h
  refine ⟨ps.drop (ps.length - k), ?_, ?_, ?_, fun m hm => List.mem_of_mem_drop hm⟩
  · have e1 : HT.sIx (pA ps).length 0 (some (-(k : Int))) = ps.length - k := by
      show (if -(k : Int) < 0 then (-(k : Int) + ((pA ps).length : Int)).toNat else _) = _
      rw [if_pos (by omega), List.length_map]
      omega
    unfold cutA
    rw [e1, HT.sIx_none, ← List.map_drop, List.take_of_length_le (by simp)]
  · intro e
    have := congrArg List.length e
    rw [List.length_drop] at this
    simp only [List.length_nil] at this
    omega
  · rw [List.length_drop]; omega
section
variable {t : Tp} {d : Nat} {R : List SObj} {s : Sn}
theorem s_some (hs : s.Ok) (hn : s.n ≤ 1000000) (ht : t.Ok) : ∃ ps t', lvl T (d + 3) "_law_some_report" [.ref 0, s.A] (tpO t :: R) = some (.tup (pA ps), tpO t' :: R) ∧ t'.Ok ∧ ps ≠ [] ∧ Vd ps ∧ ps.length ≤ 100 := by
  obtain ⟨ch, t1, e1, k1, _⟩ := s_draw (d + 1) ht 10 (by omega) R
  obtain ⟨m, t2, e2, k2, b2⟩ := s_draw (d + 1) k1 3 (by omega) R
  have g0 : Gd s R (ch : Int) 0 ⟨FS s [] (ch : Int) none none none, tpO t2 :: R⟩ := ⟨t2, [], none, none, none, rfl, k2, fun p hp => (by cases hp), Nat.le_refl _, fun h => absurd h (Nat.lt_irrefl _)⟩
  obtain ⟨a1, e3, g1⟩ := loopL_inv (tg := .one 4) (body := BQ (lvl T (d + 2))) (fun j a => Gd s R (ch : Int) j a) (xs := rgA 0 (1 + m)) (n := 0) (a := ⟨FS s [] (ch : Int) none none none, tpO t2 :: R⟩) (fun j x a hx hI => by
    have hj : j < 1 + m := by
      have := (List.getElem?_eq_some_iff.mp hx).1
      rwa [rgA_length] at this
    rw [Nat.zero_add] at hI
    rw [rgA0_get hj] at hx
    cases hx
    obtain ⟨a1, a2, q1, q2, q3⟩ := bq (d := d) hs hn (k := j) (by omega) (j : Int) hI
    exact ⟨a1, .nx, a2, q1, q2, .inl rfl, by rw [Nat.zero_add]; exact q3⟩) g0
  rw [rgA_length, Nat.zero_add] at g1
  obtain ⟨a2, e4, g2⟩ := if0 (d := d) hs (by omega) (by omega) g1
  obtain ⟨a3, e5, g3⟩ := if1 (d := d) hs (by omega) (by omega) g2
  obtain ⟨a4, e6, g4⟩ := if2 (d := d) hs (by omega) (by omega) g3
  obtain ⟨a5, e7, g5⟩ := if4 (d := d) hs hn (by omega) (by omega) g4
  obtain ⟨t6, qs, x4, x5, x6, rfl, k6, hv, hq, hq0⟩ := g5
  obtain ⟨ms, c1, c2, c3, c4⟩ := cut_end (hq0 (by omega)) (k := 20) (by omega)
  have c1 : cutA (pA qs) (some (-20)) none = pA ms := c1
  refine ⟨ms, t6, ?_, k6, c2, fun p hp => hv p (c4 p hp), by omega⟩
  have lp : kFr asR1 (.one 4) BQ (lvl T (d + 2)) (some ([.int ((1 + m : Nat) : Int)], ⟨FS s [] (ch : Int) none none none, tpO t2 :: R⟩)) = some (.nx, a1) := by
    rw [kFr_1 (by omega)]; exact e3
  have hc : ((1 + m : Nat) : Int) = 1 + (m : Int) := by omega
  rw [hc] at lp
  have hB : b__law_some_report = sSeq (sAsg 2 (eTup aNil)) (sSeq (sAsg 3 (eCall "_law_draw" (aCons (eVar 0) (aCons (eCon (.int 10)) aNil)))) (sSeq (sForR asR1 (aCons (eBin opAdd (oE (eCon (.int 1))) (oE (eCall "_law_draw" (aCons (eVar 0) (aCons (eCon (.int 3)) aNil))))) aNil) (.one 4) BQ) (sSeq IF0 (sSeq IF1 (sSeq IF2 (sSeq IF4 (sSeq (sRet (eSl (oVar 2) (pSome (eNeg (oE (eCon (.int 20))))) pNone)) sSkip))))))) := rfl
  rw [l__law_some_report, hB]
  clear hB e3 g0 g1 g2 g3 g4 c4
  generalize BQ = q1 at *
  generalize IF0 = q2 at *
  generalize IF1 = q3 at *
  generalize IF2 = q4 at *
  generalize IF4 = q5 at *
  have fs0 : FS s [] (ch : Int) none none none = [some (.val (.ref 0)), some (.val s.A), some (.val (.tup [])), some (.val (.int ch)), none, none, none] := rfl
  rw [fs0] at lp
  have fs1 : FS s qs (ch : Int) x4 x5 x6 = [some (.val (.ref 0)), some (.val s.A), some (.val (.tup (pA qs))), some (.val (.int ch)), x4, x5, x6] := rfl
  rw [fs1] at e7
  generalize s.A = SA at *
  generalize pA qs = Q at *
  generalize pA ms = M at *
  simp -implicitDefEqProofs [frame, e1, e2, lp, e4, e5, e6, e7, opNeg, c1]
end
end K41
end
section
set_option maxRecDepth 100000
set_option maxHeartbeats 4000000
namespace K41
open PySem L2 Pyx
open PySem.Spec PyProof.Rows
def Rs.Sm : Rs → Prop
  | .pk p => p.cs.length ≤ 3
  | .rp ps => ps.length ≤ 100 ∧ Vd ps
  | .lk _ _ => True
  | .no => True
theorem frs_of : ∀ {vs : List AV}, (∀ v ∈ vs, ∃ f : Fr, f.Ok ∧ v = f.A) → ∃ cs : List Fr, vs = fA cs ∧ ∀ f ∈ cs, f.Ok
  | [], _ => ⟨[], rfl, fun f hf => by cases hf⟩
  | v :: vs, h => by
    obtain ⟨f, h1, rfl⟩ := h v List.mem_cons_self
    obtain ⟨cs, rfl, h2⟩ := frs_of fun w hw => h w (List.mem_cons_of_mem _ hw)
    exact ⟨f :: cs, rfl, fun g hg => by
      rcases List.mem_cons.mp hg with rfl | hg
      · exact h1
      · exact h2 g hg⟩
section
variable {t : Tp} {d : Nat} {R : List SObj} {s : Sn} {ws : List Int} {now : Int}
theorem s_rest (hs : s.Ok) (hn : s.n ≤ 1000000) (ht : t.Ok) (hw : ws.length = 3) {door : Nat} (hd : door ≤ 3) : ∃ r t', lvl T (d + 4) "_law_rest" [.ref 0, .int (door : Nat), s.A, .int now, .ref 1] [tpO t, .lst (wA ws)] = some (Rs.A r, [tpO t', .lst (wA ws)]) ∧ t'.Ok ∧ r.door = door ∧ r.Ok ∧ r.Sm := by
  have hc : door = 0 ∨ door = 1 ∨ door = 2 ∨ door = 3 := by omega
  rcases hc with rfl | rfl | rfl | rfl
  · obtain ⟨i, t1, e1, k1, b1⟩ := s_draw (d + 2) ht 6 (by omega) [.lst (wA ws)]
    obtain ⟨n, hnm, hpick⟩ : ∃ n : Nat, n ≤ 3 ∧ ([.int 1, .int 1, .int 2, .int 2, .int 3, .int 0] : List AV)[i]? = some (.int (n : Int)) := by
      have : i = 0 ∨ i = 1 ∨ i = 2 ∨ i = 3 ∨ i = 4 ∨ i = 5 := by omega
      rcases this with rfl | rfl | rfl | rfl | rfl | rfl
      · exact ⟨1, by omega, rfl⟩
      · exact ⟨1, by omega, rfl⟩
      · exact ⟨2, by omega, rfl⟩
      · exact ⟨2, by omega, rfl⟩
      · exact ⟨3, by omega, rfl⟩
      · exact ⟨0, by omega, rfl⟩
    obtain ⟨vs, S', e2, l2, p2, t2, hS, k2⟩ := compR_st (G := lvl T (d + 3)) (ρ := [some (.val (.ref 0)), some (.val (.int 0)), some (.val s.A), some (.val (.int now)), some (.val (.ref 1)), none, none]) (i := 6) (elt := eCall "_law_frame" (aCons (eVar 0) aNil)) (S := [tpO t1, .lst (wA ws)]) (n := n)
      (fun _ S => ∃ t, S = [tpO t, .lst (wA ws)] ∧ Tp.Ok t) (fun v => ∃ f : Fr, f.Ok ∧ v = f.A) rfl ⟨t1, rfl, k1⟩ (by omega) (fun k S hk ⟨t, hS, ht⟩ => by
        subst hS
        obtain ⟨f, t', q1, q2, q3⟩ := s_frame (d := d) (R := [.lst (wA ws)]) ht
        refine ⟨f.A, [tpO t', .lst (wA ws)], ?_, ⟨f, q3, rfl⟩, t', rfl, q2⟩
        generalize f.A = fa at *
        generalize s.A = SA at *
        generalize wA ws = W at *
        simp -implicitDefEqProofs [q1])
    subst hS
    obtain ⟨cs, rfl, hcs⟩ := frs_of p2
    obtain ⟨a, t3, e3, k3, _⟩ := s_draw (d + 2) k2 96 (by omega) [.lst (wA ws)]
    obtain ⟨p, t4, e4, k4, b4⟩ := s_draw (d + 2) k3 3 (by omega) [.lst (wA ws)]
    obtain ⟨c, t5, e5, k5, _⟩ := s_draw (d + 2) k4 60 (by omega) [.lst (wA ws)]
    have hl : cs.length ≤ 3 := by have : (fA cs).length = cs.length := List.length_map ..; omega
    refine ⟨.pk ⟨now, 5 + (a : Int), p, (c : Int), cs⟩, t5, ?_, k5, rfl, ⟨by show p < 3; omega, hcs, by show cs.length ≤ 10; omega⟩, hl⟩
    rw [l__law_rest]
    simp only [Rs.A, Pk.A]
    generalize fA cs = CC at *
    generalize s.A = SA at *
    generalize wA ws = W at *
    simp -implicitDefEqProofs [b__law_rest, frame, e1, Pyx.atI_nat, hpick, e2, e3, e4, e5]
  · obtain ⟨ps, t1, e1, k1, q1, q2, q3⟩ := s_some (d := d) (R := [.lst (wA ws)]) hs hn ht
    refine ⟨.rp ps, t1, ?_, k1, rfl, ⟨q1, by omega⟩, q3, q2⟩
    rw [l__law_rest]
    simp only [Rs.A]
    generalize pA ps = P at *
    generalize s.A = SA at *
    generalize wA ws = W at *
    simp -implicitDefEqProofs [b__law_rest, frame, e1]
  · refine ⟨.lk now ws, t, ?_, ht, rfl, hw, trivial⟩
    rw [l__law_rest]
    simp only [Rs.A]
    generalize s.A = SA at *
    generalize wA ws = W at *
    simp -implicitDefEqProofs [b__law_rest, frame]
  · refine ⟨.no, t, ?_, ht, rfl, trivial, trivial⟩
    rw [l__law_rest]
    simp only [Rs.A]
    generalize s.A = SA at *
    generalize wA ws = W at *
    simp -implicitDefEqProofs [b__law_rest, frame]
end
end K41
end
section
set_option maxRecDepth 100000
set_option maxHeartbeats 600000
namespace K41
open PySem L2 Pyx
open PySem.Spec PyProof.Rows
section
variable {t : Tp} {d : Nat} {R : List SObj} {s : Sn} {ws : List Int} {now : Int} {r : Rs}
def ackF : Fr := ⟨"ack", [.int 3, .tup [.tup [.int 0, .int 4]]]⟩
theorem ackF_ok : ackF.Ok := ⟨ok_ack, fun x hx => by
  simp only [ackF, List.mem_cons, List.not_mem_nil, or_false] at hx
  rcases hx with rfl | rfl
  · rfl
  · simp [cn], by simp [ackF]⟩
theorem cut5a {a b c d e : AV} : cutA [a, b, c, d, e] none (some 0) = [] ∧ cutA [a, b, c, d, e] none (some 1) = [a] ∧ cutA [a, b, c, d, e] none (some 2) = [a, b] ∧ cutA [a, b, c, d, e] none (some 3) = [a, b, c] ∧ cutA [a, b, c, d, e] none (some 4) = [a, b, c, d] := ⟨rfl, rfl, rfl, rfl, rfl⟩
theorem cut5b {a b c d e : AV} : cutA [a, b, c, d, e] (some 1) none = [b, c, d, e] ∧ cutA [a, b, c, d, e] (some 2) none = [c, d, e] ∧ cutA [a, b, c, d, e] (some 3) none = [d, e] ∧ cutA [a, b, c, d, e] (some 4) none = [e] ∧ cutA [a, b, c, d, e] (some 5) none = [] := ⟨rfl, rfl, rfl, rfl, rfl⟩
theorem cut3a {a b c : AV} : cutA [a, b, c] none (some 0) = [] ∧ cutA [a, b, c] none (some 1) = [a] ∧ cutA [a, b, c] none (some 2) = [a, b] := ⟨rfl, rfl, rfl⟩
theorem cut3b {a b c : AV} : cutA [a, b, c] (some 1) none = [b, c] ∧ cutA [a, b, c] (some 2) none = [c] ∧ cutA [a, b, c] (some 3) none = [] := ⟨rfl, rfl, rfl⟩
theorem changed_pk {p : Pk} (ht : t.Ok) (hp : p.Ok) (hl : p.cs.length ≤ 3) : ∃ p' t', lvl T (d + 2) "_law_changed" [.ref 0, .int 0, p.A] (tpO t :: R) = some (Pk.A p', tpO t' :: R) ∧ t'.Ok ∧ p'.Ok := by
  obtain ⟨k, t1, e1, k1, b1⟩ := s_draw d ht 5 (by omega) R
  have c5 : (fA p.cs).length + 1 ≤ 100000 := by simp only [List.length_map]; omega
  have ea : fA (p.cs ++ [ackF]) = fA p.cs ++ [.tup [.str "ack", .int 3, .tup [.tup [.int 0, .int 4]]]] := by simp [ackF, Fr.A]
  have ep : (((p.path + 1) % 3 : Nat) : Int) = ((p.path : Int) + 1) % 3 := by omega
  have okA : Pk.Ok ⟨p.time, p.size, p.path, p.serial, p.cs ++ [ackF]⟩ := by
    refine ⟨hp.pt, fun f hf => ?_, by show (p.cs ++ [ackF]).length ≤ 10; simp; omega⟩
    rcases List.mem_append.mp hf with h | h
    · exact hp.c f h
    · rw [List.mem_singleton.mp h]; exact ackF_ok
  have hA : ∀ (a b : Int) (q : Nat) (c : Int) (cs : List Fr), Pk.A ⟨a, b, q, c, cs⟩ = .tup [.int a, .int b, .int (q : Nat), .int c, .tup (fA cs)] := fun _ _ _ _ _ => rfl
  have hA0 : p.A = .tup [.int p.time, .int p.size, .int (p.path : Nat), .int p.serial, .tup (fA p.cs)] := rfl
  have hk : k = 0 ∨ k = 1 ∨ k = 2 ∨ k = 3 ∨ k = 4 := by omega
  have hm := fun S => opMod_i (S := S) (x := (p.path : Int) + 1) (y := 3) (by decide)
  have o5 : ∀ S, opAdd S (.tup (fA p.cs)) (.tup [.tup [.str "ack", .int 3, .tup [.tup [.int 0, .int 4]]]]) = some (.tup (fA p.cs ++ [.tup [.str "ack", .int 3, .tup [.tup [.int 0, .int 4]]]])) := fun S => opAdd_t (by simpa using c5)
  rw [hA0]
  rcases hk with rfl | rfl | rfl | rfl | rfl
  · refine ⟨⟨if 1000000 < p.time + 1 then 1000000 else p.time + 1, p.size, p.path, p.serial, p.cs⟩, t1, ?_, k1, ⟨hp.pt, hp.c, hp.l⟩⟩
    rw [l__law_changed]
    simp only [hA]
    generalize fA p.cs = CC at *
    by_cases c : 5 < p.size
    · simp -implicitDefEqProofs [b__law_changed, frame, e1, hm, c, o5, cut5a, cut5b]
    · simp -implicitDefEqProofs [b__law_changed, frame, e1, hm, c, o5, cut5a, cut5b]
  · refine ⟨⟨p.time, if 5 < p.size then p.size - 1 else 6, p.path, p.serial, p.cs⟩, t1, ?_, k1, ⟨hp.pt, hp.c, hp.l⟩⟩
    rw [l__law_changed]
    simp only [hA]
    generalize fA p.cs = CC at *
    by_cases c : 5 < p.size
    · simp -implicitDefEqProofs [b__law_changed, frame, e1, hm, c, o5, cut5a, cut5b]
    · simp -implicitDefEqProofs [b__law_changed, frame, e1, hm, c, o5, cut5a, cut5b]
  · refine ⟨⟨p.time, p.size, (p.path + 1) % 3, p.serial, p.cs⟩, t1, ?_, k1, ⟨Nat.mod_lt _ (by omega), hp.c, hp.l⟩⟩
    rw [l__law_changed]
    simp only [hA, ep]
    generalize fA p.cs = CC at *
    by_cases c : 5 < p.size
    · simp -implicitDefEqProofs [b__law_changed, frame, e1, hm, c, o5, cut5a, cut5b]
    · simp -implicitDefEqProofs [b__law_changed, frame, e1, hm, c, o5, cut5a, cut5b]
  · refine ⟨⟨p.time, p.size, p.path, p.serial + 1, p.cs⟩, t1, ?_, k1, ⟨hp.pt, hp.c, hp.l⟩⟩
    rw [l__law_changed]
    simp only [hA]
    generalize fA p.cs = CC at *
    by_cases c : 5 < p.size
    · simp -implicitDefEqProofs [b__law_changed, frame, e1, hm, c, o5, cut5a, cut5b]
    · simp -implicitDefEqProofs [b__law_changed, frame, e1, hm, c, o5, cut5a, cut5b]
  · refine ⟨⟨p.time, p.size, p.path, p.serial, p.cs ++ [ackF]⟩, t1, ?_, k1, okA⟩
    rw [l__law_changed]
    simp only [hA, ea]
    generalize fA p.cs = CC at *
    by_cases c : 5 < p.size
    · simp -implicitDefEqProofs [b__law_changed, frame, e1, hm, c, o5, cut5a, cut5b]
    · simp -implicitDefEqProofs [b__law_changed, frame, e1, hm, c, o5, cut5a, cut5b]
theorem s_changed (ht : t.Ok) (hr : r.Ok) (hm : r.Sm) : ∃ r' t', lvl T (d + 2) "_law_changed" [.ref 0, .int (r.door : Nat), r.A] (tpO t :: R) = some (Rs.A r', tpO t' :: R) ∧ t'.Ok ∧ r'.door = r.door ∧ r'.Ok := by
  cases r with
  | pk p =>
    obtain ⟨p', t', h1, h2, h3⟩ := changed_pk (d := d) (R := R) ht hr hm
    exact ⟨.pk p', t', h1, h2, rfl, h3⟩
  | rp ps =>
    obtain ⟨b, t1, e1, k1, _⟩ := s_draw d ht 2 (by omega) R
    by_cases c : b = 0
    · subst c
      obtain ⟨qs, e2, q1, q2, q3⟩ := s_put (d := d) (S := tpO t1 :: R) (ps := ps) (lo := lastP ps + 1) (hi := lastP ps + 1) (by have := hm.1; omega) hm.2 (by omega)
      refine ⟨.rp qs, t1, ?_, k1, rfl, q1, by have := hm.1; omega⟩
      obtain ⟨l0, hlast⟩ := last_A hr.1
      rw [l__law_changed]
      simp only [Rs.A, Rs.door]
      generalize pA ps = P at *
      generalize pA qs = Q at *
      generalize lastP ps = L at *
      simp -implicitDefEqProofs [b__law_changed, frame, e1, opNeg, hlast, e2]
    · obtain ⟨ms, c1, c2, c3, c4⟩ := cut_end hr.1 (k := 1) (by omega)
      have c1 : cutA (pA ps) (some (-1)) none = pA ms := c1
      have c' : ¬ (b : Int) = 0 := by omega
      refine ⟨.rp ms, t1, ?_, k1, rfl, c2, by have := hm.1; omega⟩
      rw [l__law_changed]
      simp only [Rs.A, Rs.door]
      generalize pA ps = P at *
      generalize pA ms = Q at *
      simp -implicitDefEqProofs [b__law_changed, frame, e1, opNeg, c, c', c1]
  | lk now ws =>
    obtain ⟨b, t1, e1, k1, _⟩ := s_draw d ht 2 (by omega) R
    have hw : ws.length = 3 := hr
    obtain ⟨w0, w1, w2, rfl⟩ : ∃ a b c, ws = [a, b, c] := by
      match ws, hw with
      | [a, b, c], _ => exact ⟨a, b, c, rfl⟩
    by_cases c : b = 0
    · subst c
      obtain ⟨x, t2, e2, k2, _⟩ := s_draw d k1 30 (by omega) R
      refine ⟨.lk (if 1000000 < now + 1 + (x : Int) then 1000000 else now + 1 + (x : Int)) [w0, w1, w2], t2, ?_, k2, rfl, rfl⟩
      rw [l__law_changed]
      simp only [Rs.A, Rs.door]
      simp -implicitDefEqProofs [b__law_changed, frame, e1, e2]
    · obtain ⟨k, t2, e2, k2, b2⟩ := s_draw d k1 3 (by omega) R
      obtain ⟨x, t3, e3, k3, _⟩ := s_draw d k2 50 (by omega) R
      have c' : ¬ (b : Int) = 0 := by omega
      have hk : k = 0 ∨ k = 1 ∨ k = 2 := by omega
      rcases hk with rfl | rfl | rfl
      · refine ⟨.lk now [1 + (x : Int), w1, w2], t3, ?_, k3, rfl, rfl⟩
        rw [l__law_changed]
        simp only [Rs.A, Rs.door]
        simp -implicitDefEqProofs [b__law_changed, frame, e1, e2, e3, c, c', cut3a, cut3b]
      · refine ⟨.lk now [w0, 1 + (x : Int), w2], t3, ?_, k3, rfl, rfl⟩
        rw [l__law_changed]
        simp only [Rs.A, Rs.door]
        simp -implicitDefEqProofs [b__law_changed, frame, e1, e2, e3, c, c', cut3a, cut3b]
      · refine ⟨.lk now [w0, w1, 1 + (x : Int)], t3, ?_, k3, rfl, rfl⟩
        rw [l__law_changed]
        simp only [Rs.A, Rs.door]
        simp -implicitDefEqProofs [b__law_changed, frame, e1, e2, e3, c, c', cut3a, cut3b]
  | no =>
    refine ⟨.no, t, ?_, ht, rfl, trivial⟩
    rw [l__law_changed]
    simp only [Rs.A, Rs.door]
    simp -implicitDefEqProofs [b__law_changed, frame]
end
end K41
end
section
set_option maxRecDepth 100000
set_option maxHeartbeats 1000000
namespace K41
open PySem L2 Pyx
open PySem.Spec PyProof.Rows
section
variable {t : Tp} {d : Nat} {S R : List SObj} {s : Sn} {ws : List Int} {now : Int} {r : Rs}
theorem s_equal {v : AV} {xs : List AV} (hv : v = .tup xs) (h : sm 8 v = true) : lvl T (d + 1) "_law_equal" [v, v] S = some (.bl true, S) := by
  have he := opEq_refl (S := S) h (by omega)
  subst hv
  rw [l__law_equal]
  simp -implicitDefEqProofs [b__law_equal, frame, he]
def BB : MS := (sSeq (sAsg 6 (eCall "look" (aCons (eVar 1) (aCons (eVar 5) (aCons (eBi biTuple (osCons (oVar 3) osNil)) aNil))))) (sSeq (sIf (mNot (mTru (oE (eCall "_law_equal" (aCons (eVar 6) (aCons (eCall "_law_looks" (aCons (eVar 1) (aCons (eVar 5) (aCons (eBi biTuple (osCons (oVar 3) osNil)) aNil)))) aNil)))))) (sSeq (sRet (eCon (.bl false))) sSkip) sSkip) sSkip))
def FB (s : Sn) (now x y : Int) (x5 x6 : Option Slt) : List (Option Slt) := [some (.val (.ref 0)), some (.val s.A), some (.val (.int now)), some (.val (.ref 1)), some (.val (.lst [.int x, .int y])), x5, x6, none]
theorem bb (hs : s.Ok) (hw : ws.length = 3) (x y z : Int) (x6 : Option Slt) : BB (lvl T (d + 3)) ⟨FB s now x y (some (.val (.int z))) x6, [tpO t, .lst (wA ws)]⟩ = some (.nx, ⟨FB s now x y (some (.val (.int z))) (some (.val (lookA (s.look z ws)))), [tpO t, .lst (wA ws)]⟩) := by
  have h1 := s_look (d := d + 1) (S := [tpO t, .lst (wA ws)]) (now := z) (ws := ws) hs hw
  have h2 := s_law_looks (d := d + 2) (S := [tpO t, .lst (wA ws)]) (now := z) (ws := ws) hs hw
  obtain ⟨q1, _, q2, q3⟩ := look_ok (now := z) (ws := ws) hs
  have h3 := s_equal (d := d + 2) (S := [tpO t, .lst (wA ws)]) (v := lookA (s.look z ws)) rfl (two_sm q1 q2 q3)
  unfold BB FB
  generalize lookA (s.look z ws) = L at *
  generalize s.A = SA at *
  generalize wA ws = W at *
  simp -implicitDefEqProofs [h1, h2, h3]
theorem s_beside (hs : s.Ok) (ht : t.Ok) (hw : ws.length = 3) : ∃ t', lvl T (d + 4) "_law_beside" [.ref 0, s.A, .int now, .ref 1] [tpO t, .lst (wA ws)] = some (.bl true, [tpO t', .lst (wA ws)]) ∧ t'.Ok := by
  obtain ⟨c, t1, e1, k1, _⟩ := s_draw (d + 2) ht 60 (by omega) [.lst (wA ws)]
  refine ⟨t1, ?_, k1⟩
  have fin : ∀ x y : Int, kFo (.one 5) BB (lvl T (d + 3)) (some (.lst [.int (if 1000000 < x then 1000000 else x), .int (if 1000000 < y then 1000000 else y)], ⟨FB s now x y none none, [tpO t1, .lst (wA ws)]⟩)) = some (.nx, ⟨FB s now x y (some (.val (.int (if 1000000 < y then 1000000 else y)))) (some (.val (lookA (s.look (if 1000000 < y then 1000000 else y) ws)))), [tpO t1, .lst (wA ws)]⟩) := fun x y => by
    have st1 := fun x6 => bb (t := t1) (d := d) (now := now) hs hw x y (if 1000000 < x then 1000000 else x) x6
    have st2 := fun x6 => bb (t := t1) (d := d) (now := now) hs hw x y (if 1000000 < y then 1000000 else y) x6
    generalize (if 1000000 < x then 1000000 else x) = xx at *
    generalize (if 1000000 < y then 1000000 else y) = yy at *
    show ((asgT (.one 5) (.int xx) (⟨FB s now x y none none, [tpO t1, .lst (wA ws)]⟩ : AS)).bind fun a' => (BB (lvl T (d + 3)) a').bind (turn (loopL (.one 5) (BB (lvl T (d + 3))) [.int yy]))) = _
    have ea : asgT (.one 5) (.int xx) (⟨FB s now x y none none, [tpO t1, .lst (wA ws)]⟩ : AS) = some ⟨FB s now x y (some (.val (.int xx))) none, [tpO t1, .lst (wA ws)]⟩ := rfl
    rw [ea, Option.bind_some, st1, Option.bind_some]
    show ((asgT (.one 5) (.int yy) (⟨FB s now x y (some (.val (.int xx))) (some (.val (lookA (s.look xx ws)))), [tpO t1, .lst (wA ws)]⟩ : AS)).bind fun a' => (BB (lvl T (d + 3)) a').bind (turn (loopL (.one 5) (BB (lvl T (d + 3))) []))) = _
    have eb : asgT (.one 5) (.int yy) (⟨FB s now x y (some (.val (.int xx))) (some (.val (lookA (s.look xx ws)))), [tpO t1, .lst (wA ws)]⟩ : AS) = some ⟨FB s now x y (some (.val (.int yy))) (some (.val (lookA (s.look xx ws)))), [tpO t1, .lst (wA ws)]⟩ := rfl
    rw [eb, Option.bind_some, st2, Option.bind_some]
    rfl
  have cp : ∀ x y : Int, kFc [7] (.one 7) mTrue (eBi biMin (osCons (oVar 7) (osCons (oE (eCon (.int 1000000))) osNil))) (lvl T (d + 3)) (some (.lst [.int x, .int y], ⟨FB s now x y none none, [tpO t1, .lst (wA ws)]⟩)) = some ([.int (if 1000000 < x then 1000000 else x), .int (if 1000000 < y then 1000000 else y)], ⟨FB s now x y none none, [tpO t1, .lst (wA ws)]⟩) := fun x y => by
    have := comp_map (G := lvl T (d + 3)) (A := AV.int) (l := [x, y]) (i := 7) (ρ := FB s now x y none none) (S := [tpO t1, .lst (wA ws)]) (tst := mTrue) (elt := eBi biMin (osCons (oVar 7) (osCons (oE (eCon (.int 1000000))) osNil))) (p := fun _ => true) (g := fun z => .int (if 1000000 < z then 1000000 else z)) (v := .lst [.int x, .int y]) (.inl rfl) rfl
      (fun z _ => rfl) (fun z _ _ => by
        unfold FB
        generalize s.A = SA
        generalize wA ws = W
        simp -implicitDefEqProofs) (by simp)
    exact this
  have hB : b__law_beside = (sSeq (sAsg 4 (eFrz (fLst (aCons (eVar 2) (aCons (eBin opAdd (oVar 2) (oE (eCall "_law_draw" (aCons (eVar 0) (aCons (eCon (.int 60)) aNil))))) aNil))))) (sSeq (sIf (mBool (eBin opIsN (oE (eBin opIx (oVar 1) (oE (eCon (.int 3))))) (oE (eCon .non)))) (sSeq (sAsg 4 (eFrz (fLst (aCons (eBi biMax (osCons (oE (eBin opSub (oE (eBin opIx (oVar 1) (oE (eCon (.int 3))))) (oE (eCon (.int 1))))) (osCons (oVar 2) osNil))) (aCons (eBi biMax (osCons (oE (eBin opIx (oVar 1) (oE (eCon (.int 3))))) (osCons (oVar 2) osNil))) aNil))))) sSkip) sSkip) (sSeq (sForV (eFrz (fComp (eVar 4) [7] (.one 7) mTrue (eBi biMin (osCons (oVar 7) (osCons (oE (eCon (.int 1000000))) osNil))))) (.one 5) BB) (sSeq (sRet (eCon (.bl true))) sSkip)))) := rfl
  rw [l__law_beside, hB]
  clear hB
  unfold FB at fin cp
  cases hd : s.due with
  | none =>
    have fin := fin now (now + (c : Int))
    have cp := cp now (now + (c : Int))
    generalize lookA _ = L at fin
    unfold Sn.A at *
    rw [hd] at fin cp ⊢
    simp only [oA_n] at *
    generalize BB = bb at *
    generalize rA s.rows = RR at *
    generalize oA s.top = TT at *
    generalize wA ws = W at *
    simp -implicitDefEqProofs [frame, e1, cp, fin]
  | some u =>
    have fin := fin (if now > u - 1 then now else u - 1) (if now > u then now else u)
    have cp := cp (if now > u - 1 then now else u - 1) (if now > u then now else u)
    generalize lookA _ = L at fin
    unfold Sn.A at *
    rw [hd] at fin cp ⊢
    simp only [oA_i] at *
    generalize BB = bb at *
    generalize rA s.rows = RR at *
    generalize oA s.top = TT at *
    generalize wA ws = W at *
    simp -implicitDefEqProofs [frame, e1, cp, fin]
/-! ### asked again -/
def Kp (x : AV) : Prop := ∃ (s : Sn) (r : Rs), x = .tup [.int (r.door : Nat), s.A, r.A] ∧ s.Ok ∧ s.rows.length ≤ 900 ∧ r.Ok
def BA : MS := (sSeq (sUnp [3, 4, 5] (eBin opIx (oVar 1) (oE (eCall "_law_draw" (aCons (eVar 0) (aCons (eBi biLen (osCons (oVar 1) osNil)) aNil)))))) (sSeq (sIf (mNot (mTru (oE (eCall "_law_same" (aCons (eCall "_law_told" (aCons (eVar 3) (aCons (eVar 4) (aCons (eVar 5) aNil)))) (aCons (eCall "_law_due" (aCons (eVar 3) (aCons (eVar 4) (aCons (eVar 5) aNil)))) aNil)))))) (sSeq (sRet (eCon (.bl false))) sSkip) sSkip) sSkip))
theorem ba {ks : List AV} (hk : ∀ x ∈ ks, Kp x) (h0 : ks ≠ []) (hl : ks.length ≤ 100000) (ht : t.Ok) (x2 x3 x4 x5 : Option Slt) : ∃ t' y3 y4 y5, BA (lvl T (d + 9)) ⟨[some (.val (.ref 0)), some (.val (.lst ks)), x2, x3, x4, x5], tpO t :: R⟩ = some (.nx, ⟨[some (.val (.ref 0)), some (.val (.lst ks)), x2, y3, y4, y5], tpO t' :: R⟩) ∧ t'.Ok := by
  have hp : 0 < ks.length := List.length_pos_iff.mpr h0
  obtain ⟨i, t1, e1, k1, b1⟩ := s_draw (d + 8) ht (ks.length : Nat) (by omega) R
  have hi : i < ks.length := by omega
  obtain ⟨s, r, hx, hs, hsl, hr⟩ := hk _ (List.getElem_mem hi)
  have hg : ks[i]? = some (.tup [.int (r.door : Nat), s.A, r.A]) := by rw [List.getElem?_eq_getElem hi, hx]
  have h1 := s_told (d := d + 6) (S := tpO t1 :: R) hs hr
  have h2 := s_due (d := d + 6) (S := tpO t1 :: R) hs hr
  have h3 := s_same (d + 8) (tpO t1 :: R) (told_sm hs hr hsl) (by omega)
  refine ⟨t1, some (.val (.int (r.door : Nat))), some (.val s.A), some (.val r.A), ?_, k1⟩
  unfold BA
  generalize told s r = TO at *
  generalize s.A = SA at *
  generalize r.A = RA at *
  generalize (r.door : Int) = DO at *
  simp -implicitDefEqProofs [e1, Pyx.atI_nat, hg, h1, h2, h3]
theorem s_again {ks : List AV} (hk : ∀ x ∈ ks, Kp x) (h0 : ks ≠ []) (hl : ks.length ≤ 100000) (ht : t.Ok) : ∃ t', lvl T (d + 10) "_law_asked_again" [.ref 0, .lst ks] (tpO t :: R) = some (.bl true, tpO t' :: R) ∧ t'.Ok := by
  obtain ⟨a', e, t1, y2, y3, y4, y5, rfl, k1⟩ := loopL_inv (tg := .one 2) (body := BA (lvl T (d + 9))) (fun _ a => ∃ t x2 x3 x4 x5, a = ⟨[some (.val (.ref 0)), some (.val (.lst ks)), x2, x3, x4, x5], tpO t :: R⟩ ∧ Tp.Ok t) (xs := rgA 0 3) (n := 0) (a := ⟨[some (.val (.ref 0)), some (.val (.lst ks)), none, none, none, none], tpO t :: R⟩)
    (fun k x a hx ⟨t, x2, x3, x4, x5, ea, ht⟩ => by
      subst ea
      obtain ⟨t', y3, y4, y5, q1, q2⟩ := ba (d := d) (R := R) hk h0 hl ht (some (.val x)) x3 x4 x5
      exact ⟨_, .nx, _, rfl, q1, .inl rfl, t', _, y3, y4, y5, rfl, q2⟩) ⟨t, none, none, none, none, rfl, ht⟩
  refine ⟨t1, ?_, k1⟩
  have lp : kFr asR1 (.one 2) BA (lvl T (d + 9)) (some ([.int 3], ⟨[some (.val (.ref 0)), some (.val (.lst ks)), none, none, none, none], tpO t :: R⟩)) = some (.nx, ⟨[some (.val (.ref 0)), some (.val (.lst ks)), y2, y3, y4, y5], tpO t1 :: R⟩) := by
    have := kFr_1 (tg := .one 2) (b := BA) (n := 3) (G := lvl T (d + 9)) (a := ⟨[some (.val (.ref 0)), some (.val (.lst ks)), none, none, none, none], tpO t :: R⟩) (by omega)
    rw [e] at this
    exact this
  have hB : b__law_asked_again = (sSeq (sForR asR1 (aCons (eCon (.int 3)) aNil) (.one 2) BA) (sSeq (sRet (eCon (.bl true))) sSkip)) := rfl
  rw [l__law_asked_again, hB]
  clear hB e
  generalize BA = bb at *
  simp -implicitDefEqProofs [frame, lp]
end
end K41
end
section
set_option maxRecDepth 100000
set_option maxHeartbeats 1000000
namespace K41
open PySem L2 Pyx
open PySem.Spec PyProof.Rows
abbrev nE (us : List Nat) : List AV := us.map fun n => .int (n : Nat)
abbrev Mt : Type := Nat × Nat
def mtA (p : Mt) : AV := .tup [.int (p.1 : Nat), .int (p.2 : Nat)]
abbrev mA (ms : List Mt) : List AV := ms.map mtA
theorem eqb_int {a b : Int} : (AV.int a).eqb (.int b) = decide (a = b) := by
  simp [AV.eqb, AV.pd, PyData.eqv, BEq.beq]
theorem cnt_sm {j k : Nat} {x : AV} {ys : List AV} (h1 : sm j x = true) (h2 : ∀ y ∈ ys, sm k y = true) (hk : j ≤ 64) : cntA ys x = some (.int ((ys.countP fun z => z.eqb x : Nat))) := by
  have := idxA_sm h1 h2 hk
  unfold cntA
  rw [if_pos]
  unfold okFor
  refine ⟨sm_okD _ _ h1, okDs_all fun y hy => sm_okD _ _ (h2 y hy), ?_⟩
  have := sm_dep _ _ h1
  omega
theorem cnt_nE {us : List Nat} {e : Nat} : cntA (nE us) (.int (e : Nat)) = some (.int ((us.count e : Nat) : Int)) := by
  rw [cnt_sm (j := 0) (k := 0) rfl (fun y hy => by obtain ⟨n, _, rfl⟩ := List.mem_map.mp hy; rfl) (by omega)]
  congr 3
  rw [List.countP_map]
  show _ = us.countP (· == e)
  refine List.countP_congr fun x _ => ?_
  show ((AV.int (x : Nat)).eqb (.int (e : Nat))) = true ↔ _
  rw [eqb_int]
  simp
  omega
theorem len_filt {ms : List Mt} {e : Nat} : (ms.filter fun p => decide (p.1 = e)).length = (ms.map (·.1)).count e := by
  induction ms with
  | nil => rfl
  | cons p ms ih =>
    rw [List.map_cons, List.count_cons]
    by_cases h : p.1 = e
    · rw [List.filter_cons_of_pos (by simp [h])]
      simp [ih, h]
    · rw [List.filter_cons_of_neg (by simp [h])]
      simp [ih, h]
section
variable {d : Nat} {S : List SObj} {s : Sn} {E : List Nat} {ms : List Mt}
def BO : MS := (sSeq (sIf (mBool (eBin opNe (oE (eBin opAdd (oE (eSeqM cntA [1] (oVar 3) (oVar 4))) (oE (eBi biLen (osCons (oE (eFrz (fComp (eVar 2) [6] (.one 6) (mBool (eBin opEq (oE (eBin opIx (oVar 6) (oE (eCon (.int 0))))) (oVar 4))) (eVar 6)))) osNil))))) (oE (eCon (.int 1))))) (sSeq (sRet (eCon (.bl false))) sSkip) sSkip) sSkip)
def FO (s : Sn) (E us : List Nat) (ms : List Mt) (x4 : Option Slt) : List (Option Slt) := [some (.val (.lst (nE E))), some (.val s.A), some (.val (.lst (mA ms))), some (.val (.lst (nE us))), x4, none, none]
theorem bo {us : List Nat} (hm : ms.length ≤ 10000) {e : Nat} (h1 : us.count e + (ms.map (·.1)).count e = 1) : BO (lvl T d) ⟨FO s E us ms (some (.val (.int (e : Nat)))), S⟩ = some (.nx, ⟨FO s E us ms (some (.val (.int (e : Nat)))), S⟩) := by
  have cp := comp_map (G := lvl T d) (A := mtA) (l := ms) (i := 6) (ρ := FO s E us ms (some (.val (.int (e : Nat))))) (S := S) (tst := mBool (eBin opEq (oE (eBin opIx (oVar 6) (oE (eCon (.int 0))))) (oVar 4))) (elt := eVar 6) (p := fun p => decide (p.1 = e)) (g := mtA) (v := .lst (mA ms)) (.inl rfl) rfl
    (fun p _ => by
      unfold FO mtA
      generalize s.A = SA
      generalize nE E = EE
      generalize nE us = UU
      generalize mA ms = MM
      by_cases c : p.1 = e
      · simp -implicitDefEqProofs [c]
      · have c' : ¬ (p.1 : Int) = (e : Int) := by omega
        simp -implicitDefEqProofs [c, c']) (fun p _ _ => by
      unfold FO
      generalize s.A = SA
      generalize nE E = EE
      generalize nE us = UU
      generalize mA ms = MM
      simp -implicitDefEqProofs) (by omega)
  have hc := cnt_nE (us := us) (e := e)
  have hl : ((List.map mtA (ms.filter fun p => decide (p.1 = e))).length : Int) = (((ms.map (·.1)).count e : Nat) : Int) := by rw [List.length_map, len_filt]
  have h2 : ((us.count e : Nat) : Int) + (((ms.map (·.1)).count e : Nat) : Int) = 1 := by omega
  generalize ((us.count e : Nat) : Int) = c1 at *
  generalize (((ms.map (·.1)).count e : Nat) : Int) = c2 at *
  generalize List.map mtA (ms.filter fun p => decide (p.1 = e)) = FM at *
  rw [← hl] at h2
  unfold BO FO at *
  generalize s.A = SA at *
  generalize nE E = EE at *
  generalize nE us = UU at *
  generalize mA ms = MM at *
  generalize (e : Int) = ee at *
  simp -implicitDefEqProofs [cp, hc, h2, seqF]
theorem s_once (hs : s.Ok) (hm : ms.length ≤ 10000) (hE : E.length ≤ 10000) (hp : (s.rows.map (·.n) ++ ms.map (·.1)).Perm E) (hn : E.Nodup) : lvl T (d + 1) "_law_once_each" [.lst (nE E), s.A, .lst (mA ms)] S = some (.bl true, S) := by
  have hone : ∀ e ∈ E, (s.rows.map (·.n)).count e + (ms.map (·.1)).count e = 1 := fun e he => by
    rw [← List.count_append, hp.count_eq, hn.count, if_pos he]
  have hlen : ((s.rows.length : Nat) : Int) + ((ms.length : Nat) : Int) = ((E.length : Nat) : Int) := by
    have := hp.length_eq
    simp only [List.length_append, List.length_map] at this
    omega
  have hsl := hs.l
  have cp := comp_map (G := lvl T d) (A := Rw.A) (l := s.rows) (i := 5) (ρ := [some (.val (.lst (nE E))), some (.val s.A), some (.val (.lst (mA ms))), none, none, none, none]) (S := S) (tst := mTrue) (elt := eBin opIx (oVar 5) (oE (eCon (.int 0)))) (p := fun _ => true) (g := fun r => .int (r.n : Nat)) (v := .tup (rA s.rows)) (.inr rfl) rfl
    (fun r _ => rfl) (fun r _ _ => by
      unfold Rw.A
      generalize fA r.fr = FF
      generalize s.A = SA
      generalize nE E = EE
      generalize mA ms = MM
      simp -implicitDefEqProofs) (by omega)
  have tt : s.rows.filter (fun _ => true) = s.rows := by simp
  have tu : (s.rows.map fun r => AV.int (r.n : Nat)) = nE (s.rows.map (·.n)) := by
    show _ = List.map _ (List.map _ _)
    rw [List.map_map]; rfl
  rw [tt, tu] at cp
  obtain ⟨a', e1, x4, rfl⟩ := loop_map (A := fun n : Nat => AV.int (n : Nat)) (tg := .one 4) (body := BO (lvl T d)) (l0 := E) (fun _ a => ∃ x4, a = ⟨FO s E (s.rows.map (·.n)) ms x4, S⟩) (a := ⟨FO s E (s.rows.map (·.n)) ms none, S⟩) (fun e done rest a hd ⟨x4, ea⟩ => by
    subst ea
    exact ⟨_, .nx, _, rfl, bo (d := d) hm (hone e (by rw [hd]; simp)), .inl rfl, _, rfl⟩) ⟨none, rfl⟩
  have hB : b__law_once_each = (sSeq (sAsg 3 (eFrz (fComp (eBin opIx (oVar 1) (oE (eCon (.int 1)))) [5] (.one 5) mTrue (eBin opIx (oVar 5) (oE (eCon (.int 0))))))) (sSeq (sForV (eVar 0) (.one 4) BO) (sSeq (sRet (eBin opEq (oE (eBin opAdd (oE (eBi biLen (osCons (oVar 3) osNil))) (oE (eBi biLen (osCons (oVar 2) osNil))))) (oE (eBi biLen (osCons (oVar 0) osNil))))) sSkip))) := rfl
  have lE : ((nE E).length : Int) = ((E.length : Nat) : Int) := by simp
  have lM : ((mA ms).length : Int) = ((ms.length : Nat) : Int) := by simp
  have lR : ((nE (s.rows.map (·.n))).length : Int) = ((s.rows.length : Nat) : Int) := by simp
  rw [← lE, ← lM, ← lR] at hlen
  have e1 : loopL (.one 4) (BO (lvl T d)) (nE E) ⟨FO s E (s.rows.map (·.n)) ms none, S⟩ = some (.nx, ⟨FO s E (s.rows.map (·.n)) ms x4, S⟩) := e1
  rw [l__law_once_each, hB]
  clear hB lE lM lR tt tu hone hp
  unfold FO Sn.A at *
  generalize BO = bb at *
  generalize rA s.rows = RR at *
  generalize nE (s.rows.map (·.n)) = UU at *
  generalize nE E = EE at *
  generalize mA ms = MM at *
  generalize oA s.top = TT at *
  generalize oA s.due = DU at *
  simp -implicitDefEqProofs [frame, cp, e1, hlen]
end
end K41
end
section
set_option maxRecDepth 100000
set_option maxHeartbeats 1000000
namespace K41
open PySem L2 Pyx
open PySem.Spec PyProof.Rows
/-- what the law keeps between two deeds; c: deeds so far -/
structure LI (c : Nat) (s : Sn) (E : List Nat) (ms : List Mt) (ks : List AV) : Prop where
  ok : s.Ok
  n : s.n ≤ c
  el : E.length ≤ c
  pm : (s.rows.map (·.n) ++ ms.map (·.1)).Perm E
  nd : E.Nodup
  lt : ∀ e ∈ E, e < s.n
  kp : ∀ x ∈ ks, Kp x
  kl : ks.length = c
theorem LI.rl {c : Nat} {s : Sn} {E : List Nat} {ms : List Mt} {ks : List AV} (h : LI c s E ms ks) : s.rows.length + ms.length ≤ c := by
  have := h.pm.length_eq
  simp only [List.length_append, List.length_map] at this
  have := h.el
  omega
def kpA (s : Sn) (r : Rs) : AV := .tup [.int (r.door : Nat), s.A, r.A]
def nx2 (s : Sn) : Rs → Option (Sn × List Rw)
  | .pk _ => none
  | .rp ps => s.rep ps
  | .lk now ws => some (s.look now ws)
  | .no => some s.drop
section
variable {c : Nat} {s : Sn} {E : List Nat} {ms : List Mt} {ks : List AV} {r : Rs} {p : Pk}
theorem kp_mk (h : LI c s E ms ks) (hc : c ≤ 900) (hr : r.Ok) : Kp (kpA s r) := ⟨s, r, rfl, h.ok, by have := h.rl; omega, hr⟩
theorem kp_add (h : LI c s E ms ks) (hc : c ≤ 900) (hr : r.Ok) : (∀ x ∈ ks ++ [kpA s r], Kp x) ∧ (ks ++ [kpA s r]).length = c + 1 := ⟨fun x hx => by
  rcases List.mem_append.mp hx with q | q
  · exact h.kp x q
  · rw [List.mem_singleton.mp q]; exact kp_mk h hc hr, by have := h.kl; simp; omega⟩
theorem LI.stay (h : LI c s E ms ks) (hc : c ≤ 900) (hr : r.Ok) : LI (c + 1) s E ms (ks ++ [kpA s r]) :=
  ⟨h.ok, by have := h.n; omega, by have := h.el; omega, h.pm, h.nd, h.lt, (kp_add h hc hr).1, (kp_add h hc hr).2⟩
theorem LI.send (h : LI c s E ms ks) (hc : c ≤ 900) (hp : p.Ok) : LI (c + 1) (s.send p) (if p.cs.any elic = true then E ++ [s.n] else E) ms (ks ++ [kpA s (.pk p)]) := by
  have hrl := h.rl
  obtain ⟨k1, k2⟩ := kp_add (r := .pk p) h hc hp
  have so := (send_ok h.ok hp (by omega)).1
  have hn := h.n
  have hel := h.el
  unfold Sn.send at so ⊢
  by_cases q : p.cs.any elic = true
  · simp only [q, if_true] at so ⊢
    refine ⟨so, by show s.n + 1 ≤ c + 1; omega, by simp; omega, ?_, ?_, fun e he => ?_, k1, k2⟩
    · simp only [List.map_append, List.map_cons, List.map_nil, List.append_assoc]
      have h1 : (s.rows.map (·.n) ++ ([s.n] ++ ms.map (·.1))).Perm (s.rows.map (·.n) ++ (ms.map (·.1) ++ [s.n])) := List.Perm.append_left _ List.perm_append_comm
      refine h1.trans ?_
      rw [← List.append_assoc]
      exact h.pm.append_right _
    · rw [List.nodup_append]
      refine ⟨h.nd, by simp, fun a ha b hb e => ?_⟩
      rw [List.mem_singleton.mp hb] at e
      have := h.lt a ha
      omega
    · show e < s.n + 1
      rcases List.mem_append.mp he with q | q
      · have := h.lt e q; omega
      · rw [List.mem_singleton.mp q]; omega
  · simp only [q, if_false] at so ⊢
    exact ⟨so, by show s.n + 1 ≤ c + 1; omega, by simp; omega, by simpa using h.pm, by simpa using h.nd, fun e he => by
      have := h.lt e (by simpa using he)
      show e < s.n + 1
      omega, k1, k2⟩
theorem nx2_ok (hs : s.Ok) (hr : r.Ok) {q : Sn × List Rw} (h : nx2 s r = some q) : q.1.Ok ∧ q.1.n = s.n ∧ (∀ w ∈ q.2, w.Ok) ∧ q.2.length ≤ 1000 ∧ (q.1.rows ++ q.2).Perm s.rows := by
  have split : ∀ f : Rw → Bool, (s.rows.filter (fun w => !f w) ++ s.rows.filter f).Perm s.rows := fun f => by
    have := List.filter_append_perm f s.rows
    exact List.perm_append_comm.trans this
  cases r with
  | pk p => cases h
  | rp ps =>
    obtain ⟨h1, _, h2, h3⟩ := rep_ok (ps := ps) hs h
    have h : s.rep ps = some q := h
    unfold Sn.rep at h
    split at h
    · cases h
    · cases h
      exact ⟨h1, rfl, h2, h3, split _⟩
  | lk now ws =>
    cases h
    exact ⟨(look_ok hs).1, rfl, (look_ok hs).2.2.1, (look_ok hs).2.2.2, split _⟩
  | no =>
    cases h
    exact ⟨(drop_ok hs).1, rfl, hs.r, hs.l, by simp [Sn.drop]⟩
theorem LI.two (h : LI c s E ms ks) (hc : c ≤ 900) (hr : r.Ok) {q : Sn × List Rw} (hq : nx2 s r = some q) : LI (c + 1) q.1 E (ms ++ q.2.map fun w => (w.n, r.door)) (ks ++ [kpA s r]) := by
  obtain ⟨h1, h2, _, _, h5⟩ := nx2_ok h.ok hr hq
  refine ⟨h1, by rw [h2]; have := h.n; omega, by have := h.el; omega, ?_, h.nd, fun e he => by rw [h2]; exact h.lt e he, (kp_add h hc hr).1, (kp_add h hc hr).2⟩
  have e1 : (ms ++ q.2.map fun w => (w.n, r.door)).map (·.1) = ms.map (·.1) ++ q.2.map (·.n) := by
    rw [List.map_append, List.map_map]; rfl
  rw [e1]
  have e2 : (q.1.rows.map (·.n) ++ (ms.map (·.1) ++ q.2.map (·.n))).Perm (q.1.rows.map (·.n) ++ (q.2.map (·.n) ++ ms.map (·.1))) := List.Perm.append_left _ List.perm_append_comm
  refine e2.trans ?_
  rw [← List.append_assoc, ← List.map_append]
  exact ((h5.map _).append_right _).trans h.pm
end
end K41
end
section
set_option maxRecDepth 100000
set_option maxHeartbeats 1000000
namespace K41
open PySem L2 Pyx
open PySem.Spec PyProof.Rows
def FW (sc : AV) (now : Int) (sA : AV) (eL mL kL : List AV) (x9 x10 x11 x12 x13 x14 x15 : Option Slt) : List (Option Slt) :=
  [some (.val sc), some (.val (.ref 0)), some (.val (.int now)), some (.val (.ref 1)), some (.val sA), some (.val sA), some (.own eL), some (.own mL), some (.own kL), x9, x10, x11, x12, x13, x14, x15, none]
def D1 : MS := sAsg 12 (eCall "_law_rest" (aCons (eVar 1) (aCons (eVar 10) (aCons (eVar 4) (aCons (eVar 2) (aCons (eVar 3) aNil))))))
def D2 : MS := sAsg 13 (eCall "_law_told" (aCons (eVar 10) (aCons (eVar 4) (aCons (eVar 12) aNil))))
def D3 : MS := sAsg 14 (eCall "_law_due" (aCons (eVar 10) (aCons (eVar 4) (aCons (eVar 12) aNil))))
def D4 : MS := (sIf (mAnd (mBool (eBin opEq (oE (eCall "_law_draw" (aCons (eVar 1) (aCons (eCon (.int 8)) aNil)))) (oE (eCon (.int 0))))) (mNot (mTru (oE (eCall "_law_same" (aCons (eVar 13) (aCons (eVar 14) aNil))))))) (sSeq (sRet (eCon (.bl false))) sSkip) sSkip)
def D5 : MS := (sIf (mOr (mBool (eBin opNe (oE (eBin opIs (oVar 13) (oE (eCon .non)))) (oE (eBin opIs (oVar 14) (oE (eCon .non)))))) (mAnd (mBool (eBin opIsN (oVar 14) (oE (eCon .non)))) (mNot (mTru (oE (eCall "_law_equal" (aCons (eVar 13) (aCons (eVar 14) aNil)))))))) (sSeq (sRet (eCon (.bl false))) sSkip) sSkip)
def D6 : MS := (sIf (mBool (eBin opEq (oE (eCall "_law_draw" (aCons (eVar 1) (aCons (eCon (.int 4)) aNil)))) (oE (eCon (.int 0))))) (sSeq (sAsg 15 (eCall "_law_changed" (aCons (eVar 1) (aCons (eVar 10) (aCons (eVar 12) aNil))))) (sSeq (sIf (mOr (mBool (eBin opNe (oE (eCall "_law_told" (aCons (eVar 10) (aCons (eVar 4) (aCons (eVar 15) aNil))))) (oE (eCall "_law_due" (aCons (eVar 10) (aCons (eVar 4) (aCons (eVar 15) aNil))))))) (mBool (eBin opNe (oE (eCall "_law_told" (aCons (eVar 10) (aCons (eVar 4) (aCons (eVar 12) aNil))))) (oVar 14)))) (sSeq (sRet (eCon (.bl false))) sSkip) sSkip) sSkip)) sSkip)
def D7 : MS := sExpr (eApp (oVar 8) (eTup (aCons (eVar 10) (aCons (eVar 4) (aCons (eVar 12) aNil)))))
section
variable {d : Nat} {t : Tp} {s : Sn} {r : Rs} {ws : List Int} {sc : AV} {now : Int} {eL mL kL : List AV} {x9 x10 x11 x12 x13 x14 x15 : Option Slt}
theorem told_form (s : Sn) (r : Rs) : told s r = .non ∨ ∃ xs, told s r = .tup xs := by
  cases r with
  | pk p => exact .inr ⟨_, rfl⟩
  | rp ps =>
    show outA (s.rep ps) = .non ∨ ∃ xs, outA (s.rep ps) = .tup xs
    cases s.rep ps with
    | none => exact .inl rfl
    | some q => exact .inr ⟨_, rfl⟩
  | lk now ws => exact .inr ⟨_, rfl⟩
  | no => exact .inr ⟨_, rfl⟩
theorem opNe_refl {S : List SObj} {k : Nat} {x : AV} (h : sm k x = true) (hk : k ≤ 64) : opNe S x x = some (.bl false) := by rw [opNe_sm h h hk, eqb_refl h]; rfl
theorem d1 (hs : s.Ok) (hn : s.n ≤ 1000000) (ht : t.Ok) (hw : ws.length = 3) {door : Nat} (hd : door ≤ 3) : ∃ (r : Rs) (t' : Tp), D1 (lvl T (d + 12)) ⟨FW sc now s.A eL mL kL x9 (some (.val (.int (door : Nat)))) x11 x12 x13 x14 x15, [tpO t, .lst (wA ws)]⟩ =
    some (.nx, ⟨FW sc now s.A eL mL kL x9 (some (.val (.int (r.door : Nat)))) x11 (some (.val r.A)) x13 x14 x15, [tpO t', .lst (wA ws)]⟩) ∧ t'.Ok ∧ r.door = door ∧ r.Ok ∧ r.Sm := by
  obtain ⟨r, t', e, k, h1, h2, h3⟩ := s_rest (d := d + 8) (now := now) hs hn ht hw hd
  refine ⟨r, t', ?_, k, h1, h2, h3⟩
  rw [h1]
  unfold D1 FW
  generalize s.A = SA at *
  generalize r.A = RA at *
  generalize wA ws = W at *
  simp -implicitDefEqProofs [e]
theorem d23 (hs : s.Ok) (hr : r.Ok) (S : List SObj) : D2 (lvl T (d + 12)) ⟨FW sc now s.A eL mL kL x9 (some (.val (.int (r.door : Nat)))) x11 (some (.val r.A)) x13 x14 x15, S⟩ = some (.nx, ⟨FW sc now s.A eL mL kL x9 (some (.val (.int (r.door : Nat)))) x11 (some (.val r.A)) (some (.val (told s r))) x14 x15, S⟩) ∧
    D3 (lvl T (d + 12)) ⟨FW sc now s.A eL mL kL x9 (some (.val (.int (r.door : Nat)))) x11 (some (.val r.A)) (some (.val (told s r))) x14 x15, S⟩ = some (.nx, ⟨FW sc now s.A eL mL kL x9 (some (.val (.int (r.door : Nat)))) x11 (some (.val r.A)) (some (.val (told s r))) (some (.val (told s r))) x15, S⟩) := by
  have h1 := s_told (d := d + 9) (S := S) hs hr
  have h2 := s_due (d := d + 9) (S := S) hs hr
  unfold D2 D3 FW
  generalize told s r = TO at *
  generalize s.A = SA at *
  generalize r.A = RA at *
  generalize (r.door : Int) = DO at *
  constructor
  · simp -implicitDefEqProofs [h1]
  · simp -implicitDefEqProofs [h2]
theorem d4 (hs : s.Ok) (hr : r.Ok) (hl : s.rows.length ≤ 900) (ht : t.Ok) (R : List SObj) : ∃ t' : Tp, D4 (lvl T (d + 12)) ⟨FW sc now s.A eL mL kL x9 x10 x11 x12 (some (.val (told s r))) (some (.val (told s r))) x15, tpO t :: R⟩ = some (.nx, ⟨FW sc now s.A eL mL kL x9 x10 x11 x12 (some (.val (told s r))) (some (.val (told s r))) x15, tpO t' :: R⟩) ∧ t'.Ok := by
  obtain ⟨b, t1, e1, k1, _⟩ := s_draw (d + 11) ht 8 (by omega) R
  have h3 := s_same (d + 11) (tpO t1 :: R) (told_sm hs hr hl) (by omega)
  refine ⟨t1, ?_, k1⟩
  unfold D4 FW
  generalize told s r = TO at *
  generalize s.A = SA at *
  by_cases c : b = 0
  · subst c
    simp -implicitDefEqProofs [e1, h3]
  · have c' : ¬ (b : Int) = 0 := by omega
    simp -implicitDefEqProofs [e1, c, c']
theorem d5 (hs : s.Ok) (hr : r.Ok) (hl : s.rows.length ≤ 900) (S : List SObj) : D5 (lvl T (d + 12)) ⟨FW sc now s.A eL mL kL x9 x10 x11 x12 (some (.val (told s r))) (some (.val (told s r))) x15, S⟩ = some (.nx, ⟨FW sc now s.A eL mL kL x9 x10 x11 x12 (some (.val (told s r))) (some (.val (told s r))) x15, S⟩) := by
  have hsm := told_sm hs hr hl
  rcases told_form s r with h | ⟨xs, h⟩
  · rw [h]
    unfold D5 FW
    generalize s.A = SA at *
    simp -implicitDefEqProofs [Pyx.isNon]
  · have he := s_equal (d := d + 11) (S := S) h hsm
    rw [h] at he ⊢
    unfold D5 FW
    generalize s.A = SA at *
    simp -implicitDefEqProofs [Pyx.isNon, he]
theorem d6 (hs : s.Ok) (hr : r.Ok) (hm : r.Sm) (hl : s.rows.length ≤ 900) (ht : t.Ok) (R : List SObj) : ∃ (t' : Tp) (y15 : Option Slt), D6 (lvl T (d + 12)) ⟨FW sc now s.A eL mL kL x9 (some (.val (.int (r.door : Nat)))) x11 (some (.val r.A)) (some (.val (told s r))) (some (.val (told s r))) x15, tpO t :: R⟩ =
    some (.nx, ⟨FW sc now s.A eL mL kL x9 (some (.val (.int (r.door : Nat)))) x11 (some (.val r.A)) (some (.val (told s r))) (some (.val (told s r))) y15, tpO t' :: R⟩) ∧ t'.Ok := by
  obtain ⟨b, t1, e1, k1, _⟩ := s_draw (d + 11) ht 4 (by omega) R
  by_cases c : b = 0
  · subst c
    obtain ⟨r', t2, e2, k2, g1, g2⟩ := s_changed (d := d + 10) (R := R) k1 hr hm
    have h1 := s_told (d := d + 9) (S := tpO t2 :: R) hs g2
    have h2 := s_due (d := d + 9) (S := tpO t2 :: R) hs g2
    have h3 := opNe_refl (S := tpO t2 :: R) (told_sm hs g2 hl) (by omega)
    have h4 := s_told (d := d + 9) (S := tpO t2 :: R) hs hr
    have h5 := opNe_refl (S := tpO t2 :: R) (told_sm hs hr hl) (by omega)
    rw [g1] at h1 h2
    refine ⟨t2, some (.val r'.A), ?_, k2⟩
    have nr1 : ∀ S, res S (told s r) = told s r := fun S => res_nr (sm_nr _ _ (told_sm hs hr hl))
    have nr2 : ∀ S, res S (told s r') = told s r' := fun S => res_nr (sm_nr _ _ (told_sm hs g2 hl))
    unfold D6 FW
    generalize told s r = TO at *
    generalize told s r' = TP at *
    generalize s.A = SA at *
    generalize r.A = RA at *
    generalize r'.A = RB at *
    generalize (r.door : Int) = DO at *
    simp -implicitDefEqProofs [e1, e2, h1, h2, h3, h4, h5, nr1, nr2]
  · refine ⟨t1, x15, ?_, k1⟩
    have c' : ¬ (b : Int) = 0 := by omega
    unfold D6 FW
    generalize told s r = TO at *
    generalize s.A = SA at *
    generalize r.A = RA at *
    generalize (r.door : Int) = DO at *
    simp -implicitDefEqProofs [e1, c, c']
theorem d7 (hk : kL.length < 100000) (S : List SObj) : D7 (lvl T (d + 12)) ⟨FW sc now s.A eL mL kL x9 (some (.val (.int (r.door : Nat)))) x11 (some (.val r.A)) x13 x14 x15, S⟩ = some (.nx, ⟨FW sc now s.A eL mL (kL ++ [kpA s r]) x9 (some (.val (.int (r.door : Nat)))) x11 (some (.val r.A)) x13 x14 x15, S⟩) := by
  unfold D7 FW kpA
  generalize s.A = SA at *
  generalize r.A = RA at *
  generalize (r.door : Int) = DO at *
  simp -implicitDefEqProofs [hk]
end
end K41
end
section
set_option maxRecDepth 100000
set_option maxHeartbeats 1000000
namespace K41
open PySem L2 Pyx
open PySem.Spec PyProof.Rows
theorem eExt_own {G : Gm} {ρ : List (Option Slt)} {S : List SObj} {i : Nat} {ys xs : List AV} {t : MAs} (h : ρ[i]? = some (some (.own ys))) (ht : t G ⟨ρ, S⟩ = some (xs, ⟨ρ, S⟩)) (hl : ys.length + xs.length ≤ 100000) :
    eExt (oVar i) t G ⟨ρ, S⟩ = some (.non, ⟨ρ.set i (some (.own (ys ++ xs))), S⟩) := by
  unfold eExt
  rw [oVar_ev, h]
  show (cont (⟨ρ, S⟩ : AS) (.slot i)).bind _ = _
  rw [cont_slot, h]
  show (t G ⟨ρ, S⟩).bind _ = _
  rw [ht]
  show (mutL (⟨ρ, S⟩ : AS) (extA xs) (.slot i)).map _ = _
  rw [mutL_s, h]
  show ((extA xs ys).map fun zs => AS.putOwn ⟨ρ, S⟩ i zs).map _ = _
  unfold extA
  rw [if_pos (le_sl hl)]
  rfl
def EX : ME := (eExt (oVar 7) (fComp (eBin opIx (oVar 13) (oE (eCon (.int 1)))) [16] (.one 16) mTrue (eTup (aCons (eBin opIx (oVar 16) (oE (eCon (.int 0)))) (aCons (eVar 10) aNil)))))
def D8 : MS := (sIf (mBool (eBin opEq (oVar 10) (oE (eCon (.int 0))))) (sSeq (sIf (mTru (oE (eCall "_law_eliciting" (aCons (eBin opIx (oVar 12) (oE (eCon (.int 4)))) aNil)))) (sSeq (sExpr (eApp (oVar 6) (eBin opIx (oVar 4) (oE (eCon (.int 0)))))) sSkip) sSkip) (sSeq (sAsg 4 (eVar 13)) (sSeq (sAsg 5 (eVar 14)) sSkip))) (sSeq (sIf (mBool (eBin opIsN (oVar 14) (oE (eCon .non)))) (sSeq (sIf (mNot (mTru (oE (eCall "_law_same" (aCons (eBin opIx (oVar 13) (oE (eCon (.int 1)))) (aCons (eBin opIx (oVar 14) (oE (eCon (.int 1)))) aNil)))))) (sSeq (sRet (eCon (.bl false))) sSkip) sSkip) (sSeq (sExpr EX) (sSeq (sAsg 4 (eBin opIx (oVar 13) (oE (eCon (.int 0))))) (sSeq (sAsg 5 (eBin opIx (oVar 14) (oE (eCon (.int 0))))) sSkip)))) sSkip) sSkip))
section
variable {d : Nat} {t : Tp} {s : Sn} {r : Rs} {p : Pk} {ws : List Int} {sc : AV} {now : Int} {eL mL kL : List AV} {x9 x10 x11 x12 x13 x14 x15 : Option Slt}
theorem d8_pk (hp : p.Ok) (he : eL.length < 100000) (S : List SObj) : D8 (lvl T (d + 12)) ⟨FW sc now s.A eL mL kL x9 (some (.val (.int 0))) x11 (some (.val p.A)) (some (.val (s.send p).A)) (some (.val (s.send p).A)) x15, S⟩ =
    some (.nx, ⟨FW sc now (s.send p).A (if p.cs.any elic = true then eL ++ [.int (s.n : Nat)] else eL) mL kL x9 (some (.val (.int 0))) x11 (some (.val p.A)) (some (.val (s.send p).A)) (some (.val (s.send p).A)) x15, S⟩) := by
  have h := s_elic (d := d + 11) (S := S) hp.c (by have := hp.l; omega)
  unfold D8 FW
  have hA : p.A = .tup [.int p.time, .int p.size, .int (p.path : Nat), .int p.serial, .tup (fA p.cs)] := rfl
  have hS : s.A = .tup [.int (s.n : Nat), .tup (rA s.rows), oA s.top, oA s.due] := rfl
  rw [hA, hS]
  generalize (s.send p).A = TO at *
  generalize EX = ex
  generalize fA p.cs = CC at *
  generalize rA s.rows = RR at *
  cases c : p.cs.any elic with
  | true =>
    rw [c] at h
    simp -implicitDefEqProofs [h, he]
  | false =>
    rw [c] at h
    simp -implicitDefEqProofs [h]
theorem d8_two {q : Sn × List Rw} (hq : told s r = lookA q) (hd : r.door ≠ 0) (h1 : ∀ w ∈ q.2, w.Ok) (h2 : q.2.length ≤ 1000) (hm : mL.length ≤ 50000) (S : List SObj) : D8 (lvl T (d + 12)) ⟨FW sc now s.A eL mL kL x9 (some (.val (.int (r.door : Nat)))) x11 x12 (some (.val (told s r))) (some (.val (told s r))) x15, S⟩ =
    some (.nx, ⟨FW sc now q.1.A eL (mL ++ q.2.map fun w => mtA (w.n, r.door)) kL x9 (some (.val (.int (r.door : Nat)))) x11 x12 (some (.val (told s r))) (some (.val (told s r))) x15, S⟩) := by
  rw [hq]
  have hs := s_same (d + 11) S (rA_sm h1 h2) (by omega)
  have cp := comp_map (G := lvl T (d + 12)) (A := Rw.A) (l := q.2) (i := 16) (ρ := FW sc now s.A eL mL kL x9 (some (.val (.int (r.door : Nat)))) x11 x12 (some (.val (lookA q))) (some (.val (lookA q))) x15) (S := S) (tst := mTrue) (elt := eTup (aCons (eBin opIx (oVar 16) (oE (eCon (.int 0)))) (aCons (eVar 10) aNil))) (p := fun _ => true) (g := fun w => mtA (w.n, r.door)) (v := .tup (rA q.2)) (.inr rfl) rfl
    (fun w _ => rfl) (fun w _ _ => by
      unfold FW Rw.A mtA
      generalize lookA q = LQ
      generalize s.A = SA
      generalize fA w.fr = FF
      generalize (r.door : Int) = DO
      simp -implicitDefEqProofs) (by omega)
  have tt : q.2.filter (fun _ => true) = q.2 := by simp
  rw [tt] at cp
  have hl : mL.length + (q.2.map fun w => mtA (w.n, r.door)).length ≤ 100000 := by rw [List.length_map]; omega
  have ex := eExt_own (G := lvl T (d + 12)) (ρ := FW sc now s.A eL mL kL x9 (some (.val (.int (r.door : Nat)))) x11 x12 (some (.val (lookA q))) (some (.val (lookA q))) x15) (S := S) (i := 7) (ys := mL) (xs := q.2.map fun w => mtA (w.n, r.door)) (t := (fComp (eBin opIx (oVar 13) (oE (eCon (.int 1)))) [16] (.one 16) mTrue (eTup (aCons (eBin opIx (oVar 16) (oE (eCon (.int 0)))) (aCons (eVar 10) aNil))))) rfl (by
      rw [fComp_ev]
      have : eBin opIx (oVar 13) (oE (eCon (.int 1))) (lvl T (d + 12)) ⟨FW sc now s.A eL mL kL x9 (some (.val (.int (r.door : Nat)))) x11 x12 (some (.val (lookA q))) (some (.val (lookA q))) x15, S⟩ = some (.tup (rA q.2), ⟨FW sc now s.A eL mL kL x9 (some (.val (.int (r.door : Nat)))) x11 x12 (some (.val (lookA q))) (some (.val (lookA q))) x15, S⟩) := by
        unfold FW lookA
        generalize s.A = SA
        generalize q.1.A = QA
        generalize rA q.2 = QR
        generalize (r.door : Int) = DO
        simp -implicitDefEqProofs
      rw [this]
      exact cp) hl
  have hd' : ¬ (r.door : Int) = 0 := by omega
  have exd : EX (lvl T (d + 12)) ⟨FW sc now s.A eL mL kL x9 (some (.val (.int (r.door : Nat)))) x11 x12 (some (.val (lookA q))) (some (.val (lookA q))) x15, S⟩ = some (.non, ⟨FW sc now s.A eL (mL ++ q.2.map fun w => mtA (w.n, r.door)) kL x9 (some (.val (.int (r.door : Nat)))) x11 x12 (some (.val (lookA q))) (some (.val (lookA q))) x15, S⟩) := ex
  clear ex cp tt hl
  unfold D8
  generalize EX = ee at *
  unfold FW lookA at *
  generalize s.A = SA at *
  generalize q.1.A = QA at *
  generalize rA q.2 = QR at *
  generalize (q.2.map fun w => mtA (w.n, r.door)) = QM at *
  generalize (r.door : Int) = DO at *
  simp -implicitDefEqProofs [hd', Pyx.isNon, hs, exd]
theorem d8_none (hq : told s r = .non) (hd : r.door ≠ 0) (S : List SObj) : D8 (lvl T (d + 12)) ⟨FW sc now s.A eL mL kL x9 (some (.val (.int (r.door : Nat)))) x11 x12 (some (.val (told s r))) (some (.val (told s r))) x15, S⟩ =
    some (.nx, ⟨FW sc now s.A eL mL kL x9 (some (.val (.int (r.door : Nat)))) x11 x12 (some (.val (told s r))) (some (.val (told s r))) x15, S⟩) := by
  rw [hq]
  have hd' : ¬ (r.door : Int) = 0 := by omega
  unfold D8 FW
  generalize EX = ee at *
  generalize s.A = SA at *
  generalize (r.door : Int) = DO at *
  simp -implicitDefEqProofs [hd', Pyx.isNon]
end
end K41
end
section
set_option maxRecDepth 100000
set_option maxHeartbeats 1000000
namespace K41
open PySem L2 Pyx
open PySem.Spec PyProof.Rows
theorem seq1 {s r : MS} {G : Gm} {a a' : AS} (h : s G a = some (.nx, a')) : sSeq s r G a = r G a' := by
  rw [sSeq_ev, h]; rfl
def BD : MS := sSeq D1 (sSeq D2 (sSeq D3 (sSeq D4 (sSeq D5 (sSeq D6 (sSeq D7 (sSeq D8 sSkip)))))))
def Stt (sc : AV) (now : Int) (ws : List Int) (x9 : Option Slt) (door c : Nat) (a : AS) : Prop :=
  ∃ t s E ms ks x11 x12 x13 x14 x15, a = ⟨FW sc now (Sn.A s) (nE E) (mA ms) ks x9 (some (.val (.int (door : Nat)))) x11 x12 x13 x14 x15, [tpO t, .lst (wA ws)]⟩ ∧ Tp.Ok t ∧ LI c s E ms ks
theorem mA_add {ms : List Mt} {l : List Rw} {dr : Nat} : mA ms ++ l.map (fun w => mtA (w.n, dr)) = mA (ms ++ l.map fun w => (w.n, dr)) := by
  show List.map _ _ ++ _ = List.map _ (_ ++ _)
  rw [List.map_append, List.map_map]; rfl
section
variable {d : Nat} {sc : AV} {now : Int} {ws : List Int} {x9 : Option Slt} {door c : Nat}
theorem inner (hw : ws.length = 3) (hd : door ≤ 3) (hc : c ≤ 800) (k : Int) {a : AS} (h : Stt sc now ws x9 door c a) : ∃ a1 a2, asgT (.one 11) (.int k) a = some a1 ∧ BD (lvl T (d + 12)) a1 = some (.nx, a2) ∧ Stt sc now ws x9 door (c + 1) a2 := by
  obtain ⟨t, s, E, ms, ks, x11, x12, x13, x14, x15, rfl, ht, hI⟩ := h
  have hs := hI.ok
  have hrl := hI.rl
  have hl : s.rows.length ≤ 900 := by omega
  obtain ⟨r, t1, e1, k1, hdr, hr, hsm⟩ := d1 (d := d) (sc := sc) (now := now) (eL := nE E) (mL := mA ms) (kL := ks) (x9 := x9) (x11 := some (.val (.int k))) (x12 := x12) (x13 := x13) (x14 := x14) (x15 := x15) hs (by have := hI.n; omega) ht hw hd
  obtain ⟨e2, e3⟩ := d23 (d := d) (sc := sc) (now := now) (eL := nE E) (mL := mA ms) (kL := ks) (x9 := x9) (x11 := some (.val (.int k))) (x13 := x13) (x14 := x14) (x15 := x15) hs hr [tpO t1, .lst (wA ws)]
  have e3 := (d23 (d := d) (sc := sc) (now := now) (eL := nE E) (mL := mA ms) (kL := ks) (x9 := x9) (x11 := some (.val (.int k))) (x13 := x13) (x14 := x14) (x15 := x15) hs hr [tpO t1, .lst (wA ws)]).2
  obtain ⟨t2, e4, k2⟩ := d4 (d := d) (sc := sc) (now := now) (eL := nE E) (mL := mA ms) (kL := ks) (x9 := x9) (x10 := some (.val (.int (r.door : Nat)))) (x11 := some (.val (.int k))) (x12 := some (.val r.A)) (x15 := x15) hs hr hl k1 [.lst (wA ws)]
  have e5 := d5 (d := d) (sc := sc) (now := now) (eL := nE E) (mL := mA ms) (kL := ks) (x9 := x9) (x10 := some (.val (.int (r.door : Nat)))) (x11 := some (.val (.int k))) (x12 := some (.val r.A)) (x15 := x15) hs hr hl [tpO t2, .lst (wA ws)]
  obtain ⟨t3, y15, e6, k3⟩ := d6 (d := d) (sc := sc) (now := now) (eL := nE E) (mL := mA ms) (kL := ks) (x9 := x9) (x11 := some (.val (.int k))) (x15 := x15) hs hr hsm hl k2 [.lst (wA ws)]
  have e7 := d7 (d := d) (s := s) (r := r) (sc := sc) (now := now) (eL := nE E) (mL := mA ms) (kL := ks) (x9 := x9) (x11 := some (.val (.int k))) (x13 := some (.val (told s r))) (x14 := some (.val (told s r))) (x15 := y15) (by have := hI.kl; omega) [tpO t3, .lst (wA ws)]
  have run : BD (lvl T (d + 12)) ⟨FW sc now s.A (nE E) (mA ms) ks x9 (some (.val (.int (door : Nat)))) (some (.val (.int k))) x12 x13 x14 x15, [tpO t, .lst (wA ws)]⟩ =
      sSeq D8 sSkip (lvl T (d + 12)) ⟨FW sc now s.A (nE E) (mA ms) (ks ++ [kpA s r]) x9 (some (.val (.int (r.door : Nat)))) (some (.val (.int k))) (some (.val r.A)) (some (.val (told s r))) (some (.val (told s r))) y15, [tpO t3, .lst (wA ws)]⟩ := by
    unfold BD
    rw [seq1 e1, seq1 e2, seq1 e3, seq1 e4, seq1 e5, seq1 e6, seq1 e7]
  refine ⟨⟨FW sc now s.A (nE E) (mA ms) ks x9 (some (.val (.int (door : Nat)))) (some (.val (.int k))) x12 x13 x14 x15, [tpO t, .lst (wA ws)]⟩, ?_⟩
  rw [run]
  have asg : asgT (.one 11) (.int k) (⟨FW sc now s.A (nE E) (mA ms) ks x9 (some (.val (.int (door : Nat)))) x11 x12 x13 x14 x15, [tpO t, .lst (wA ws)]⟩ : AS) = some ⟨FW sc now s.A (nE E) (mA ms) ks x9 (some (.val (.int (door : Nat)))) (some (.val (.int k))) x12 x13 x14 x15, [tpO t, .lst (wA ws)]⟩ := rfl
  clear run e1 e2 e3 e4 e5 e6 e7
  subst hdr
  cases r with
  | pk p =>
    have e8 := d8_pk (d := d) (s := s) (p := p) (sc := sc) (now := now) (eL := nE E) (mL := mA ms) (kL := ks ++ [kpA s (.pk p)]) (x9 := x9) (x11 := some (.val (.int k))) (x15 := y15) hr (by have := hI.el; simp only [List.length_map]; omega) [tpO t3, .lst (wA ws)]
    refine ⟨⟨FW sc now (s.send p).A (nE (if p.cs.any elic = true then E ++ [s.n] else E)) (mA ms) (ks ++ [kpA s (.pk p)]) x9 (some (.val (.int 0))) (some (.val (.int k))) (some (.val p.A)) (some (.val (s.send p).A)) (some (.val (s.send p).A)) y15, [tpO t3, .lst (wA ws)]⟩, asg, ?_, t3, s.send p, _, ms, _, _, _, _, _, _, rfl, k3, hI.send (by omega) hr⟩
    have en : nE (if p.cs.any elic = true then E ++ [s.n] else E) = if p.cs.any elic = true then nE E ++ [.int (s.n : Nat)] else nE E := by
      split <;> simp
    rw [en]
    exact (seq1 e8).trans rfl
  | rp ps =>
    cases hq : s.rep ps with
    | none =>
      have e8 := d8_none (d := d) (s := s) (r := .rp ps) (sc := sc) (now := now) (eL := nE E) (mL := mA ms) (kL := ks ++ [kpA s (.rp ps)]) (x9 := x9) (x11 := some (.val (.int k))) (x12 := some (.val (Rs.rp ps).A)) (x15 := y15) (by show outA (s.rep ps) = .non; rw [hq]; rfl) (show (1 : Nat) ≠ 0 by decide) [tpO t3, .lst (wA ws)]
      exact ⟨_, asg, (seq1 e8).trans rfl, t3, s, E, ms, _, _, _, _, _, _, rfl, k3, hI.stay (by omega) hr⟩
    | some q =>
      obtain ⟨h1, h2, h3, h4, h5⟩ := nx2_ok hs hr (show nx2 s (.rp ps) = some q from hq)
      have e8 := d8_two (d := d) (s := s) (r := .rp ps) (q := q) (sc := sc) (now := now) (eL := nE E) (mL := mA ms) (kL := ks ++ [kpA s (.rp ps)]) (x9 := x9) (x11 := some (.val (.int k))) (x12 := some (.val (Rs.rp ps).A)) (x15 := y15) (by show outA (s.rep ps) = _; rw [hq]; rfl) (show (1 : Nat) ≠ 0 by decide) h3 h4 (by simp only [List.length_map]; omega) [tpO t3, .lst (wA ws)]
      rw [mA_add] at e8
      exact ⟨_, asg, (seq1 e8).trans rfl, t3, q.1, E, _, _, _, _, _, _, _, rfl, k3, hI.two (by omega) hr hq⟩
  | lk nw wl =>
    obtain ⟨h1, h2, h3, h4, h5⟩ := nx2_ok hs hr (show nx2 s (.lk nw wl) = some (s.look nw wl) from rfl)
    have e8 := d8_two (d := d) (s := s) (r := .lk nw wl) (q := s.look nw wl) (sc := sc) (now := now) (eL := nE E) (mL := mA ms) (kL := ks ++ [kpA s (.lk nw wl)]) (x9 := x9) (x11 := some (.val (.int k))) (x12 := some (.val (Rs.lk nw wl).A)) (x15 := y15) rfl (show (2 : Nat) ≠ 0 by decide) h3 h4 (by simp only [List.length_map]; omega) [tpO t3, .lst (wA ws)]
    rw [mA_add] at e8
    exact ⟨_, asg, (seq1 e8).trans rfl, t3, (s.look nw wl).1, E, _, _, _, _, _, _, _, rfl, k3, hI.two (by omega) hr rfl⟩
  | no =>
    obtain ⟨h1, h2, h3, h4, h5⟩ := nx2_ok hs hr (show nx2 s .no = some s.drop from rfl)
    have e8 := d8_two (d := d) (s := s) (r := .no) (q := s.drop) (sc := sc) (now := now) (eL := nE E) (mL := mA ms) (kL := ks ++ [kpA s .no]) (x9 := x9) (x11 := some (.val (.int k))) (x12 := some (.val Rs.no.A)) (x15 := y15) rfl (by decide) h3 h4 (by simp only [List.length_map]; omega) [tpO t3, .lst (wA ws)]
    rw [mA_add] at e8
    exact ⟨_, asg, (seq1 e8).trans rfl, t3, s.drop.1, E, _, _, _, _, _, _, _, rfl, k3, hI.two (by omega) hr rfl⟩
end
end K41
end
section
set_option maxRecDepth 100000
set_option maxHeartbeats 1000000
namespace K41
open PySem L2 Pyx
open PySem.Spec PyProof.Rows
def O1 : MS := sAsg 10 (eBin opIx (oE (eFrz (fLst (aCons (eCon (.int 0)) (aCons (eCon (.int 0)) (aCons (eCon (.int 0)) (aCons (eCon (.int 0)) (aCons (eCon (.int 1)) (aCons (eCon (.int 1)) (aCons (eCon (.int 2)) (aCons (eCon (.int 2)) (aCons (eCon (.int 3)) aNil)))))))))))) (oE (eCall "_law_draw" (aCons (eVar 1) (aCons (eCon (.int 9)) aNil)))))
def O2 : MS := sAsg 2 (eBi biMin (osCons (oE (eBin opAdd (oVar 2) (oE (eBin opIx (oE (eFrz (fLst (aCons (eCon (.int 0)) (aCons (eCon (.int 0)) (aCons (eCon (.int 1)) (aCons (eCon (.int 2)) (aCons (eCon (.int 9)) (aCons (eCon (.int 22)) (aCons (eCon (.int 41)) (aCons (eCon (.int 60)) aNil))))))))))) (oE (eCall "_law_draw" (aCons (eVar 1) (aCons (eCon (.int 8)) aNil)))))))) (osCons (oE (eCon (.int 1000000))) osNil)))
def O3 : MS := sIf (mBool (eBin opEq (oE (eCall "_law_draw" (aCons (eVar 1) (aCons (eCon (.int 6)) aNil)))) (oE (eCon (.int 0))))) (sSeq (sSet (oVar 3) (eCall "_law_draw" (aCons (eVar 1) (aCons (eCon (.int 3)) aNil))) (eBin opIx (oE (eFrz (fLst (aCons (eCon (.int 1)) (aCons (eCon (.int 2)) (aCons (eCon (.int 9)) (aCons (eCon (.int 22)) (aCons (eCon (.int 41)) (aCons (eCon (.int 400)) aNil))))))))) (oE (eCall "_law_draw" (aCons (eVar 1) (aCons (eCon (.int 6)) aNil)))))) sSkip) sSkip
def O4 : MS := sIf (mAnd (mBool (eBin opEq (oVar 10) (oE (eCon (.int 0))))) (mBool (eBin opGt (oE (eBi biLen (osCons (oE (eBin opIx (oVar 4) (oE (eCon (.int 1))))) osNil))) (oE (eCon (.int 12)))))) (sSeq (sAsg 10 (eBin opAdd (oE (eCon (.int 1))) (oE (eCall "_law_draw" (aCons (eVar 1) (aCons (eCon (.int 2)) aNil)))))) sSkip) sSkip
def O5 : MS := sForR asR1 (aCons (eIte (mBool (eBin opEq (oVar 10) (oE (eCon (.int 0))))) (eBin opIx (oE (eFrz (fLst (aCons (eCon (.int 1)) (aCons (eCon (.int 1)) (aCons (eCon (.int 2)) (aCons (eCon (.int 5)) (aCons (eCon (.int 9)) aNil)))))))) (oE (eCall "_law_draw" (aCons (eVar 1) (aCons (eCon (.int 5)) aNil))))) (eCon (.int 1))) aNil) (.one 11) BD
def O6 : MS := sIf (mAnd (mBool (eBin opEq (oE (eCall "_law_draw" (aCons (eVar 1) (aCons (eCon (.int 3)) aNil)))) (oE (eCon (.int 0))))) (mNot (mTru (oE (eCall "_law_beside" (aCons (eVar 1) (aCons (eVar 4) (aCons (eVar 2) (aCons (eVar 3) aNil))))))))) (sSeq (sRet (eCon (.bl false))) sSkip) sSkip
def BQL : MS := sSeq O1 (sSeq O2 (sSeq O3 (sSeq O4 (sSeq O5 (sSeq O6 (sSkip))))))
def L0 : MS := sAsg 1 (eCall "_law_tape" (aCons (eVar 0) aNil))
def L1 : MS := sAsg 2 (eBin opIx (oE (eFrz (fLst (aCons (eCon (.int 0)) (aCons (eCon (.int 3)) (aCons (eCon (.int 500)) (aCons (eCon (.int 999900)) aNil))))))) (oE (eCall "_law_draw" (aCons (eVar 1) (aCons (eCon (.int 4)) aNil)))))
def L2 : MS := sAsg 3 (eLay (fCompR asR1 (aCons (eCon (.int 3)) aNil) [9] (.one 9) mTrue (eBin opIx (oE (eFrz (fLst (aCons (eCon (.int 1)) (aCons (eCon (.int 3)) (aCons (eCon (.int 9)) (aCons (eCon (.int 22)) (aCons (eCon (.int 41)) (aCons (eCon (.int 400)) aNil))))))))) (oE (eCall "_law_draw" (aCons (eVar 1) (aCons (eCon (.int 6)) aNil)))))))
def L3 : MS := sAsg 4 (eCall "new_sent" aNil)
def L4 : MS := sAsg 5 (eTup (aCons (eCon (.int 0)) (aCons (eTup aNil) (aCons (eCon .non) (aCons (eCon .non) aNil)))))
def L5 : MS := sIf (mNot (mTru (oE (eCall "_law_same" (aCons (eVar 4) (aCons (eVar 5) aNil)))))) (sSeq (sRet (eCon (.bl false))) sSkip) sSkip
def L6 : MS := sOwn 6 (fLst aNil)
def L7 : MS := sOwn 7 (fLst aNil)
def L8 : MS := sOwn 8 (fLst aNil)
def L9 : MS := sForR asR1 (aCons (eBin opAdd (oE (eCon (.int 6))) (oE (eCall "_law_draw" (aCons (eVar 1) (aCons (eCon (.int 25)) aNil))))) aNil) (.one 9) BQL
def L10 : MS := sRet (eAnd (eCall "_law_asked_again" (aCons (eVar 1) (aCons (eVar 8) aNil))) (eAnd (eCall "_law_same" (aCons (eVar 4) (aCons (eVar 5) aNil))) (eCall "_law_once_each" (aCons (eVar 6) (aCons (eVar 4) (aCons (eVar 7) aNil))))))
theorem u_law : b_law = sSeq L0 (sSeq L1 (sSeq L2 (sSeq L3 (sSeq L4 (sSeq L5 (sSeq L6 (sSeq L7 (sSeq L8 (sSeq L9 (sSeq L10 (sSkip))))))))))) := rfl
def OS (sc : AV) (i : Nat) (a : AS) : Prop :=
  ∃ t s E ms ks now ws x9 x10 x11 x12 x13 x14 x15 c, a = ⟨FW sc now (Sn.A s) (nE E) (mA ms) ks x9 x10 x11 x12 x13 x14 x15, [tpO t, .lst (wA ws)]⟩ ∧ Tp.Ok t ∧ List.length ws = 3 ∧ LI c s E ms ks ∧ i ≤ c ∧ c ≤ 9 * i
section
variable {d : Nat} {sc : AV}
theorem inners (n : Nat) {now : Int} {ws : List Int} {x9 : Option Slt} {door c : Nat} (hw : ws.length = 3) (hd : door ≤ 3) (hc : c + n ≤ 800) {a : AS} (h : Stt sc now ws x9 door c a) :
    ∃ a2, loopL (.one 11) (BD (lvl T (d + 12))) (rgA 0 n) a = some (.nx, a2) ∧ Stt sc now ws x9 door (c + n) a2 := by
  obtain ⟨a', e1, e2⟩ := loopL_inv (tg := .one 11) (body := BD (lvl T (d + 12))) (fun k a => Stt sc now ws x9 door (c + k) a) (xs := rgA 0 n) (n := 0) (a := a)
    (fun k x a hx hI => by
      have hk : k < n := by
        have := (List.getElem?_eq_some_iff.mp hx).1
        rwa [rgA_length] at this
      rw [rgA0_get hk] at hx
      cases hx
      obtain ⟨a1, a2, e1, e2, e3⟩ := inner (d := d) hw hd (show c + (0 + k) ≤ 800 by omega) (k : Int) hI
      exact ⟨a1, .nx, a2, e1, e2, .inl rfl, e3⟩) h
  rw [rgA_length, Nat.zero_add] at e2
  exact ⟨a', e1, e2⟩
section
variable {t : Tp} {s : Sn} {eL mL kL : List AV} {now : Int} {ws : List Int} {x9 x10 x11 x12 x13 x14 x15 : Option Slt}
theorem o1 (ht : t.Ok) (R : List SObj) : ∃ (door : Nat) (t' : Tp), O1 (lvl T (d + 12)) ⟨FW sc now s.A eL mL kL x9 x10 x11 x12 x13 x14 x15, tpO t :: R⟩ = some (.nx, ⟨FW sc now s.A eL mL kL x9 (some (.val (.int (door : Nat)))) x11 x12 x13 x14 x15, tpO t' :: R⟩) ∧ door ≤ 3 ∧ t'.Ok := by
  obtain ⟨i, t1, e1, k1, b1⟩ := s_draw (d + 11) ht 9 (by omega) R
  obtain ⟨v, hvm, hv⟩ := pickL (xs := [0, 0, 0, 0, 1, 1, 2, 2, 3]) (k := i) (by simp only [List.length_cons, List.length_nil]; omega)
  have hv : ([.int 0, .int 0, .int 0, .int 0, .int 1, .int 1, .int 2, .int 2, .int 3] : List AV)[i]? = some (.int v) := hv
  have hb : 0 ≤ v ∧ v ≤ 3 := by
    simp only [List.mem_cons, List.not_mem_nil, or_false] at hvm
    omega
  obtain ⟨n, rfl⟩ := Int.eq_ofNat_of_zero_le hb.1
  refine ⟨n, t1, ?_, by omega, k1⟩
  unfold O1 FW
  generalize s.A = SA
  simp -implicitDefEqProofs [e1, Pyx.atI_nat, hv]
theorem o2 (ht : t.Ok) (R : List SObj) : ∃ (now' : Int) (t' : Tp), O2 (lvl T (d + 12)) ⟨FW sc now s.A eL mL kL x9 x10 x11 x12 x13 x14 x15, tpO t :: R⟩ = some (.nx, ⟨FW sc now' s.A eL mL kL x9 x10 x11 x12 x13 x14 x15, tpO t' :: R⟩) ∧ t'.Ok := by
  obtain ⟨i, t1, e1, k1, b1⟩ := s_draw (d + 11) ht 8 (by omega) R
  obtain ⟨v, hvm, hv⟩ := pickL (xs := [0, 0, 1, 2, 9, 22, 41, 60]) (k := i) (by simp only [List.length_cons, List.length_nil]; omega)
  have hv : ([.int 0, .int 0, .int 1, .int 2, .int 9, .int 22, .int 41, .int 60] : List AV)[i]? = some (.int v) := hv
  refine ⟨if 1000000 < now + v then 1000000 else now + v, t1, ?_, k1⟩
  unfold O2 FW
  generalize s.A = SA
  simp -implicitDefEqProofs [e1, Pyx.atI_nat, hv]
theorem wA_set {ws : List Int} {k : Nat} {v : Int} : (wA ws).set k (.int v) = wA (ws.set k v) := by
  show (ws.map AV.int).set k (.int v) = (ws.set k v).map AV.int
  rw [List.map_set]
theorem o3 (ht : t.Ok) (hw : ws.length = 3) : ∃ (ws' : List Int) (t' : Tp), O3 (lvl T (d + 12)) ⟨FW sc now s.A eL mL kL x9 x10 x11 x12 x13 x14 x15, [tpO t, .lst (wA ws)]⟩ = some (.nx, ⟨FW sc now s.A eL mL kL x9 x10 x11 x12 x13 x14 x15, [tpO t', .lst (wA ws')]⟩) ∧ ws'.length = 3 ∧ t'.Ok := by
  obtain ⟨i, t1, e1, k1, b1⟩ := s_draw (d + 11) ht 6 (by omega) [.lst (wA ws)]
  by_cases h : (i : Int) = 0
  · obtain ⟨j, t2, e2, k2, b2⟩ := s_draw (d + 11) k1 6 (by omega) [.lst (wA ws)]
    obtain ⟨v, hvm, hv⟩ := pickL (xs := [1, 2, 9, 22, 41, 400]) (k := j) (by simp only [List.length_cons, List.length_nil]; omega)
    have hv : ([.int 1, .int 2, .int 9, .int 22, .int 41, .int 400] : List AV)[j]? = some (.int v) := hv
    obtain ⟨k, t3, e3, k3, b3⟩ := s_draw (d + 11) k2 3 (by omega) [.lst (wA ws)]
    refine ⟨ws.set k v, t3, ?_, by rw [List.length_set]; exact hw, k3⟩
    have hs := setL_nat (k := k) (v := .int v) (xs := wA ws) (by rw [List.length_map]; omega)
    rw [wA_set] at hs
    unfold O3 FW
    generalize s.A = SA
    generalize wA (ws.set k v) = W' at *
    generalize wA ws = W at *
    simp -implicitDefEqProofs [e1, e2, e3, h, Pyx.atI_nat, hv, hs]
  · refine ⟨ws, t1, ?_, hw, k1⟩
    unfold O3 FW
    generalize s.A = SA
    generalize wA ws = W at *
    simp -implicitDefEqProofs [e1, show i ≠ 0 by omega]
theorem o4 (hs : s.Ok) (ht : t.Ok) (R : List SObj) {door : Nat} (hd : door ≤ 3) : ∃ (door' : Nat) (t' : Tp), O4 (lvl T (d + 12)) ⟨FW sc now s.A eL mL kL x9 (some (.val (.int (door : Nat)))) x11 x12 x13 x14 x15, tpO t :: R⟩ = some (.nx, ⟨FW sc now s.A eL mL kL x9 (some (.val (.int (door' : Nat)))) x11 x12 x13 x14 x15, tpO t' :: R⟩) ∧ door' ≤ 3 ∧ t'.Ok := by
  have hl : (rA s.rows).length ≤ 100000 := by have := hs.l; rw [List.length_map]; omega
  by_cases h : (door : Int) = 0
  · by_cases h2 : (12 : Int) < ((rA s.rows).length : Nat)
    · obtain ⟨i, t1, e1, k1, b1⟩ := s_draw (d + 11) ht 2 (by omega) R
      refine ⟨1 + i, t1, ?_, by omega, k1⟩
      have e : ((1 + i : Nat) : Int) = 1 + (i : Int) := by omega
      rw [e]
      unfold O4 FW Sn.A
      generalize rA s.rows = RR at *
      generalize oA s.top = o1 at *
      generalize oA s.due = o2 at *
      simp -implicitDefEqProofs [e1, h, h2, hl]
    · refine ⟨door, t, ?_, hd, ht⟩
      unfold O4 FW Sn.A
      generalize rA s.rows = RR at *
      generalize oA s.top = o1 at *
      generalize oA s.due = o2 at *
      simp -implicitDefEqProofs [h, h2, hl]
  · refine ⟨door, t, ?_, hd, ht⟩
    unfold O4 FW
    generalize s.A = SA
    simp -implicitDefEqProofs [show door ≠ 0 by omega]
theorem o6 (hs : s.Ok) (ht : t.Ok) (hw : ws.length = 3) : ∃ (t' : Tp), O6 (lvl T (d + 12)) ⟨FW sc now s.A eL mL kL x9 x10 x11 x12 x13 x14 x15, [tpO t, .lst (wA ws)]⟩ = some (.nx, ⟨FW sc now s.A eL mL kL x9 x10 x11 x12 x13 x14 x15, [tpO t', .lst (wA ws)]⟩) ∧ t'.Ok := by
  obtain ⟨i, t1, e1, k1, b1⟩ := s_draw (d + 11) ht 3 (by omega) [.lst (wA ws)]
  by_cases h : (i : Int) = 0
  · obtain ⟨t2, e2, k2⟩ := s_beside (d := d + 8) (now := now) hs k1 hw
    refine ⟨t2, ?_, k2⟩
    unfold O6 FW
    generalize s.A = SA at *
    generalize wA ws = W at *
    simp -implicitDefEqProofs [e1, h, e2]
  · refine ⟨t1, ?_, k1⟩
    unfold O6 FW
    generalize s.A = SA at *
    generalize wA ws = W at *
    simp -implicitDefEqProofs [e1, show i ≠ 0 by omega]
end
theorem o5 {now : Int} {ws : List Int} {x9 : Option Slt} {door c : Nat} (hw : ws.length = 3) (hd : door ≤ 3) (hc : c ≤ 700) {a : AS} (h : Stt sc now ws x9 door c a) : ∃ (n : Nat) (a2 : AS), O5 (lvl T (d + 12)) a = some (.nx, a2) ∧ 1 ≤ n ∧ n ≤ 9 ∧ Stt sc now ws x9 door (c + n) a2 := by
  obtain ⟨t, s, E, ms, ks, x11, x12, x13, x14, x15, rfl, ht, hI⟩ := h
  by_cases h0 : (door : Int) = 0
  · obtain ⟨i, t1, e1, k1, b1⟩ := s_draw (d + 11) ht 5 (by omega) [.lst (wA ws)]
    obtain ⟨v, hvm, hv⟩ := pickL (xs := [1, 1, 2, 5, 9]) (k := i) (by simp only [List.length_cons, List.length_nil]; omega)
    have hv : ([.int 1, .int 1, .int 2, .int 5, .int 9] : List AV)[i]? = some (.int v) := hv
    have hb : 1 ≤ v ∧ v ≤ 9 := by
      simp only [List.mem_cons, List.not_mem_nil, or_false] at hvm
      omega
    obtain ⟨n, rfl⟩ := Int.eq_ofNat_of_zero_le (show 0 ≤ v by omega)
    obtain ⟨a2, e2, e3⟩ := inners (d := d) (sc := sc) (now := now) (ws := ws) (x9 := x9) (door := door) (c := c) n hw hd (by omega) ⟨t1, s, E, ms, ks, x11, x12, x13, x14, x15, rfl, k1, hI⟩
    refine ⟨n, a2, ?_, by omega, by omega, e3⟩
    have lp := (kFr_1 (G := lvl T (d + 12)) (tg := .one 11) (b := BD) (n := n) (by omega)).trans e2
    unfold O5
    generalize BD = bd at *
    unfold FW at *
    generalize s.A = SA at *
    generalize nE E = EE at *
    generalize mA ms = MM at *
    generalize wA ws = W at *
    simp -implicitDefEqProofs [e1, h0, Pyx.atI_nat, hv]
    simpa [h0] using lp
  · obtain ⟨a2, e2, e3⟩ := inners (d := d) (sc := sc) (now := now) (ws := ws) (x9 := x9) (door := door) (c := c) 1 hw hd (by omega) ⟨t, s, E, ms, ks, x11, x12, x13, x14, x15, rfl, ht, hI⟩
    refine ⟨1, a2, ?_, by omega, by omega, e3⟩
    have lp := (kFr_1 (G := lvl T (d + 12)) (tg := .one 11) (b := BD) (n := 1) (by omega)).trans e2
    unfold O5
    generalize BD = bd at *
    unfold FW at *
    generalize s.A = SA at *
    generalize nE E = EE at *
    generalize mA ms = MM at *
    generalize wA ws = W at *
    simp -implicitDefEqProofs [show door ≠ 0 by omega]
    exact lp
theorem outer {i : Nat} (hi : i ≤ 70) {x : AV} {a : AS} (h : OS sc i a) : ∃ a1 a2, asgT (.one 9) x a = some a1 ∧ BQL (lvl T (d + 12)) a1 = some (.nx, a2) ∧ OS sc (i + 1) a2 := by
  obtain ⟨t, s, E, ms, ks, now, ws, x9, x10, x11, x12, x13, x14, x15, c, rfl, ht, hw, hI, c1, c2⟩ := h
  obtain ⟨door, t1, e1, hd, k1⟩ := o1 (d := d) (sc := sc) (s := s) (eL := nE E) (mL := mA ms) (kL := ks) (now := now) (x9 := some (.val x)) (x10 := x10) (x11 := x11) (x12 := x12) (x13 := x13) (x14 := x14) (x15 := x15) ht [.lst (wA ws)]
  obtain ⟨now', t2, e2, k2⟩ := o2 (d := d) (sc := sc) (s := s) (eL := nE E) (mL := mA ms) (kL := ks) (now := now) (x9 := some (.val x)) (x10 := some (.val (.int (door : Nat)))) (x11 := x11) (x12 := x12) (x13 := x13) (x14 := x14) (x15 := x15) k1 [.lst (wA ws)]
  obtain ⟨ws', t3, e3, hw', k3⟩ := o3 (d := d) (sc := sc) (s := s) (eL := nE E) (mL := mA ms) (kL := ks) (now := now') (x9 := some (.val x)) (x10 := some (.val (.int (door : Nat)))) (x11 := x11) (x12 := x12) (x13 := x13) (x14 := x14) (x15 := x15) k2 hw
  obtain ⟨door', t4, e4, hd', k4⟩ := o4 (d := d) (sc := sc) (s := s) (eL := nE E) (mL := mA ms) (kL := ks) (now := now') (x9 := some (.val x)) (x11 := x11) (x12 := x12) (x13 := x13) (x14 := x14) (x15 := x15) hI.ok k3 [.lst (wA ws')] hd
  obtain ⟨n, a5, e5, n1, n2, t5, s5, E5, ms5, ks5, y11, y12, y13, y14, y15, rfl, k5, hI5⟩ := o5 (d := d) (sc := sc) (now := now') (ws := ws') (x9 := some (.val x)) (door := door') (c := c) hw' hd' (by omega) ⟨t4, s, E, ms, ks, x11, x12, x13, x14, x15, rfl, k4, hI⟩
  obtain ⟨t6, e6, k6⟩ := o6 (d := d) (sc := sc) (s := s5) (eL := nE E5) (mL := mA ms5) (kL := ks5) (now := now') (ws := ws') (x9 := some (.val x)) (x10 := some (.val (.int (door' : Nat)))) (x11 := y11) (x12 := y12) (x13 := y13) (x14 := y14) (x15 := y15) hI5.ok k5 hw'
  refine ⟨⟨FW sc now s.A (nE E) (mA ms) ks (some (.val x)) x10 x11 x12 x13 x14 x15, [tpO t, .lst (wA ws)]⟩, ⟨FW sc now' s5.A (nE E5) (mA ms5) ks5 (some (.val x)) (some (.val (.int (door' : Nat)))) y11 y12 y13 y14 y15, [tpO t6, .lst (wA ws')]⟩, rfl, ?_, t6, s5, E5, ms5, ks5, now', ws', _, _, _, _, _, _, _, c + n, rfl, k6, hw', hI5, by omega, by omega⟩
  unfold BQL
  rw [seq1 e1, seq1 e2, seq1 e3, seq1 e4, seq1 e5, seq1 e6]
  rfl
end
end K41
end
section
set_option maxRecDepth 100000
set_option maxHeartbeats 1000000
namespace K41
open PySem L2 Pyx
open PySem.Spec PyProof.Rows
theorem ints_of : ∀ {vs : List AV}, (∀ v ∈ vs, ∃ i, v = AV.int i) → ∃ ws : List Int, vs = wA ws
  | [], _ => ⟨[], rfl⟩
  | v :: vs, h => by
    obtain ⟨i, rfl⟩ := h v List.mem_cons_self
    obtain ⟨ws, rfl⟩ := ints_of (vs := vs) fun x hx => h x (List.mem_cons_of_mem _ hx)
    exact ⟨i :: ws, rfl⟩
theorem law_ok (d : Nat) (ns : List Int) : ∃ S, lvl T (d + 13) "law" [.lst (ns.map .int)] [] = some (.bl true, S) := by
  generalize hsc : AV.lst (ns.map .int) = sc
  obtain ⟨t0, h0, k0⟩ := s_tape (d + 11) ns
  rw [hsc] at h0
  obtain ⟨i, t1, e1, k1, b1⟩ := s_draw (d + 11) k0 4 (by omega) []
  obtain ⟨now, _, hnow⟩ := pickL (xs := [0, 3, 500, 999900]) (k := i) (by simp only [List.length_cons, List.length_nil]; omega)
  have hnow : ([.int 0, .int 3, .int 500, .int 999900] : List AV)[i]? = some (.int now) := hnow
  obtain ⟨vs, S', e2, l2, p2, t2, hS, k2⟩ := compR_st (G := lvl T (d + 12)) (ρ := [some (.val sc), some (.val (.ref 0)), some (.val (.int now)), none, none, none, none, none, none, none, none, none, none, none, none, none, none]) (i := 9)
    (elt := (eBin opIx (oE (eFrz (fLst (aCons (eCon (.int 1)) (aCons (eCon (.int 3)) (aCons (eCon (.int 9)) (aCons (eCon (.int 22)) (aCons (eCon (.int 41)) (aCons (eCon (.int 400)) aNil))))))))) (oE (eCall "_law_draw" (aCons (eVar 1) (aCons (eCon (.int 6)) aNil)))))) (S := [tpO t1]) (n := 3)
    (fun _ S => ∃ t : Tp, S = [tpO t] ∧ t.Ok) (fun v => ∃ i, v = AV.int i) rfl ⟨t1, rfl, k1⟩ (by omega) (fun k S hk ⟨t, e, ok⟩ => by
      subst e
      obtain ⟨j, t', f1, q1, c1⟩ := s_draw (d + 11) ok 6 (by omega) []
      obtain ⟨v, _, hv⟩ := pickL (xs := [1, 3, 9, 22, 41, 400]) (k := j) (by simp only [List.length_cons, List.length_nil]; omega)
      have hv : ([.int 1, .int 3, .int 9, .int 22, .int 41, .int 400] : List AV)[j]? = some (.int v) := hv
      refine ⟨.int v, [tpO t'], ?_, ⟨v, rfl⟩, t', rfl, q1⟩
      simp -implicitDefEqProofs [f1, Pyx.atI_nat, hv])
  subst hS
  obtain ⟨ws, rfl⟩ := ints_of p2
  have hw : ws.length = 3 := by rw [List.length_map] at l2; exact l2
  let s0 : Sn := ⟨0, [], none, none⟩
  have hs0 : s0.Ok := ⟨fun r h => (by cases h), by show 0 ≤ 1000; omega⟩
  have e3 := s_new (d := d + 11) (S := [tpO t2, .lst (wA ws)])
  have e4 := s_same (d + 11) [tpO t2, .lst (wA ws)] (Sn.sm hs0) (by omega)
  obtain ⟨m, t3, e5, k3, b3⟩ := s_draw (d + 11) k2 25 (by omega) [.lst (wA ws)]
  have hm : m ≤ 24 := by omega
  have hI0 : LI 0 s0 [] [] [] := ⟨hs0, Nat.le_refl 0, Nat.le_refl 0, List.Perm.refl _, List.nodup_nil, fun e h => (by cases h), fun x h => (by cases h), rfl⟩
  obtain ⟨a9, e9, hO⟩ := loopL_inv (tg := .one 9) (body := BQL (lvl T (d + 12))) (OS sc) (xs := rgA 0 (6 + m)) (n := 0) (a := ⟨FW sc now s0.A (nE []) (mA []) [] none none none none none none none, [tpO t3, .lst (wA ws)]⟩)
    (fun k x a hx hI => by
      have hk : k < 6 + m := by
        have := (List.getElem?_eq_some_iff.mp hx).1
        rwa [rgA_length] at this
      obtain ⟨a1, a2, e1, e2, e3⟩ := outer (d := d) (show 0 + k ≤ 70 by omega) (x := x) hI
      exact ⟨a1, .nx, a2, e1, e2, .inl rfl, e3⟩) ⟨t3, s0, [], [], [], now, ws, none, none, none, none, none, none, none, 0, rfl, k3, hw, hI0, Nat.le_refl 0, by omega⟩
  rw [rgA_length, Nat.zero_add] at hO
  obtain ⟨t, s, E, ms, ks, now', ws', x9, x10, x11, x12, x13, x14, x15, c, rfl, ht, hw', hI, c1, c2⟩ := hO
  have lp := (kFr_1 (G := lvl T (d + 12)) (tg := .one 9) (b := BQL) (n := 6 + m) (by omega)).trans e9
  have hkl := hI.kl
  have hrl := hI.rl
  obtain ⟨t4, f1, q1⟩ := s_again (d := d + 2) (R := [.lst (wA ws')]) hI.kp (by intro h; rw [h] at hkl; simp at hkl; omega) (by omega) ht
  have f2 := s_same (d + 11) [tpO t4, .lst (wA ws')] (Sn.sm hI.ok) (by omega)
  have f3 := s_once (d := d + 11) (S := [tpO t4, .lst (wA ws')]) hI.ok (ms := ms) (by omega) (by have := hI.el; omega) hI.pm hI.nd
  refine ⟨[tpO t4, .lst (wA ws')], ?_⟩
  have st0 : L0 (lvl T (d + 12)) ⟨[some (.val sc), none, none, none, none, none, none, none, none, none, none, none, none, none, none, none, none], []⟩ = some (.nx, ⟨[some (.val sc), some (.val (.ref 0)), none, none, none, none, none, none, none, none, none, none, none, none, none, none, none], [tpO t0]⟩) := by
    unfold L0
    simp -implicitDefEqProofs [h0]
  have st1 : L1 (lvl T (d + 12)) ⟨[some (.val sc), some (.val (.ref 0)), none, none, none, none, none, none, none, none, none, none, none, none, none, none, none], [tpO t0]⟩ = some (.nx, ⟨[some (.val sc), some (.val (.ref 0)), some (.val (.int now)), none, none, none, none, none, none, none, none, none, none, none, none, none, none], [tpO t1]⟩) := by
    unfold L1
    simp -implicitDefEqProofs [e1, Pyx.atI_nat, hnow]
  have st2 : L2 (lvl T (d + 12)) ⟨[some (.val sc), some (.val (.ref 0)), some (.val (.int now)), none, none, none, none, none, none, none, none, none, none, none, none, none, none], [tpO t1]⟩ = some (.nx, ⟨[some (.val sc), some (.val (.ref 0)), some (.val (.int now)), some (.val (.ref 1)), none, none, none, none, none, none, none, none, none, none, none, none, none], [tpO t2, .lst (wA ws)]⟩) := by
    unfold L2
    generalize wA ws = W at *
    have e2' := e2
    rw [show ((3 : Nat) : Int) = 3 from rfl] at e2'
    simp -implicitDefEqProofs [e2']
  have st3 : L3 (lvl T (d + 12)) ⟨[some (.val sc), some (.val (.ref 0)), some (.val (.int now)), some (.val (.ref 1)), none, none, none, none, none, none, none, none, none, none, none, none, none], [tpO t2, .lst (wA ws)]⟩ = some (.nx, ⟨[some (.val sc), some (.val (.ref 0)), some (.val (.int now)), some (.val (.ref 1)), some (.val s0.A), none, none, none, none, none, none, none, none, none, none, none, none], [tpO t2, .lst (wA ws)]⟩) := by
    unfold L3
    rw [show Sn.A ⟨0, [], none, none⟩ = s0.A from rfl] at e3
    generalize s0.A = SA at *
    generalize wA ws = W at *
    simp -implicitDefEqProofs [e3]
  have st4 : L4 (lvl T (d + 12)) ⟨[some (.val sc), some (.val (.ref 0)), some (.val (.int now)), some (.val (.ref 1)), some (.val s0.A), none, none, none, none, none, none, none, none, none, none, none, none], [tpO t2, .lst (wA ws)]⟩ = some (.nx, ⟨[some (.val sc), some (.val (.ref 0)), some (.val (.int now)), some (.val (.ref 1)), some (.val s0.A), some (.val s0.A), none, none, none, none, none, none, none, none, none, none, none], [tpO t2, .lst (wA ws)]⟩) := by
    unfold L4
    have e : s0.A = .tup [.int 0, .tup [], .non, .non] := rfl
    rw [e]
    generalize wA ws = W at *
    simp -implicitDefEqProofs
  have st5 : L5 (lvl T (d + 12)) ⟨[some (.val sc), some (.val (.ref 0)), some (.val (.int now)), some (.val (.ref 1)), some (.val s0.A), some (.val s0.A), none, none, none, none, none, none, none, none, none, none, none], [tpO t2, .lst (wA ws)]⟩ = some (.nx, ⟨[some (.val sc), some (.val (.ref 0)), some (.val (.int now)), some (.val (.ref 1)), some (.val s0.A), some (.val s0.A), none, none, none, none, none, none, none, none, none, none, none], [tpO t2, .lst (wA ws)]⟩) := by
    unfold L5
    generalize s0.A = SA at *
    generalize wA ws = W at *
    simp -implicitDefEqProofs [e4]
  have st6 : ∀ r : MS, sSeq L6 (sSeq L7 (sSeq L8 r)) (lvl T (d + 12)) ⟨[some (.val sc), some (.val (.ref 0)), some (.val (.int now)), some (.val (.ref 1)), some (.val s0.A), some (.val s0.A), none, none, none, none, none, none, none, none, none, none, none], [tpO t2, .lst (wA ws)]⟩ = r (lvl T (d + 12)) ⟨FW sc now s0.A (nE []) (mA []) [] none none none none none none none, [tpO t2, .lst (wA ws)]⟩ := fun r => by
    unfold L6 L7 L8 FW
    generalize s0.A = SA at *
    generalize wA ws = W at *
    simp -implicitDefEqProofs
  have st9 : L9 (lvl T (d + 12)) ⟨FW sc now s0.A (nE []) (mA []) [] none none none none none none none, [tpO t2, .lst (wA ws)]⟩ = some (.nx, ⟨FW sc now' s.A (nE E) (mA ms) ks x9 x10 x11 x12 x13 x14 x15, [tpO t, .lst (wA ws')]⟩) := by
    unfold L9
    rw [show ((6 + m : Nat) : Int) = 6 + (m : Int) by omega] at lp
    generalize BQL = bd at *
    unfold FW at *
    generalize s0.A = SA at *
    generalize s.A = SB at *
    generalize nE E = EE at *
    generalize mA ms = MM at *
    generalize wA ws' = W' at *
    generalize wA ws = W at *
    simp -implicitDefEqProofs [e5]
    exact lp
  have st10 : L10 (lvl T (d + 12)) ⟨FW sc now' s.A (nE E) (mA ms) ks x9 x10 x11 x12 x13 x14 x15, [tpO t, .lst (wA ws')]⟩ = some (.rt (.bl true), ⟨(FW sc now' s.A (nE E) (mA ms) ks x9 x10 x11 x12 x13 x14 x15).set 8 (some (.val (.lst ks))) |>.set 6 (some (.val (.lst (nE E)))) |>.set 7 (some (.val (.lst (mA ms)))), [tpO t4, .lst (wA ws')]⟩) := by
    unfold L10 FW
    generalize s.A = SB at *
    generalize nE E = EE at *
    generalize mA ms = MM at *
    generalize wA ws' = W' at *
    simp -implicitDefEqProofs [f1, f2, f3]
  rw [l_law, runD_ev (by rfl), runB_ev, u_law]
  show kOut (sSeq L0 (sSeq L1 (sSeq L2 (sSeq L3 (sSeq L4 (sSeq L5 (sSeq L6 (sSeq L7 (sSeq L8 (sSeq L9 (sSeq L10 sSkip)))))))))) (lvl T (d + 12)) ⟨[some (.val sc), none, none, none, none, none, none, none, none, none, none, none, none, none, none, none, none], []⟩) = _
  rw [seq1 st0, seq1 st1, seq1 st2, seq1 st3, seq1 st4, seq1 st5, st6, seq1 st9]
  rw [sSeq_ev, st10]
  rfl
end K41
end
section
set_option maxRecDepth 100000
set_option maxHeartbeats 0
namespace K41
open PySem PySem.Spec PyProof.Rows L2 Pyx
theorem tab : tabOf W 60 defs consts Ds = some T := by
  kernel_rfl
theorem h_nds : (Ds.map (·.name)).Nodup := by decide +kernel
def dd (D : DD) : He.DefD := ⟨(D.name, none), D.name, D.name, D.args, D.body, D.scope, [], []⟩
def fn : List He.DefD := Ds.map dd
def fa : List He.Fa := (Ds.map fun D => He.Fa.glo D.name) ++ (bltNames.map fun x => He.Fa.free x)
theorem scs : ∀ D ∈ Ds, FnScope D.N D.ps D.scope := by
  intro D hD
  simp only [Ds, List.mem_cons, List.not_mem_nil, or_false] at hD
  rcases hD with rfl | rfl | rfl | rfl | rfl | rfl | rfl | rfl | rfl | rfl | rfl | rfl | rfl | rfl | rfl | rfl | rfl | rfl | rfl | rfl | rfl | rfl | rfl | rfl | rfl | rfl | rfl | rfl | rfl | rfl <;>
    exact ⟨rfl, rfl, rfl, by decide +kernel, rfl, by decide +kernel, by decide +kernel⟩
/-- a constant that is a tuple of texts -/
def conB (K : PySem.W.Frag) (x : Str) (zs : List Str) : Bool := match PySem.W.nsIn K mainGlobals x with
  | some (some (.ref a)) => (match K.lookup a with
    | some ⟨.type c, none, .seq its _, _⟩ => decide (c = "tuple") && (decide (its.size ≤ 100000) && He.relAll (zs.map V.str) its.toList)
    | _ => false)
  | _ => false
def conR (K : PySem.W.Frag) (p : Str × AV) : Bool := match p.2 with
  | .tup xs => (match asStrs xs with
    | some zs => conB K p.1 zs
    | none => false)
  | .int i => (He.Fa.int p.1 i).ok K
  | _ => false
theorem strs_map : ∀ {xs : List AV} {zs : List Str}, asStrs xs = some zs → xs = zs.map AV.str
  | [], zs, h => by cases h; rfl
  | x :: xs, zs, h => by
    cases x with
    | str z =>
      obtain ⟨ys, e1, e2⟩ := Option.map_eq_some_iff.mp (show (asStrs xs).map (z :: ·) = some zs from h)
      rw [← e2, strs_map e1]
      rfl
    | _ => cases h
theorem rps_strs {K : PySem.W.Frag} {H : Hp} {hot : Hot} {m : List Addr} : ∀ zs : List Str, Rps K H hot m (zs.map V.str) (zs.map AV.str)
  | [] => .nil
  | z :: zs => .cons (.str z) (rps_strs zs)
theorem con_ok {K : PySem.W.Frag} {h : Heap} {mg : Str → Option Value} (X : K.In h) (G : h.Ns mainGlobals mg) {p : Str × AV} (c : conR K p = true) : ∃ u xv, mg p.1 = some u ∧ RelV xv u ∧ ConV K xv p.2 := by
  obtain ⟨x, v⟩ := p
  cases v with
  | tup xs =>
    have c1 : (match asStrs xs with | some zs => conB K x zs | none => false) = true := c
    cases e : asStrs xs with
    | none => rw [e] at c1; cases c1
    | some zs =>
      rw [e] at c1
      have c1 : conB K x zs = true := c1
      unfold conB at c1
      cases e1 : PySem.W.nsIn K mainGlobals x with
      | none => rw [e1] at c1; cases c1
      | some o =>
        rw [e1] at c1
        cases o with
        | none => cases c1
        | some u =>
          cases u with
          | ref a =>
            have c2 : (match K.lookup a with
              | some ⟨.type c, none, .seq its _, _⟩ => decide (c = "tuple") && (decide (its.size ≤ 100000) && He.relAll (zs.map V.str) its.toList)
              | _ => false) = true := c1
            cases e2 : K.lookup a with
            | none => rw [e2] at c2; cases c2
            | some ob =>
              obtain ⟨oc, od, dt, sl⟩ := ob
              rw [e2] at c2
              cases oc with
              | type c =>
                cases od with
                | some _ => cases dt <;> cases c2
                | none =>
                cases dt with
                | seq its n =>
                  obtain ⟨c3, c4⟩ := Bool.and_eq_true_iff.mp (show (decide (c = "tuple") && (decide (its.size ≤ 100000) && He.relAll (zs.map V.str) its.toList)) = true from c2)
                  obtain ⟨c5, c6⟩ := Bool.and_eq_true_iff.mp c4
                  have c3 := of_decide_eq_true c3
                  subst c3
                  refine ⟨.ref a, .ref a, PySem.W.mg_of X G e1, rfl, fun H hot m => ?_⟩
                  rw [strs_map e]
                  exact .tup (.inr ⟨_, its, n, e2, ⟨rfl, rfl⟩, rfl, Nat.le_trans (of_decide_eq_true c5) (by decide), He.relAll_ok c6⟩) (rps_strs zs)
                | _ => cases c2
              | _ => cases od <;> cases dt <;> cases c2
          | _ => cases c1
  | int i =>
    obtain ⟨t, e⟩ := He.int_ok X G (show (He.Fa.int x i).ok K = true from c)
    exact ⟨.int i t, .int i, e, ⟨t, rfl⟩, fun H hot m => .int i⟩
  | _ => cases c
/-! ### the code objects' tables -/
def cdB (K : PySem.W.Frag) : Value → Bool
  | .ref c => (tabsP K).any fun p => p.1 == c
  | _ => false
def gxB (K : PySem.W.Frag) (x : Str) : Bool := K.all fun q => match q.2.data with
  | .func fd => !(decide (fd.name = x) && PySem.W.codeIn K fd.code x) || cdB K fd.code
  | _ => true
def gxs (K : PySem.W.Frag) : Bool := Ds.all fun D => !D.gx || gxB K D.name
def tabsB (g : Addr → Option PySem.Obj) (K : PySem.W.Frag) : Bool := (tabsP K).all fun p => PySem.W.codeHdIn K p.1 p.2 && (match g p.2 with
  | some o => He.emptyTab o
  | none => false)
theorem gx_in {K : PySem.W.Frag} (h : gxs K = true) {D : DD} (hD : D ∈ Ds) (hg : D.gx = true) {f : Addr} {fd : FuncData} (F : FunD K D.name D.name D.args D.body D.scope [] [] f fd) : ∃ c P, fd.code = .ref c ∧ (c, P) ∈ tabsP K := by
  have h1 := List.all_eq_true.mp h D hD
  rw [hg] at h1
  have h2 : gxB K D.name = true := h1
  obtain ⟨oc, od, dV, kV, doc, pm, an, cdv, ct, osl, rfl, lk, hcd, _, _⟩ := F.ex
  have h3 := List.all_eq_true.mp h2 _ (He.lookup_mem lk)
  have h4 : (!(decide (D.name = D.name) && PySem.W.codeIn K cdv D.name) || cdB K cdv) = true := h3
  rw [decide_eq_true rfl, hcd] at h4
  have h5 : cdB K cdv = true := h4
  cases cdv with
  | ref c =>
    obtain ⟨p, hp, e⟩ := List.any_eq_true.mp (show ((tabsP K).any fun p => p.1 == c) = true from h5)
    obtain ⟨c', P⟩ := p
    have e' : c' = c := beq_iff_eq.mp e
    subst e'
    exact ⟨c', P, rfl, hp⟩
  | _ => cases h5
theorem tab_out {K : PySem.W.Frag} {p : Addr × Addr} (h : p ∈ tabsP K) : K.lookup p.2 = none := by
  obtain ⟨q, _, e⟩ := List.mem_filterMap.mp h
  split at e
  · split at e
    · split at e
      · rename_i hc
        cases e
        exact hc.2
      · cases e
    · cases e
  · cases e
theorem tabs_of {g : Addr → Option PySem.Obj} {K : PySem.W.Frag} (h : tabsB g K = true) : ∀ p ∈ tabsP K, PySem.W.codeHdIn K p.1 p.2 = true ∧ g p.2 = some { cls := .none, data := .fields #[] } := by
  intro p hp
  obtain ⟨h1, h2⟩ := Bool.and_eq_true_iff.mp (List.all_eq_true.mp h p hp)
  refine ⟨h1, ?_⟩
  cases q : g p.2 with
  | none =>
    rw [q] at h2
    cases h2
  | some o =>
    rw [q] at h2
    rw [He.emptyTab_eq h2]
theorem qd_send : QdOk Ds (("is_eliciting" : Str), q_is_eliciting) :=
  ⟨D_is_eliciting, by simp [Ds], "frame", _, _, rfl, rfl, rfl, by decide +kernel, by decide +kernel, by decide +kernel, by rfl⟩
theorem qds_ok : ∀ D ∈ Ds, ∀ p ∈ D.qds, QdOk Ds p := by
  intro D hD p hp
  by_cases e : D = D_send_packet
  · subst e
    rw [List.mem_singleton.mp hp]
    exact qd_send
  · exfalso
    simp only [Ds, List.mem_cons, List.not_mem_nil, or_false] at hD
    rcases hD with rfl | rfl | rfl | rfl | rfl | rfl | rfl | rfl | rfl | rfl | rfl | rfl | rfl | rfl | rfl | rfl | rfl | rfl | rfl | rfl | rfl | rfl | rfl | rfl | rfl | rfl | rfl | rfl | rfl | rfl <;> first | exact absurd rfl e | cases hp
end K41
end
section
set_option maxRecDepth 100000
set_option maxHeartbeats 0
namespace K41
open PySem PySem.Spec PyProof.Rows L2 Pyx
abbrev R0 : PySem.W.OpenRow := PySem.W.OpenLaw.row PySem.Challenge.rw_sealedlink_k41_whole_four_fates_of_a_pac
def ex (K : PySem.W.Frag) : Bool := consts.all fun p => conR K p
abbrev AlC : Type := He.AlD × Bool
def obC (g : Addr → Option PySem.Obj) : AlC := (He.obsD fa fn (He.frT g (He.asD g 4)), ex (He.frT g (He.asD g 4)) && (gxs (He.frT g (He.asD g 4)) && tabsB g (He.frT g (He.asD g 4))))
structure Sy (K : PySem.W.Frag) (h : Heap) : Prop where
  c : He.SaysD fa fn K
  ex : ex K = true
  gx : gxs K = true
  tb : ∀ p ∈ tabsP K, PySem.W.codeHdIn K p.1 p.2 = true ∧ h.get? p.2 = some { cls := .none, data := .fields #[] }
theorem sy_of {h : Heap} (e : obC h.get? = (He.valD fn, true)) : Sy (He.frT h.get? (He.asD h.get? 4)) h := by
  have e1 : He.obsD fa fn (He.frT h.get? (He.asD h.get? 4)) = He.valD fn := congrArg (fun z : AlC => z.1) e
  have e2 : (ex (He.frT h.get? (He.asD h.get? 4)) && (gxs (He.frT h.get? (He.asD h.get? 4)) && tabsB h.get? (He.frT h.get? (He.asD h.get? 4)))) = true := congrArg (fun z : AlC => z.2) e
  obtain ⟨h1, h2⟩ := Bool.and_eq_true_iff.mp e2
  obtain ⟨h3, h4⟩ := Bool.and_eq_true_iff.mp h2
  exact ⟨e1, h1, h3, tabs_of h4⟩
def hk : PySem.W.Hook where
  α := AlC
  obs := fun s => obC s.heap.get?
  val := fun _ => (He.valD fn, true)
  says := fun _ h => ∃ K : PySem.W.Frag, K.In h ∧ Sy K h
  of := fun _ _ e => ⟨_, He.frT_in, sy_of e⟩
  keeps := fun w h h' said stays => by
    obtain ⟨K, inK, y⟩ := said
    exact ⟨K, PySem.W.Frag.In.keeps inK stays, y.c, y.ex, y.gx, fun p hp => ⟨(y.tb p hp).1, stays _ _ (y.tb p hp).2⟩⟩
def ob (s : PySem.W.SharedT) : AlC := obC (HandSHeadRun.getT s)
theorem ob_eq (s : PySem.W.SharedT) : ob s = hk.obs s.abs := by
  have e : HandSHeadRun.getT s = s.abs.heap.get? := funext (HandSHeadRun.getT_eq s)
  show obC (HandSHeadRun.getT s) = obC s.abs.heap.get?
  rw [e]
theorem run (w : World) : HandSHeadRun.RunEq R0 (PySem.W.view R0.prog [34]) hk ob 4000 ((Ds.map (·.name) ++ consts.map (·.1)).filter fun x => decide (x ≠ "law")) w := by
  intro os
  kernel_rfl
end K41
end
section
set_option maxRecDepth 100000
set_option maxHeartbeats 0
namespace K41
open PySem PySem.Spec PyProof.Rows L2 Pyx
theorem bn_contains {K : PySem.W.Frag} {f : Addr} {fd : FuncData} (F : FunD K D_contains.name D_contains.name D_contains.args D_contains.body D_contains.scope [] [] f fd) : Binds K fd D_contains.ps [] := F.bindsN fun _ _ _ _ _ _ us hl => match us, hl with | [_, _], _ => by kernel_rfl
theorem bn_greatest {K : PySem.W.Frag} {f : Addr} {fd : FuncData} (F : FunD K D_greatest.name D_greatest.name D_greatest.args D_greatest.body D_greatest.scope [] [] f fd) : Binds K fd D_greatest.ps [] := F.bindsN fun _ _ _ _ _ _ us hl => match us, hl with | [_], _ => by kernel_rfl
theorem bn_is_eliciting {K : PySem.W.Frag} {f : Addr} {fd : FuncData} (F : FunD K D_is_eliciting.name D_is_eliciting.name D_is_eliciting.args D_is_eliciting.body D_is_eliciting.scope [] [] f fd) : Binds K fd D_is_eliciting.ps [] := F.bindsN fun _ _ _ _ _ _ us hl => match us, hl with | [_], _ => by kernel_rfl
theorem bn_new_sent {K : PySem.W.Frag} {f : Addr} {fd : FuncData} (F : FunD K D_new_sent.name D_new_sent.name D_new_sent.args D_new_sent.body D_new_sent.scope [] [] f fd) : Binds K fd D_new_sent.ps [] := F.bindsN fun _ _ _ _ _ _ us hl => match us, hl with | [], _ => by kernel_rfl
theorem bn_send_packet {K : PySem.W.Frag} {f : Addr} {fd : FuncData} (F : FunD K D_send_packet.name D_send_packet.name D_send_packet.args D_send_packet.body D_send_packet.scope [] [] f fd) : Binds K fd D_send_packet.ps [] := F.bindsN fun _ _ _ _ _ _ us hl => match us, hl with | [_, _, _, _, _, _], _ => by kernel_rfl
theorem bn_take_report {K : PySem.W.Frag} {f : Addr} {fd : FuncData} (F : FunD K D_take_report.name D_take_report.name D_take_report.args D_take_report.body D_take_report.scope [] [] f fd) : Binds K fd D_take_report.ps [] := F.bindsN fun _ _ _ _ _ _ us hl => match us, hl with | [_, _], _ => by kernel_rfl
theorem bn_loss_deadline {K : PySem.W.Frag} {f : Addr} {fd : FuncData} (F : FunD K D_loss_deadline.name D_loss_deadline.name D_loss_deadline.args D_loss_deadline.body D_loss_deadline.scope [] [] f fd) : Binds K fd D_loss_deadline.ps [] := F.bindsN fun _ _ _ _ _ _ us hl => match us, hl with | [_, _], _ => by kernel_rfl
theorem bn_look {K : PySem.W.Frag} {f : Addr} {fd : FuncData} (F : FunD K D_look.name D_look.name D_look.args D_look.body D_look.scope [] [] f fd) : Binds K fd D_look.ps [] := F.bindsN fun _ _ _ _ _ _ us hl => match us, hl with | [_, _, _], _ => by kernel_rfl
theorem bn_drop_rows {K : PySem.W.Frag} {f : Addr} {fd : FuncData} (F : FunD K D_drop_rows.name D_drop_rows.name D_drop_rows.args D_drop_rows.body D_drop_rows.scope [] [] f fd) : Binds K fd D_drop_rows.ps [] := F.bindsN fun _ _ _ _ _ _ us hl => match us, hl with | [_], _ => by kernel_rfl
theorem bn__law_tape {K : PySem.W.Frag} {f : Addr} {fd : FuncData} (F : FunD K D__law_tape.name D__law_tape.name D__law_tape.args D__law_tape.body D__law_tape.scope [] [] f fd) : Binds K fd D__law_tape.ps [] := F.bindsN fun _ _ _ _ _ _ us hl => match us, hl with | [_], _ => by kernel_rfl
theorem bn__law_draw {K : PySem.W.Frag} {f : Addr} {fd : FuncData} (F : FunD K D__law_draw.name D__law_draw.name D__law_draw.args D__law_draw.body D__law_draw.scope [] [] f fd) : Binds K fd D__law_draw.ps [] := F.bindsN fun _ _ _ _ _ _ us hl => match us, hl with | [_, _], _ => by kernel_rfl
theorem bn__law_same {K : PySem.W.Frag} {f : Addr} {fd : FuncData} (F : FunD K D__law_same.name D__law_same.name D__law_same.args D__law_same.body D__law_same.scope [] [] f fd) : Binds K fd D__law_same.ps [] := F.bindsN fun _ _ _ _ _ _ us hl => match us, hl with | [_, _], _ => by kernel_rfl
theorem bn__law_put {K : PySem.W.Frag} {f : Addr} {fd : FuncData} (F : FunD K D__law_put.name D__law_put.name D__law_put.args D__law_put.body D__law_put.scope [] [] f fd) : Binds K fd D__law_put.ps [] := F.bindsN fun _ _ _ _ _ _ us hl => match us, hl with | [_, _, _], _ => by kernel_rfl
theorem bn__law_in {K : PySem.W.Frag} {f : Addr} {fd : FuncData} (F : FunD K D__law_in.name D__law_in.name D__law_in.args D__law_in.body D__law_in.scope [] [] f fd) : Binds K fd D__law_in.ps [] := F.bindsN fun _ _ _ _ _ _ us hl => match us, hl with | [_, _], _ => by kernel_rfl
theorem bn__law_equal {K : PySem.W.Frag} {f : Addr} {fd : FuncData} (F : FunD K D__law_equal.name D__law_equal.name D__law_equal.args D__law_equal.body D__law_equal.scope [] [] f fd) : Binds K fd D__law_equal.ps [] := F.bindsN fun _ _ _ _ _ _ us hl => match us, hl with | [_, _], _ => by kernel_rfl
theorem bn__law_eliciting {K : PySem.W.Frag} {f : Addr} {fd : FuncData} (F : FunD K D__law_eliciting.name D__law_eliciting.name D__law_eliciting.args D__law_eliciting.body D__law_eliciting.scope [] [] f fd) : Binds K fd D__law_eliciting.ps [] := F.bindsN fun _ _ _ _ _ _ us hl => match us, hl with | [_], _ => by kernel_rfl
theorem bn__law_sent {K : PySem.W.Frag} {f : Addr} {fd : FuncData} (F : FunD K D__law_sent.name D__law_sent.name D__law_sent.args D__law_sent.body D__law_sent.scope [] [] f fd) : Binds K fd D__law_sent.ps [] := F.bindsN fun _ _ _ _ _ _ us hl => match us, hl with | [_, _, _, _, _, _], _ => by kernel_rfl
theorem bn__law_reports {K : PySem.W.Frag} {f : Addr} {fd : FuncData} (F : FunD K D__law_reports.name D__law_reports.name D__law_reports.args D__law_reports.body D__law_reports.scope [] [] f fd) : Binds K fd D__law_reports.ps [] := F.bindsN fun _ _ _ _ _ _ us hl => match us, hl with | [_, _], _ => by kernel_rfl
theorem bn__law_looks {K : PySem.W.Frag} {f : Addr} {fd : FuncData} (F : FunD K D__law_looks.name D__law_looks.name D__law_looks.args D__law_looks.body D__law_looks.scope [] [] f fd) : Binds K fd D__law_looks.ps [] := F.bindsN fun _ _ _ _ _ _ us hl => match us, hl with | [_, _, _], _ => by kernel_rfl
theorem bn__law_units {K : PySem.W.Frag} {f : Addr} {fd : FuncData} (F : FunD K D__law_units.name D__law_units.name D__law_units.args D__law_units.body D__law_units.scope [] [] f fd) : Binds K fd D__law_units.ps [] := F.bindsN fun _ _ _ _ _ _ us hl => match us, hl with | [_, _], _ => by kernel_rfl
theorem bn__law_frame {K : PySem.W.Frag} {f : Addr} {fd : FuncData} (F : FunD K D__law_frame.name D__law_frame.name D__law_frame.args D__law_frame.body D__law_frame.scope [] [] f fd) : Binds K fd D__law_frame.ps [] := F.bindsN fun _ _ _ _ _ _ us hl => match us, hl with | [_], _ => by kernel_rfl
theorem bn__law_due {K : PySem.W.Frag} {f : Addr} {fd : FuncData} (F : FunD K D__law_due.name D__law_due.name D__law_due.args D__law_due.body D__law_due.scope [] [] f fd) : Binds K fd D__law_due.ps [] := F.bindsN fun _ _ _ _ _ _ us hl => match us, hl with | [_, _, _], _ => by kernel_rfl
theorem bn__law_told {K : PySem.W.Frag} {f : Addr} {fd : FuncData} (F : FunD K D__law_told.name D__law_told.name D__law_told.args D__law_told.body D__law_told.scope [] [] f fd) : Binds K fd D__law_told.ps [] := F.bindsN fun _ _ _ _ _ _ us hl => match us, hl with | [_, _, _], _ => by kernel_rfl
theorem bn__law_some_report {K : PySem.W.Frag} {f : Addr} {fd : FuncData} (F : FunD K D__law_some_report.name D__law_some_report.name D__law_some_report.args D__law_some_report.body D__law_some_report.scope [] [] f fd) : Binds K fd D__law_some_report.ps [] := F.bindsN fun _ _ _ _ _ _ us hl => match us, hl with | [_, _], _ => by kernel_rfl
theorem bn__law_rest {K : PySem.W.Frag} {f : Addr} {fd : FuncData} (F : FunD K D__law_rest.name D__law_rest.name D__law_rest.args D__law_rest.body D__law_rest.scope [] [] f fd) : Binds K fd D__law_rest.ps [] := F.bindsN fun _ _ _ _ _ _ us hl => match us, hl with | [_, _, _, _, _], _ => by kernel_rfl
theorem bn__law_changed {K : PySem.W.Frag} {f : Addr} {fd : FuncData} (F : FunD K D__law_changed.name D__law_changed.name D__law_changed.args D__law_changed.body D__law_changed.scope [] [] f fd) : Binds K fd D__law_changed.ps [] := F.bindsN fun _ _ _ _ _ _ us hl => match us, hl with | [_, _, _], _ => by kernel_rfl
theorem bn__law_beside {K : PySem.W.Frag} {f : Addr} {fd : FuncData} (F : FunD K D__law_beside.name D__law_beside.name D__law_beside.args D__law_beside.body D__law_beside.scope [] [] f fd) : Binds K fd D__law_beside.ps [] := F.bindsN fun _ _ _ _ _ _ us hl => match us, hl with | [_, _, _, _], _ => by kernel_rfl
theorem bn__law_asked_again {K : PySem.W.Frag} {f : Addr} {fd : FuncData} (F : FunD K D__law_asked_again.name D__law_asked_again.name D__law_asked_again.args D__law_asked_again.body D__law_asked_again.scope [] [] f fd) : Binds K fd D__law_asked_again.ps [] := F.bindsN fun _ _ _ _ _ _ us hl => match us, hl with | [_, _], _ => by kernel_rfl
theorem bn__law_once_each {K : PySem.W.Frag} {f : Addr} {fd : FuncData} (F : FunD K D__law_once_each.name D__law_once_each.name D__law_once_each.args D__law_once_each.body D__law_once_each.scope [] [] f fd) : Binds K fd D__law_once_each.ps [] := F.bindsN fun _ _ _ _ _ _ us hl => match us, hl with | [_, _, _], _ => by kernel_rfl
theorem bn_law {K : PySem.W.Frag} {f : Addr} {fd : FuncData} (F : FunD K D_law.name D_law.name D_law.args D_law.body D_law.scope [] [] f fd) : Binds K fd D_law.ps [] := F.bindsN fun _ _ _ _ _ _ us hl => match us, hl with | [_], _ => by kernel_rfl
def Bn (K : PySem.W.Frag) (D : DD) : Prop := ∀ (f : Addr) (fd : FuncData), FunD K D.name D.name D.args D.body D.scope [] [] f fd → Binds K fd D.ps []
theorem bnd {K : PySem.W.Frag} : ∀ D ∈ Ds, Bn K D := List.forall_mem_cons.mpr ⟨fun _ _ F => bn_contains F, List.forall_mem_cons.mpr ⟨fun _ _ F => bn_greatest F, List.forall_mem_cons.mpr ⟨fun _ _ F => bn_is_eliciting F, List.forall_mem_cons.mpr ⟨fun _ _ F => bn_new_sent F, List.forall_mem_cons.mpr ⟨fun _ _ F => bn_send_packet F, List.forall_mem_cons.mpr ⟨fun _ _ F => bn_take_report F, List.forall_mem_cons.mpr ⟨fun _ _ F => bn_loss_deadline F, List.forall_mem_cons.mpr ⟨fun _ _ F => bn_look F, List.forall_mem_cons.mpr ⟨fun _ _ F => bn_drop_rows F, List.forall_mem_cons.mpr ⟨fun _ _ F => bn__law_tape F, List.forall_mem_cons.mpr ⟨fun _ _ F => bn__law_draw F, List.forall_mem_cons.mpr ⟨fun _ _ F => bn__law_same F, List.forall_mem_cons.mpr ⟨fun _ _ F => bn__law_put F, List.forall_mem_cons.mpr ⟨fun _ _ F => bn__law_in F, List.forall_mem_cons.mpr ⟨fun _ _ F => bn__law_equal F, List.forall_mem_cons.mpr ⟨fun _ _ F => bn__law_eliciting F, List.forall_mem_cons.mpr ⟨fun _ _ F => bn__law_sent F, List.forall_mem_cons.mpr ⟨fun _ _ F => bn__law_reports F, List.forall_mem_cons.mpr ⟨fun _ _ F => bn__law_looks F, List.forall_mem_cons.mpr ⟨fun _ _ F => bn__law_units F, List.forall_mem_cons.mpr ⟨fun _ _ F => bn__law_frame F, List.forall_mem_cons.mpr ⟨fun _ _ F => bn__law_due F, List.forall_mem_cons.mpr ⟨fun _ _ F => bn__law_told F, List.forall_mem_cons.mpr ⟨fun _ _ F => bn__law_some_report F, List.forall_mem_cons.mpr ⟨fun _ _ F => bn__law_rest F, List.forall_mem_cons.mpr ⟨fun _ _ F => bn__law_changed F, List.forall_mem_cons.mpr ⟨fun _ _ F => bn__law_beside F, List.forall_mem_cons.mpr ⟨fun _ _ F => bn__law_asked_again F, List.forall_mem_cons.mpr ⟨fun _ _ F => bn__law_once_each F, List.forall_mem_cons.mpr ⟨fun _ _ F => bn_law F, fun _ h => (by cases h)⟩⟩⟩⟩⟩⟩⟩⟩⟩⟩⟩⟩⟩⟩⟩⟩⟩⟩⟩⟩⟩⟩⟩⟩⟩⟩⟩⟩⟩⟩
end K41
end
section
set_option maxRecDepth 100000
set_option maxHeartbeats 0
namespace K41
open PySem PySem.Spec PyProof.Rows L2 Pyx
theorem dfs : ∀ p ∈ defs, ∃ D ∈ Ds, D.name = p.1 ∧ D.ps.length = p.2 := by
  intro p hp
  have e : defs = Ds.map fun D => (D.name, D.ps.length) := by rfl
  rw [e] at hp
  obtain ⟨D, hD, e2⟩ := List.mem_map.mp hp
  exact ⟨D, hD, by rw [← e2], by rw [← e2]⟩
def spLaw (K : PySem.W.Frag) : Sp := spG K (lvl T 13) "law" 1
theorem facts {P : Program} {w : World} {K : PySem.W.Frag} {h : Heap} {mg : Str → Option Value} {f : Addr} (X : K.In h) (G : h.Ns mainGlobals mg) (hfa : mg ("law" : Str) = some (.ref f)) (y : Sy K h) :
    ∃ fd : FuncData, (∀ (s : Shared) (v : Value), BindsTo s fd ⟨[v], []⟩ [("script", v)]) ∧ ∀ base : Heap, K.In base → base.Ns mainGlobals mg → (∀ p ∈ tabsP K, GxR.TabB base mg p.1 p.2) → FnOk P w K mg base CX0 15 f fd ["script"] (spLaw K) := by
  have c := y.c
  have hex := y.ex
  have glo : ∀ D ∈ Ds, ∃ f, mg D.name = some (.ref f) ∧ ∃ fd, FunD K D.name D.name D.args D.body D.scope [] [] f fd := by
    intro D hD
    obtain ⟨i, hi⟩ := List.getElem?_of_mem hD
    obtain ⟨fd, F⟩ := c.def_ i (d := dd D) (by show (Ds.map dd)[i]? = _; rw [List.getElem?_map, hi]; rfl)
    exact ⟨_, He.glo_ok X G (c.fact i (f := .glo D.name) (by
      show (Ds.map (fun D => He.Fa.glo D.name) ++ _)[i]? = _
      rw [List.getElem?_append_left (by rw [List.length_map]; exact (List.getElem?_eq_some_iff.mp hi).1), List.getElem?_map, hi]; rfl)), fd, F⟩
  have tp : Top K mg Ds defs consts := by
    refine ⟨fun D hD => ?_, dfs, fun x hx => ?_, fun p hp => con_ok X G (List.all_eq_true.mp hex p hp)⟩
    · obtain ⟨f, h1, fd, F⟩ := glo D hD
      exact ⟨⟨f, fd, h1, F, bnd D hD f fd F⟩, scs D hD⟩
    · obtain ⟨i, hi⟩ := List.getElem?_of_mem hx
      refine He.free_ok X G (c.fact (Ds.length + i) (f := .free x) ?_)
      show (Ds.map (fun D => He.Fa.glo D.name) ++ bltNames.map fun x => He.Fa.free x)[Ds.length + i]? = _
      rw [List.getElem?_append_right (by rw [List.length_map]; omega), List.length_map, Nat.add_sub_cancel_left, List.getElem?_map, hi]; rfl
  obtain ⟨f', h1, fd, F⟩ := glo D_law (by simp [Ds])
  have e := hfa.symm.trans h1
  cases e
  have b := FunD.bindsA (ps := ["script"]) F fun _ _ _ _ _ _ us hl => match us, hl with | [_], _ => rfl
  exact ⟨fd, fun s v => b s [v] rfl, fun base _ _ ht => fn_ok tp ⟨fun D hD hg f fd F => by
    obtain ⟨c, P, e1, e2⟩ := gx_in y.gx hD hg F
    exact ⟨c, P, e1, e2, ht _ e2⟩, qds_ok⟩ tab h_nds 13 D_law (by simp [Ds]) f fd F⟩
theorem sp_ok {K : PySem.W.Frag} (H : Hp) (a : Addr) (ns : List Int) (ht : ∀ p ∈ tabsP K, H p.2 = some (.tbl #[])) (hS : SqL K H a (ns.map V.int)) : spLaw K [.ref a] H (fun v _ => v = .bl true) fun _ _ _ => False := by
  obtain ⟨S, e⟩ := law_ok 0 ns
  refine ⟨rfl, fun _ => False, [], [], [.lst (ns.map .int)], _, ⟨rfl, fun i v e => by simp at e, fun i v e => by simp at e, fun i j v w p e => by simp at e, rfl, fun n o p e => by simp at e, .nil, fun p h => (by cases h), fun p h => h.elim, fun q hq => ⟨#[], ht q hq, trivial⟩⟩, .cons ?_ .nil, e, fun x H' m' R s r => by cases r; rfl⟩
  rcases hS with h | h
  · exact .lst h (fun h => h.elim id fun h => h.elim (fun h => by cases h) fun h => absurd h own_nil) (.ints _)
  · exact .lstK h (.ints _)
end K41
end
section
set_option maxRecDepth 100000
set_option maxHeartbeats 0
namespace K41
open PySem PySem.W PySem.Calls PyProof.Rows
abbrev Q0 : PySem.Program := view R0.prog [34]
abbrev dT := HandSHeadRun.topDef R0.prog 34
theorem g1 : opening R0.prog = plainProg R0.prog.main.scope.names := by kernel_rfl
theorem g2 (s) : fenceModules? R0.prog s = some s := by kernel_rfl
theorem g3 : defOf Q0 R0.name = some (dT, []) := by kernel_rfl
theorem g4 : R0.prog.theDef R0.name = some (dT.params, dT.body, dT.scope) := by kernel_rfl
theorem g5 : kwWritten? dT.params.kwonlyargs dT.params.kw_defaults = some [] := by kernel_rfl
theorem g7 : R0.wellSaid = true := by decide +kernel
theorem g8 : (chainsOk Q0 && opensWell R0.prog && (frees R0.toRowW && R0.within.isEmpty)) = true := by decide +kernel
theorem g9 : R0.prog.bare := ⟨rfl, rfl, rfl, rfl, rfl, by decide +kernel⟩
theorem g10 : R0.toRowW.promised := by w_witness2
theorem gN : dT.name = ("law" : PySem.Str) := by kernel_rfl
theorem walks : PySem.W.WalkO Q0 ((Ds.map (·.name) ++ consts.map (·.1)).filter fun x => decide (x ≠ "law")) (PySem.W.XL Q0 []) hk.says R0.toRowW dT [] fun f vs => PySem.call f vs := by
  refine LamX.walk_ofTsE (l := PySem.Challenge.rw_sealedlink_k41_whole_four_fates_of_a_pac) (n := 63) (k := 15) (x := "script") (CX := fun _ => L2.CX0) rfl (by decide) (by kernel_rfl) ⟨rfl, by decide, by decide⟩ ?F fun _ _ _ _ _ z => z
  intro w mg fa h ⟨K, KX, y⟩ G e
  rw [gN] at e
  obtain ⟨fd, hb, hF⟩ := facts (P := (PySem.Challenge.rw_sealedlink_k41_whole_four_fates_of_a_pac).prog) (w := w) KX G e y
  exact ⟨K, KX, fd, Pyx.tabsP K, spLaw K, fun p hp => (y.tb p hp).2, fun p hp => tab_out hp, fun p hp => PySem.W.codeHd_of_K KX (y.tb p hp).1, hb, fun H a ns _ _ ht hS => sp_ok H a ns ht hS, fun base kb nb ht => hF base kb nb fun p hp => ⟨(ht p hp).code, (ht p hp).bm, (ht p hp).gP⟩⟩
theorem holds0 : R0.Holds := by
  refine HandSHeadRun.head_any (r := R0) (q := Q0) (H := hk) (ob := ob) (M := 4000) (loose := ((Ds.map (·.name) ++ consts.map (·.1)).filter fun x => decide (x ≠ "law"))) (d := dT) (kwd := []) ob_eq g1 g2 ?run g3 g4 g5 rfl g7 g8 g9 g10 ?call
  · exact run
  · exact walks
end K41
theorem PySem.Challenge.cw_sealedlink_k41_whole_four_fates_of_a_pac_holds : PySem.Challenge.rw_sealedlink_k41_whole_four_fates_of_a_pac.Holds := by
  w_on; o_law
  exact K41.holds0
end
