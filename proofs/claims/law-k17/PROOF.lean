import PyProof.Rows.All
import Wide.All
import OpenK.AllK
import Wide.FinOn
import HandS.ForMost
import HandS.Defaults
import HandS.IsInst
import HandS.Deep
import HandS.TupAny
import HandS.Conv
import HandS.NoneIn
import HandS.SortInts
import KE.KTupSum
import KE.DataMinMax
import HandS.Strs
import HandS.Style
import HandS.Zip
import PyProof.Draws
import PyProof.EnumMake
import HandS.Iter
import HandS.SetFor
import HandS.Set
import HandS.HeadEnd
import HandS.Head0
import HandS.Head1
import HandS.Head2
import HandS.HeadHook1
import HandS.HeadHook2
import PySem.Challenge.RW_sealedlink_k17_whole_others_reveal_nothi
set_option Elab.async false
set_option linter.all false
section
set_option maxRecDepth 100000
/-! tuples that are known to be plain ones (for their methods): each new tuple is noted with its very object -/
namespace Pyx
open PySem PySem.Spec PyProof.Rows L2
def TupO (o : PySem.Obj) : Prop := o.cls = .type "tuple" ∧ o.dict = none
def TupZ (K : PySem.W.Frag) (H : Hp) (a : Addr) (vs : List V) : Prop :=
  (∃ o, H a = some (.frz o (.tup vs)) ∧ TupO o) ∨
    ∃ (o : PySem.Obj) (its : Array Value) (n : Nat), K.lookup a = some o ∧ TupO o ∧ o.data = .seq its n ∧ its.size ≤ sizeLine ∧ Vals vs its.toList
theorem TupZ.sqT {K : PySem.W.Frag} {H : Hp} {a : Addr} {vs : List V} (h : TupZ K H a vs) : SqT K H a vs := by
  rcases h with ⟨o, h, _⟩ | ⟨o, its, n, h1, h2, h3⟩
  · exact .inl (.inr ⟨o, h⟩)
  · exact .inr ⟨o, its, n, h1, h2.1, h3⟩
section
variable {X : Cx} {pins : List (Addr × PySem.Obj)} {σ : L2.St} {H : Hp} {s : Shared}
theorem laidZ {s' : Shared} (I : Inv X pins σ H s) {xs : List V} {us : List Value} (hz : xs.length ≤ sizeLine) (r : Vals xs us) (t : Nat) :
    Inv X pins σ (upd H s.heap.objs.size (.frz { cls := .type "tuple", data := .seq us.toArray } (.tup xs))) { s with heap := s.heap.push { cls := .type "tuple", data := .seq us.toArray }, toks := t } :=
  I.laid (t' := t) (fun b u e => Heap.get?_push_of_some _ e) (Nat.le_refl _) ⟨Heap.get?_push_size _ rfl, hz, us, r, ⟨_, Heap.get?_push_size _ rfl, rfl, _, rfl⟩⟩
def tTupZ (t : TA) : TE := fun σ H Q => t σ H fun xs H1 => xs.length ≤ sizeLine ∧ ∀ p o, H1 p = none → TupO o → Q (.ref p) (upd H1 p (.frz o (.tup xs)))
theorem pe_tupZ {es : List Expr} {t : TA} {k : Nat} {pos : Pos} (h : PA X es t) : PE X (.Tuple es k pos) (tTupZ t) := by
  refine ⟨fun pins s σ H Q I hq => ?_⟩
  refine wpAny_Tuple_spliced (thn (h.run pos pins s σ H _ I hq) fun us s1 ⟨xs, H1, I1, r, z, q⟩ => ⟨by rw [← r.length]; exact z, ?_⟩)
  exact ⟨.ref s1.heap.objs.size, _, laidZ (s' := s1) I1 z r s1.toks, rfl, q _ _ (I1.hok.fresh (Nat.le_refl _)) ⟨rfl, rfl⟩⟩
def rCatZ (K : PySem.W.Frag) : R2 := fun x y H Q => ∃ a b xs ys, x = .ref a ∧ y = .ref b ∧ SqT K H a xs ∧ SqT K H b ys ∧ xs.length + ys.length ≤ sizeLine ∧
  (xs = [] → Q (.ref b) H) ∧ (xs ≠ [] → ys = [] → Q (.ref a) H) ∧ (xs ≠ [] → ys ≠ [] → ∀ p o, H p = none → TupO o → Q (.ref p) (upd H p (.frz o (.tup (xs ++ ys)))))
theorem op_catZ : OpR X (binaryOp .Add) (rCatZ X.K) := by
  intro pins s σ H x y v u Q I rx ry h
  obtain ⟨a, b, xs, ys, rfl, rfl, ha, hb, hz, q0, q1, q2⟩ := h
  cases rx
  cases ry
  obtain ⟨its, r1, p1, _⟩ := I.tuple ha
  obtain ⟨its2, r2, p2, _⟩ := I.tuple hb
  by_cases hx : xs = []
  · subst hx
    cases r1
    exact cat_tup0 p1 p2 ⟨.ref b, H, I, rfl, q0 rfl⟩
  · refine HT.cat_tup p1 p2 (fun z => hx (r1.nil_iff.mp z)) (fun z => ⟨.ref a, H, I, rfl, q1 hx (r2.nil_iff.mp z)⟩) (fun z => ?_) (by rw [← r1.length, ← r2.length]; exact hz)
    exact ⟨.ref s.heap.objs.size, _, laidZ (s' := s) I (by rw [List.length_append]; exact hz) (r1.append r2) s.toks, rfl, q2 hx (fun w => z (r2.nil_iff.mpr w)) _ _ (I.hok.fresh (Nat.le_refl _)) ⟨rfl, rfl⟩⟩
def rSlZ (K : PySem.W.Frag) : V → Option Int → Option Int → Hp → VK → Prop := fun x lo hi H Q => ∃ a xs, x = .ref a ∧ SqT K H a xs ∧
  (HT.sIx xs.length 0 lo = 0 ∧ HT.sIx xs.length xs.length hi = xs.length → Q (.ref a) H) ∧ (¬ (HT.sIx xs.length 0 lo = 0 ∧ HT.sIx xs.length xs.length hi = xs.length) → ∀ p o, H p = none → TupO o → Q (.ref p) (upd H p (.frz o (.tup (cutV xs lo hi)))))
theorem sl_tupZ : SlR X (rSlZ X.K) := by
  intro pins s σ H x v vl vu lo hi sl Q I rx hs pl pu h
  obtain ⟨a, xs, rfl, hx, q1, q2⟩ := h
  cases rx
  obtain ⟨its, r, ht, hz⟩ := I.tuple hx
  have hlen : its.toArray.size = xs.length := by rw [List.size_toArray]; exact r.length.symm
  refine ⟨"tuple", _, PyProof.Rows.slot_tuple_getitem.lookup, ht.typeIs, ?_⟩
  by_cases hw : HT.sIx xs.length 0 lo = 0 ∧ HT.sIx xs.length xs.length hi = xs.length
  · exact getItem_tuple_whole ht hs pl pu (by rw [hlen]; exact hw) ⟨.ref a, H, I, rfl, q1 hw⟩
  · refine HT.getItem_tuple_cut ht hs pl pu (by rw [hlen]; exact hw) ?_ (by rw [hlen]; exact hz)
    rw [hlen]
    exact ⟨.ref s.heap.objs.size, _, laidZ (s' := s) I (Nat.le_trans (cutV_length xs lo hi) hz) ((r.drop (HT.sIx xs.length 0 lo)).take (HT.sIx xs.length xs.length hi - HT.sIx xs.length 0 lo)) s.toks, rfl, q2 hw _ _ (I.hok.fresh (Nat.le_refl _)) ⟨rfl, rfl⟩⟩
theorem call_tupleZ : CallR X (.type "tuple") (fun xs H Q => ∃ p ys, xs = [.ref p] ∧ ((SqL X.K H p ys ∧ ∀ l o, H l = none → TupO o → Q (.ref l) (upd H l (.frz o (.tup ys)))) ∨ (SqT X.K H p ys ∧ Q (.ref p) H))) := by
  intro pins s σ H xs us Q I r h
  obtain ⟨p, ys, rfl, h⟩ := h
  obtain ⟨u, rfl, rx⟩ := vals1 r
  cases rx
  rcases h with ⟨hq, q⟩ | ⟨hq, q⟩
  · obtain ⟨its, r', pl, hz⟩ := I.list hq
    have hlen := r'.length
    refine call_tuple_list pl.isList (fun h' kp => ?_) (by simp only [List.size_toArray] <;> omega)
    have I1 : Inv X pins σ H { s with heap := h' } := I.kept (t' := s.toks) kp
    exact ⟨.ref h'.objs.size, _, laidZ (s' := s) I1 hz r' s.toks, rfl, q _ _ (I1.hok.fresh (Nat.le_refl _)) ⟨rfl, rfl⟩⟩
  · obtain ⟨its, r', pl, hz⟩ := I.tuple hq
    exact call_tuple_same pl ⟨.ref p, H, I, rfl, q⟩
/-- a plain tuple's object -/
theorem TupZ.obj (I : Inv X pins σ H s) {a : Addr} {vs : List V} (h : TupZ X.K H a vs) : ∃ its n sl, Vals vs its ∧ s.heap.get? a = some { cls := .type "tuple", dict := none, data := .seq its.toArray n, slots := sl } ∧ vs.length ≤ sizeLine := by
  rcases h with ⟨o, h, t⟩ | ⟨o, its, n, h1, t, h3, h4, h5⟩
  · obtain ⟨e, z, its, r, ⟨o', e', c, n, d⟩⟩ := I.hok a _ h
    rw [e] at e'; cases e'
    obtain ⟨cls, dd, data, sl⟩ := o
    obtain ⟨t1, t2⟩ := t
    simp only at t1 t2 d
    subst t1 t2 d
    exact ⟨its, n, sl, r, e, z⟩
  · obtain ⟨cls, dd, data, sl⟩ := o
    obtain ⟨t1, t2⟩ := t
    simp only at t1 t2 h3
    subst t1 t2 h3
    exact ⟨its.toList, n, sl, h5, by simpa using I.kIn a _ h1, by have := h5.length; simp at this; omega⟩
end
end Pyx
end
section
set_option maxRecDepth 100000
/-! the abstract values, the store, how they lie in the layer's heap -/
namespace Pyx
open PySem PySem.Spec PyProof.Rows L2

inductive AV where
  | non | bl (b : Bool) | int (i : Int) | str (x : Str)
  | tup (xs : List AV) | lst (xs : List AV) | ref (n : Nat)
  deriving Inhabited

inductive Slt where
  | val (v : AV) | own (xs : List AV)
  deriving Inhabited
inductive SObj where
  | lst (xs : List AV) | dic (kvs : List (Str × AV))
  deriving Inhabited
structure AS where
  ρ : List (Option Slt)
  S : List SObj
  deriving Inhabited

abbrev Hot := Addr → Prop
/-- a list of the module's own part -/
def KLst (K : PySem.W.Frag) (a : Addr) (xs : List V) : Prop := ∃ (o : PySem.Obj) (its : Array Value) (n : Nat), K.lookup a = some o ∧ o.cls = .type "list" ∧ o.dict = none ∧ o.data = .seq its n ∧ its.size ≤ sizeLine ∧ Vals xs its.toList
mutual
inductive Rp (K : PySem.W.Frag) (H : Hp) (hot : Hot) (m : List Addr) : V → AV → Prop
  | non : Rp K H hot m .non .non
  | bl (b : Bool) : Rp K H hot m (.bl b) (.bl b)
  | int (i : Int) : Rp K H hot m (.int i) (.int i)
  | str (x : Str) : Rp K H hot m (.str x) (.str x)
  | tup {a : Addr} {vs : List V} {xs : List AV} : TupZ K H a vs → Rps K H hot m vs xs → Rp K H hot m (.ref a) (.tup xs)
  | lst {a : Addr} {vs : List V} {xs : List AV} : Rd H a (.lst vs) → ¬ hot a → Rps K H hot m vs xs → Rp K H hot m (.ref a) (.lst xs)
  | lstK {a : Addr} {vs : List V} {xs : List AV} : KLst K a vs → Rps K H hot m vs xs → Rp K H hot m (.ref a) (.lst xs)
  | ref {a : Addr} {n : Nat} : m[n]? = some a → Rp K H hot m (.ref a) (.ref n)
inductive Rps (K : PySem.W.Frag) (H : Hp) (hot : Hot) (m : List Addr) : List V → List AV → Prop
  | nil : Rps K H hot m [] []
  | cons {x : V} {v : AV} {xs : List V} {vs : List AV} : Rp K H hot m x v → Rps K H hot m xs vs → Rps K H hot m (x :: xs) (v :: vs)
end

section
variable {K : PySem.W.Frag} {H H' : Hp} {hot hot' : Hot} {m m' : List Addr}
theorem Rps.length : ∀ {xs : List V} {vs : List AV}, Rps K H hot m xs vs → xs.length = vs.length
  | _, _, .nil => rfl
  | _, _, .cons _ t => by simp [Rps.length t]
theorem Rps.get : ∀ {xs : List V} {vs : List AV} {i : Nat} {v : AV}, Rps K H hot m xs vs → vs[i]? = some v → ∃ x, xs[i]? = some x ∧ Rp K H hot m x v
  | _, _, _, _, .nil, e => by simp at e
  | _, _, 0, _, .cons r _, e => by simp at e; subst e; exact ⟨_, rfl, r⟩
  | _, _, i + 1, v, .cons _ t, e => by
    obtain ⟨u, h1, h2⟩ := Rps.get (i := i) (v := v) t (by simpa using e)
    exact ⟨u, by simpa using h1, h2⟩
theorem Rps.append : ∀ {xs ys : List V} {us ws : List AV}, Rps K H hot m xs us → Rps K H hot m ys ws → Rps K H hot m (xs ++ ys) (us ++ ws)
  | _, _, _, _, .nil, s => s
  | _, _, _, _, .cons r t, s => .cons r (Rps.append t s)
theorem Rps.take : ∀ {xs : List V} {us : List AV} (n : Nat), Rps K H hot m xs us → Rps K H hot m (xs.take n) (us.take n)
  | _, _, 0, _ => .nil
  | _, _, _ + 1, .nil => .nil
  | _, _, n + 1, .cons r t => .cons r (Rps.take n t)
theorem Rps.drop : ∀ {xs : List V} {us : List AV} (n : Nat), Rps K H hot m xs us → Rps K H hot m (xs.drop n) (us.drop n)
  | _, _, 0, r => r
  | _, _, _ + 1, .nil => .nil
  | _, _, n + 1, .cons _ t => Rps.drop n t
theorem Rps.set {x : V} {v : AV} (r : Rp K H hot m x v) : ∀ {xs : List V} {us : List AV} (i : Nat), Rps K H hot m xs us → Rps K H hot m (xs.set i x) (us.set i v)
  | _, _, _, .nil => .nil
  | _, _, 0, .cons _ t => .cons r t
  | _, _, i + 1, .cons q t => .cons q (Rps.set r i t)
theorem Rps.eraseIdx : ∀ {xs : List V} {us : List AV} (i : Nat), Rps K H hot m xs us → Rps K H hot m (xs.eraseIdx i) (us.eraseIdx i)
  | _, _, _, .nil => .nil
  | _, _, 0, .cons _ t => t
  | _, _, i + 1, .cons q t => .cons q (Rps.eraseIdx i t)
theorem Rps.one {x : V} {v : AV} (r : Rp K H hot m x v) : Rps K H hot m [x] [v] := .cons r .nil
theorem Rps.snoc {xs : List V} {us : List AV} {x : V} {v : AV} (q : Rps K H hot m xs us) (r : Rp K H hot m x v) : Rps K H hot m (xs ++ [x]) (us ++ [v]) := q.append (.one r)
theorem Rps.rev : ∀ {xs : List V} {us : List AV}, Rps K H hot m xs us → Rps K H hot m xs.reverse us.reverse
  | _, _, .nil => .nil
  | _, _, .cons r t => by rw [List.reverse_cons, List.reverse_cons]; exact (Rps.rev t).snoc r
theorem Rps.ints : ∀ (ns : List Int), Rps K H hot m (ns.map V.int) (ns.map AV.int)
  | [] => .nil
  | n :: r => .cons (.int n) (Rps.ints r)
theorem Rps.of_ints : ∀ {xs : List V} {ns : List Int}, Rps K H hot m xs (ns.map AV.int) → xs = ns.map V.int
  | _, [], .nil => rfl
  | _, n :: r, .cons h t => by cases h; rw [List.map_cons, Rps.of_ints t]
theorem Rps.bls : ∀ (ns : List Bool), Rps K H hot m (ns.map V.bl) (ns.map AV.bl)
  | [] => .nil
  | n :: r => .cons (.bl n) (Rps.bls r)
theorem Rps.of_bls : ∀ {xs : List V} {ns : List Bool}, Rps K H hot m xs (ns.map AV.bl) → xs = ns.map V.bl
  | _, [], .nil => rfl
  | _, n :: r, .cons h t => by cases h; rw [List.map_cons, Rps.of_bls t]

/-- what keeps a reading: the tuples and the lists that are not hot stand, nothing of them becomes hot, the store's addresses go on -/
structure KeepR (K : PySem.W.Frag) (H H' : Hp) (hot hot' : Hot) (m m' : List Addr) : Prop where
  tup : ∀ a o vs, H a = some (.frz o (.tup vs)) → H' a = some (.frz o (.tup vs))
  lst : ∀ a vs, Rd H a (.lst vs) → ¬ hot a → Rd H' a (.lst vs) ∧ ¬ hot' a
  pre : ∀ (n : Nat) (a : Addr), m[n]? = some a → m'[n]? = some a
mutual
theorem Rp.keep (k : KeepR K H H' hot hot' m m') : ∀ {v : AV} {x : V}, Rp K H hot m x v → Rp K H' hot' m' x v
  | .non, _, .non => .non
  | .bl _, _, .bl b => .bl b
  | .int _, _, .int i => .int i
  | .str _, _, .str x => .str x
  | .tup xs, _, .tup h r => .tup (h.elim (fun ⟨o, h, t⟩ => .inl ⟨o, k.tup _ _ _ h, t⟩) .inr) (Rps.keep k r)
  | .lst xs, _, .lst h n r => .lst (k.lst _ _ h n).1 (k.lst _ _ h n).2 (Rps.keep k r)
  | .lst xs, _, .lstK h r => .lstK h (Rps.keep k r)
  | .ref _, _, .ref h => .ref (k.pre _ _ h)
theorem Rps.keep (k : KeepR K H H' hot hot' m m') : ∀ {vs : List AV} {xs : List V}, Rps K H hot m xs vs → Rps K H' hot' m' xs vs
  | [], _, .nil => .nil
  | _ :: _, _, .cons r t => .cons (Rp.keep k r) (Rps.keep k t)
end
end

/-- a hot thing is a tracked list or dict -/
def IsMut (H : Hp) (p : Addr) : Prop := (∃ vs, H p = some (.lst vs)) ∨ ∃ kvs, H p = some (.dK kvs)
def Own (ρ : List (Option Slt)) (σ : L2.St) (p : Addr) : Prop := ∃ (i : Nat) (xs : List AV), ρ[i]? = some (some (Slt.own xs)) ∧ σ[i]? = some (some (V.ref p))
def Loc' (m : List Addr) (a : AS) (σ : L2.St) (p : Addr) : Prop := p ∈ m ∨ Own a.ρ σ p
def hotOf (F : Hot) (m : List Addr) (a : AS) (σ : L2.St) : Hot := fun p => F p ∨ Loc' m a σ p

abbrev Rp' (K : PySem.W.Frag) (F : Hot) (m : List Addr) (a : AS) (σ : L2.St) (H : Hp) : V → AV → Prop := Rp K H (hotOf F m a σ) m
abbrev Rps' (K : PySem.W.Frag) (F : Hot) (m : List Addr) (a : AS) (σ : L2.St) (H : Hp) : List V → List AV → Prop := Rps K H (hotOf F m a σ) m
def RpD (K : PySem.W.Frag) (H : Hp) (hot : Hot) (m : List Addr) : List (Key × V) → List (Str × AV) → Prop
  | [], [] => True
  | (k, x) :: xs, (s, v) :: vs => k = .inr s ∧ Rp K H hot m x v ∧ RpD K H hot m xs vs
  | _, _ => False
theorem RpD.keep {K : PySem.W.Frag} {H H' : Hp} {hot hot' : Hot} {m m' : List Addr} (k : KeepR K H H' hot hot' m m') : ∀ {xs : List (Key × V)} {vs : List (Str × AV)}, RpD K H hot m xs vs → RpD K H' hot' m' xs vs
  | [], [], _ => trivial
  | (_, _) :: _, (_, _) :: _, ⟨e, r, t⟩ => ⟨e, r.keep k, RpD.keep k t⟩
  | [], _ :: _, h => h.elim
  | _ :: _, [], h => h.elim
def ObRp (K : PySem.W.Frag) (H : Hp) (hot : Hot) (m : List Addr) (p : Addr) : SObj → Prop
  | .lst xs => ∃ vs, H p = some (.lst vs) ∧ Rps K H hot m vs xs
  | .dic kvs => ∃ vs, H p = some (.dK vs) ∧ RpD K H hot m vs kvs

structure Rl (K : PySem.W.Frag) (F : Hot) (m : List Addr) (a : AS) (σ : L2.St) (H : Hp) : Prop where
  len : a.ρ.length = σ.length
  slot : ∀ (i : Nat) (v : AV), a.ρ[i]? = some (some (Slt.val v)) → ∃ x, σ[i]? = some (some x) ∧ Rp' K F m a σ H x v
  own : ∀ (i : Nat) (xs : List AV), a.ρ[i]? = some (some (Slt.own xs)) → ∃ p vs, σ[i]? = some (some (.ref p)) ∧ H p = some (.lst vs) ∧ Rps' K F m a σ H vs xs ∧ ¬ F p ∧ p ∉ m
  inj : ∀ (i j : Nat) (xs ys : List AV) (p : Addr), a.ρ[i]? = some (some (Slt.own xs)) → a.ρ[j]? = some (some (Slt.own ys)) → σ[i]? = some (some (V.ref p)) → σ[j]? = some (some (V.ref p)) → i = j
  mlen : m.length = a.S.length
  obj : ∀ (n : Nat) (o : SObj) (p : Addr), a.S[n]? = some o → m[n]? = some p → ObRp K H (hotOf F m a σ) m p o
  mnd : m.Nodup
  mF : ∀ p ∈ m, ¬ F p
  FH : ∀ p, F p → IsMut H p

/-- from one moment to a later one of the same frame -/
structure Stp (m : List Addr) (a : AS) (σ : L2.St) (H : Hp) (m' : List Addr) (a' : AS) (σ' : L2.St) (H' : Hp) : Prop where
  pre : ∀ (n : Nat) (p : Addr), m[n]? = some p → m'[n]? = some p
  keep : ∀ b o, H b = some o → ¬ Loc' m a σ b → H' b = some o
  dom : ∀ b, H b ≠ none → H' b ≠ none
  locs : ∀ b, Loc' m' a' σ' b → Loc' m a σ b ∨ H b = none

section
variable {K : PySem.W.Frag} {F : Hot} {m m1 m2 : List Addr} {a a1 a2 : AS} {σ σ1 σ2 : L2.St} {H H1 H2 : Hp}
theorem Stp.refl : Stp m a σ H m a σ H := ⟨fun _ _ e => e, fun _ _ e _ => e, fun _ e => e, fun _ e => .inl e⟩
theorem Stp.trans (s : Stp m a σ H m1 a1 σ1 H1) (t : Stp m1 a1 σ1 H1 m2 a2 σ2 H2) : Stp m a σ H m2 a2 σ2 H2 where
  pre := fun n p e => t.pre n p (s.pre n p e)
  keep := fun b o e n => t.keep b o (s.keep b o e n) fun l => (s.locs b l).elim n fun z => by rw [e] at z; cases z
  dom := fun b e => t.dom b (s.dom b e)
  locs := fun b l => by
    rcases t.locs b l with l | z
    · exact s.locs b l
    · refine .inr ?_
      cases q : H b with
      | none => rfl
      | some o => exact absurd z (s.dom b (by rw [q]; simp))
theorem Rl.hotMut (R : Rl K F m a σ H) {p : Addr} (h : hotOf F m a σ p) : IsMut H p := by
  rcases h with h | h | ⟨i, xs, e1, e2⟩
  · exact R.FH p h
  · obtain ⟨n, hn, e⟩ := List.getElem_of_mem h
    have e' : m[n]? = some p := by rw [List.getElem?_eq_getElem hn, e]
    have hs : n < a.S.length := by rw [← R.mlen]; exact hn
    have := R.obj n a.S[n] p (List.getElem?_eq_getElem hs) e'
    cases q : a.S[n] with
    | lst xs => rw [q] at this; obtain ⟨vs, h1, _⟩ := this; exact .inl ⟨vs, h1⟩
    | dic xs => rw [q] at this; obtain ⟨vs, h1, _⟩ := this; exact .inr ⟨vs, h1⟩
  · obtain ⟨p', vs, e3, h1, _⟩ := R.own i xs e1
    rw [e2] at e3; cases e3
    exact .inl ⟨vs, h1⟩
theorem IsMut.ne {p : Addr} {o : HO} (h : IsMut H p) (e : H p = some o) : (∃ vs, o = .lst vs) ∨ ∃ kvs, o = .dK kvs := by
  rcases h with ⟨vs, q⟩ | ⟨vs, q⟩
  · rw [e] at q; cases q; exact .inl ⟨_, rfl⟩
  · rw [e] at q; cases q; exact .inr ⟨_, rfl⟩
/-- a reading is kept over a step -/
theorem Rl.keeps (R : Rl K F m a σ H) (s : Stp m a σ H m1 a1 σ1 H1) : KeepR K H H1 (hotOf F m a σ) (hotOf F m1 a1 σ1) m m1 where
  tup := fun b o vs h => by
    refine s.keep b _ h fun l => ?_
    rcases (R.hotMut (.inr l)).ne h with ⟨_, e⟩ | ⟨_, e⟩ <;> cases e
  lst := fun b vs h n => by
    have nl : ¬ Loc' m a σ b := fun l => n (.inr l)
    refine ⟨?_, fun h1 => ?_⟩
    · rcases h with h | ⟨o, h⟩
      · exact .inl (s.keep b _ h nl)
      · exact .inr ⟨o, s.keep b _ h nl⟩
    · rcases h1 with h1 | h1
      · exact n (.inl h1)
      · rcases s.locs b h1 with l | z
        · exact nl l
        · rcases h with h | ⟨o, h⟩ <;> rw [z] at h <;> cases h
  pre := s.pre
theorem Rp.step (R : Rl K F m a σ H) (s : Stp m a σ H m1 a1 σ1 H1) {x : V} {v : AV} (r : Rp' K F m a σ H x v) : Rp' K F m1 a1 σ1 H1 x v := r.keep (R.keeps s)
theorem Rps.step (R : Rl K F m a σ H) (s : Stp m a σ H m1 a1 σ1 H1) {x : List V} {v : List AV} (r : Rps' K F m a σ H x v) : Rps' K F m1 a1 σ1 H1 x v := r.keep (R.keeps s)

/-- a new object that is not hot -/
theorem Stp.new {p : Addr} {o : HO} (hp : H p = none) : Stp m a σ H m a σ (upd H p o) where
  pre := fun _ _ e => e
  keep := fun b u e _ => by rw [upd_ne (ne_of_none e hp)]; exact e
  dom := fun b e => by
    by_cases q : b = p
    · subst q; exact absurd hp e
    · rw [upd_ne q]; exact e
  locs := fun b l => .inl l
theorem Rl.via (R : Rl K F m a σ H) (s : Stp m a σ H m a σ H1) (hl : ∀ b, Loc' m a σ b → H1 b = H b) : Rl K F m a σ H1 where
  len := R.len
  slot := fun i v e => let ⟨x, e1, r⟩ := R.slot i v e; ⟨x, e1, r.step R s⟩
  own := fun i xs e => by
    obtain ⟨p, vs, e1, h1, r, n1, n2⟩ := R.own i xs e
    exact ⟨p, vs, e1, by rw [hl p (.inr ⟨i, xs, e, e1⟩)]; exact h1, r.step R s, n1, n2⟩
  inj := R.inj
  mlen := R.mlen
  obj := fun n o p e1 e2 => by
    have h := R.obj n o p e1 e2
    have e : H1 p = H p := hl p (.inl (List.mem_of_getElem? e2))
    cases o with
    | lst xs => obtain ⟨vs, h1, r⟩ := h; exact ⟨vs, by rw [e]; exact h1, r.step R s⟩
    | dic xs => obtain ⟨vs, h1, r⟩ := h; exact ⟨vs, by rw [e]; exact h1, r.keep (R.keeps s)⟩
  mnd := R.mnd
  mF := R.mF
  FH := fun p h => by
    by_cases l : Loc' m a σ p
    · unfold IsMut
      rw [hl p l]
      exact R.FH p h
    · rcases R.FH p h with ⟨vs, q⟩ | ⟨vs, q⟩
      · exact .inl ⟨vs, s.keep p _ q l⟩
      · exact .inr ⟨vs, s.keep p _ q l⟩
theorem Rl.locSome (R : Rl K F m a σ H) {b : Addr} (l : Loc' m a σ b) : H b ≠ none := by
  rcases R.hotMut (.inr l) with ⟨_, q⟩ | ⟨_, q⟩ <;> rw [q] <;> simp
theorem Rl.new (R : Rl K F m a σ H) {p : Addr} {o : HO} (hp : H p = none) : Rl K F m a σ (upd H p o) :=
  R.via (.new hp) fun b l => upd_ne fun e => R.locSome l (e ▸ hp)
theorem Rl.notHot (R : Rl K F m a σ H) {p : Addr} (hp : H p = none) : ¬ hotOf F m a σ p := fun h => by
  rcases R.hotMut h with ⟨_, q⟩ | ⟨_, q⟩ <;> rw [hp] at q <;> cases q
/-- a new tuple, a new list that nobody changes -/
theorem Rl.newTup (R : Rl K F m a σ H) {p : Addr} {o : PySem.Obj} {vs : List V} {xs : List AV} (hp : H p = none) (ho : TupO o) (r : Rps' K F m a σ H vs xs) : Rp' K F m a σ (upd H p (.frz o (.tup vs))) (.ref p) (.tup xs) :=
  .tup (.inl ⟨o, upd_same, ho⟩) (r.step R (.new hp))
theorem Rl.newLst (R : Rl K F m a σ H) {p : Addr} {vs : List V} {xs : List AV} (hp : H p = none) (r : Rps' K F m a σ H vs xs) : Rp' K F m a σ (upd H p (.lst vs)) (.ref p) (.lst xs) :=
  .lst (Rd.of upd_same) (R.notHot hp) (r.step R (.new hp))
end
end Pyx
end
section
set_option maxRecDepth 100000
namespace Pyx
open PySem PySem.Spec PyProof.Rows L2
section
variable {K : PySem.W.Frag} {F : Hot} {m m1 m2 : List Addr} {a a1 a2 : AS} {σ σ1 σ2 : L2.St} {H H1 H2 : Hp}

theorem get_set {α : Type} {l : List α} {i j : Nat} {x y : α} (h : (l.set i x)[j]? = some y) : (j = i ∧ y = x ∧ i < l.length) ∨ (j ≠ i ∧ l[j]? = some y) := by
  by_cases e : j = i
  · subst e
    rw [List.getElem?_set_self'] at h
    cases q : l[j]? with
    | none => rw [q] at h; cases h
    | some z =>
      rw [q] at h
      cases h
      exact .inl ⟨rfl, rfl, (List.getElem?_eq_some_iff.mp q).1⟩
  · rw [List.getElem?_set_ne (Ne.symm e)] at h
    exact .inr ⟨e, h⟩
theorem set_get {α : Type} {l : List α} {i : Nat} {x : α} (h : i < l.length) : (l.set i x)[i]? = some x := List.getElem?_set_self h

/-- the store's or a frame's own lists elsewhere stand, as readings -/
theorem ObRp.keep {K : PySem.W.Frag} {H H' : Hp} {hot hot' : Hot} {m m' : List Addr} {p : Addr} {o : SObj} (k : KeepR K H H' hot hot' m m') (e : H' p = H p) (h : ObRp K H hot m p o) : ObRp K H' hot' m' p o := by
  cases o with
  | lst xs => obtain ⟨vs, h1, r⟩ := h; exact ⟨vs, e.trans h1, r.keep k⟩
  | dic xs => obtain ⟨vs, h1, r⟩ := h; exact ⟨vs, e.trans h1, r.keep k⟩

/-! ### a name of a list of one's own is read as a value: from now on nobody changes it -/
def AS.frz (a : AS) (i : Nat) (xs : List AV) : AS := { a with ρ := a.ρ.set i (some (.val (.lst xs))) }
theorem Rl.frzStp {i : Nat} {xs : List AV} (h : a.ρ[i]? = some (some (Slt.own xs))) : Stp m a σ H m (a.frz i xs) σ H where
  pre := fun _ _ e => e
  keep := fun _ _ e _ => e
  dom := fun _ e => e
  locs := fun b l => by
    rcases l with l | ⟨j, ys, e1, e2⟩
    · exact .inl (.inl l)
    · rcases get_set e1 with ⟨rfl, e, _⟩ | ⟨n, e⟩
      · cases e
      · exact .inl (.inr ⟨j, ys, e, e2⟩)
theorem Rl.frz (R : Rl K F m a σ H) {i : Nat} {xs : List AV} (h : a.ρ[i]? = some (some (Slt.own xs))) :
    Rl K F m (a.frz i xs) σ H ∧ ∃ p, σ[i]? = some (some (V.ref p)) ∧ Rp' K F m (a.frz i xs) σ H (.ref p) (.lst xs) := by
  have s := Rl.frzStp (m := m) (σ := σ) (H := H) h
  obtain ⟨p, vs, e1, h1, r, n1, n2⟩ := R.own i xs h
  have hr : Rp' K F m (a.frz i xs) σ H (.ref p) (.lst xs) := by
    refine .lst (Rd.of h1) (fun hh => ?_) (r.step R s)
    rcases hh with hh | hh | ⟨j, ys, e2, e3⟩
    · exact n1 hh
    · exact n2 hh
    · rcases get_set e2 with ⟨rfl, e, _⟩ | ⟨n, e⟩
      · cases e
      · exact n (R.inj j i ys xs p e h e3 e1)
  refine ⟨⟨by simp [AS.frz, R.len], fun j v e => ?_, fun j ys e => ?_, fun j k ys zs q e1 e2 e3 e4 => ?_, R.mlen, fun n o q e1 e2 => (R.obj n o q e1 e2).keep (R.keeps s) rfl, R.mnd, R.mF, R.FH⟩, p, e1, hr⟩
  · rcases get_set e with ⟨rfl, e, _⟩ | ⟨n, e⟩
    · cases e; exact ⟨_, e1, hr⟩
    · obtain ⟨x, e2, r2⟩ := R.slot j v e; exact ⟨x, e2, r2.step R s⟩
  · rcases get_set e with ⟨rfl, e, _⟩ | ⟨n, e⟩
    · cases e
    · obtain ⟨p', vs', q1, q2, q3, q4⟩ := R.own j ys e
      exact ⟨p', vs', q1, q2, q3.step R s, q4⟩
  · rcases get_set e1 with ⟨rfl, e, _⟩ | ⟨n, e1⟩
    · cases e
    · rcases get_set e2 with ⟨rfl, e, _⟩ | ⟨n, e2⟩
      · cases e
      · exact R.inj j k ys zs q e1 e2 e3 e4

/-! ### a name is stored -/
def AS.put (a : AS) (i : Nat) (v : AV) : AS := { a with ρ := a.ρ.set i (some (.val v)) }
theorem Rl.putStp {i : Nat} {x : V} {v : AV} (hl : a.ρ.length = σ.length) : Stp m a σ H m (a.put i v) (σ.set i (some x)) H where
  pre := fun _ _ e => e
  keep := fun _ _ e _ => e
  dom := fun _ e => e
  locs := fun b l => by
    rcases l with l | ⟨j, ys, e1, e2⟩
    · exact .inl (.inl l)
    · rcases get_set e1 with ⟨rfl, e, _⟩ | ⟨n, e⟩
      · cases e
      · rw [List.getElem?_set_ne (Ne.symm n)] at e2
        exact .inl (.inr ⟨j, ys, e, e2⟩)
theorem Rl.put (R : Rl K F m a σ H) {i : Nat} {x : V} {v : AV} (r : Rp' K F m a σ H x v) : Rl K F m (a.put i v) (σ.set i (some x)) H := by
  have s := Rl.putStp (m := m) (H := H) (i := i) (x := x) (v := v) R.len
  refine ⟨by simp [AS.put, R.len], fun j w e => ?_, fun j ys e => ?_, fun j k ys zs q e1 e2 e3 e4 => ?_, R.mlen, fun n o q e1 e2 => (R.obj n o q e1 e2).keep (R.keeps s) rfl, R.mnd, R.mF, R.FH⟩
  · rcases get_set e with ⟨rfl, e, hl⟩ | ⟨n, e⟩
    · cases e
      exact ⟨x, set_get (by rw [← R.len]; exact hl), r.step R s⟩
    · obtain ⟨y, e2, r2⟩ := R.slot j w e
      exact ⟨y, by rw [List.getElem?_set_ne (Ne.symm n)]; exact e2, r2.step R s⟩
  · rcases get_set e with ⟨rfl, e, _⟩ | ⟨n, e⟩
    · cases e
    · obtain ⟨p', vs', q1, q2, q3, q4⟩ := R.own j ys e
      exact ⟨p', vs', by rw [List.getElem?_set_ne (Ne.symm n)]; exact q1, q2, q3.step R s, q4⟩
  · rcases get_set e1 with ⟨rfl, e, _⟩ | ⟨n, e1⟩
    · cases e
    · rcases get_set e2 with ⟨rfl, e, _⟩ | ⟨n', e2⟩
      · cases e
      · rw [List.getElem?_set_ne (Ne.symm n)] at e3
        rw [List.getElem?_set_ne (Ne.symm n')] at e4
        exact R.inj j k ys zs q e1 e2 e3 e4

/-! ### a name is forgotten -/
def AS.drop (a : AS) (i : Nat) : AS := { a with ρ := a.ρ.set i none }
theorem Rl.dropStp {i : Nat} {x : Option V} : Stp m a σ H m (a.drop i) (σ.set i x) H where
  pre := fun _ _ e => e
  keep := fun _ _ e _ => e
  dom := fun _ e => e
  locs := fun b l => by
    rcases l with l | ⟨j, ys, e1, e2⟩
    · exact .inl (.inl l)
    · rcases get_set e1 with ⟨rfl, e, _⟩ | ⟨n, e⟩
      · cases e
      · rw [List.getElem?_set_ne (Ne.symm n)] at e2
        exact .inl (.inr ⟨j, ys, e, e2⟩)
theorem Rl.drop (R : Rl K F m a σ H) {i : Nat} {x : Option V} : Rl K F m (a.drop i) (σ.set i x) H := by
  have s := Rl.dropStp (m := m) (a := a) (σ := σ) (H := H) (i := i) (x := x)
  refine ⟨by simp [AS.drop, R.len], fun j w e => ?_, fun j ys e => ?_, fun j k ys zs q e1 e2 e3 e4 => ?_, R.mlen, fun n o q e1 e2 => (R.obj n o q e1 e2).keep (R.keeps s) rfl, R.mnd, R.mF, R.FH⟩
  · rcases get_set e with ⟨rfl, e, hl⟩ | ⟨n, e⟩
    · cases e
    · obtain ⟨y, e2, r2⟩ := R.slot j w e
      exact ⟨y, by rw [List.getElem?_set_ne (Ne.symm n)]; exact e2, r2.step R s⟩
  · rcases get_set e with ⟨rfl, e, _⟩ | ⟨n, e⟩
    · cases e
    · obtain ⟨p', vs', q1, q2, q3, q4⟩ := R.own j ys e
      exact ⟨p', vs', by rw [List.getElem?_set_ne (Ne.symm n)]; exact q1, q2, q3.step R s, q4⟩
  · rcases get_set e1 with ⟨rfl, e, _⟩ | ⟨n, e1⟩
    · cases e
    · rcases get_set e2 with ⟨rfl, e, _⟩ | ⟨n', e2⟩
      · cases e
      · rw [List.getElem?_set_ne (Ne.symm n)] at e3
        rw [List.getElem?_set_ne (Ne.symm n')] at e4
        exact R.inj j k ys zs q e1 e2 e3 e4

/-! ### a fresh list becomes a name's own -/
def AS.putOwn (a : AS) (i : Nat) (xs : List AV) : AS := { a with ρ := a.ρ.set i (some (.own xs)) }
theorem Rl.putOwnStp {i : Nat} {p : Addr} {vs : List V} {xs : List AV} (hp : H p = none) : Stp m a σ H m (a.putOwn i xs) (σ.set i (some (.ref p))) (upd H p (.lst vs)) where
  pre := fun _ _ e => e
  keep := fun b o e _ => by rw [upd_ne (ne_of_none e hp)]; exact e
  dom := fun b e => by
    by_cases q : b = p
    · rw [q, upd_same]; simp
    · rw [upd_ne q]; exact e
  locs := fun b l => by
    rcases l with l | ⟨j, ys, e1, e2⟩
    · exact .inl (.inl l)
    · rcases get_set e1 with ⟨rfl, e, hl⟩ | ⟨n, e⟩
      · rcases get_set e2 with ⟨_, e, _⟩ | ⟨n, _⟩
        · cases e; exact .inr hp
        · exact absurd rfl n
      · rw [List.getElem?_set_ne (Ne.symm n)] at e2
        exact .inl (.inr ⟨j, ys, e, e2⟩)
theorem Rl.putOwn (R : Rl K F m a σ H) {i : Nat} {p : Addr} {vs : List V} {xs : List AV} (hp : H p = none) (r : Rps' K F m a σ H vs xs) :
    Rl K F m (a.putOwn i xs) (σ.set i (some (.ref p))) (upd H p (.lst vs)) := by
  have s := Rl.putOwnStp (m := m) (a := a) (σ := σ) (i := i) (vs := vs) (xs := xs) hp
  have nloc : ∀ {b : Addr}, Loc' m a σ b → b ≠ p := fun l e => R.locSome l (e ▸ hp)
  have nF : ¬ F p := fun h => by rcases R.FH p h with ⟨_, q⟩ | ⟨_, q⟩ <;> rw [hp] at q <;> cases q
  refine ⟨by simp [AS.putOwn, R.len], fun j w e => ?_, fun j ys e => ?_, fun j k ys zs q e1 e2 e3 e4 => ?_, R.mlen, fun n o q e1 e2 => ?_, R.mnd, R.mF, fun q h => ?_⟩
  · rcases get_set e with ⟨rfl, e, hl⟩ | ⟨n, e⟩
    · cases e
    · obtain ⟨y, e2, r2⟩ := R.slot j w e
      exact ⟨y, by rw [List.getElem?_set_ne (Ne.symm n)]; exact e2, r2.step R s⟩
  · rcases get_set e with ⟨rfl, e, hl⟩ | ⟨n, e⟩
    · cases e
      exact ⟨p, vs, set_get (by rw [← R.len]; exact hl), upd_same, r.step R s, nF, fun h => nloc (.inl h) rfl⟩
    · obtain ⟨p', vs', q1, q2, q3, q4⟩ := R.own j ys e
      exact ⟨p', vs', by rw [List.getElem?_set_ne (Ne.symm n)]; exact q1, by rw [upd_ne (nloc (.inr ⟨j, ys, e, q1⟩))]; exact q2, q3.step R s, q4⟩
  · rcases get_set e1 with ⟨rfl, e, h1⟩ | ⟨n, e9⟩
    · rcases get_set e2 with ⟨rfl, e, _⟩ | ⟨n', e2⟩
      · rfl
      · rw [set_get (by rw [← R.len]; exact h1)] at e3
        rw [List.getElem?_set_ne (Ne.symm n')] at e4
        cases e3
        exact absurd rfl (nloc (.inr ⟨k, zs, e2, e4⟩))
    · rcases get_set e2 with ⟨rfl, e, h1⟩ | ⟨n', e2⟩
      · rw [set_get (by rw [← R.len]; exact h1)] at e4
        rw [List.getElem?_set_ne (Ne.symm n)] at e3
        cases e4
        exact absurd rfl (nloc (.inr ⟨j, ys, e9, e3⟩))
      · rw [List.getElem?_set_ne (Ne.symm n)] at e3
        rw [List.getElem?_set_ne (Ne.symm n')] at e4
        exact R.inj j k ys zs q e9 e2 e3 e4
  · exact (R.obj n o q e1 e2).keep (R.keeps s) (upd_ne (nloc (.inl (List.mem_of_getElem? e2))))
  · have nq : q ≠ p := fun e => nF (e ▸ h)
    unfold IsMut
    rw [upd_ne nq]
    exact R.FH q h

/-! ### a fresh object becomes one of the store -/
def AS.lay (a : AS) (o : SObj) : AS := { a with S := a.S ++ [o] }
theorem Rl.layStp {p : Addr} {u : HO} {o : SObj} (hp : H p = none) : Stp m a σ H (m ++ [p]) (a.lay o) σ (upd H p u) where
  pre := fun n q e => by
    rw [List.getElem?_append_left (List.getElem?_eq_some_iff.mp e).1]; exact e
  keep := fun b o e _ => by rw [upd_ne (ne_of_none e hp)]; exact e
  dom := fun b e => by
    by_cases q : b = p
    · rw [q, upd_same]; simp
    · rw [upd_ne q]; exact e
  locs := fun b l => by
    rcases l with l | l
    · rcases List.mem_append.mp l with l | l
      · exact .inl (.inl l)
      · have e : b = p := by simpa using l
        exact .inr (e ▸ hp)
    · exact .inl (.inr l)
theorem Rl.lay (R : Rl K F m a σ H) {p : Addr} {u : HO} {o : SObj} (hp : H p = none)
    (ho : Rl K F m a σ H → ObRp K (upd H p u) (hotOf F (m ++ [p]) (a.lay o) σ) (m ++ [p]) p o) : Rl K F (m ++ [p]) (a.lay o) σ (upd H p u) := by
  have s := Rl.layStp (m := m) (a := a) (σ := σ) (u := u) (o := o) hp
  have nloc : ∀ {b : Addr}, Loc' m a σ b → b ≠ p := fun l e => R.locSome l (e ▸ hp)
  have nF : ¬ F p := fun h => by rcases R.FH p h with ⟨_, q⟩ | ⟨_, q⟩ <;> rw [hp] at q <;> cases q
  refine ⟨R.len, fun j w e => ?_, fun j ys e => ?_, R.inj, by simp [AS.lay, R.mlen], fun n o' q e1 e2 => ?_, ?_, fun q h => ?_, fun q h => ?_⟩
  · obtain ⟨y, e2, r2⟩ := R.slot j w e
    exact ⟨y, e2, r2.step R s⟩
  · obtain ⟨p', vs', q1, q2, q3, q4, q5⟩ := R.own j ys e
    have np := nloc (.inr ⟨j, ys, e, q1⟩)
    exact ⟨p', vs', q1, by rw [upd_ne np]; exact q2, q3.step R s, q4, fun h => (List.mem_append.mp h).elim q5 fun h => np (by simpa using h)⟩
  · by_cases hn : n < a.S.length
    · have e1' : a.S[n]? = some o' := by
        have : (a.S ++ [o])[n]? = some o' := e1
        rwa [List.getElem?_append_left hn] at this
      rw [List.getElem?_append_left (by rw [R.mlen]; exact hn)] at e2
      exact (R.obj n o' q e1' e2).keep (R.keeps s) (upd_ne (nloc (.inl (List.mem_of_getElem? e2))))
    · have e1' : (a.S ++ [o])[n]? = some o' := e1
      have hn' : n = a.S.length := by
        have := (List.getElem?_eq_some_iff.mp e1').1
        simp at this
        omega
      subst hn'
      rw [List.getElem?_append_right (Nat.le_refl _)] at e1'
      rw [List.getElem?_append_right (by rw [R.mlen]; exact Nat.le_refl _)] at e2
      simp [R.mlen] at e1' e2
      subst e1' e2
      exact ho R
  · rw [List.nodup_append]
    exact ⟨R.mnd, by simp, fun x hx y hy e => by
      have : y = p := by simpa using hy
      exact nloc (.inl hx) (e.trans this)⟩
  · rcases List.mem_append.mp h with h | h
    · exact R.mF q h
    · have : q = p := by simpa using h
      rw [this]; exact nF
  · have nq : q ≠ p := fun e => nF (e ▸ h)
    unfold IsMut
    rw [upd_ne nq]
    exact R.FH q h
theorem Rl.layLst (R : Rl K F m a σ H) {p : Addr} {vs : List V} {xs : List AV} (hp : H p = none) (r : Rps' K F m a σ H vs xs) : Rl K F (m ++ [p]) (a.lay (.lst xs)) σ (upd H p (.lst vs)) :=
  R.lay hp fun R => ⟨vs, upd_same, r.step R (Rl.layStp hp)⟩
theorem Rl.layRef (R : Rl K F m a σ H) {p : Addr} {o : SObj} {H' : Hp} : Rp' K F (m ++ [p]) (a.lay o) σ H' (.ref p) (.ref a.S.length) :=
  .ref (by rw [← R.mlen]; simp)

/-! ### an own list, a store's object is changed -/
theorem Rl.setOwnStp {i : Nat} {p : Addr} {vs : List V} {xs ys : List AV} (h : a.ρ[i]? = some (some (Slt.own xs))) (hp : σ[i]? = some (some (V.ref p))) : Stp m a σ H m (a.putOwn i ys) σ (upd H p (.lst vs)) where
  pre := fun _ _ e => e
  keep := fun b o e n => by
    rw [upd_ne]
    · exact e
    · rintro rfl; exact n (.inr ⟨i, xs, h, hp⟩)
  dom := fun b e => by
    by_cases q : b = p
    · rw [q, upd_same]; simp
    · rw [upd_ne q]; exact e
  locs := fun b l => by
    rcases l with l | ⟨j, zs, e1, e2⟩
    · exact .inl (.inl l)
    · rcases get_set e1 with ⟨rfl, e, hl⟩ | ⟨n, e⟩
      · exact .inl (.inr ⟨j, xs, h, e2⟩)
      · exact .inl (.inr ⟨j, zs, e, e2⟩)
theorem Rl.setOwn (R : Rl K F m a σ H) {i : Nat} {p : Addr} {vs : List V} {xs ys : List AV} (h : a.ρ[i]? = some (some (Slt.own xs))) (hp : σ[i]? = some (some (V.ref p))) (r : Rps' K F m a σ H vs ys) :
    Rl K F m (a.putOwn i ys) σ (upd H p (.lst vs)) := by
  have s := Rl.setOwnStp (m := m) (H := H) (vs := vs) (ys := ys) h hp
  obtain ⟨p0, vs0, g1, g2, g3, g4, g5⟩ := R.own i xs h
  rw [hp] at g1; cases g1
  refine ⟨by simp [AS.putOwn, R.len], fun j w e => ?_, fun j zs e => ?_, fun j k us ws q e1 e2 e3 e4 => ?_, R.mlen, fun n o q e1 e2 => ?_, R.mnd, R.mF, fun q hq => ?_⟩
  · rcases get_set e with ⟨rfl, e, hl⟩ | ⟨n, e⟩
    · cases e
    · obtain ⟨y, e2, r2⟩ := R.slot j w e
      exact ⟨y, e2, r2.step R s⟩
  · rcases get_set e with ⟨rfl, e, hl⟩ | ⟨n, e⟩
    · cases e
      exact ⟨p, vs, hp, upd_same, r.step R s, g4, g5⟩
    · obtain ⟨p', vs', q1, q2, q3, q4⟩ := R.own j zs e
      refine ⟨p', vs', q1, ?_, q3.step R s, q4⟩
      rw [upd_ne]
      · exact q2
      · rintro rfl; exact n (R.inj j i zs xs _ e h q1 hp)
  · have old : ∀ {j : Nat} {us : List AV}, (a.putOwn i ys).ρ[j]? = some (some (Slt.own us)) → ∃ us', a.ρ[j]? = some (some (Slt.own us')) := by
      intro j us e
      rcases get_set e with ⟨rfl, _, _⟩ | ⟨_, e⟩
      · exact ⟨_, h⟩
      · exact ⟨_, e⟩
    obtain ⟨us', e1'⟩ := old e1
    obtain ⟨ws', e2'⟩ := old e2
    exact R.inj j k us' ws' q e1' e2' e3 e4
  · exact (R.obj n o q e1 e2).keep (R.keeps s) (upd_ne (by rintro rfl; exact g5 (List.mem_of_getElem? e2)))
  · unfold IsMut
    rw [upd_ne (by rintro rfl; exact g4 hq)]
    exact R.FH q hq
def AS.setS (a : AS) (n : Nat) (o : SObj) : AS := { a with S := a.S.set n o }
theorem Rl.setSStp {n : Nat} {p : Addr} {u : HO} {o : SObj} (hp : m[n]? = some p) : Stp m a σ H m (a.setS n o) σ (upd H p u) where
  pre := fun _ _ e => e
  keep := fun b o e nl => by
    rw [upd_ne]
    · exact e
    · rintro rfl; exact nl (.inl (List.mem_of_getElem? hp))
  dom := fun b e => by
    by_cases q : b = p
    · rw [q, upd_same]; simp
    · rw [upd_ne q]; exact e
  locs := fun b l => .inl l
theorem Rl.setS (R : Rl K F m a σ H) {n : Nat} {p : Addr} {u : HO} {o : SObj} (hp : m[n]? = some p) (ho : ObRp K (upd H p u) (hotOf F m (a.setS n o) σ) m p o) (hu : IsMut (upd H p u) p) :
    Rl K F m (a.setS n o) σ (upd H p u) := by
  have s := Rl.setSStp (m := m) (a := a) (σ := σ) (H := H) (u := u) (o := o) hp
  have pm := List.mem_of_getElem? hp
  refine ⟨R.len, fun j w e => ?_, fun j zs e => ?_, R.inj, by simp [AS.setS, R.mlen], fun k o' q e1 e2 => ?_, R.mnd, R.mF, fun q hq => ?_⟩
  · obtain ⟨y, e2, r2⟩ := R.slot j w e
    exact ⟨y, e2, r2.step R s⟩
  · obtain ⟨p', vs', q1, q2, q3, q4, q5⟩ := R.own j zs e
    exact ⟨p', vs', q1, by rw [upd_ne (by rintro rfl; exact q5 pm)]; exact q2, q3.step R s, q4, q5⟩
  · rcases get_set e1 with ⟨rfl, rfl, hl⟩ | ⟨ne, e1⟩
    · rw [hp] at e2; cases e2
      exact ho
    · refine (R.obj k o' q e1 e2).keep (R.keeps s) (upd_ne ?_)
      rintro rfl
      exact ne (nodup_ix_addr R.mnd e2 hp)
  · unfold IsMut
    rw [upd_ne (by rintro rfl; exact R.mF _ pm hq)]
    exact R.FH q hq
where
  nodup_ix_addr {N : List Addr} (hN : N.Nodup) {i j : Nat} {x : Addr} (a : N[i]? = some x) (b : N[j]? = some x) : i = j := by
    obtain ⟨h1, e1⟩ := List.getElem?_eq_some_iff.mp a
    obtain ⟨h2, e2⟩ := List.getElem?_eq_some_iff.mp b
    exact (List.getElem_inj hN).mp (e1.trans e2.symm)
theorem Rl.setLst (R : Rl K F m a σ H) {n : Nat} {p : Addr} {vs : List V} {xs : List AV} (hp : m[n]? = some p) (r : Rps' K F m a σ H vs xs) : Rl K F m (a.setS n (.lst xs)) σ (upd H p (.lst vs)) :=
  R.setS hp ⟨vs, upd_same, r.step R (Rl.setSStp hp)⟩ (.inl ⟨vs, upd_same⟩)
end
end Pyx
end
section
set_option maxRecDepth 100000
namespace Pyx
open PySem PySem.Spec PyProof.Rows L2

/-! ### the abstract values as plain data -/
mutual
def AV.pd : AV → PyData
  | .non => .none | .bl b => .bool b | .int i => .int i | .str x => .str x
  | .tup xs => .tuple (AV.pds xs) | .lst xs => .list (AV.pds xs) | .ref _ => .none
def AV.pds : List AV → List PyData
  | [] => [] | x :: xs => x.pd :: AV.pds xs
end
mutual
/-- no reference in it, its texts' signs are signs -/
def AV.okD : AV → Bool
  | .str x => PyData.strOk x
  | .tup xs => AV.okDs xs | .lst xs => AV.okDs xs | .ref _ => false
  | _ => true
def AV.okDs : List AV → Bool
  | [] => true | x :: xs => x.okD && AV.okDs xs
end
def AV.dep (x : AV) : Nat := x.pd.depth
def AV.eqb (x y : AV) : Bool := PyData.eqv x.pd y.pd
mutual
theorem AV.okD_lay : ∀ x : AV, x.okD = true → x.pd.canLay0 = true
  | .non, _ => rfl | .bl _, _ => rfl | .int _, _ => rfl
  | .str x, h => h
  | .tup xs, h => AV.okDs_lay xs h
  | .lst xs, h => AV.okDs_lay xs h
  | .ref _, h => by cases h
theorem AV.okDs_lay : ∀ xs : List AV, AV.okDs xs = true → PyData.canLayAll0 (AV.pds xs) = true
  | [], _ => rfl
  | x :: xs, h => by
    have h' : (x.okD && AV.okDs xs) = true := h
    rw [Bool.and_eq_true] at h'
    show (x.pd.canLay0 && PyData.canLayAll0 (AV.pds xs)) = true
    rw [AV.okD_lay x h'.1, AV.okDs_lay xs h'.2]; rfl
end
theorem AV.pds_map : ∀ xs : List AV, AV.pds xs = xs.map AV.pd
  | [] => rfl
  | x :: xs => by rw [AV.pds, AV.pds_map xs]; rfl
theorem AV.okDs_all : ∀ xs : List AV, AV.okDs xs = xs.all AV.okD
  | [] => rfl
  | x :: xs => by rw [AV.okDs, AV.okDs_all xs]; rfl

section
variable {K : PySem.W.Frag} {H : Hp} {hot : Hot} {m : List Addr}
mutual
theorem Rp.dp : ∀ {v : AV} {x : V}, Rp K H hot m x v → v.okD = true → Dp K H x v.pd
  | .non, _, .non, _ => .non
  | .bl _, _, .bl b, _ => .bl b
  | .int _, _, .int i, _ => .int i
  | .str _, _, .str x, _ => .str x
  | .tup xs, _, .tup h r, k => .tup h.sqT (Rps.dp r k)
  | .lst xs, _, .lst h n r, k => .lst (.inl h) (Rps.dp r k)
  | .lst xs, _, .lstK h r, k => .lst (.inr h) (Rps.dp r k)
theorem Rps.dp : ∀ {vs : List AV} {xs : List V}, Rps K H hot m xs vs → AV.okDs vs = true → DpAll K H xs (AV.pds vs)
  | [], _, .nil, _ => .nil
  | v :: vs, _, .cons r t, k => by
    have h' : (v.okD && AV.okDs vs) = true := k
    rw [Bool.and_eq_true] at h'
    exact .cons (Rp.dp r h'.1) (Rps.dp t h'.2)
end
end

/-! ### values that may be hot at their head: what an operation reads -/
def RB (K : PySem.W.Frag) (H : Hp) (hot : Hot) (m : List Addr) (x : V) (v : AV) : Prop :=
  Rp K H hot m x v ∨ ∃ p vs xs, x = .ref p ∧ v = .lst xs ∧ H p = some (.lst vs) ∧ Rps K H hot m vs xs
section
variable {K : PySem.W.Frag} {H : Hp} {hot : Hot} {m : List Addr} {x : V}
theorem RB.non (h : RB K H hot m x .non) : x = .non := by
  rcases h with h | ⟨_, _, _, _, e, _⟩
  · cases h; rfl
  · cases e
theorem RB.bl {b : Bool} (h : RB K H hot m x (.bl b)) : x = .bl b := by
  rcases h with h | ⟨_, _, _, _, e, _⟩
  · cases h; rfl
  · cases e
theorem RB.int {b : Int} (h : RB K H hot m x (.int b)) : x = .int b := by
  rcases h with h | ⟨_, _, _, _, e, _⟩
  · cases h; rfl
  · cases e
theorem RB.str {b : Str} (h : RB K H hot m x (.str b)) : x = .str b := by
  rcases h with h | ⟨_, _, _, _, e, _⟩
  · cases h; rfl
  · cases e
theorem RB.tup {xs : List AV} (h : RB K H hot m x (.tup xs)) : ∃ p vs, x = .ref p ∧ TupZ K H p vs ∧ Rps K H hot m vs xs := by
  rcases h with h | ⟨_, _, _, _, e, _⟩
  · cases h with | tup a b => exact ⟨_, _, rfl, a, b⟩
  · cases e
theorem RB.lst {xs : List AV} (h : RB K H hot m x (.lst xs)) : ∃ p vs, x = .ref p ∧ SqL K H p vs ∧ Rps K H hot m vs xs := by
  rcases h with h | ⟨p, vs, ys, e1, e, h1, r⟩
  · cases h with
    | lst a n b => exact ⟨_, _, rfl, .inl a, b⟩
    | lstK a b => exact ⟨_, _, rfl, .inr a, b⟩
  · cases e; exact ⟨p, vs, e1, .inl (.inl h1), r⟩
theorem RB.dp {v : AV} (h : RB K H hot m x v) (k : v.okD = true) : Dp K H x v.pd := by
  rcases h with h | ⟨p, vs, ys, e1, e, h1, r⟩
  · exact h.dp k
  · subst e e1; exact .lst (.inl (.inl h1)) (r.dp k)
end
/-- behind an operation: the value's reading in a heap that keeps all -/
def Aft (K : PySem.W.Frag) (F : Hot) (m : List Addr) (a : AS) (σ : L2.St) (H : Hp) (v : AV) (Q : VK) : Prop :=
  ∀ z H', Rl K F m a σ H' → Stp m a σ H m a σ H' → Rp' K F m a σ H' z v → Q z H'
section
variable {K : PySem.W.Frag} {F : Hot} {m : List Addr} {a : AS} {σ : L2.St} {H : Hp} {v : AV} {Q : VK} {x y : V}
theorem Aft.here (A : Aft K F m a σ H v Q) (R : Rl K F m a σ H) (r : Rp' K F m a σ H x v) : Q x H := A x H R .refl r
theorem Aft.tup {vs : List V} {xs : List AV} {p : Addr} {o : PySem.Obj} (A : Aft K F m a σ H (.tup xs) Q) (R : Rl K F m a σ H) (r : Rps' K F m a σ H vs xs) (hp : H p = none) (ho : TupO o) : Q (.ref p) (upd H p (.frz o (.tup vs))) :=
  A _ _ (R.new hp) (.new hp) (R.newTup hp ho r)
theorem Aft.lst {vs : List V} {xs : List AV} {p : Addr} (A : Aft K F m a σ H (.lst xs) Q) (R : Rl K F m a σ H) (r : Rps' K F m a σ H vs xs) (hp : H p = none) : Q (.ref p) (upd H p (.lst vs)) :=
  A _ _ (R.new hp) (.new hp) (R.newLst hp r)
end

abbrev Op2 := List SObj → AV → AV → Option AV
/-- an operation's reading by the abstract values -/
def rOp (K : PySem.W.Frag) (f : Op2) : R2 := fun x y H Q => ∃ F m a σ cx cy v, Rl K F m a σ H ∧ RB K H (hotOf F m a σ) m x cx ∧ RB K H (hotOf F m a σ) m y cy ∧ f a.S cx cy = some v ∧ Aft K F m a σ H v Q

/-! ### + - * // % ** -/
def opAdd : Op2
  | _, .int i, .int j => some (.int (i + j))
  | _, .str x, .str y => if x.length + y.length ≤ sizeLine then some (.str (x ++ y)) else none
  | _, .tup xs, .tup ys => if xs.length + ys.length ≤ sizeLine then some (.tup (xs ++ ys)) else none
  | _, .lst xs, .lst ys => if xs.length + ys.length ≤ sizeLine then some (.lst (xs ++ ys)) else none
  | _, _, _ => none
def opSub : Op2
  | _, .int i, .int j => some (.int (i - j))
  | _, _, _ => none
def opMul : Op2
  | _, .int i, .int j => if (-(2 ^ 64) < i ∧ i < 2 ^ 64) ∨ (-(2 ^ 64) < j ∧ j < 2 ^ 64) then some (.int (i * j)) else none
  | _, _, _ => none
def opFdiv : Op2
  | _, .int i, .int j => if 0 < j ∧ j < 1073741824 then some (.int (i / j)) else none
  | _, _, _ => none
def opMod : Op2
  | _, .int i, .int j => if 0 < j then some (.int (i % j)) else none
  | _, _, _ => none
def opPow : Op2
  | _, .int i, .int j => if 0 ≤ j ∧ j ≤ 1000000 ∧ i.natAbs < 2 ^ 64 then some (.int (i ^ j.toNat)) else none
  | _, _, _ => none

theorem sqlM {X : Cx} {pins : List (Addr × PySem.Obj)} {σ : L2.St} {H : Hp} {s : Shared} {l : Addr} {xs : List V} (I : Inv X pins σ H s) (h : SqL X.K H l xs) :
    xs.length ≤ sizeLine ∧ ∃ (its : List Value) (n : Nat) (dd : Option Addr) (sl : Array (Option Value)), Vals xs its ∧ xs.length = its.length ∧ s.heap.get? l = some { cls := .type "list", dict := dd, data := .seq its.toArray n, slots := sl } := by
  obtain ⟨its, r, ⟨⟨cls, dd, data, sl⟩, n, e, hc, hd, hq⟩, z⟩ := I.list h
  simp only at hc hd hq
  subst hc hd hq
  exact ⟨z, its, n, _, sl, r, r.length, e⟩
section
variable {X : Cx}
def rCatR (K : PySem.W.Frag) : R2 := fun x y H Q => ∃ l b xs zs, x = .ref l ∧ y = .ref b ∧ SqL K H l xs ∧ SqL K H b zs ∧ xs.length + zs.length ≤ sizeLine ∧ ∀ p, H p = none → Q (.ref p) (upd H p (.lst (xs ++ zs)))
theorem op_catR : OpR X (binaryOp .Add) (rCatR X.K) := by
  intro pins s σ H x y v u Q I rx ry h
  obtain ⟨l, b, xs, zs, rfl, rfl, hH, hB, hz, q⟩ := h
  cases rx
  cases ry
  obtain ⟨z, its, n, dd, sl, r, hl, e⟩ := sqlM I hH
  obtain ⟨z2, its2, n2, dd2, sl2, r2, hl2, e2⟩ := sqlM I hB
  refine concat_meets ⟨_, e, rfl⟩ ⟨_, e2, rfl⟩ noFill_list_add seq_list_add PySem.F.slot_list_add PySem.F.entry_list_add (PySem.F.args_list_add_2 _ _) (list_addW l b its.toArray its2.toArray n n2 dd dd2 sl sl2 (by rw [List.size_toArray, List.size_toArray]; omega)) ⟨e, e2, ?_⟩
  have ea : its.toArray ++ its2.toArray = (its ++ its2).toArray := by simp
  rw [ea]
  exact ⟨.ref _, _, I.lnew (t' := s.toks) (r.append r2) (by rw [List.length_append]; omega), rfl, q _ I.fresh⟩

theorem opAdd_ok : OpR X (binaryOp .Add) (rOp X.K opAdd) := by
  intro pins s σ H x y v u Q I rx ry ⟨F, m, a, σ', cx, cy, w, R, bx, by_, e, A⟩
  unfold opAdd at e
  split at e
  · cases e
    rw [bx.int] at rx; rw [by_.int] at ry
    exact op_add pins s σ H _ _ v u Q I rx ry ⟨_, _, rfl, rfl, A.here R (.int _)⟩
  · split at e
    · cases e
      rw [bx.str] at rx; rw [by_.str] at ry
      exact op_add_str pins s σ H _ _ v u Q I rx ry ⟨_, _, rfl, rfl, by assumption, A.here R (.str _)⟩
    · cases e
  · split at e
    · cases e
      rename_i xs ys hlen
      obtain ⟨p, vs, rfl, h1, r1⟩ := bx.tup
      obtain ⟨q, ws, rfl, h2, r2⟩ := by_.tup
      refine op_catZ pins s σ H _ _ v u Q I rx ry ⟨p, q, vs, ws, rfl, rfl, h1.sqT, h2.sqT, by rw [r1.length, r2.length]; exact hlen, fun e => ?_, fun _ e => ?_, fun _ _ p' o hp ho => A.tup R (r1.append r2) hp ho⟩
      · subst e
        cases r1
        exact A.here R (.tup h2 r2)
      · subst e
        cases r2
        rw [List.append_nil] at A
        exact A.here R (.tup h1 r1)
    · cases e
  · split at e
    · cases e
      rename_i xs ys hlen
      obtain ⟨p, vs, rfl, h1, r1⟩ := bx.lst
      obtain ⟨q, ws, rfl, h2, r2⟩ := by_.lst
      exact op_catR pins s σ H _ _ v u Q I rx ry ⟨p, q, vs, ws, rfl, rfl, h1, h2, by rw [r1.length, r2.length]; exact hlen, fun p' hp => A.lst R (r1.append r2) hp⟩
    · cases e
  · cases e
theorem opSub_ok : OpR X (binaryOp .Sub) (rOp X.K opSub) := by
  intro pins s σ H x y v u Q I rx ry ⟨F, m, a, σ', cx, cy, w, R, bx, by_, e, A⟩
  unfold opSub at e
  split at e
  · cases e
    rw [bx.int] at rx; rw [by_.int] at ry
    exact op_sub pins s σ H _ _ v u Q I rx ry ⟨_, _, rfl, rfl, A.here R (.int _)⟩
  · cases e
theorem opMul_ok : OpR X (binaryOp .Mult) (rOp X.K opMul) := by
  intro pins s σ H x y v u Q I rx ry ⟨F, m, a, σ', cx, cy, w, R, bx, by_, e, A⟩
  unfold opMul at e
  split at e
  · split at e
    · cases e
      rw [bx.int] at rx; rw [by_.int] at ry
      exact op_mul pins s σ H _ _ v u Q I rx ry ⟨_, _, rfl, rfl, by assumption, A.here R (.int _)⟩
    · cases e
  · cases e
theorem opFdiv_ok : OpR X (binaryOp .FloorDiv) (rOp X.K opFdiv) := by
  intro pins s σ H x y v u Q I rx ry ⟨F, m, a, σ', cx, cy, w, R, bx, by_, e, A⟩
  unfold opFdiv at e
  split at e
  · split at e
    · cases e
      rw [bx.int] at rx; rw [by_.int] at ry
      exact op_fdiv pins s σ H _ _ v u Q I rx ry ⟨_, _, rfl, rfl, by assumption, A.here R (.int _)⟩
    · cases e
  · cases e
theorem opMod_ok : OpR X (binaryOp .Mod) (rOp X.K opMod) := by
  intro pins s σ H x y v u Q I rx ry ⟨F, m, a, σ', cx, cy, w, R, bx, by_, e, A⟩
  unfold opMod at e
  split at e
  · split at e
    · cases e
      rw [bx.int] at rx; rw [by_.int] at ry
      exact op_mod pins s σ H _ _ v u Q I rx ry ⟨_, _, rfl, rfl, by assumption, A.here R (.int _)⟩
    · cases e
  · cases e
theorem opPow_ok : OpR X (binaryOp .Pow) (rOp X.K opPow) := by
  intro pins s σ H x y v u Q I rx ry ⟨F, m, a, σ', cx, cy, w, R, bx, by_, e, A⟩
  unfold opPow at e
  split at e
  · split at e
    · cases e
      rw [bx.int] at rx; rw [by_.int] at ry
      exact op_pow pins s σ H _ _ v u Q I rx ry ⟨_, _, rfl, rfl, by assumption, A.here R (.int _)⟩
    · cases e
  · cases e
/-- the binary operators of the fragment -/
def binF : Operator → Option Op2
  | .Add => some opAdd | .Sub => some opSub | .Mult => some opMul | .FloorDiv => some opFdiv | .Mod => some opMod | .Pow => some opPow
  | _ => none
theorem binF_ok {op : Operator} {f : Op2} (h : binF op = some f) : OpR X (binaryOp op) (rOp X.K f) := by
  cases op <;> simp [binF] at h <;> subst h
  · exact opAdd_ok
  · exact opSub_ok
  · exact opMul_ok
  · exact opMod_ok
  · exact opPow_ok
  · exact opFdiv_ok

/-! ### comparisons -/
def opEq : Op2 := fun _ x y => if x.okD = true ∧ y.okD = true ∧ min x.dep y.dep ≤ 64 then some (.bl (x.eqb y)) else none
def opNe : Op2 := fun _ x y => if x.okD = true ∧ y.okD = true ∧ min x.dep y.dep ≤ 64 then some (.bl (!x.eqb y)) else none
def opI (g : Int → Int → Bool) : Op2
  | _, .int i, .int j => some (.bl (g i j))
  | _, _, _ => none
def isNon : AV → Bool
  | .non => true | _ => false
def opIs : Op2
  | _, x, .non => some (.bl (isNon x))
  | _, _, _ => none
def opIsN : Op2
  | _, x, .non => some (.bl (!isNon x))
  | _, _, _ => none
def dHas (kvs : List (Str × AV)) (k : Str) : Bool := kvs.any fun kv => decide (kv.1 = k)
def inSeq (x : AV) (ys : List AV) : Option Bool :=
  if x.okD = true ∧ AV.okDs ys = true ∧ min (PyData.depthAll (AV.pds ys)) x.dep ≤ 64 then some (ys.any fun y => y.eqb x) else none
def inB : List SObj → AV → AV → Option Bool
  | _, x, .lst ys => inSeq x ys
  | _, x, .tup ys => inSeq x ys
  | S, .str k, .ref n => match S[n]? with
    | some (.dic kvs) => some (dHas kvs k)
    | _ => none
  | _, _, _ => none
def opIn : Op2 := fun S x y => (inB S x y).map .bl
def opNotIn : Op2 := fun S x y => (inB S x y).map fun b => .bl (!b)

theorem isNon_eq {K : PySem.W.Frag} {H : Hp} {hot : Hot} {m : List Addr} {x : V} {c : AV} (h : RB K H hot m x c) : decide (x = .non) = isNon c := by
  rcases h with h | ⟨_, _, _, e1, e2, _⟩
  · cases h <;> rfl
  · subst e1 e2; rfl
theorem opEq_ok (hu : X.A.units + 100 < cLine) : OpR X (compareOp .Eq) (rOp X.K opEq) := by
  intro pins s σ H x y v u Q I rx ry ⟨F, m, a, σ', cx, cy, w, R, bx, by_, e, A⟩
  unfold opEq at e
  split at e
  · rename_i h
    obtain ⟨h1, h2, h3⟩ := h
    cases e
    obtain ⟨as, r1⟩ := Dp.reads I _ _ _ (bx.dp h1) rx
    obtain ⟨bs, r2⟩ := Dp.reads I _ _ _ (by_.dp h2) ry
    exact SeqAt.compareEq_reads r1 r2 (AV.okD_lay _ h1) (AV.okD_lay _ h2) (by unfold AV.dep at h3; omega) ⟨.bl _, H, I, rfl, A.here R (.bl _)⟩
  · cases e
theorem opNe_ok (hu : X.A.units + 100 < cLine) : OpR X (compareOp .NotEq) (rOp X.K opNe) := by
  intro pins s σ H x y v u Q I rx ry ⟨F, m, a, σ', cx, cy, w, R, bx, by_, e, A⟩
  unfold opNe at e
  split at e
  · rename_i h
    obtain ⟨h1, h2, h3⟩ := h
    cases e
    obtain ⟨as, r1⟩ := Dp.reads I _ _ _ (bx.dp h1) rx
    obtain ⟨bs, r2⟩ := Dp.reads I _ _ _ (by_.dp h2) ry
    exact SeqAt.compareNe_reads r1 r2 (AV.okD_lay _ h1) (AV.okD_lay _ h2) (by unfold AV.dep at h3; omega) ⟨.bl _, H, I, rfl, A.here R (.bl _)⟩
  · cases e
theorem opI_ok {op : CmpOp} {g : Int → Int → Bool} (h : OpR X (compareOp op) (rI0 fun i j => .bl (g i j))) : OpR X (compareOp op) (rOp X.K (opI g)) := by
  intro pins s σ H x y v u Q I rx ry ⟨F, m, a, σ', cx, cy, w, R, bx, by_, e, A⟩
  unfold opI at e
  split at e
  · cases e
    rw [bx.int] at rx; rw [by_.int] at ry
    exact h pins s σ H _ _ v u Q I rx ry ⟨_, _, rfl, rfl, A.here R (.bl _)⟩
  · cases e
theorem opIs_ok : OpR X (compareOp .Is) (rOp X.K opIs) := by
  intro pins s σ H x y v u Q I rx ry ⟨F, m, a, σ', cx, cy, w, R, bx, by_, e, A⟩
  unfold opIs at e
  split at e
  · cases e
    rw [by_.non] at ry
    exact op_isN pins s σ H _ _ v u Q I rx ry ⟨rfl, by rw [isNon_eq bx]; exact A.here R (.bl _)⟩
  · cases e
theorem opIsN_ok : OpR X (compareOp .IsNot) (rOp X.K opIsN) := by
  intro pins s σ H x y v u Q I rx ry ⟨F, m, a, σ', cx, cy, w, R, bx, by_, e, A⟩
  unfold opIsN at e
  split at e
  · cases e
    rw [by_.non] at ry
    exact op_notN pins s σ H _ _ v u Q I rx ry ⟨rfl, by rw [isNon_eq bx]; exact A.here R (.bl _)⟩
  · cases e
theorem pds_any (x : AV) : ∀ ys : List AV, ((AV.pds ys).any fun z => PyData.eqv z x.pd) = ys.any fun y => y.eqb x
  | [] => rfl
  | y :: ys => by rw [AV.pds, List.any_cons, List.any_cons, pds_any x ys]; rfl
theorem RpD.has {K : PySem.W.Frag} {H : Hp} {hot : Hot} {m : List Addr} {k : Str} : ∀ {xs : List (Key × V)} {vs : List (Str × AV)}, RpD K H hot m xs vs → (valV xs (Sum.inr k)).isSome = dHas vs k
  | [], [], _ => rfl
  | (k', x) :: xs, (s, v) :: vs, ⟨e, r, t⟩ => by
    subst e
    by_cases h : s = k
    · rw [valV_pos (show ((Sum.inr s : Key), x).1 = Sum.inr k by rw [h])]
      simp [dHas, h]
    · rw [valV_neg (fun q => h (Sum.inr.inj q)), RpD.has t]
      simp [dHas, h]
theorem RB.dic {F : Hot} {m : List Addr} {a : AS} {σ : L2.St} {H : Hp} {y : V} {n : Nat} {kvs : List (Str × AV)} (R : Rl X.K F m a σ H) (b : RB X.K H (hotOf F m a σ) m y (.ref n)) (e : a.S[n]? = some (.dic kvs)) :
    ∃ p vs, y = .ref p ∧ m[n]? = some p ∧ H p = some (.dK vs) ∧ RpD X.K H (hotOf F m a σ) m vs kvs := by
  rcases b with b | ⟨_, _, _, _, e, _⟩
  · cases b with
    | ref h =>
      obtain ⟨vs, h1, r⟩ := R.obj n _ _ e h
      exact ⟨_, vs, rfl, h, h1, r⟩
  · cases e
theorem inB_ok (hu : X.A.units + 100 < cLine) {pins : List (Addr × PySem.Obj)} {s : Shared} {σ : L2.St} {H : Hp} {x y : V} {v u : Value} (I : Inv X pins σ H s) (rx : RelV x v) (ry : RelV y u)
    {F : Hot} {m : List Addr} {a : AS} {σ' : L2.St} {cx cy : AV} {b : Bool} (R : Rl X.K F m a σ' H) (bx : RB X.K H (hotOf F m a σ') m x cx) (by_ : RB X.K H (hotOf F m a σ') m y cy) (e : inB a.S cx cy = some b)
    {Q Q' : Value → Shared → Prop} (hQ : ∀ s', Inv X pins σ H s' → Q (.bool b) s') (hQ' : ∀ s', Inv X pins σ H s' → Q' (.bool (!b)) s') :
    wpAny (model X.prog X.w) X.A (compareOp .In v u) Q X.xe s ∧ wpAny (model X.prog X.w) X.A (compareOp .NotIn v u) Q' X.xe s := by
  unfold inB at e
  split at e
  · unfold inSeq at e
    split at e
    · rename_i h
      obtain ⟨h1, h2, h3⟩ := h
      cases e
      obtain ⟨as, r1⟩ := Dp.reads I _ _ _ (bx.dp h1) rx
      obtain ⟨bs, r2⟩ := Dp.reads I _ _ _ (by_.dp (show AV.okD (.lst _) = true from h2)) ry
      refine ⟨SeqAt.in_list_reads r2 r1 (AV.okDs_lay _ h2) (AV.okD_lay _ h1) (by unfold AV.dep at h3; omega) ?_, SeqAt.notIn_list_reads r2 r1 (AV.okDs_lay _ h2) (AV.okD_lay _ h1) (by unfold AV.dep at h3; omega) ?_⟩
      · rw [pds_any]; exact hQ _ I
      · rw [pds_any]; exact hQ' _ I
    · cases e
  · unfold inSeq at e
    split at e
    · rename_i h
      obtain ⟨h1, h2, h3⟩ := h
      cases e
      obtain ⟨as, r1⟩ := Dp.reads I _ _ _ (bx.dp h1) rx
      obtain ⟨bs, r2⟩ := Dp.reads I _ _ _ (by_.dp (show AV.okD (.tup _) = true from h2)) ry
      refine ⟨SeqAt.in_tuple_reads r2 r1 (AV.okDs_lay _ h2) (AV.okD_lay _ h1) (by unfold AV.dep at h3; omega) ?_, SeqAt.notIn_tuple_reads r2 r1 (AV.okDs_lay _ h2) (AV.okD_lay _ h1) (by unfold AV.dep at h3; omega) ?_⟩
      · rw [pds_any]; exact hQ _ I
      · rw [pds_any]; exact hQ' _ I
    · cases e
  · split at e
    · rename_i k n _ kvs es
      cases e
      obtain ⟨p, vs, rfl, hm, h1, r⟩ := by_.dic R es
      have := bx.str
      subst this
      cases ry
      have g : DGet H p (kV (Sum.inr k)) (valV vs (Sum.inr k)) := DGet.k h1
      refine ⟨d_in (o := valV vs (Sum.inr k)) (by omega) I g rx fun s' I' => ?_, d_notIn (o := valV vs (Sum.inr k)) (by omega) I g rx fun s' I' => ?_⟩
      · rw [r.has]; exact hQ _ I'
      · rw [r.has]; exact hQ' _ I'
    · cases e
  · cases e
theorem opIn_ok (hu : X.A.units + 100 < cLine) : OpR X (compareOp .In) (rOp X.K opIn) := by
  intro pins s σ H x y v u Q I rx ry ⟨F, m, a, σ', cx, cy, w, R, bx, by_, e, A⟩
  obtain ⟨b, e1, e2⟩ := Option.map_eq_some_iff.mp e
  subst e2
  exact (inB_ok hu I rx ry R bx by_ e1 (Q := EP X pins σ Q) (Q' := fun _ _ => True) (fun s' I' => ⟨.bl _, H, I', rfl, A.here R (.bl _)⟩) fun _ _ => trivial).1
theorem opNotIn_ok (hu : X.A.units + 100 < cLine) : OpR X (compareOp .NotIn) (rOp X.K opNotIn) := by
  intro pins s σ H x y v u Q I rx ry ⟨F, m, a, σ', cx, cy, w, R, bx, by_, e, A⟩
  obtain ⟨b, e1, e2⟩ := Option.map_eq_some_iff.mp e
  subst e2
  exact (inB_ok hu I rx ry R bx by_ e1 (Q := fun _ _ => True) (Q' := EP X pins σ Q) (fun _ _ => trivial) (fun s' I' => ⟨.bl _, H, I', rfl, A.here R (.bl _)⟩)).2
def cmpF : CmpOp → Option Op2
  | .Eq => some opEq | .NotEq => some opNe
  | .Lt => some (opI fun i j => decide (i < j)) | .LtE => some (opI fun i j => decide (i ≤ j)) | .Gt => some (opI fun i j => decide (j < i)) | .GtE => some (opI fun i j => decide (j ≤ i))
  | .Is => some opIs | .IsNot => some opIsN | .In => some opIn | .NotIn => some opNotIn
theorem cmpF_ok (hu : X.A.units + 100 < cLine) {op : CmpOp} {f : Op2} (h : cmpF op = some f) : OpR X (compareOp op) (rOp X.K f) := by
  cases op <;> simp [cmpF] at h <;> subst h
  · exact opEq_ok hu
  · exact opNe_ok hu
  · exact opI_ok op_lt
  · exact opI_ok op_le
  · exact opI_ok op_gt
  · exact opI_ok op_ge
  · exact opIs_ok
  · exact opIsN_ok
  · exact opIn_ok hu
  · exact opNotIn_ok hu
end
end Pyx
end
section
set_option maxRecDepth 100000
namespace Pyx
open PySem PySem.Spec PyProof.Rows L2

/-! ### the evaluator's kinds -/
abbrev Gm := Str → List AV → List SObj → Option (AV × List SObj)
abbrev ME := Gm → AS → Option (AV × AS)
inductive Hd where
  | val (v : AV) | slot (i : Nat)
  deriving Inhabited
abbrev MO := Gm → AS → Option (Hd × AS)
abbrev MOs := Gm → AS → Option (List Hd × AS)
abbrev MAs := Gm → AS → Option (List AV × AS)
abbrev MT := Gm → AS → Option (Bool × AS)

def resL (n : Nat) : Option SObj → AV
  | some (.lst xs) => .lst xs
  | _ => .ref n
def res (S : List SObj) : AV → AV
  | .ref n => resL n S[n]?
  | v => v
def slotV (S : List SObj) : Option (Option Slt) → Option AV
  | some (some (.own xs)) => some (.lst xs)
  | some (some (.val v)) => some (res S v)
  | _ => none
def cont (a : AS) : Hd → Option AV
  | .val v => some (res a.S v)
  | .slot i => slotV a.S a.ρ[i]?
def conts (a : AS) : List Hd → Option (List AV)
  | [] => some []
  | h :: hs => (cont a h).bind fun v => (conts a hs).map fun vs => v :: vs

def RHd (K : PySem.W.Frag) (F : Hot) (m : List Addr) (a : AS) (σ : L2.St) (H : Hp) (x : V) : Hd → Prop
  | .val v => Rp' K F m a σ H x v
  | .slot i => σ[i]? = some (some x)
def RHds (K : PySem.W.Frag) (F : Hot) (m : List Addr) (a : AS) (σ : L2.St) (H : Hp) : List V → List Hd → Prop
  | [], [] => True
  | x :: xs, h :: hs => RHd K F m a σ H x h ∧ RHds K F m a σ H xs hs
  | _, _ => False
def RBs (K : PySem.W.Frag) (H : Hp) (hot : Hot) (m : List Addr) : List V → List AV → Prop
  | [], [] => True
  | x :: xs, h :: hs => RB K H hot m x h ∧ RBs K H hot m xs hs
  | _, _ => False
section
variable {K : PySem.W.Frag} {F : Hot} {m m1 m2 : List Addr} {a a1 a2 : AS} {σ σ1 σ2 : L2.St} {H H1 H2 : Hp} {x : V}
theorem RHd.step (R : Rl K F m a σ H) (s : Stp m a σ H m1 a1 σ H1) : ∀ {h : Hd}, RHd K F m a σ H x h → RHd K F m1 a1 σ H1 x h
  | .val _, r => Rp.step R s r
  | .slot _, r => r
theorem RHds.step (R : Rl K F m a σ H) (s : Stp m a σ H m1 a1 σ H1) : ∀ {xs : List V} {h : List Hd}, RHds K F m a σ H xs h → RHds K F m1 a1 σ H1 xs h
  | [], [], r => trivial
  | _ :: _, _ :: _, ⟨r, t⟩ => ⟨r.step R s, RHds.step R s t⟩
  | [], _ :: _, h => h.elim
  | _ :: _, [], h => h.elim
theorem Rp.res (R : Rl K F m a σ H) {v : AV} (r : Rp' K F m a σ H x v) : RB K H (hotOf F m a σ) m x (res a.S v) := by
  cases v with
  | ref n =>
    cases r with
    | ref hm =>
      rename_i p
      show RB K H (hotOf F m a σ) m (.ref p) (resL n a.S[n]?)
      cases q : a.S[n]? with
      | none => exact .inl (.ref hm)
      | some o =>
        cases o with
        | lst xs =>
          obtain ⟨vs, h1, r1⟩ := R.obj n _ _ q hm
          exact .inr ⟨p, vs, xs, rfl, rfl, h1, r1⟩
        | dic kvs => exact .inl (.ref hm)
  | _ => exact .inl r
theorem RHd.cont (R : Rl K F m a σ H) : ∀ {h : Hd} {c : AV}, RHd K F m a σ H x h → Pyx.cont a h = some c → RB K H (hotOf F m a σ) m x c
  | .val v, c, r, e => by cases e; exact Rp.res R r
  | .slot i, c, r, e => by
    have r' : σ[i]? = some (some x) := r
    have e' : slotV a.S a.ρ[i]? = some c := e
    cases q : a.ρ[i]? with
    | none => rw [q] at e'; cases e'
    | some o =>
      cases o with
      | none => rw [q] at e'; cases e'
      | some sl =>
        rw [q] at e'
        cases sl with
        | own xs =>
          cases e'
          obtain ⟨p, vs, e1, h1, r1, _, _⟩ := R.own i _ q
          rw [r'] at e1; cases e1
          exact .inr ⟨p, vs, _, rfl, rfl, h1, r1⟩
        | val v =>
          cases e'
          obtain ⟨y, e1, r1⟩ := R.slot i _ q
          rw [r'] at e1; cases e1
          exact Rp.res R r1
theorem RHds.conts (R : Rl K F m a σ H) : ∀ {xs : List V} {h : List Hd} {c : List AV}, RHds K F m a σ H xs h → Pyx.conts a h = some c → RBs K H (hotOf F m a σ) m xs c
  | [], [], _, _, e => by cases e; trivial
  | _ :: _, h :: hs, c, ⟨r, t⟩, e => by
    obtain ⟨v, e1, e2⟩ := Option.bind_eq_some_iff.mp e
    obtain ⟨vs, e3, e4⟩ := Option.map_eq_some_iff.mp e2
    subst e4
    exact ⟨r.cont R e1, RHds.conts R t e3⟩
  | [], _ :: _, _, h, _ => h.elim
  | _ :: _, [], _, h, _ => h.elim
end

/-! ### readings -/
section
variable (K : PySem.W.Frag) (F : Hot) (G : Gm)
def tE (e : ME) : TE := fun σ H Q => ∃ m a r, Rl K F m a σ H ∧ e G a = some r ∧ ∀ x H' m', Rl K F m' r.2 σ H' → Stp m a σ H m' r.2 σ H' → Rp' K F m' r.2 σ H' x r.1 → Q x H'
def tO (e : MO) : TE := fun σ H Q => ∃ m a r, Rl K F m a σ H ∧ e G a = some r ∧ ∀ x H' m', Rl K F m' r.2 σ H' → Stp m a σ H m' r.2 σ H' → RHd K F m' r.2 σ H' x r.1 → Q x H'
def tOs (e : MOs) : TA := fun σ H Q => ∃ m a r, Rl K F m a σ H ∧ e G a = some r ∧ ∀ x H' m', Rl K F m' r.2 σ H' → Stp m a σ H m' r.2 σ H' → RHds K F m' r.2 σ H' x r.1 → Q x H'
def tAs (e : MAs) : TA := fun σ H Q => ∃ m a r, Rl K F m a σ H ∧ e G a = some r ∧ ∀ x H' m', Rl K F m' r.2 σ H' → Stp m a σ H m' r.2 σ H' → Rps' K F m' r.2 σ H' x r.1 → Q x H'
def tM (e : MT) : TT := fun σ H Q => ∃ m a r, Rl K F m a σ H ∧ e G a = some r ∧ ∀ H' m', Rl K F m' r.2 σ H' → Stp m a σ H m' r.2 σ H' → Q r.1 H'
/-- a fresh list -/
def tF (e : MAs) : TE := fun σ H Q => ∃ m a r, Rl K F m a σ H ∧ e G a = some r ∧ ∀ p vs H' m', Rl K F m' r.2 σ H' → Stp m a σ H m' r.2 σ H' → H' p = none → Rps' K F m' r.2 σ H' vs r.1 → Q (.ref p) (upd H' p (.lst vs))
end
theorem _root_.L2.PE.weak {X : Cx} {e : Expr} {t t' : TE} (h : PE X e t) (w : ∀ σ H Q, t' σ H Q → t σ H Q) : PE X e t' := ⟨fun pins s σ H Q I q => h.run pins s σ H Q I (w σ H Q q)⟩
theorem _root_.L2.PT.weak {X : Cx} {e : Expr} {t t' : TT} (h : PT X e t) (w : ∀ σ H Q, t' σ H Q → t σ H Q) : PT X e t' := ⟨fun pins s σ H Q I q => h.run pins s σ H Q I (w σ H Q q)⟩
theorem _root_.L2.PW.weak {X : Cx} {e : Expr} {t t' : TT} (h : PW X e t) (w : ∀ σ H Q, t' σ H Q → t σ H Q) : PW X e t' := ⟨fun wh pins s σ H Q I q => h.run wh pins s σ H Q I (w σ H Q q)⟩
theorem _root_.L2.PA.weak {X : Cx} {e : List Expr} {t t' : TA} (h : PA X e t) (w : ∀ σ H Q, t' σ H Q → t σ H Q) : PA X e t' := ⟨fun p pins s σ H Q I q => h.run p pins s σ H Q I (w σ H Q q)⟩
theorem _root_.L2.PS.weak {X : Cx} {e : Stmt} {t t' : TS} (h : PS X e t) (w : ∀ D σ H, t' D σ H → t D σ H) : PS X e t' := ⟨fun pins s σ H D I q => h.run pins s σ H D I (w D σ H q)⟩
theorem _root_.L2.PSs.weak {X : Cx} {e : List Stmt} {t t' : TS} (h : PSs X e t) (w : ∀ D σ H, t' D σ H → t D σ H) : PSs X e t' := ⟨fun pins s σ H D I q => h.run pins s σ H D I (w D σ H q)⟩

/-! ### names, constants -/
def oVar (i : Nat) : MO := fun _ a => match a.ρ[i]? with
  | some (some _) => some (.slot i, a)
  | _ => none
def eVar (i : Nat) : ME := fun _ a => match a.ρ[i]? with
  | some (some (.val v)) => some (v, a)
  | some (some (.own xs)) => some (.lst xs, a.frz i xs)
  | _ => none
def oE (e : ME) : MO := fun G a => (e G a).map fun r => (.val r.1, r.2)
def eCon (v : AV) : ME := fun _ a => some (v, a)
section
variable {X : Cx} {F : Hot} {G : Gm}
theorem pe_oVar {i : Nat} {x : Str} {pos : Pos} (hN : X.N[i]? = some x) (hv : Vis X.env.scope x) (hd : (x == ("__debug__" : Str)) = false) (hcd : (x == ("__classdict__" : Str)) = false) : PE X (.Name x pos) (tO X.K F G (oVar i)) := by
  refine PE.weak (pe_var hN hv hd hcd) fun σ H Q ⟨m, a, r, R, e, k⟩ => ?_
  unfold oVar at e
  split at e
  · rename_i s q
    cases e
    cases s with
    | val v =>
      obtain ⟨y, e1, r1⟩ := R.slot i v q
      exact ⟨y, e1, k y H m R .refl e1⟩
    | own xs =>
      obtain ⟨p, vs, e1, _⟩ := R.own i xs q
      exact ⟨_, e1, k _ H m R .refl e1⟩
  · cases e
theorem pe_eVar {i : Nat} {x : Str} {pos : Pos} (hN : X.N[i]? = some x) (hv : Vis X.env.scope x) (hd : (x == ("__debug__" : Str)) = false) (hcd : (x == ("__classdict__" : Str)) = false) : PE X (.Name x pos) (tE X.K F G (eVar i)) := by
  refine PE.weak (pe_var hN hv hd hcd) fun σ H Q ⟨m, a, r, R, e, k⟩ => ?_
  unfold eVar at e
  split at e
  · rename_i v q
    cases e
    obtain ⟨y, e1, r1⟩ := R.slot i v q
    exact ⟨y, e1, k y H m R .refl r1⟩
  · rename_i xs q
    cases e
    obtain ⟨R', p, e1, r1⟩ := R.frz q
    exact ⟨_, e1, k _ H m R' (Rl.frzStp q) r1⟩
  · cases e
theorem pe_oE {e : Expr} {me : ME} (h : PE X e (tE X.K F G me)) : PE X e (tO X.K F G (oE me)) := by
  refine h.weak fun σ H Q ⟨m, a, r, R, e, k⟩ => ?_
  obtain ⟨q, e1, e2⟩ := Option.map_eq_some_iff.mp e
  subst e2
  exact ⟨m, a, q, R, e1, fun x H' m' R' s r => k x H' m' R' s r⟩
/-- a constant's value, whatever the heap is -/
def ConV (K : PySem.W.Frag) (x : V) (v : AV) : Prop := ∀ H hot m, Rp K H hot m x v
theorem pe_con {e : Expr} {x : V} {v : AV} (h : PE X e (tC x)) (c : ConV X.K x v) : PE X e (tE X.K F G (eCon v)) := by
  refine h.weak fun σ H Q ⟨m, a, r, R, e, k⟩ => ?_
  cases e
  exact k x H m R .refl (c _ _ _)

/-! ### two operands -/
def eBin (f : Op2) (oa ob : MO) : ME := fun G a => (oa G a).bind fun r1 => (ob G r1.2).bind fun r2 => (cont r2.2 r1.1).bind fun x => (cont r2.2 r2.1).bind fun y => (f r2.2.S x y).map fun v => (v, r2.2)
theorem op2_read {f : Op2} {oa ob : MO} {σ : L2.St} {H : Hp} {Q : VK} (h : tE X.K F G (eBin f oa ob) σ H Q) : tOp (rOp X.K f) (tO X.K F G oa) (tO X.K F G ob) σ H Q := by
  obtain ⟨m, a, r, R, e, k⟩ := h
  obtain ⟨r1, e1, e⟩ := Option.bind_eq_some_iff.mp e
  obtain ⟨r2, e2, e⟩ := Option.bind_eq_some_iff.mp e
  obtain ⟨cx, e3, e⟩ := Option.bind_eq_some_iff.mp e
  obtain ⟨cy, e4, e⟩ := Option.bind_eq_some_iff.mp e
  obtain ⟨v, e5, e6⟩ := Option.map_eq_some_iff.mp e
  subst e6
  refine ⟨m, a, r1, R, e1, fun x H1 m1 R1 s1 h1 => ⟨m1, r1.2, r2, R1, e2, fun y H2 m2 R2 s2 h2 => ?_⟩⟩
  exact ⟨F, m2, r2.2, σ, cx, cy, v, R2, (h1.step R1 s2).cont R2 e3, h2.cont R2 e4, e5, fun z H' R' s' r' => k z H' m2 R' ((s1.trans s2).trans s') r'⟩
theorem pe_bin {op : Operator} {f : Op2} {x y : Expr} {oa ob : MO} {pos : Pos} (hf : binF op = some f) (ha : PE X x (tO X.K F G oa)) (hb : PE X y (tO X.K F G ob)) : PE X (.BinOp x op y pos) (tE X.K F G (eBin f oa ob)) :=
  (pe_op (binF_ok hf) ha hb).weak fun _ _ _ => op2_read
theorem pe_cmp2 {op : CmpOp} {f : Op2} {x y : Expr} {oa ob : MO} {pos : Pos} (hu : X.A.units + 100 < cLine) (hf : cmpF op = some f) (ha : PE X x (tO X.K F G oa)) (hb : PE X y (tO X.K F G ob)) (hm : behindInMarks op y = false) :
    PE X (.Compare x [op] [y] pos) (tE X.K F G (eBin f oa ob)) :=
  (pe_cmpR (cmpF_ok hu hf) ha hb hm).weak fun _ _ _ => op2_read
/-- as a test -/
def mBool (e : ME) : MT := fun G a => (e G a).bind fun r => match r.1 with
  | .bl b => some (b, r.2)
  | _ => none
theorem bool_read {e : ME} {σ : L2.St} {H : Hp} {Q : Bool → Hp → Prop} (h : tM X.K F G (mBool e) σ H Q) : tTest (tE X.K F G e) σ H Q := by
  obtain ⟨m, a, r, R, e, k⟩ := h
  obtain ⟨q, e1, e2⟩ := Option.bind_eq_some_iff.mp e
  split at e2
  · rename_i b hb
    cases e2
    refine ⟨m, a, q, R, e1, fun x H' m' R' s r => ?_⟩
    rw [hb] at r
    cases r
    exact ⟨_, rfl, k H' m' R' s⟩
  · cases e2
theorem pt_cmp2 {op : CmpOp} {f : Op2} {x y : Expr} {oa ob : MO} {pos : Pos} (hu : X.A.units + 100 < cLine) (hf : cmpF op = some f) (ha : PE X x (tO X.K F G oa)) (hb : PE X y (tO X.K F G ob)) (hm : behindInMarks op y = false) :
    PT X (.Compare x [op] [y] pos) (tM X.K F G (mBool (eBin f oa ob))) :=
  (pt_cmpR (cmpF_ok hu hf) ha hb hm).weak fun σ H Q h => by
    have h' := bool_read h
    obtain ⟨m, a, r, R, e, k⟩ := h'
    exact op2_read ⟨m, a, r, R, e, k⟩
/-- a < b < c -/
def eChain (f f' : Op2) (oa ob oc : MO) : ME := fun G a => (oa G a).bind fun r1 => (ob G r1.2).bind fun r2 => (cont r2.2 r1.1).bind fun x => (cont r2.2 r2.1).bind fun y => (f r2.2.S x y).bind fun v => match v with
  | .bl true => (oc G r2.2).bind fun r3 => (cont r3.2 r2.1).bind fun y' => (cont r3.2 r3.1).bind fun z => (f' r3.2.S y' z).map fun w => (w, r3.2)
  | .bl false => some (.bl false, r2.2)
  | _ => none
theorem chain_read {f f' : Op2} {oa ob oc : MO} {σ : L2.St} {H : Hp} {Q : VK} (h : tE X.K F G (eChain f f' oa ob oc) σ H Q) : tChain (rOp X.K f) (rOp X.K f') (tO X.K F G oa) (tO X.K F G ob) (tO X.K F G oc) σ H Q := by
  obtain ⟨m, a, r, R, e, k⟩ := h
  obtain ⟨r1, e1, e⟩ := Option.bind_eq_some_iff.mp e
  obtain ⟨r2, e2, e⟩ := Option.bind_eq_some_iff.mp e
  obtain ⟨cx, e3, e⟩ := Option.bind_eq_some_iff.mp e
  obtain ⟨cy, e4, e⟩ := Option.bind_eq_some_iff.mp e
  obtain ⟨v, e5, e⟩ := Option.bind_eq_some_iff.mp e
  refine ⟨m, a, r1, R, e1, fun x H1 m1 R1 s1 h1 => ⟨m1, r1.2, r2, R1, e2, fun y H2 m2 R2 s2 h2 => ?_⟩⟩
  refine ⟨F, m2, r2.2, σ, cx, cy, v, R2, (h1.step R1 s2).cont R2 e3, h2.cont R2 e4, e5, fun z H3 R3 s3 r3 => ?_⟩
  split at e
  · cases r3
    refine ⟨true, rfl, ?_⟩
    rw [if_pos rfl]
    obtain ⟨r3, e6, e⟩ := Option.bind_eq_some_iff.mp e
    obtain ⟨cy', e7, e⟩ := Option.bind_eq_some_iff.mp e
    obtain ⟨cz, e8, e⟩ := Option.bind_eq_some_iff.mp e
    obtain ⟨w, e9, e10⟩ := Option.map_eq_some_iff.mp e
    subst e10
    refine ⟨m2, r2.2, r3, R3, e6, fun w' H4 m4 R4 s4 h4 => ?_⟩
    exact ⟨F, m4, r3.2, σ, cy', cz, w, R4, ((h2.step R2 s3).step R3 s4).cont R4 e7, h4.cont R4 e8, e9, fun z H' R' s' r' => k z H' m4 R' ((((s1.trans s2).trans s3).trans s4).trans s') r'⟩
  · cases r3
    cases e
    refine ⟨false, rfl, ?_⟩
    rw [if_neg (by simp)]
    exact k _ H3 m2 R3 ((s1.trans s2).trans s3) (.bl _)
  · cases e
theorem pe_chn {op op' : CmpOp} {f f' : Op2} {x y z : Expr} {oa ob oc : MO} {pos : Pos} (hu : X.A.units + 100 < cLine) (hf : cmpF op = some f) (hf' : cmpF op' = some f') (ha : PE X x (tO X.K F G oa)) (hb : PE X y (tO X.K F G ob)) (hc : PE X z (tO X.K F G oc))
    (hm : lastMarks [op, op'] [y, z] = false) : PE X (.Compare x [op, op'] [y, z] pos) (tE X.K F G (eChain f f' oa ob oc)) :=
  (pe_chain (cmpF_ok hu hf) (cmpF_ok hu hf') ha hb hc hm).weak fun _ _ _ => chain_read
theorem pt_chn {op op' : CmpOp} {f f' : Op2} {x y z : Expr} {oa ob oc : MO} {pos : Pos} (hu : X.A.units + 100 < cLine) (hf : cmpF op = some f) (hf' : cmpF op' = some f') (ha : PE X x (tO X.K F G oa)) (hb : PE X y (tO X.K F G ob)) (hc : PE X z (tO X.K F G oc))
    (hm : lastMarks [op, op'] [y, z] = false) : PT X (.Compare x [op, op'] [y, z] pos) (tM X.K F G (mBool (eChain f f' oa ob oc))) :=
  (pt_chain (cmpF_ok hu hf) (cmpF_ok hu hf') ha hb hc hm).weak fun σ H Q h => by
    obtain ⟨m, a, r, R, e, k⟩ := bool_read h
    exact chain_read ⟨m, a, r, R, e, k⟩

/-! ### and, or, not, if else -/
def eAnd (e f : ME) : ME := fun G a => (e G a).bind fun r => match r.1 with
  | .bl true => f G r.2
  | .bl false => some (.bl false, r.2)
  | _ => none
def eOr (e f : ME) : ME := fun G a => (e G a).bind fun r => match r.1 with
  | .bl false => f G r.2
  | .bl true => some (.bl true, r.2)
  | _ => none
def eNot (e : ME) : ME := fun G a => (e G a).bind fun r => match r.1 with
  | .bl b => some (.bl (!b), r.2)
  | _ => none
def mAnd (e f : MT) : MT := fun G a => (e G a).bind fun r => if r.1 = true then f G r.2 else some (false, r.2)
def mOr (e f : MT) : MT := fun G a => (e G a).bind fun r => if r.1 = true then some (true, r.2) else f G r.2
def mNot (e : MT) : MT := fun G a => (e G a).map fun r => (!r.1, r.2)
def eIte (c : MT) (e f : ME) : ME := fun G a => (c G a).bind fun r => if r.1 = true then e G r.2 else f G r.2
variable {x y : Expr} {rest : List Expr} {pos : Pos} {e f : ME} {c t u : MT}
theorem pe_eAnd (ha : PE X x (tE X.K F G e)) (hb : PE X (.BoolOp .And (y :: rest) pos) (tE X.K F G f)) : PE X (.BoolOp .And (x :: y :: rest) pos) (tE X.K F G (eAnd e f)) := by
  refine (pe_and ha hb).weak fun σ H Q ⟨m, a, r, R, e, k⟩ => ?_
  obtain ⟨q, e1, e2⟩ := Option.bind_eq_some_iff.mp e
  refine ⟨m, a, q, R, e1, fun x H' m' R' s r' => ?_⟩
  split at e2
  · rename_i hb
    rw [hb] at r'; cases r'
    refine ⟨true, rfl, ?_⟩
    rw [if_pos rfl]
    exact ⟨m', q.2, r, R', e2, fun z H2 m2 R2 s2 r2 => k z H2 m2 R2 (s.trans s2) r2⟩
  · rename_i hb
    rw [hb] at r'; cases r'; cases e2
    refine ⟨false, rfl, ?_⟩
    rw [if_neg (by simp)]
    exact k _ H' m' R' s (.bl _)
  · cases e2
theorem pe_eOr (ha : PE X x (tE X.K F G e)) (hb : PE X (.BoolOp .Or (y :: rest) pos) (tE X.K F G f)) : PE X (.BoolOp .Or (x :: y :: rest) pos) (tE X.K F G (eOr e f)) := by
  refine (pe_or ha hb).weak fun σ H Q ⟨m, a, r, R, e, k⟩ => ?_
  obtain ⟨q, e1, e2⟩ := Option.bind_eq_some_iff.mp e
  refine ⟨m, a, q, R, e1, fun x H' m' R' s r' => ?_⟩
  split at e2
  · rename_i hb
    rw [hb] at r'; cases r'
    refine ⟨false, rfl, ?_⟩
    rw [if_neg (by simp)]
    exact ⟨m', q.2, r, R', e2, fun z H2 m2 R2 s2 r2 => k z H2 m2 R2 (s.trans s2) r2⟩
  · rename_i hb
    rw [hb] at r'; cases r'; cases e2
    refine ⟨true, rfl, ?_⟩
    rw [if_pos rfl]
    exact k _ H' m' R' s (.bl _)
  · cases e2
theorem pe_eNot (ha : PE X x (tE X.K F G e)) : PE X (.UnaryOp .Not x pos) (tE X.K F G (eNot e)) := by
  refine (pe_not ha).weak fun σ H Q ⟨m, a, r, R, e, k⟩ => ?_
  obtain ⟨q, e1, e2⟩ := Option.bind_eq_some_iff.mp e
  refine ⟨m, a, q, R, e1, fun x H' m' R' s r' => ?_⟩
  split at e2
  · rename_i b hb
    rw [hb] at r'; cases r'; cases e2
    exact ⟨b, rfl, k _ H' m' R' s (.bl _)⟩
  · cases e2
theorem pw_mAnd (ha : PT X x (tM X.K F G t)) (hb : PW X (.BoolOp .And (y :: rest) pos) (tM X.K F G u)) : PW X (.BoolOp .And (x :: y :: rest) pos) (tM X.K F G (mAnd t u)) := by
  refine (pw_and ha hb).weak fun σ H Q ⟨m, a, r, R, e, k⟩ => ?_
  obtain ⟨q, e1, e2⟩ := Option.bind_eq_some_iff.mp e
  refine ⟨m, a, q, R, e1, fun H' m' R' s => ?_⟩
  split at e2
  · rename_i hb
    rw [if_pos hb]
    exact ⟨m', q.2, r, R', e2, fun H2 m2 R2 s2 => k H2 m2 R2 (s.trans s2)⟩
  · rename_i hb
    rw [if_neg hb]
    cases e2
    exact k H' m' R' s
theorem pw_mOr (ha : PT X x (tM X.K F G t)) (hb : PW X (.BoolOp .Or (y :: rest) pos) (tM X.K F G u)) : PW X (.BoolOp .Or (x :: y :: rest) pos) (tM X.K F G (mOr t u)) := by
  refine (pw_or ha hb).weak fun σ H Q ⟨m, a, r, R, e, k⟩ => ?_
  obtain ⟨q, e1, e2⟩ := Option.bind_eq_some_iff.mp e
  refine ⟨m, a, q, R, e1, fun H' m' R' s => ?_⟩
  split at e2
  · rename_i hb
    rw [if_pos hb]
    cases e2
    exact k H' m' R' s
  · rename_i hb
    rw [if_neg hb]
    exact ⟨m', q.2, r, R', e2, fun H2 m2 R2 s2 => k H2 m2 R2 (s.trans s2)⟩
theorem pt_mNot (ha : PT X x (tM X.K F G t)) : PT X (.UnaryOp .Not x pos) (tM X.K F G (mNot t)) := by
  refine (pt_not ha).weak fun σ H Q ⟨m, a, r, R, e, k⟩ => ?_
  obtain ⟨q, e1, e2⟩ := Option.map_eq_some_iff.mp e
  subst e2
  exact ⟨m, a, q, R, e1, fun H' m' R' s => k H' m' R' s⟩
theorem pe_eIte {z : Expr} (hc : PT X z (tM X.K F G c)) (ha : PE X x (tE X.K F G e)) (hb : PE X y (tE X.K F G f)) : PE X (.IfExp z x y pos) (tE X.K F G (eIte c e f)) := by
  refine (pe_ifExp hc ha hb).weak fun σ H Q ⟨m, a, r, R, e, k⟩ => ?_
  obtain ⟨q, e1, e2⟩ := Option.bind_eq_some_iff.mp e
  refine ⟨m, a, q, R, e1, fun H' m' R' s => ?_⟩
  split at e2
  · rename_i hb
    rw [if_pos hb]
    exact ⟨m', q.2, r, R', e2, fun z H2 m2 R2 s2 r2 => k z H2 m2 R2 (s.trans s2) r2⟩
  · rename_i hb
    rw [if_neg hb]
    exact ⟨m', q.2, r, R', e2, fun z H2 m2 R2 s2 r2 => k z H2 m2 R2 (s.trans s2) r2⟩

/-! ### truth of a value -/
def truD : Option SObj → Option Bool
  | some (.dic kvs) => some (!kvs.isEmpty)
  | _ => none
def truV (S : List SObj) : AV → Option Bool
  | .non => some false
  | .bl b => some b
  | .int i => some (i != 0)
  | .str x => if x.length ≤ sizeLine then some ((x.length : Int) != 0) else none
  | .tup xs => some (!xs.isEmpty)
  | .lst xs => some (!xs.isEmpty)
  | .ref n => truD S[n]?
def mTru (o : MO) : MT := fun G a => (o G a).bind fun r => (cont r.2 r.1).bind fun c => (truV r.2.S c).map fun b => (b, r.2)
theorem Rps.empty {K : PySem.W.Frag} {H : Hp} {hot : Hot} {m : List Addr} {xs : List V} {vs : List AV} (r : Rps K H hot m xs vs) : xs.isEmpty = vs.isEmpty := by cases r <;> rfl
theorem RpD.empty {K : PySem.W.Frag} {H : Hp} {hot : Hot} {m : List Addr} : ∀ {xs : List (Key × V)} {vs : List (Str × AV)}, RpD K H hot m xs vs → xs.isEmpty = vs.isEmpty
  | [], [], _ => rfl
  | _ :: _, _ :: _, _ => rfl
  | [], _ :: _, h => h.elim
  | _ :: _, [], h => h.elim
theorem tru_read {a : AS} {m : List Addr} {σ : L2.St} {H : Hp} {v : AV} {x : V} {b : Bool} (R : Rl X.K F m a σ H) (h : RB X.K H (hotOf F m a σ) m x v) (e : truV a.S v = some b) : TruV X.K x H b := by
  cases v with
  | non => cases e; rw [h.non]; rfl
  | bl k => cases e; rw [h.bl]; rfl
  | int k => cases e; rw [h.int]; rfl
  | str k =>
    have e' : (if k.length ≤ sizeLine then some ((k.length : Int) != 0) else none) = some b := e
    split at e'
    · rename_i hl; cases e'; rw [h.str]; exact ⟨hl, rfl⟩
    · cases e'
  | tup xs =>
    cases e
    obtain ⟨p, vs, rfl, h1, r⟩ := h.tup
    exact .inr (.inl ⟨vs, h1.sqT, by rw [r.empty]⟩)
  | lst xs =>
    cases e
    obtain ⟨p, vs, rfl, h1, r⟩ := h.lst
    exact .inl ⟨vs, h1, by rw [r.empty]⟩
  | ref n =>
    have e' : truD a.S[n]? = some b := e
    cases q : a.S[n]? with
    | none => rw [q] at e'; cases e'
    | some o =>
      rw [q] at e'
      cases o with
      | lst _ => cases e'
      | dic kvs =>
        cases e'
        obtain ⟨p, vs, rfl, _, h1, r⟩ := RB.dic R h q
        exact .inr (.inr ⟨vs, h1, by rw [r.empty]⟩)
theorem pt_mTru {o : MO} (ha : PE X x (tO X.K F G o)) (he : ∀ whole, isTrue x X.env whole = (do let v ← whole; standAt x.pos; holding [v] (truthy v))) : PT X x (tM X.K F G (mTru o)) := by
  refine (pt_truth ha he).weak fun σ H Q ⟨m, a, r, R, e, k⟩ => ?_
  obtain ⟨q, e1, e⟩ := Option.bind_eq_some_iff.mp e
  obtain ⟨c, e2, e⟩ := Option.bind_eq_some_iff.mp e
  obtain ⟨b, e3, e4⟩ := Option.map_eq_some_iff.mp e
  subst e4
  exact ⟨m, a, q, R, e1, fun x H' m' R' s h => ⟨b, tru_read R' (h.cont R' e2) e3, k H' m' R' s⟩⟩

/-! ### argument lists -/
def aNil : MAs := fun _ a => some ([], a)
def aCons (e : ME) (t : MAs) : MAs := fun G a => (e G a).bind fun r => (t G r.2).map fun q => (r.1 :: q.1, q.2)
def osNil : MOs := fun _ a => some ([], a)
def osCons (e : MO) (t : MOs) : MOs := fun G a => (e G a).bind fun r => (t G r.2).map fun q => (r.1 :: q.1, q.2)
theorem pa_aNil : PA X [] (tAs X.K F G aNil) := pa_nil.weak fun σ H Q ⟨m, a, r, R, e, k⟩ => by cases e; exact k [] H m R .refl .nil
theorem pa_aCons {es : List Expr} {t : MAs} (ha : PE X x (tE X.K F G e)) (hr : PA X es (tAs X.K F G t)) (hs : starEach (x :: es) X.env = (false, eval x X.env) :: starEach es X.env) : PA X (x :: es) (tAs X.K F G (aCons e t)) := by
  refine (pa_cons ha hr hs).weak fun σ H Q ⟨m, a, r, R, e, k⟩ => ?_
  obtain ⟨q, e1, e⟩ := Option.bind_eq_some_iff.mp e
  obtain ⟨q', e2, e3⟩ := Option.map_eq_some_iff.mp e
  subst e3
  exact ⟨m, a, q, R, e1, fun x H1 m1 R1 s1 r1 => ⟨m1, q.2, q', R1, e2, fun xs H2 m2 R2 s2 r2 => k _ H2 m2 R2 (s1.trans s2) (.cons (r1.step R1 s2) r2)⟩⟩
theorem pa_osNil : PA X [] (tOs X.K F G osNil) := pa_nil.weak fun σ H Q ⟨m, a, r, R, e, k⟩ => by cases e; exact k [] H m R .refl trivial
theorem pa_osCons {es : List Expr} {o : MO} {t : MOs} (ha : PE X x (tO X.K F G o)) (hr : PA X es (tOs X.K F G t)) (hs : starEach (x :: es) X.env = (false, eval x X.env) :: starEach es X.env) : PA X (x :: es) (tOs X.K F G (osCons o t)) := by
  refine (pa_cons ha hr hs).weak fun σ H Q ⟨m, a, r, R, e, k⟩ => ?_
  obtain ⟨q, e1, e⟩ := Option.bind_eq_some_iff.mp e
  obtain ⟨q', e2, e3⟩ := Option.map_eq_some_iff.mp e
  subst e3
  exact ⟨m, a, q, R, e1, fun x H1 m1 R1 s1 r1 => ⟨m1, q.2, q', R1, e2, fun xs H2 m2 R2 s2 r2 => k _ H2 m2 R2 (s1.trans s2) ⟨r1.step R1 s2, r2⟩⟩⟩

/-! ### displays -/
def eTup (t : MAs) : ME := fun G a => (t G a).bind fun r => if r.1.length ≤ sizeLine then some (.tup r.1, r.2) else none
/-- a fresh list: frozen, or one of the store -/
def eFrz (t : MAs) : ME := fun G a => (t G a).map fun r => (.lst r.1, r.2)
def eLay (t : MAs) : ME := fun G a => (t G a).map fun r => (.ref r.2.S.length, r.2.lay (.lst r.1))
def fLst (t : MAs) : MAs := fun G a => (t G a).bind fun r => if r.1.length ≤ sizeLine then some r else none
theorem pe_eTup {es : List Expr} {t : MAs} {k : Nat} (h : PA X es (tAs X.K F G t)) : PE X (.Tuple es k pos) (tE X.K F G (eTup t)) := by
  refine (pe_tupZ h).weak fun σ H Q ⟨m, a, r, R, e, k⟩ => ?_
  obtain ⟨q, e1, e⟩ := Option.bind_eq_some_iff.mp e
  split at e
  · rename_i hl
    cases e
    exact ⟨m, a, q, R, e1, fun xs H1 m1 R1 s1 r1 => ⟨by rw [r1.length]; exact hl, fun p o hp ho => k _ _ m1 (R1.new hp) (s1.trans (.new hp)) (R1.newTup hp ho r1)⟩⟩
  · cases e
theorem pe_fLst {es : List Expr} {t : MAs} (h : PA X es (tAs X.K F G t)) : PE X (.List es pos) (tF X.K F G (fLst t)) := by
  refine (pe_lst h).weak fun σ H Q ⟨m, a, r, R, e, k⟩ => ?_
  obtain ⟨q, e1, e⟩ := Option.bind_eq_some_iff.mp e
  split at e
  · rename_i hl
    cases e
    exact ⟨m, a, r, R, e1, fun xs H1 m1 R1 s1 r1 => ⟨by rw [r1.length]; exact hl, fun p hp => k p xs H1 m1 R1 s1 hp r1⟩⟩
  · cases e
theorem pe_eFrz {t : MAs} (h : PE X x (tF X.K F G t)) : PE X x (tE X.K F G (eFrz t)) := by
  refine h.weak fun σ H Q ⟨m, a, r, R, e, k⟩ => ?_
  obtain ⟨q, e1, e2⟩ := Option.map_eq_some_iff.mp e
  subst e2
  exact ⟨m, a, q, R, e1, fun p vs H' m' R' s hp r => k _ _ m' (R'.new hp) (s.trans (.new hp)) (R'.newLst hp r)⟩
theorem pe_eLay {t : MAs} (h : PE X x (tF X.K F G t)) : PE X x (tE X.K F G (eLay t)) := by
  refine h.weak fun σ H Q ⟨m, a, r, R, e, k⟩ => ?_
  obtain ⟨q, e1, e2⟩ := Option.map_eq_some_iff.mp e
  subst e2
  exact ⟨m, a, q, R, e1, fun p vs H' m' R' s hp r => k _ _ (m' ++ [p]) (R'.layLst hp r) (s.trans (Rl.layStp hp)) R'.layRef⟩
end
end Pyx
end
section
set_option maxRecDepth 100000
namespace Pyx
open PySem PySem.Spec PyProof.Rows L2

/-! ### subscripts -/
def dGet (kvs : List (Str × AV)) (k : Str) : Option AV := (kvs.find? fun kv => decide (kv.1 = k)).map (·.2)
def ixD (k : Str) : Option SObj → Option AV
  | some (.dic kvs) => dGet kvs k
  | _ => none
def ixS (z : Str) (k : Int) : Option AV := if z.length ≤ sizeLine then (atI z.cps.toList k).map fun c => .str ⟨#[c]⟩ else none
def opIx : Op2
  | _, .lst xs, .int k => atI xs k
  | _, .tup xs, .int k => atI xs k
  | _, .str z, .int k => ixS z k
  | S, .ref n, .str k => ixD k S[n]?
  | _, _, _ => none
section
variable {X : Cx}
def rIxD : R2 := fun x y H Q => ∃ a v, x = .ref a ∧ DGet H a y (some v) ∧ Q v H
theorem ix_dict (hu : X.A.units + 1 < cLine) : IxR X rIxD := by
  intro value slice pins s σ H x y v u Q I rx ry h hs
  obtain ⟨a, z, rfl, g, q⟩ := h
  cases rx
  have hT := dict_typeIs I g
  unfold subscriptTail
  refine wpAny_bind ?_
  rw [getitemInPython_of_ne hT.not_modules]
  refine wpAny_bind (wpAny_specialOf hT PySem.F.slot_dict_getitem.lookup ?_)
  have fin : wpAny (model X.prog X.w) X.A (subscripted slice false (.ref a) u) (fun r s₃ => wpAny (model X.prog X.w) X.A (letTemporaryGo value (.ref a) r >>= fun _ => pure r) (EP X pins σ Q) X.xe s₃) X.xe s := by
    rw [hs]
    exact wpAny_operating (wpAny_mono (d_getItem (A := X.A) (E := X.xe) hu I g ry fun w' s3 I3 rw' => (⟨z, H, I3, rw', q⟩ : EP X pins σ Q w' s3)) (fun r s₃ h₃ => wpAny_bind (wpAny_letTemporaryGo (wpAny_pure h₃))) fun _ _ x => x)
  first
    | exact wpAny_pure (wpAny_bind fin)
    | exact wpAny_bind fin
    | exact fin
theorem atI_map {α β : Type} {xs : List α} {ys : List β} (hl : ys.length = xs.length) {i : Int} {v : α} (h : atI xs i = some v) : ∃ j : Nat, xs[j]? = some v ∧ ∀ w, ys[j]? = some w → atI ys i = some w := by
  unfold atI at h ⊢
  obtain ⟨j, e1, e2⟩ := Option.bind_eq_some_iff.mp h
  refine ⟨j, e2, fun w e3 => ?_⟩
  rw [hl, e1]
  exact e3
theorem Rps.atI {K : PySem.W.Frag} {H : Hp} {hot : Hot} {m : List Addr} {xs : List V} {vs : List AV} (r : Rps K H hot m xs vs) {i : Int} {v : AV} (h : L2.atI vs i = some v) : ∃ x, L2.atI xs i = some x ∧ Rp K H hot m x v := by
  obtain ⟨j, e1, e2⟩ := atI_map r.length h
  obtain ⟨x, e3, r1⟩ := r.get e1
  exact ⟨x, e2 x e3, r1⟩
theorem RpD.get {K : PySem.W.Frag} {H : Hp} {hot : Hot} {m : List Addr} {k : Str} {v : AV} : ∀ {xs : List (Key × V)} {vs : List (Str × AV)}, RpD K H hot m xs vs → dGet vs k = some v → ∃ x, valV xs (Sum.inr k) = some x ∧ Rp K H hot m x v
  | [], [], _, h => by cases h
  | (k', x) :: xs, (s, w) :: vs, ⟨e, r, t⟩, h => by
    subst e
    by_cases q : s = k
    · refine ⟨x, valV_pos (show ((Sum.inr s : Key), x).1 = Sum.inr k by rw [q]), ?_⟩
      have : w = v := by simpa [dGet, q] using h
      exact this ▸ r
    · rw [valV_neg (fun z => q (Sum.inr.inj z))]
      exact RpD.get t (by simpa [dGet, q] using h)
  | [], _ :: _, h, _ => h.elim
  | _ :: _, [], h, _ => h.elim
theorem opIx_ok (hu : X.A.units + 100 < cLine) : IxR X (rOp X.K opIx) := by
  intro value slice pins s σ H x y v u Q I rx ry ⟨F, m, a, σ', cx, cy, w, R, bx, by_, e, A⟩ hs
  have key : ∀ {c d}, cx = c → cy = d → True := fun _ _ => trivial
  cases cx with
  | lst xs =>
    cases cy with
    | int k =>
      have e' : L2.atI xs k = some w := e
      obtain ⟨p, vs, rfl, h1, r⟩ := bx.lst
      obtain ⟨z, h2, r2⟩ := r.atI e'
      rw [by_.int] at ry
      exact ix_list value slice pins s σ H _ _ v u Q I rx ry ⟨p, vs, k, z, rfl, rfl, h1, h2, A.here R r2⟩ hs
    | _ => cases e
  | tup xs =>
    cases cy with
    | int k =>
      have e' : L2.atI xs k = some w := e
      obtain ⟨p, vs, rfl, h1, r⟩ := bx.tup
      obtain ⟨z, h2, r2⟩ := r.atI e'
      rw [by_.int] at ry
      exact ix_tup value slice pins s σ H _ _ v u Q I rx ry ⟨p, vs, k, z, rfl, rfl, h1.sqT, h2, A.here R r2⟩ hs
    | _ => cases e
  | str z =>
    cases cy with
    | int k =>
      have e' : (if z.length ≤ sizeLine then (L2.atI z.cps.toList k).map fun c => AV.str ⟨#[c]⟩ else none) = some w := e
      split at e'
      · rename_i hl
        obtain ⟨c, e1, e2⟩ := Option.map_eq_some_iff.mp e'
        subst e2
        rw [bx.str] at rx
        rw [by_.int] at ry
        exact ix_str value slice pins s σ H _ _ v u Q I rx ry ⟨z, k, c, rfl, rfl, hl, e1, A.here R (.str _)⟩ hs
      · cases e'
    | _ => cases e
  | ref n =>
    cases cy with
    | str k =>
      have e' : ixD k a.S[n]? = some w := e
      cases q : a.S[n]? with
      | none => rw [q] at e'; cases e'
      | some o =>
        rw [q] at e'
        cases o with
        | lst _ => cases e'
        | dic kvs =>
          obtain ⟨p, vs, rfl, hm, h1, r⟩ := RB.dic R bx q
          obtain ⟨z, h2, r2⟩ := r.get e'
          have g : DGet H p (kV (Sum.inr k)) (valV vs (Sum.inr k)) := DGet.k h1
          rw [h2] at g
          rw [by_.str] at ry
          exact ix_dict (by omega) value slice pins s σ H _ _ v u Q I rx ry ⟨p, z, rfl, g, A.here R r2⟩ hs
    | _ => cases e
  | _ => cases e
variable {F : Hot} {G : Gm} {x y : Expr} {pos : Pos}
theorem pe_sub2 {oa ob : MO} (hu : X.A.units + 100 < cLine) (ha : PE X x (tO X.K F G oa)) (hb : PE X y (tO X.K F G ob)) (hs : PlainIx y) : PE X (.Subscript x y pos) (tE X.K F G (eBin opIx oa ob)) :=
  (pe_ix (opIx_ok hu) ha hb hs).weak fun _ _ _ => op2_read

/-! ### slices -/
def cutA (xs : List AV) (lo hi : Option Int) : List AV := (xs.drop (HT.sIx xs.length 0 lo)).take (HT.sIx xs.length xs.length hi - HT.sIx xs.length 0 lo)
theorem Rps.cut {K : PySem.W.Frag} {H : Hp} {hot : Hot} {m : List Addr} {xs : List V} {vs : List AV} (r : Rps K H hot m xs vs) (lo hi : Option Int) : Rps K H hot m (cutV xs lo hi) (cutA vs lo hi) := by
  unfold cutV cutA
  rw [r.length]
  exact (r.drop _).take _
abbrev MP := Gm → AS → Option (Option Int × AS)
def pNone : MP := fun _ a => some (none, a)
def asInt : AV → Option Int
  | .int i => some i
  | _ => none
def pSome (e : ME) : MP := fun G a => (e G a).bind fun r => (asInt r.1).map fun i => (some i, r.2)
def tP (K : PySem.W.Frag) (F : Hot) (G : Gm) (e : MP) : TO := fun σ H Q => ∃ m a r, Rl K F m a σ H ∧ e G a = some r ∧ ∀ H' m', Rl K F m' r.2 σ H' → Stp m a σ H m' r.2 σ H' → Q r.1 H'
theorem po_pNone : PO X none (tP X.K F G pNone) := ⟨fun pins s σ H Q I ⟨m, a, r, R, e, k⟩ => by
  cases e
  exact po_none.run pins s σ H Q I (k H m R .refl)⟩
theorem asInt_of {v : AV} {i : Int} (h : asInt v = some i) : v = .int i := by cases v <;> cases h; rfl
theorem po_pSome {e : ME} (h : PE X x (tE X.K F G e)) : PO X (some x) (tP X.K F G (pSome e)) := ⟨fun pins s σ H Q I ⟨m, a, r, R, e, k⟩ => by
  obtain ⟨q, e1, e2⟩ := Option.bind_eq_some_iff.mp e
  obtain ⟨i, e3, e4⟩ := Option.map_eq_some_iff.mp e2
  subst e4
  refine (po_some h).run pins s σ H Q I ⟨m, a, q, R, e1, fun x H' m' R' s r' => ?_⟩
  rw [asInt_of e3] at r'
  cases r'
  exact ⟨i, rfl, k H' m' R' s⟩⟩
def slF : AV → Option Int → Option Int → Option AV
  | .lst xs, lo, hi => some (.lst (cutA xs lo hi))
  | .tup xs, lo, hi => some (.tup (cutA xs lo hi))
  | _, _, _ => none
def eSl (o : MO) (lo hi : MP) : ME := fun G a => (o G a).bind fun r => (lo G r.2).bind fun r1 => (hi G r1.2).bind fun r2 => (cont r2.2 r.1).bind fun c => (slF c r1.1 r2.1).map fun v => (v, r2.2)
def slL : AV → Option Int → Option Int → Option (List AV)
  | .lst xs, lo, hi => some (cutA xs lo hi)
  | _, _, _ => none
def fSl (o : MO) (lo hi : MP) : MAs := fun G a => (o G a).bind fun r => (lo G r.2).bind fun r1 => (hi G r1.2).bind fun r2 => (cont r2.2 r.1).bind fun c => (slL c r1.1 r2.1).map fun v => (v, r2.2)
def rSlG (K : PySem.W.Frag) : V → Option Int → Option Int → Hp → VK → Prop := fun x lo hi H Q => rSlL K x lo hi H Q ∨ rSlZ K x lo hi H Q
theorem sl_g : SlR X (rSlG X.K) := sl_list.or sl_tupZ
theorem pe_eSl {o : MO} {lo hi : Option Expr} {ml mh : MP} {p2 : Pos} (ho : PE X x (tO X.K F G o)) (hl : PO X lo (tP X.K F G ml)) (hh : PO X hi (tP X.K F G mh)) : PE X (.Subscript x (.Slice lo hi none p2) pos) (tE X.K F G (eSl o ml mh)) := by
  refine (pe_slice sl_g ho hl hh).weak fun σ H Q ⟨m, a, r, R, e, k⟩ => ?_
  obtain ⟨q, e1, e⟩ := Option.bind_eq_some_iff.mp e
  obtain ⟨q1, e2, e⟩ := Option.bind_eq_some_iff.mp e
  obtain ⟨q2, e3, e⟩ := Option.bind_eq_some_iff.mp e
  obtain ⟨c, e4, e⟩ := Option.bind_eq_some_iff.mp e
  obtain ⟨v, e5, e6⟩ := Option.map_eq_some_iff.mp e
  subst e6
  refine ⟨m, a, q, R, e1, fun x H1 m1 R1 s1 r1 => ⟨m1, q.2, q1, R1, e2, fun H2 m2 R2 s2 => ⟨m2, q1.2, q2, R2, e3, fun H3 m3 R3 s3 => ?_⟩⟩⟩
  have bx := ((r1.step R1 s2).step R2 s3).cont R3 e4
  have s := (s1.trans s2).trans s3
  cases c with
  | lst xs =>
    cases e5
    obtain ⟨p, vs, rfl, h1, r⟩ := bx.lst
    exact .inl ⟨p, vs, rfl, h1, fun p' hp => k _ _ m3 (R3.new hp) (s.trans (.new hp)) (R3.newLst hp (r.cut _ _))⟩
  | tup xs =>
    cases e5
    obtain ⟨p, vs, rfl, h1, r⟩ := bx.tup
    refine .inr ⟨p, vs, rfl, h1.sqT, fun hw => ?_, fun _ p' o hp ho => k _ _ m3 (R3.new hp) (s.trans (.new hp)) (R3.newTup hp ho (r.cut _ _))⟩
    refine k _ _ m3 R3 s ?_
    have e7 : cutA xs q1.1 q2.1 = xs := by
      unfold cutA
      rw [r.length] at hw
      rw [hw.1, hw.2]
      simp
    rw [e7]
    exact .tup h1 r
  | _ => cases e5
theorem pe_fSl {o : MO} {lo hi : Option Expr} {ml mh : MP} {p2 : Pos} (ho : PE X x (tO X.K F G o)) (hl : PO X lo (tP X.K F G ml)) (hh : PO X hi (tP X.K F G mh)) : PE X (.Subscript x (.Slice lo hi none p2) pos) (tF X.K F G (fSl o ml mh)) := by
  refine (pe_slice sl_list ho hl hh).weak fun σ H Q ⟨m, a, r, R, e, k⟩ => ?_
  obtain ⟨q, e1, e⟩ := Option.bind_eq_some_iff.mp e
  obtain ⟨q1, e2, e⟩ := Option.bind_eq_some_iff.mp e
  obtain ⟨q2, e3, e⟩ := Option.bind_eq_some_iff.mp e
  obtain ⟨c, e4, e⟩ := Option.bind_eq_some_iff.mp e
  obtain ⟨v, e5, e6⟩ := Option.map_eq_some_iff.mp e
  subst e6
  refine ⟨m, a, q, R, e1, fun x H1 m1 R1 s1 r1 => ⟨m1, q.2, q1, R1, e2, fun H2 m2 R2 s2 => ⟨m2, q1.2, q2, R2, e3, fun H3 m3 R3 s3 => ?_⟩⟩⟩
  have bx := ((r1.step R1 s2).step R2 s3).cont R3 e4
  have s := (s1.trans s2).trans s3
  cases c with
  | lst xs =>
    cases e5
    obtain ⟨p, vs, rfl, h1, r⟩ := bx.lst
    exact ⟨p, vs, rfl, h1, fun p' hp => k _ _ _ m3 R3 s hp (r.cut _ _)⟩
  | _ => cases e5
/-- a sum of two lists, fresh -/
def catL : AV → AV → Option (List AV)
  | .lst xs, .lst ys => if xs.length + ys.length ≤ sizeLine then some (xs ++ ys) else none
  | _, _ => none
def fCat (oa ob : MO) : MAs := fun G a => (oa G a).bind fun r1 => (ob G r1.2).bind fun r2 => (cont r2.2 r1.1).bind fun x => (cont r2.2 r2.1).bind fun y => (catL x y).map fun v => (v, r2.2)
theorem pe_fCat {oa ob : MO} (ha : PE X x (tO X.K F G oa)) (hb : PE X y (tO X.K F G ob)) : PE X (.BinOp x .Add y pos) (tF X.K F G (fCat oa ob)) := by
  refine (pe_op op_catR ha hb).weak fun σ H Q ⟨m, a, r, R, e, k⟩ => ?_
  obtain ⟨r1, e1, e⟩ := Option.bind_eq_some_iff.mp e
  obtain ⟨r2, e2, e⟩ := Option.bind_eq_some_iff.mp e
  obtain ⟨cx, e3, e⟩ := Option.bind_eq_some_iff.mp e
  obtain ⟨cy, e4, e⟩ := Option.bind_eq_some_iff.mp e
  obtain ⟨v, e5, e6⟩ := Option.map_eq_some_iff.mp e
  subst e6
  refine ⟨m, a, r1, R, e1, fun x H1 m1 R1 s1 h1 => ⟨m1, r1.2, r2, R1, e2, fun y H2 m2 R2 s2 h2 => ?_⟩⟩
  have bx := (h1.step R1 s2).cont R2 e3
  have by_ := h2.cont R2 e4
  cases cx with
  | lst xs =>
    cases cy with
    | lst ys =>
      have e5' : (if xs.length + ys.length ≤ sizeLine then some (xs ++ ys) else none) = some v := e5
      split at e5'
      · rename_i hl
        cases e5'
        obtain ⟨p, vs, rfl, g1, q1⟩ := bx.lst
        obtain ⟨q, ws, rfl, g2, q2⟩ := by_.lst
        exact ⟨p, q, vs, ws, rfl, rfl, g1, g2, by rw [q1.length, q2.length]; exact hl, fun p' hp => k _ _ _ m2 R2 (s1.trans s2) hp (q1.append q2)⟩
      · cases e5'
    | _ => cases e5
  | _ => cases e5
end
end Pyx
end
section
set_option maxRecDepth 100000
namespace Pyx
open PySem PySem.Spec PyProof.Rows L2

/-! ### calls of built-ins, by the abstract values -/
abbrev Bi := List SObj → List AV → Option AV
abbrev BiF := List SObj → List AV → Option (List AV)
def rCa (K : PySem.W.Frag) (f : Bi) : List V → Hp → VK → Prop := fun xs H Q => ∃ F m a σ cs v, Rl K F m a σ H ∧ RBs K H (hotOf F m a σ) m xs cs ∧ f a.S cs = some v ∧ Aft K F m a σ H v Q
def rCaF (K : PySem.W.Frag) (f : BiF) : List V → Hp → VK → Prop := fun xs H Q => ∃ F m a σ cs v, Rl K F m a σ H ∧ RBs K H (hotOf F m a σ) m xs cs ∧ f a.S cs = some v ∧ ∀ p vs, H p = none → Rps' K F m a σ H vs v → Q (.ref p) (upd H p (.lst vs))
def eBi (f : Bi) (os : MOs) : ME := fun G a => (os G a).bind fun r => (conts r.2 r.1).bind fun cs => (f r.2.S cs).map fun v => (v, r.2)
def fBi (f : BiF) (os : MOs) : MAs := fun G a => (os G a).bind fun r => (conts r.2 r.1).bind fun cs => (f r.2.S cs).map fun v => (v, r.2)
section
variable {X : Cx} {F : Hot} {G : Gm}
theorem bi_read {f : Bi} {os : MOs} {σ : L2.St} {H : Hp} {Q : VK} (h : tE X.K F G (eBi f os) σ H Q) : tCB (rCa X.K f) (tOs X.K F G os) σ H Q := by
  obtain ⟨m, a, r, R, e, k⟩ := h
  obtain ⟨q, e1, e⟩ := Option.bind_eq_some_iff.mp e
  obtain ⟨cs, e2, e⟩ := Option.bind_eq_some_iff.mp e
  obtain ⟨v, e3, e4⟩ := Option.map_eq_some_iff.mp e
  subst e4
  exact ⟨m, a, q, R, e1, fun xs H1 m1 R1 s1 h1 => ⟨F, m1, q.2, σ, cs, v, R1, h1.conts R1 e2, e3, fun z H' R' s' r' => k z H' m1 R' (s1.trans s') r'⟩⟩
theorem fbi_read {f : BiF} {os : MOs} {σ : L2.St} {H : Hp} {Q : VK} (h : tF X.K F G (fBi f os) σ H Q) : tCB (rCaF X.K f) (tOs X.K F G os) σ H Q := by
  obtain ⟨m, a, r, R, e, k⟩ := h
  obtain ⟨q, e1, e⟩ := Option.bind_eq_some_iff.mp e
  obtain ⟨cs, e2, e⟩ := Option.bind_eq_some_iff.mp e
  obtain ⟨v, e3, e4⟩ := Option.map_eq_some_iff.mp e
  subst e4
  exact ⟨m, a, q, R, e1, fun xs H1 m1 R1 s1 h1 => ⟨F, m1, q.2, σ, cs, v, R1, h1.conts R1 e2, e3, fun p vs hp r => k p vs H1 m1 R1 s1 hp r⟩⟩
theorem RBs.one {K : PySem.W.Frag} {H : Hp} {hot : Hot} {m : List Addr} {xs : List V} {c : AV} (h : RBs K H hot m xs [c]) : ∃ x, xs = [x] ∧ RB K H hot m x c := by
  match xs, h with
  | [x], ⟨h, _⟩ => exact ⟨x, rfl, h⟩
  | x :: y :: r, ⟨_, h⟩ => exact h.elim
theorem RBs.two {K : PySem.W.Frag} {H : Hp} {hot : Hot} {m : List Addr} {xs : List V} {c d : AV} (h : RBs K H hot m xs [c, d]) : ∃ x y, xs = [x, y] ∧ RB K H hot m x c ∧ RB K H hot m y d := by
  match xs, h with
  | [x], ⟨_, h⟩ => exact h.elim
  | [x, y], ⟨h, h', _⟩ => exact ⟨x, y, rfl, h, h'⟩
  | x :: y :: z :: r, ⟨_, _, h⟩ => exact h.elim

/-! ### ints among the values -/
def asInts : List AV → Option (List Int)
  | [] => some []
  | .int i :: r => (asInts r).map (i :: ·)
  | _ => none
theorem asInts_of : ∀ {xs : List AV} {ns : List Int}, asInts xs = some ns → xs = ns.map AV.int
  | [], _, h => by cases h; rfl
  | .int i :: r, ns, h => by
    obtain ⟨ms, e1, e2⟩ := Option.map_eq_some_iff.mp h
    subst e2
    rw [asInts_of e1]; rfl
  | .non :: _, _, h | .bl _ :: _, _, h | .str _ :: _, _, h | .tup _ :: _, _, h | .lst _ :: _, _, h | .ref _ :: _, _, h => by cases h
theorem asInts_map : ∀ ns : List Int, asInts (ns.map AV.int) = some ns
  | [] => rfl
  | n :: r => by show (asInts (r.map AV.int)).map (n :: ·) = _; rw [asInts_map r]; rfl
def asBls : List AV → Option (List Bool)
  | [] => some []
  | .bl i :: r => (asBls r).map (i :: ·)
  | _ => none
theorem asBls_of : ∀ {xs : List AV} {ns : List Bool}, asBls xs = some ns → xs = ns.map AV.bl
  | [], _, h => by cases h; rfl
  | .bl i :: r, ns, h => by
    obtain ⟨ms, e1, e2⟩ := Option.map_eq_some_iff.mp h
    subst e2
    rw [asBls_of e1]; rfl
  | .non :: _, _, h | .int _ :: _, _, h | .str _ :: _, _, h | .tup _ :: _, _, h | .lst _ :: _, _, h | .ref _ :: _, _, h => by cases h
theorem asBls_map : ∀ ns : List Bool, asBls (ns.map AV.bl) = some ns
  | [] => rfl
  | n :: r => by show (asBls (r.map AV.bl)).map (n :: ·) = _; rw [asBls_map r]; rfl
def maxI : List Int → Int
  | [] => 0
  | x :: xs => xs.foldl max x
def minI : List Int → Int
  | [] => 0
  | x :: xs => xs.foldl min x
theorem foldl_max : ∀ (xs : List Int) (x : Int), (xs.foldl max x = x ∨ xs.foldl max x ∈ xs) ∧ x ≤ xs.foldl max x ∧ ∀ y ∈ xs, y ≤ xs.foldl max x
  | [], x => ⟨.inl rfl, Int.le_refl _, fun y h => by cases h⟩
  | z :: xs, x => by
    obtain ⟨h1, h2, h3⟩ := foldl_max xs (max x z)
    have e : (z :: xs).foldl max x = xs.foldl max (max x z) := rfl
    rw [e]
    refine ⟨?_, by omega, fun y hy => ?_⟩
    · rcases h1 with h1 | h1
      · rw [h1]
        by_cases q : x ≤ z
        · rw [Int.max_eq_right q]; exact .inr List.mem_cons_self
        · rw [Int.max_eq_left (by omega)]; exact .inl rfl
      · exact .inr (List.mem_cons_of_mem _ h1)
    · rcases List.mem_cons.mp hy with rfl | hy
      · omega
      · exact h3 y hy
theorem foldl_min : ∀ (xs : List Int) (x : Int), (xs.foldl min x = x ∨ xs.foldl min x ∈ xs) ∧ xs.foldl min x ≤ x ∧ ∀ y ∈ xs, xs.foldl min x ≤ y
  | [], x => ⟨.inl rfl, Int.le_refl _, fun y h => by cases h⟩
  | z :: xs, x => by
    obtain ⟨h1, h2, h3⟩ := foldl_min xs (min x z)
    have e : (z :: xs).foldl min x = xs.foldl min (min x z) := rfl
    rw [e]
    refine ⟨?_, by omega, fun y hy => ?_⟩
    · rcases h1 with h1 | h1
      · rw [h1]
        by_cases q : x ≤ z
        · rw [Int.min_eq_left q]; exact .inl rfl
        · rw [Int.min_eq_right (by omega)]; exact .inr List.mem_cons_self
      · exact .inr (List.mem_cons_of_mem _ h1)
    · rcases List.mem_cons.mp hy with rfl | hy
      · omega
      · exact h3 y hy
theorem maxI_mem {ns : List Int} (h : ns ≠ []) : maxI ns ∈ ns := by
  cases ns with
  | nil => exact absurd rfl h
  | cons x xs =>
    rcases (foldl_max xs x).1 with e | e
    · show List.foldl max x xs ∈ _
      rw [e]; exact List.mem_cons_self
    · exact List.mem_cons_of_mem _ e
theorem maxI_ge {ns : List Int} : ∀ y ∈ ns, y ≤ maxI ns := by
  cases ns with
  | nil => intro y h; cases h
  | cons x xs =>
    intro y hy
    rcases List.mem_cons.mp hy with rfl | hy
    · exact (foldl_max xs y).2.1
    · exact (foldl_max xs x).2.2 y hy
theorem minI_mem {ns : List Int} (h : ns ≠ []) : minI ns ∈ ns := by
  cases ns with
  | nil => exact absurd rfl h
  | cons x xs =>
    rcases (foldl_min xs x).1 with e | e
    · show List.foldl min x xs ∈ _
      rw [e]; exact List.mem_cons_self
    · exact List.mem_cons_of_mem _ e
theorem minI_le {ns : List Int} : ∀ y ∈ ns, minI ns ≤ y := by
  cases ns with
  | nil => intro y h; cases h
  | cons x xs =>
    intro y hy
    rcases List.mem_cons.mp hy with rfl | hy
    · exact (foldl_min xs y).2.1
    · exact (foldl_min xs x).2.2 y hy
theorem maxI_uniq {ns : List Int} {m : Int} (h : m ∈ ns) (g : ∀ y ∈ ns, y ≤ m) : m = maxI ns :=
  Int.le_antisymm (maxI_ge m h) (g _ (maxI_mem fun e => by subst e; cases h))
theorem minI_uniq {ns : List Int} {m : Int} (h : m ∈ ns) (g : ∀ y ∈ ns, m ≤ y) : m = minI ns :=
  Int.le_antisymm (g _ (minI_mem fun e => by subst e; cases h)) (minI_le m h)

/-! ### len, int, abs, sum, max, min, any, all, tuple -/
def biLen : Bi
  | _, [.lst xs] => some (.int xs.length)
  | _, [.tup xs] => some (.int xs.length)
  | _, [.str z] => if z.length ≤ sizeLine then some (.int z.length) else none
  | _, _ => none
def biInt : Bi
  | _, [.int i] => some (.int i)
  | _, [.bl b] => some (.int (if b then 1 else 0))
  | _, _ => none
def biAbs : Bi
  | _, [.int i] => some (.int (if i < 0 then -i else i))
  | _, _ => none
def biSum : Bi
  | _, [.lst xs] => (asInts xs).map fun ns => .int ns.sum
  | _, [.tup xs] => (asInts xs).map fun ns => .int ns.sum
  | _, _ => none
def pickI (f : List Int → Int) (xs : List AV) : Option AV := (asInts xs).bind fun ns => if ns.isEmpty then none else some (.int (f ns))
def biMax : Bi
  | _, [.int i, .int j] => some (.int (if j > i then j else i))
  | _, [.lst xs] => pickI maxI xs
  | _, [.tup xs] => pickI maxI xs
  | _, _ => none
def biMin : Bi
  | _, [.int i, .int j] => some (.int (if j < i then j else i))
  | _, [.lst xs] => pickI minI xs
  | _, _ => none
def biAny : Bi
  | _, [.lst xs] => (asBls xs).map fun bs => .bl (bs.any id)
  | _, _ => none
def biAll : Bi
  | _, [.lst xs] => (asBls xs).map fun bs => .bl (bs.all id)
  | _, _ => none
def biTuple : Bi
  | _, [.lst xs] => some (.tup xs)
  | _, [.tup xs] => some (.tup xs)
  | _, _ => none

theorem biLen_ok : CallR X (.builtin "len") (rCa X.K biLen) := by
  intro pins s σ H xs us Q I r ⟨F, m, a, σ', cs, v, R, b, e, A⟩
  unfold biLen at e
  split at e
  · cases e
    obtain ⟨x, rfl, b1⟩ := b.one
    obtain ⟨p, vs, rfl, h1, r1⟩ := b1.lst
    exact call_len pins s σ H _ us Q I r ⟨_, _, rfl, .inl ⟨vs, h1, r1.length.symm⟩, A.here R (.int _)⟩
  · cases e
    obtain ⟨x, rfl, b1⟩ := b.one
    obtain ⟨p, vs, rfl, h1, r1⟩ := b1.tup
    exact call_len pins s σ H _ us Q I r ⟨_, _, rfl, .inr ⟨vs, h1.sqT, r1.length.symm⟩, A.here R (.int _)⟩
  · split at e
    · rename_i hl
      cases e
      obtain ⟨x, rfl, b1⟩ := b.one
      rw [b1.str] at r
      exact call_len pins s σ H _ us Q I r ⟨_, _, rfl, ⟨hl, rfl⟩, A.here R (.int _)⟩
    · cases e
  · cases e
theorem biInt_ok : CallR X (.type "int") (rCa X.K biInt) := by
  intro pins s σ H xs us Q I r ⟨F, m, a, σ', cs, v, R, b, e, A⟩
  unfold biInt at e
  split at e
  · cases e
    obtain ⟨x, rfl, b1⟩ := b.one
    rw [b1.int] at r
    exact call_int1 pins s σ H _ us Q I r (.inl ⟨_, rfl, A.here R (.int _)⟩)
  · cases e
    obtain ⟨x, rfl, b1⟩ := b.one
    rw [b1.bl] at r
    exact call_int1 pins s σ H _ us Q I r (.inr ⟨_, rfl, A.here R (.int _)⟩)
  · cases e
theorem biAbs_ok : CallR X (.builtin "abs") (rCa X.K biAbs) := by
  intro pins s σ H xs us Q I r ⟨F, m, a, σ', cs, v, R, b, e, A⟩
  unfold biAbs at e
  split at e
  · cases e
    obtain ⟨x, rfl, b1⟩ := b.one
    rw [b1.int] at r
    exact call_abs pins s σ H _ us Q I r ⟨_, rfl, A.here R (.int _)⟩
  · cases e
theorem sum_tup (hc : X.calm = true) {pins : List (Addr × PySem.Obj)} {s : Shared} {σ : L2.St} {H : Hp} {p : Addr} {ns : List Int} {Q : Value → Shared → Prop} (I : Inv X pins σ H s) (h : SqT X.K H p (ns.map V.int))
    (hQ : ∀ s' t, Inv X pins σ H s' → Q (.int ns.sum t) s') : wpAny (model X.prog X.w) X.A (call (.builtin "sum") [.ref p]) Q X.xe s := by
  obtain ⟨its, rv, ht, _⟩ := I.tuple h
  have hi := rv.ints
  obtain ⟨xs, hx⟩ := hi.allInts.items
  have hn : numsOf its.toArray.toList = ns := by rw [show its.toArray.toList = its from rfl, hi.numsOf]
  obtain ⟨o, ho, hcl, n, hd⟩ := ht
  have hl : s.heap.IsTuple p its.toArray := ⟨o, ho, hcl, n, hd⟩
  rw [hx] at hl hn
  rw [nums_intItems] at hn
  refine PySem.W.ktm_sumG (I.ok.hd hc) hl fun h' tk t' hk => ?_
  rw [preSum_eq, List.take_of_length_le (by simp), hn]
  exact hQ _ t' (I.kept (t' := tk) hk)
theorem biSum_ok (hc : X.calm = true) : CallR X (.builtin "sum") (rCa X.K biSum) := by
  intro pins s σ H xs us Q I r ⟨F, m, a, σ', cs, v, R, b, e, A⟩
  unfold biSum at e
  split at e
  · obtain ⟨ns, e1, e2⟩ := Option.map_eq_some_iff.mp e
    subst e2
    have := asInts_of e1; subst this
    obtain ⟨x, rfl, b1⟩ := b.one
    obtain ⟨p, vs, rfl, h1, r1⟩ := b1.lst
    rw [r1.of_ints] at h1
    exact cr_sum hc pins s σ H _ us Q I r ⟨p, ns, rfl, h1, A.here R (.int _)⟩
  · obtain ⟨ns, e1, e2⟩ := Option.map_eq_some_iff.mp e
    subst e2
    have := asInts_of e1; subst this
    obtain ⟨x, rfl, b1⟩ := b.one
    obtain ⟨p, vs, rfl, h1, r1⟩ := b1.tup
    rw [r1.of_ints] at h1
    rw [Vals.ref1 r]
    exact sum_tup hc I h1.sqT fun s' t I' => ⟨.int _, H, I', ⟨_, rfl⟩, A.here R (.int _)⟩
  · cases e
theorem dpAll_ints {K : PySem.W.Frag} {H : Hp} : ∀ ns : List Int, DpAll K H (ns.map V.int) (ns.map PyData.int)
  | [] => .nil
  | n :: r => .cons (.int n) (dpAll_ints r)
theorem depthAll_ints : ∀ ns : List Int, PyData.depthAll (ns.map PyData.int) = 0
  | [] => rfl
  | n :: r => by rw [List.map_cons, PyData.depthAll, depthAll_ints r]; rfl
theorem alike_ints (ns : List Int) : PySem.W.AlikeAll (ns.map PyData.int) :=
  ⟨fun x hx y hy => by
    obtain ⟨i, _, rfl⟩ := List.mem_map.mp hx
    obtain ⟨j, _, rfl⟩ := List.mem_map.mp hy
    rfl, fun x hx e => by
    obtain ⟨i, _, rfl⟩ := List.mem_map.mp hx
    cases e⟩
theorem max_tup (hc : X.calm = true) (hu : X.A.units + 100 < cLine) {pins : List (Addr × PySem.Obj)} {s : Shared} {σ : L2.St} {H : Hp} {p : Addr} {ns : List Int} {Q : Value → Shared → Prop} (I : Inv X pins σ H s) (h : SqT X.K H p (ns.map V.int)) (hne : ns ≠ [])
    (hQ : ∀ s' t, Inv X pins σ H s' → Q (.int (maxI ns) t) s') : wpAny (model X.prog X.w) X.A (call (.builtin "max") [.ref p]) Q X.xe s := by
  obtain ⟨its, rv, ⟨o, ho, hcl, n, hd⟩, _⟩ := I.tuple h
  have hl : s.heap.IsTuple p its.toArray := ⟨o, ho, hcl, n, hd⟩
  obtain ⟨as, hr⟩ := Dp.readsAll I _ _ _ (dpAll_ints (K := X.K) (H := H) ns) rv
  cases ns with
  | nil => exact absurd rfl hne
  | cons x xs =>
    refine PySem.W.max_tuple_data (I.ok.hd hc) hl hr (alike_ints (x :: xs)) (by rw [show (PyData.int x :: xs.map PyData.int) = (x :: xs).map PyData.int from rfl, depthAll_ints]; omega) fun i v h' tk bs _ hv hk => ?_
    rw [PySem.W.maxD_ints] at hv
    cases hv
    exact hQ _ _ (I.kept (t' := tk) hk)
theorem biMax_ok (hc : X.calm = true) (hu : X.A.units + 100 < cLine) : CallR X (.builtin "max") (rCa X.K biMax) := by
  intro pins s σ H xs us Q I r ⟨F, m, a, σ', cs, v, R, b, e, A⟩
  unfold biMax at e
  split at e
  · cases e
    obtain ⟨x, y, rfl, b1, b2⟩ := b.two
    rw [b1.int, b2.int] at r
    exact call_max2 hc pins s σ H _ us Q I r ⟨_, _, rfl, A.here R (.int _)⟩
  · obtain ⟨ns, e1, e2⟩ := Option.bind_eq_some_iff.mp e
    split at e2
    · cases e2
    · rename_i hne
      cases e2
      have := asInts_of e1; subst this
      obtain ⟨x, rfl, b1⟩ := b.one
      obtain ⟨p, vs, rfl, h1, r1⟩ := b1.lst
      rw [r1.of_ints] at h1
      refine cr_max hc pins s σ H _ us Q I r ⟨p, ns, rfl, h1, ?_, fun k h1 h2 => ?_⟩
      · cases ns with
        | nil => simp at hne
        | cons _ _ => simp
      · rw [maxI_uniq h1 h2]; exact A.here R (.int _)
  · obtain ⟨ns, e1, e2⟩ := Option.bind_eq_some_iff.mp e
    split at e2
    · cases e2
    · rename_i hne
      cases e2
      have := asInts_of e1; subst this
      obtain ⟨x, rfl, b1⟩ := b.one
      obtain ⟨p, vs, rfl, h1, r1⟩ := b1.tup
      rw [r1.of_ints] at h1
      rw [Vals.ref1 r]
      exact max_tup hc hu I h1.sqT (fun e => by subst e; simp at hne) fun s' t I' => ⟨.int _, H, I', ⟨_, rfl⟩, A.here R (.int _)⟩
  · cases e
theorem biMin_ok (hc : X.calm = true) : CallR X (.builtin "min") (rCa X.K biMin) := by
  intro pins s σ H xs us Q I r ⟨F, m, a, σ', cs, v, R, b, e, A⟩
  unfold biMin at e
  split at e
  · cases e
    obtain ⟨x, y, rfl, b1, b2⟩ := b.two
    rw [b1.int, b2.int] at r
    exact call_min2 hc pins s σ H _ us Q I r ⟨_, _, rfl, A.here R (.int _)⟩
  · obtain ⟨ns, e1, e2⟩ := Option.bind_eq_some_iff.mp e
    split at e2
    · cases e2
    · rename_i hne
      cases e2
      have := asInts_of e1; subst this
      obtain ⟨x, rfl, b1⟩ := b.one
      obtain ⟨p, vs, rfl, h1, r1⟩ := b1.lst
      rw [r1.of_ints] at h1
      refine cr_min hc pins s σ H _ us Q I r ⟨p, ns, rfl, h1, ?_, fun k h1 h2 => ?_⟩
      · cases ns with
        | nil => simp at hne
        | cons _ _ => simp
      · rw [minI_uniq h1 h2]; exact A.here R (.int _)
  · cases e
theorem biAny_ok (hc : X.calm = true) : CallR X (.builtin "any") (rCa X.K biAny) := by
  intro pins s σ H xs us Q I r ⟨F, m, a, σ', cs, v, R, b, e, A⟩
  unfold biAny at e
  split at e
  · obtain ⟨ns, e1, e2⟩ := Option.map_eq_some_iff.mp e
    subst e2
    have := asBls_of e1; subst this
    obtain ⟨x, rfl, b1⟩ := b.one
    obtain ⟨p, vs, rfl, h1, r1⟩ := b1.lst
    rw [r1.of_bls] at h1
    exact cr_any hc pins s σ H _ us Q I r ⟨p, ns, rfl, h1, A.here R (.bl _)⟩
  · cases e
theorem biAll_ok (hc : X.calm = true) : CallR X (.builtin "all") (rCa X.K biAll) := by
  intro pins s σ H xs us Q I r ⟨F, m, a, σ', cs, v, R, b, e, A⟩
  unfold biAll at e
  split at e
  · obtain ⟨ns, e1, e2⟩ := Option.map_eq_some_iff.mp e
    subst e2
    have := asBls_of e1; subst this
    obtain ⟨x, rfl, b1⟩ := b.one
    obtain ⟨p, vs, rfl, h1, r1⟩ := b1.lst
    rw [r1.of_bls] at h1
    exact cr_all hc pins s σ H _ us Q I r ⟨p, ns, rfl, h1, A.here R (.bl _)⟩
  · cases e
theorem biTuple_ok : CallR X (.type "tuple") (rCa X.K biTuple) := by
  intro pins s σ H xs us Q I r ⟨F, m, a, σ', cs, v, R, b, e, A⟩
  unfold biTuple at e
  split at e
  · cases e
    obtain ⟨x, rfl, b1⟩ := b.one
    obtain ⟨p, vs, rfl, h1, r1⟩ := b1.lst
    exact call_tupleZ pins s σ H _ us Q I r ⟨p, vs, rfl, .inl ⟨h1, fun l o hl ho => A.tup R r1 hl ho⟩⟩
  · cases e
    obtain ⟨x, rfl, b1⟩ := b.one
    obtain ⟨p, vs, rfl, h1, r1⟩ := b1.tup
    exact call_tupleZ pins s σ H _ us Q I r ⟨p, vs, rfl, .inr ⟨h1.sqT, A.here R (.tup h1 r1)⟩⟩
  · cases e
/-- list(..), sorted(..): fresh -/
def bfList : BiF
  | _, [.lst xs] => some xs
  | _, [.tup xs] => some xs
  | _, _ => none
theorem bfList_ok : CallR X (.type "list") (rCaF X.K bfList) := by
  intro pins s σ H xs us Q I r ⟨F, m, a, σ', cs, v, R, b, e, A⟩
  unfold bfList at e
  split at e
  · cases e
    obtain ⟨x, rfl, b1⟩ := b.one
    obtain ⟨p, vs, rfl, h1, r1⟩ := b1.lst
    exact call_list_of pins s σ H _ us Q I r ⟨p, vs, rfl, .inl h1, fun l hl => A l vs hl r1⟩
  · cases e
    obtain ⟨x, rfl, b1⟩ := b.one
    obtain ⟨p, vs, rfl, h1, r1⟩ := b1.tup
    exact call_list_of pins s σ H _ us Q I r ⟨p, vs, rfl, .inr h1.sqT, fun l hl => A l vs hl r1⟩
  · cases e
def insI (x : Int) : List Int → List Int
  | [] => [x]
  | y :: r => if x ≤ y then x :: y :: r else y :: insI x r
def sortI : List Int → List Int
  | [] => []
  | x :: r => insI x (sortI r)
theorem insI_perm (x : Int) : ∀ ys : List Int, (insI x ys).Perm (x :: ys)
  | [] => .refl _
  | y :: r => by
    unfold insI
    split
    · exact .refl _
    · exact (List.Perm.cons y (insI_perm x r)).trans (List.Perm.swap x y r)
theorem sortI_perm : ∀ xs : List Int, (sortI xs).Perm xs
  | [] => .refl _
  | x :: r => (insI_perm x _).trans (.cons x (sortI_perm r))
theorem insI_sorted (x : Int) : ∀ ys : List Int, ys.Pairwise (· ≤ ·) → (insI x ys).Pairwise (· ≤ ·)
  | [], _ => by simp [insI]
  | y :: r, h => by
    unfold insI
    obtain ⟨h1, h2⟩ := List.pairwise_cons.mp h
    split
    · rename_i hx
      refine List.pairwise_cons.mpr ⟨fun z hz => ?_, h⟩
      rcases List.mem_cons.mp hz with rfl | hz
      · exact hx
      · exact Int.le_trans hx (h1 z hz)
    · rename_i hx
      refine List.pairwise_cons.mpr ⟨fun z hz => ?_, insI_sorted x r h2⟩
      have := (insI_perm x r).mem_iff.mp hz
      rcases List.mem_cons.mp this with rfl | hz
      · omega
      · exact h1 z hz
theorem sortI_sorted : ∀ xs : List Int, (sortI xs).Pairwise (· ≤ ·)
  | [] => .nil
  | x :: r => insI_sorted x _ (sortI_sorted r)
theorem sorted_uniq : ∀ {xs ys : List Int}, xs.Perm ys → xs.Pairwise (· ≤ ·) → ys.Pairwise (· ≤ ·) → xs = ys
  | [], ys, p, _, _ => by rw [List.nil_perm.mp p]
  | x :: xs, ys, p, h1, h2 => by
    cases ys with
    | nil => exact absurd (List.perm_nil.mp p) (by simp)
    | cons y ys =>
      obtain ⟨a1, a2⟩ := List.pairwise_cons.mp h1
      obtain ⟨b1, b2⟩ := List.pairwise_cons.mp h2
      have hx : y ≤ x := by
        rcases List.mem_cons.mp (p.mem_iff.mp (List.mem_cons_self (a := x) (l := xs))) with e | e
        · rw [e]; exact Int.le_refl _
        · exact b1 x e
      have hy : x ≤ y := by
        rcases List.mem_cons.mp (p.mem_iff.mpr (List.mem_cons_self (a := y) (l := ys))) with e | e
        · rw [e]; exact Int.le_refl _
        · exact a1 y e
      have e : x = y := Int.le_antisymm hy hx
      subst e
      rw [sorted_uniq (List.Perm.cons_inv p) a2 b2]
def bfSorted : BiF
  | _, [.lst xs] => (asInts xs).map fun ns => (sortI ns).map .int
  | _, _ => none
theorem bfSorted_ok : CallR X (.builtin "sorted") (rCaF X.K bfSorted) := by
  intro pins s σ H xs us Q I r ⟨F, m, a, σ', cs, v, R, b, e, A⟩
  unfold bfSorted at e
  split at e
  · obtain ⟨ns, e1, e2⟩ := Option.map_eq_some_iff.mp e
    subst e2
    have := asInts_of e1; subst this
    obtain ⟨x, rfl, b1⟩ := b.one
    obtain ⟨p, vs, rfl, h1, r1⟩ := b1.lst
    rw [r1.of_ints] at h1
    refine cr_sortedI pins s σ H _ us Q I r ⟨p, ns, rfl, h1, fun ns' q hp hs hq => ?_⟩
    rw [sorted_uniq (hp.trans (sortI_perm ns).symm) hs (sortI_sorted ns)]
    exact A q _ hq (.ints _)
  · cases e

/-! ### isinstance with one built-in class -/
def tyN : AV → Option String
  | .non => some "NoneType" | .bl _ => some "bool" | .int _ => some "int" | .str _ => some "str" | .tup _ => some "tuple" | .lst _ => none
  | .ref _ => none
def isiB (t T : String) : Bool := t == T || (t == "bool" && T == "int")
def isiOk (T : String) : Bool := T == "tuple" || T == "int" || T == "bool" || T == "str" || T == "list"
def eIsi (T : String) (o : MO) : ME := fun G a => (o G a).bind fun r => (cont r.2 r.1).bind fun c => (tyN c).map fun t => (.bl (isiB t T), r.2)
theorem kit_isi {K : PySem.W.Frag} {c : AV} {t T : String} (h : tyN c = some t) (hT : isiOk T = true) : PySem.W.kitOne K (.type t) (.type T) = some (isiB t T) := by
  have hT' : T = "tuple" ∨ T = "int" ∨ T = "bool" ∨ T = "str" ∨ T = "list" := by simpa [isiOk, or_assoc] using hT
  apply kit_ty
  cases c <;> cases h <;> rcases hT' with rfl | rfl | rfl | rfl | rfl <;> decide +kernel
theorem tyX_of {F : Hot} {m : List Addr} {a : AS} {σ : L2.St} {H : Hp} {x : V} {c : AV} {t : String} (b : RB X.K H (hotOf F m a σ) m x c) (h : tyN c = some t) : TyX X.K H x (.type t) := by
  cases c with
  | non => cases h; rw [b.non]; exact .base .non
  | bl _ => cases h; rw [b.bl]; exact .base (.bl _)
  | int _ => cases h; rw [b.int]; exact .base (.int _)
  | str _ => cases h; rw [b.str]; exact .base (.str _)
  | tup xs =>
    cases h
    obtain ⟨p, vs, rfl, h1, r⟩ := b.tup
    rcases h1 with ⟨o, h1, t⟩ | ⟨o, its, n, h1, t, _⟩
    · exact .fTuple h1
    · exact .kTuple h1 t.1
  | lst xs => cases h
  | ref _ => cases h
end
end Pyx
end
section
set_option maxRecDepth 100000
namespace Pyx
open PySem PySem.Spec PyProof.Rows L2

/-! ### written argument lists -/
def notStar : Expr → Bool
  | .Starred _ _ => false
  | _ => true
theorem star_cons {e : Expr} {es : List Expr} {env : Env} (h : notStar e = true) : starEach (e :: es) env = (false, eval e env) :: starEach es env := by
  cases e <;> first | rfl | cases h
theorem star_any {pos : Pos} {env : Env} : ∀ {es : List Expr}, es.all notStar = true → (backTo pos (starEach es env)).any (·.1) = false
  | [], _ => rfl
  | e :: es, h => by
    rw [List.all_cons, Bool.and_eq_true] at h
    rw [star_cons h.1]
    show (false || (backTo pos (starEach es env)).any (·.1)) = false
    rw [star_any h.2]; rfl
theorem star_all {pos : Pos} {env : Env} : ∀ {es : List Expr}, es.all notStar = true → (backTo pos (starEach es env)).all (fun x => !x.1) = true
  | [], _ => rfl
  | e :: es, h => by
    rw [List.all_cons, Bool.and_eq_true] at h
    rw [star_cons h.1]
    show (true && (backTo pos (starEach es env)).all (fun x => !x.1)) = true
    rw [star_all h.2]; rfl
def notCall : Expr → Bool
  | .Call _ _ _ _ => false
  | _ => true
theorem base_ok {o : Expr} {name : Str} {env : Env} (h : notCall o = true) : attributeBase o name env (eval o env) = eval o env := by
  cases o <;> first | rfl | cases h

section
variable {X : Cx} {F : Hot} {G : Gm} {x y : Expr} {pos apos : Pos}
theorem few_ok {es : List Expr} (h : es.all notStar = true) (hl : es.length < 30) :
    ((backTo pos (starEach es X.env)).all (fun x => !x.1) && (backToKw pos (keywordEach [] X.env)).all (fun x => x.1.isSome) && decide (es.length + ([] : List Keyword).length + (if ([] : List Keyword).isEmpty then 0 else 1) < 30)) = true := by
  rw [star_all h]
  show (true && true && decide (es.length + 0 + 0 < 30)) = true
  simpa using hl

/-! ### isinstance -/
theorem pe_eIsi {T : Str} {pt : Pos} {Ts : String} {o : MO} (hT : isiOk Ts = true) (hg : Gl X "isinstance") (hm : X.mg "isinstance" = none) (gT : Gl X T) (mT : X.mg T = none) (bT : bootBuiltins T = some (.type Ts)) (nT : T ≠ "__name__") (dT : (T == ("__debug__" : Str)) = false)
    (ho : PE X x (tO X.K F G o)) (hx : notStar x = true) : PE X (.Call (.Name "isinstance" pt) [x, .Name T pos] [] apos) (tE X.K F G (eIsi Ts o)) := by
  have hs : starEach [x, .Name T pos] X.env = (false, eval x X.env) :: starEach [.Name T pos] X.env := star_cons hx
  refine (pe_callB call_isi hg hm boot_isinstance (pa_cons ho (pa_cons (pe_bltn (v := .ty Ts) gT mT bT rfl nT dT) pa_nil rfl) hs) (by decide) (by decide) hs rfl).weak fun σ H Q ⟨m, a, r, R, e, k⟩ => ?_
  obtain ⟨q, e1, e⟩ := Option.bind_eq_some_iff.mp e
  obtain ⟨c, e2, e⟩ := Option.bind_eq_some_iff.mp e
  obtain ⟨t, e3, e4⟩ := Option.map_eq_some_iff.mp e
  subst e4
  refine ⟨m, a, q, R, e1, fun x H1 m1 R1 s1 h1 => ?_⟩
  exact ⟨x, .ty Ts, .type t, .type Ts, isiB t Ts, rfl, .ty Ts, tyX_of (h1.cont R1 e2) e3, kit_isi e3 hT, k _ H1 m1 R1 s1 (.bl _)⟩

/-! ### a def's call -/
def spG (K : PySem.W.Frag) (G : Gm) (name : Str) (n : Nat) : Sp := fun vs H Q _ => vs.length = n ∧ ∃ F m S args r, Rl K F m ⟨[], S⟩ [] H ∧ Rps' K F m ⟨[], S⟩ [] H vs args ∧ G name args S = some r ∧
  ∀ x H' m', Rl K F m' ⟨[], r.2⟩ [] H' → Stp m ⟨[], S⟩ [] H m' ⟨[], r.2⟩ [] H' → Rp' K F m' ⟨[], r.2⟩ [] H' x r.1 → Q x H'
def AS.wS (a : AS) (S : List SObj) : AS := ⟨a.ρ, S⟩
def inF (F : Hot) (a : AS) (σ : L2.St) : Hot := fun p => F p ∨ Own a.ρ σ p
theorem own_nil {p : Addr} : ¬ Own [] [] p := fun ⟨i, xs, e, _⟩ => by simp at e
theorem hot_in {m' : List Addr} {a : AS} {σ : L2.St} {S : List SObj} {p : Addr} : hotOf (inF F a σ) m' ⟨[], S⟩ [] p ↔ (F p ∨ p ∈ m' ∨ Own a.ρ σ p) := by
  constructor
  · rintro ((h | h) | h | h)
    · exact .inl h
    · exact .inr (.inr h)
    · exact .inr (.inl h)
    · exact absurd h own_nil
  · rintro (h | h | h)
    · exact .inl (.inl h)
    · exact .inr (.inl h)
    · exact .inl (.inr h)
theorem KeepR.hot {K : PySem.W.Frag} {H : Hp} {hot hot' : Hot} {m : List Addr} (h : ∀ p, hot' p → hot p) : KeepR K H H hot hot' m m := ⟨fun _ _ _ e => e, fun _ _ e n => ⟨e, fun z => n (h _ z)⟩, fun _ _ e => e⟩
theorem Rl.enter {K : PySem.W.Frag} {m : List Addr} {a : AS} {σ : L2.St} {H : Hp} (R : Rl K F m a σ H) : Rl K (inF F a σ) m ⟨[], a.S⟩ [] H where
  len := rfl
  slot := fun i v e => by simp at e
  own := fun i v e => by simp at e
  inj := fun i j v w p e => by simp at e
  mlen := R.mlen
  obj := fun n o p e1 e2 => (R.obj n o p e1 e2).keep (KeepR.hot fun p h => hot_in.mp h) rfl
  mnd := R.mnd
  mF := fun p hp h => h.elim (R.mF p hp) fun ⟨i, xs, e1, e2⟩ => by
    obtain ⟨p', vs, e3, _, _, _, n⟩ := R.own i xs e1
    rw [e2] at e3; cases e3
    exact n hp
  FH := fun p h => h.elim (R.FH p) fun h => R.hotMut (.inr (.inr h))
theorem Rl.leave {K : PySem.W.Frag} {m m' : List Addr} {a : AS} {σ : L2.St} {H H' : Hp} {S' : List SObj} (R : Rl K F m a σ H) (R' : Rl K (inF F a σ) m' ⟨[], S'⟩ [] H') (s : Stp m ⟨[], a.S⟩ [] H m' ⟨[], S'⟩ [] H') :
    Rl K F m' (a.wS S') σ H' ∧ Stp m a σ H m' (a.wS S') σ H' ∧ ∀ x v, Rp' K (inF F a σ) m' ⟨[], S'⟩ [] H' x v → Rp' K F m' (a.wS S') σ H' x v := by
  have nl : ∀ b, ¬ Loc' m a σ b → ¬ Loc' m ⟨[], a.S⟩ [] b := fun b n h => h.elim (fun h => n (.inl h)) fun h => own_nil h
  have st : Stp m a σ H m' (a.wS S') σ H' := by
    refine ⟨s.pre, fun b o e n => s.keep b o e (nl b n), s.dom, fun b h => ?_⟩
    rcases h with h | h
    · rcases s.locs b (.inl h) with h | h
      · rcases h with h | h
        · exact .inl (.inl h)
        · exact absurd h own_nil
      · exact .inr h
    · exact .inl (.inr h)
  have hk : KeepR K H' H' (hotOf (inF F a σ) m' ⟨[], S'⟩ []) (hotOf F m' (a.wS S') σ) m' m' := KeepR.hot fun p h => hot_in.mpr h
  refine ⟨⟨R.len, fun i v e => ?_, fun i xs e => ?_, R.inj, R'.mlen, fun n o p e1 e2 => (R'.obj n o p e1 e2).keep hk rfl, R'.mnd, fun p hp h => R'.mF p hp (.inl h), fun p h => R'.FH p (.inl h)⟩, st, fun x v r => r.keep hk⟩
  · obtain ⟨x, e1, r⟩ := R.slot i v e
    exact ⟨x, e1, r.step R st⟩
  · obtain ⟨p, vs, e1, h1, r, n1, n2⟩ := R.own i xs e
    have np : p ∉ m' := fun h => by
      rcases s.locs p (.inl h) with h | h
      · exact h.elim n2 fun h => own_nil h
      · rw [h1] at h; cases h
    exact ⟨p, vs, e1, s.keep p _ h1 fun h => h.elim n2 fun h => own_nil h, r.step R st, n1, np⟩
def eCall (name : Str) (t : MAs) : ME := fun G a => (t G a).bind fun r => (G name r.1 r.2.S).map fun q => (q.1, r.2.wS q.2)
theorem call_read {name : Str} {n : Nat} {t : MAs} {σ : L2.St} {H : Hp} {Q : VK} (hn : ∀ as S r, G name as S = some r → as.length = n) (h : tE X.K F G (eCall name t) σ H Q) : tCall (spG X.K G name n) [] E0 (tAs X.K F G t) σ H Q := by
  obtain ⟨m, a, r, R, e, k⟩ := h
  obtain ⟨q, e1, e⟩ := Option.bind_eq_some_iff.mp e
  obtain ⟨v, e2, e3⟩ := Option.map_eq_some_iff.mp e
  subst e3
  refine ⟨m, a, q, R, e1, fun xs H1 m1 R1 s1 r1 => ?_⟩
  show spG X.K G name n (xs ++ []) H1 Q E0
  rw [List.append_nil]
  refine ⟨r1.length.trans (hn _ _ _ e2), inF F q.2 σ, m1, q.2.S, q.1, v, R1.enter, r1.keep (KeepR.hot fun p h => hot_in.mp h), e2, fun x H' m' R' s' r' => ?_⟩
  obtain ⟨a1, a2, a3⟩ := R1.leave R' s'
  exact k x H' m' a1 (s1.trans a2) (a3 x v.1 r')
/-- what is known of a def of the text -/
structure FnG (X : Cx) (G : Gm) (d : Nat) (name : Str) (n : Nat) : Prop where
  ex : ∃ (f : Addr) (fd : FuncData) (ps : List Str), X.mg name = some (.ref f) ∧ PySem.W.keepIn X.K (.ref f) = true ∧ Binds X.K fd ps [] ∧ FnOk X.prog X.w X.K X.mg X.base CX0 d f fd ps (spG X.K G name n)
  ar : ∀ as S r, G name as S = some r → as.length = n
theorem pe_eCall0 {name : Str} {n d : Nat} {p : Pos} (f : FnG X G d name n) (hr : Room d X.A) (hg : Gl X name) (hd : (name == ("__debug__" : Str)) = false) : PE X (.Call (.Name name p) [] [] pos) (tE X.K F G (eCall name aNil)) := by
  obtain ⟨f1, fd, ps, h1, h2, h3, h4⟩ := f.ex
  refine (pe_call0 h4 hr hg h1 h2 h3 .nil pass0 hd).weak fun σ H Q h => ?_
  obtain ⟨m, a, r, R, e, k⟩ := call_read f.ar h
  cases e
  exact k [] H m R .refl .nil
theorem pe_eCall {name : Str} {n d : Nat} {t : MAs} {e : Expr} {es : List Expr} {p : Pos} (f : FnG X G d name n) (hr : Room d X.A) (hg : Gl X name) (hd : (name == ("__debug__" : Str)) = false) (ha : PA X (e :: es) (tAs X.K F G t)) (hs : (e :: es).all notStar = true) :
    PE X (.Call (.Name name p) (e :: es) [] pos) (tE X.K F G (eCall name t)) := by
  obtain ⟨f1, fd, ps, h1, h2, h3, h4⟩ := f.ex
  rw [List.all_cons, Bool.and_eq_true] at hs
  exact (pe_call h4 hr hg h1 h2 h3 .nil pass0 ha hd (star_cons hs.1) (star_any hs.2)).weak fun _ _ _ => call_read f.ar

/-! ### a call to which lists that will be changed again are lent: it answers a plain value and touches no store -/
mutual
def AV.nr : AV → Bool
  | .ref _ => false
  | .tup xs => AV.nrs xs | .lst xs => AV.nrs xs
  | _ => true
def AV.nrs : List AV → Bool
  | [] => true | x :: xs => x.nr && AV.nrs xs
end
section
variable {K : PySem.W.Frag} {H : Hp} {hot hot' : Hot} {m m' : List Addr}
mutual
theorem Rp.plain (k : ∀ p, hot' p → hot p) : ∀ {v : AV} {x : V}, Rp K H hot m x v → v.nr = true → Rp K H hot' m' x v
  | .non, _, .non, _ => .non
  | .bl _, _, .bl b, _ => .bl b
  | .int _, _, .int i, _ => .int i
  | .str _, _, .str x, _ => .str x
  | .tup xs, _, .tup h r, e => .tup h (Rps.plain k r e)
  | .lst xs, _, .lst h n r, e => .lst h (fun z => n (k _ z)) (Rps.plain k r e)
  | .lst xs, _, .lstK h r, e => .lstK h (Rps.plain k r e)
theorem Rps.plain (k : ∀ p, hot' p → hot p) : ∀ {vs : List AV} {xs : List V}, Rps K H hot m xs vs → AV.nrs vs = true → Rps K H hot' m' xs vs
  | [], _, .nil, _ => .nil
  | v :: vs, _, .cons r t, e => by
    have h' : (v.nr && AV.nrs vs) = true := e
    rw [Bool.and_eq_true] at h'
    exact .cons (Rp.plain k r h'.1) (Rps.plain k t h'.2)
end
end
def isSc : AV → Bool
  | .non | .bl _ | .int _ | .str _ => true
  | _ => false
theorem sc_rp {K : PySem.W.Frag} {H H' : Hp} {hot hot' : Hot} {m m' : List Addr} {x : V} : ∀ {v : AV}, isSc v = true → Rp K H hot m x v → Rp K H' hot' m' x v
  | .non, _, .non => .non
  | .bl _, _, .bl b => .bl b
  | .int _, _, .int b => .int b
  | .str _, _, .str b => .str b
  | .tup _, h, _ => by cases h
  | .lst _, h, _ => by cases h
  | .ref _, h, _ => by cases h
def eLend (name : Str) (t : MOs) : ME := fun G a => (t G a).bind fun r => (conts r.2 r.1).bind fun cs => if AV.nrs cs = true then (G name cs []).bind fun q => if isSc q.1 = true then some (q.1, r.2) else none else none
/-- the heads that are lent -/
def headA : V → Option Addr
  | .ref p => some p
  | _ => none
def lent (F : Hot) (m : List Addr) (a : AS) (σ : L2.St) (L : List V) : Hot := fun p => hotOf F m a σ p ∧ ∀ x ∈ L, headA x ≠ some p
theorem rbs_lent {K : PySem.W.Frag} {F : Hot} {m : List Addr} {a : AS} {σ : L2.St} {H : Hp} (L : List V) : ∀ {xs : List V} {cs : List AV}, (∀ x ∈ xs, x ∈ L) → RBs K H (hotOf F m a σ) m xs cs → AV.nrs cs = true → Rps K H (hotOf (lent F m a σ L) [] ⟨[], []⟩ []) [] xs cs
  | [], [], _, _, _ => .nil
  | x :: xs, c :: cs, hL, ⟨r, t⟩, e => by
    have h' : (c.nr && AV.nrs cs) = true := e
    rw [Bool.and_eq_true] at h'
    have hh : ∀ p, hotOf (lent F m a σ L) [] ⟨[], []⟩ [] p → lent F m a σ L p := fun p h => h.elim id fun h => h.elim (fun h => by cases h) fun h => absurd h own_nil
    refine .cons ?_ (rbs_lent L (fun y hy => hL y (List.mem_cons_of_mem _ hy)) t h'.2)
    rcases r with r | ⟨p, vs, ys, e1, e2, h1, r⟩
    · exact Rp.plain (fun p h => (hh p h).1) r h'.1
    · subst e1 e2
      exact .lst (.inl h1) (fun h => (hh p h).2 (.ref p) (hL _ List.mem_cons_self) rfl) (Rps.plain (fun p h => (hh p h).1) r h'.1)
  | [], _ :: _, _, h, _ => h.elim
  | _ :: _, [], _, h, _ => h.elim
theorem lentRl {K : PySem.W.Frag} {F : Hot} {m : List Addr} {a : AS} {σ : L2.St} {H : Hp} (R : Rl K F m a σ H) (L : List V) : Rl K (lent F m a σ L) [] ⟨[], []⟩ [] H where
  len := rfl
  slot := fun i v e => by simp at e
  own := fun i v e => by simp at e
  inj := fun i j v w p e => by simp at e
  mlen := rfl
  obj := fun n o p e => by simp at e
  mnd := .nil
  mF := fun p h => by cases h
  FH := fun p h => R.hotMut h.1
theorem lend_read {name : Str} {n : Nat} {t : MOs} {σ : L2.St} {H : Hp} {Q : VK} (hn : ∀ as S r, G name as S = some r → as.length = n) (h : tE X.K F G (eLend name t) σ H Q) : tCall (spG X.K G name n) [] E0 (tOs X.K F G t) σ H Q := by
  obtain ⟨m, a, r, R, e, k⟩ := h
  obtain ⟨q, e1, e⟩ := Option.bind_eq_some_iff.mp e
  obtain ⟨cs, e2, e⟩ := Option.bind_eq_some_iff.mp e
  split at e
  · rename_i hnr
    obtain ⟨v, e3, e⟩ := Option.bind_eq_some_iff.mp e
    split at e
    · rename_i hsc
      cases e
      refine ⟨m, a, q, R, e1, fun xs H1 m1 R1 s1 r1 => ?_⟩
      have b := r1.conts R1 e2
      show spG X.K G name n (xs ++ []) H1 Q E0
      rw [List.append_nil]
      have r2 := rbs_lent xs (fun _ h => h) b hnr
      refine ⟨r2.length.trans (hn _ _ _ e3), lent F m1 q.2 σ xs, [], [], cs, v, lentRl R1 xs, r2, e3, fun x H' m' R' s' r' => ?_⟩
      have st : Stp m1 q.2 σ H1 m1 q.2 σ H' := ⟨fun _ _ e => e, fun b o e _ => s'.keep b o e fun h => h.elim (fun h => by cases h) fun h => absurd h own_nil, s'.dom, fun b h => .inl h⟩
      have all : ∀ b o, H1 b = some o → H' b = some o := fun b o e => s'.keep b o e fun h => h.elim (fun h => by cases h) fun h => absurd h own_nil
      have R2 := R1.via st fun b l => by
        cases q : H1 b with
        | none => exact absurd q (R1.locSome l)
        | some o => exact all b o q
      exact k x H' m1 R2 (s1.trans st) (sc_rp hsc r')
    · cases e
  · cases e
theorem pe_eLend {name : Str} {n d : Nat} {t : MOs} {e : Expr} {es : List Expr} {p : Pos} (f : FnG X G d name n) (hr : Room d X.A) (hg : Gl X name) (hd : (name == ("__debug__" : Str)) = false) (ha : PA X (e :: es) (tOs X.K F G t)) (hs : (e :: es).all notStar = true) :
    PE X (.Call (.Name name p) (e :: es) [] pos) (tE X.K F G (eLend name t)) := by
  obtain ⟨f1, fd, ps, h1, h2, h3, h4⟩ := f.ex
  rw [List.all_cons, Bool.and_eq_true] at hs
  exact (pe_call h4 hr hg h1 h2 h3 .nil pass0 ha hd (star_cons hs.1) (star_any hs.2)).weak fun _ _ _ => lend_read f.ar
end
end Pyx
end
section
set_option maxRecDepth 100000
namespace Pyx
open PySem PySem.Spec PyProof.Rows L2

/-! ### a list is changed in its place -/
def mutR (a : AS) (n : Nat) (f : List AV → Option (List AV)) : Option SObj → Option AS
  | some (.lst xs) => (f xs).map fun ys => a.setS n (.lst ys)
  | _ => none
def mutV (a : AS) (f : List AV → Option (List AV)) : AV → Option AS
  | .ref n => mutR a n f a.S[n]?
  | _ => none
def mutO (a : AS) (i : Nat) (f : List AV → Option (List AV)) : Option (Option Slt) → Option AS
  | some (some (.own xs)) => (f xs).map fun ys => a.putOwn i ys
  | some (some (.val v)) => mutV a f v
  | _ => none
def mutL (a : AS) (f : List AV → Option (List AV)) : Hd → Option AS
  | .slot i => mutO a i f a.ρ[i]?
  | .val v => mutV a f v
section
variable {K : PySem.W.Frag} {F : Hot} {m : List Addr} {a a' : AS} {σ : L2.St} {H : Hp} {x : V} {f : List AV → Option (List AV)}
/-- what a change of a list asks and gives -/
def MutOk (K : PySem.W.Frag) (F : Hot) (m : List Addr) (a a' : AS) (σ : L2.St) (H : Hp) (x : V) (f : List AV → Option (List AV)) (c : Option AV) : Prop :=
  ∃ p vs xs ys, x = .ref p ∧ H p = some (.lst vs) ∧ Rps' K F m a σ H vs xs ∧ f xs = some ys ∧
    (∀ vs', Rps' K F m a σ H vs' ys → Rl K F m a' σ (upd H p (.lst vs')) ∧ Stp m a σ H m a' σ (upd H p (.lst vs'))) ∧ c = some (.lst xs)
theorem mutV_ok (R : Rl K F m a σ H) : ∀ {v : AV}, Rp' K F m a σ H x v → mutV a f v = some a' → MutOk K F m a a' σ H x f (some (res a.S v))
  | .ref n, r, e => by
    cases r with
    | ref hm =>
      rename_i p
      have e' : mutR a n f a.S[n]? = some a' := e
      cases q : a.S[n]? with
      | none => rw [q] at e'; cases e'
      | some o =>
        rw [q] at e'
        cases o with
        | dic _ => cases e'
        | lst xs =>
          obtain ⟨ys, e1, e2⟩ := Option.map_eq_some_iff.mp e'
          subst e2
          obtain ⟨vs, h1, r1⟩ := R.obj n _ _ q hm
          exact ⟨p, vs, xs, ys, rfl, h1, r1, e1, fun vs' r' => ⟨R.setLst hm r', Rl.setSStp hm⟩, by show some (resL n a.S[n]?) = _; rw [q]; rfl⟩
  | .non, _, e | .bl _, _, e | .int _, _, e | .str _, _, e | .tup _, _, e | .lst _, _, e => by cases e
theorem mutL_ok (R : Rl K F m a σ H) : ∀ {h : Hd}, RHd K F m a σ H x h → mutL a f h = some a' → MutOk K F m a a' σ H x f (cont a h)
  | .val v, r, e => mutV_ok R r e
  | .slot i, r, e => by
    have r' : σ[i]? = some (some x) := r
    have e' : mutO a i f a.ρ[i]? = some a' := e
    cases q : a.ρ[i]? with
    | none => rw [q] at e'; cases e'
    | some o =>
      cases o with
      | none => rw [q] at e'; cases e'
      | some sl =>
        rw [q] at e'
        cases sl with
        | own xs =>
          obtain ⟨ys, e1, e2⟩ := Option.map_eq_some_iff.mp e'
          subst e2
          obtain ⟨p, vs, e3, h1, r1, _, _⟩ := R.own i _ q
          rw [r'] at e3; cases e3
          exact ⟨p, vs, xs, ys, rfl, h1, r1, e1, fun vs' r2 => ⟨R.setOwn q r' r2, Rl.setOwnStp q r'⟩, by show slotV a.S a.ρ[i]? = _; rw [q]; rfl⟩
        | val v =>
          obtain ⟨y, e1, r1⟩ := R.slot i _ q
          rw [r'] at e1; cases e1
          have := mutV_ok R r1 e'
          have e2 : cont a (.slot i) = some (res a.S v) := by show slotV a.S a.ρ[i]? = _; rw [q]; rfl
          rw [e2]; exact this
end
def isLst : AV → Bool
  | .lst _ => true
  | _ => false
def isTupA : AV → Bool
  | .tup _ => true
  | _ => false
section
variable {X : Cx} {F : Hot} {G : Gm} {x y : Expr} {pos apos : Pos}
theorem tyL {m : List Addr} {a : AS} {σ : L2.St} {H : Hp} {v : V} {c : AV} (b : RB X.K H (hotOf F m a σ) m v c) (h : isLst c = true) : tyV X.K "list" v H := by
  cases c with
  | lst xs =>
    obtain ⟨p, vs, rfl, h1, _⟩ := b.lst
    exact .inl ⟨rfl, vs, h1⟩
  | _ => cases h
/-- xs.append(e) -/
def appL (v : AV) (xs : List AV) : Option (List AV) := if xs.length < sizeLine then some (xs ++ [v]) else none
def eApp (o : MO) (e : ME) : ME := fun G a => (o G a).bind fun r => (cont r.2 r.1).bind fun c => if isLst c = true then (e G r.2).bind fun q => (mutL q.2 (appL q.1) r.1).map fun a' => (.non, a') else none
theorem pe_eApp {o : MO} {e : ME} (ho : PE X x (tO X.K F G o)) (he : PE X y (tE X.K F G e)) (hx : notCall x = true) (hy : notStar y = true) (hl : (apos.endLine == pos.line) = true) : PE X (.Call (.Attribute x "append" apos) [y] [] pos) (tE X.K F G (eApp o e)) := by
  have ha : PA X [y] (tCons (tE X.K F G e) tNil) := pa_cons he pa_nil (star_cons hy)
  refine (pe_bm PySem.F.plainAttrs_list PySem.F.slot_list_append PySem.F.type_list_append mt_append ho ha (base_ok hx) (few_ok (by simp [hy]) (by simp)) hl (star_cons hy) rfl).weak fun σ H Q ⟨m, a, r, R, e, k⟩ => ?_
  obtain ⟨q, e1, e⟩ := Option.bind_eq_some_iff.mp e
  obtain ⟨c, e2, e⟩ := Option.bind_eq_some_iff.mp e
  split at e
  · rename_i hc
    obtain ⟨q2, e3, e⟩ := Option.bind_eq_some_iff.mp e
    obtain ⟨a', e4, e5⟩ := Option.map_eq_some_iff.mp e
    subst e5
    refine ⟨m, a, q, R, e1, fun x H1 m1 R1 s1 h1 => ⟨tyL (h1.cont R1 e2) hc, m1, q.2, q2, R1, e3, fun y H2 m2 R2 s2 r2 => ?_⟩⟩
    obtain ⟨p, vs, xs, ys, rfl, g1, g2, g3, g4, g5⟩ := mutL_ok R2 (h1.step R1 s2) e4
    unfold appL at g3
    split at g3
    · rename_i hlen
      cases g3
      obtain ⟨w1, w2⟩ := g4 (vs ++ [y]) (g2.snoc r2)
      exact ⟨p, vs, y, rfl, rfl, g1, by rw [g2.length]; exact hlen, k _ _ m2 w1 ((s1.trans s2).trans w2) .non⟩
    · cases g3
  · cases e
/-- xs.pop() -/
def ePop (o : MO) : ME := fun G a => (o G a).bind fun r => (cont r.2 r.1).bind fun c => match c with
  | .lst xs => xs[xs.length - 1]?.bind fun y => (mutL r.2 (fun xs => some xs.dropLast) r.1).map fun a' => (y, a')
  | _ => none
theorem Rps.dropLast {K : PySem.W.Frag} {H : Hp} {hot : Hot} {m : List Addr} {xs : List V} {vs : List AV} (r : Rps K H hot m xs vs) : Rps K H hot m xs.dropLast vs.dropLast := by
  rw [List.dropLast_eq_take, List.dropLast_eq_take, r.length]
  exact r.take _
theorem pe_ePop {o : MO} (ho : PE X x (tO X.K F G o)) (hx : notCall x = true) (hl : (apos.endLine == pos.line) = true) : PE X (.Call (.Attribute x "pop" apos) [] [] pos) (tE X.K F G (ePop o)) := by
  refine (pe_bm0 PySem.F.plainAttrs_list PySem.F.slot_list_pop PySem.F.type_list_pop mt_pop ho (base_ok hx) hl).weak fun σ H Q ⟨m, a, r, R, e, k⟩ => ?_
  obtain ⟨q, e1, e⟩ := Option.bind_eq_some_iff.mp e
  obtain ⟨c, e2, e⟩ := Option.bind_eq_some_iff.mp e
  cases c with
  | lst xs =>
    obtain ⟨y, e3, e⟩ := Option.bind_eq_some_iff.mp (show (xs[xs.length - 1]?.bind fun y => (mutL q.2 (fun xs => some xs.dropLast) q.1).map fun a' => (y, a')) = some r from e)
    obtain ⟨a', e4, e5⟩ := Option.map_eq_some_iff.mp e
    subst e5
    refine ⟨m, a, q, R, e1, fun x H1 m1 R1 s1 h1 => ?_⟩
    have b := h1.cont R1 e2
    refine ⟨tyL b rfl, ?_⟩
    obtain ⟨p, vs, xs', ys, rfl, g1, g2, g3, g4, g5⟩ := mutL_ok R1 h1 e4
    have rx := g2
    rw [e2] at g5
    cases g5
    obtain ⟨z, e6, rz⟩ := rx.get e3
    cases g3
    obtain ⟨w1, w2⟩ := g4 vs.dropLast g2.dropLast
    exact ⟨p, vs, z, rfl, rfl, g1, by rw [rx.length]; exact e6, k _ _ m1 w1 (s1.trans w2) (rz.step R1 w2)⟩
  | _ => cases e
/-- xs.pop(i), 0 ≤ i -/
def ePopAt (o : MO) (e : ME) : ME := fun G a => (o G a).bind fun r => (cont r.2 r.1).bind fun c0 => if isLst c0 = true then (e G r.2).bind fun q => (cont q.2 r.1).bind fun c => match c, q.1 with
  | .lst xs, .int i => if 0 ≤ i ∧ i < 2 ^ 63 then xs[i.toNat]?.bind fun y => (mutL q.2 (fun xs => some (xs.eraseIdx i.toNat)) r.1).map fun a' => (y, a') else none
  | _, _ => none else none
theorem pe_ePopAt {o : MO} {e : ME} (ho : PE X x (tO X.K F G o)) (he : PE X y (tE X.K F G e)) (hx : notCall x = true) (hy : notStar y = true) (hl : (apos.endLine == pos.line) = true) : PE X (.Call (.Attribute x "pop" apos) [y] [] pos) (tE X.K F G (ePopAt o e)) := by
  have ha : PA X [y] (tCons (tE X.K F G e) tNil) := pa_cons he pa_nil (star_cons hy)
  refine (pe_bm PySem.F.plainAttrs_list PySem.F.slot_list_pop PySem.F.type_list_pop mt_popAt ho ha (base_ok hx) (few_ok (by simp [hy]) (by simp)) hl (star_cons hy) rfl).weak fun σ H Q ⟨m, a, r, R, e, k⟩ => ?_
  obtain ⟨q, e1, e⟩ := Option.bind_eq_some_iff.mp e
  obtain ⟨c0, e2, e⟩ := Option.bind_eq_some_iff.mp e
  split at e
  · rename_i hc
    obtain ⟨q2, e3, e⟩ := Option.bind_eq_some_iff.mp e
    obtain ⟨c, e4, e⟩ := Option.bind_eq_some_iff.mp e
    split at e
    · rename_i xs i hi
      split at e
      · rename_i hb
        obtain ⟨y, e5, e⟩ := Option.bind_eq_some_iff.mp e
        obtain ⟨a', e6, e7⟩ := Option.map_eq_some_iff.mp e
        subst e7
        refine ⟨m, a, q, R, e1, fun x H1 m1 R1 s1 h1 => ⟨tyL (h1.cont R1 e2) hc, m1, q.2, q2, R1, e3, fun y' H2 m2 R2 s2 r2 => ?_⟩⟩
        rw [hi] at r2; cases r2
        have h2 := h1.step R1 s2
        have b := h2.cont R2 e4
        obtain ⟨p, vs, xs', ys, rfl, g1, g2, g3, g4, g5⟩ := mutL_ok R2 h2 e6
        have rx := g2
        rw [e4] at g5
        cases g5
        obtain ⟨z, e8, rz⟩ := rx.get e5
        cases g3
        obtain ⟨w1, w2⟩ := g4 (vs.eraseIdx i.toNat) (g2.eraseIdx i.toNat)
        have hlt : i.toNat < vs.length := (List.getElem?_eq_some_iff.mp e8).1
        exact ⟨p, vs, i, i.toNat, z, rfl, rfl, g1, by omega, hb.2, seqIndex_of hb.1 (by omega), e8, k _ _ m2 w1 ((s1.trans s2).trans w2) (rz.step R2 w2)⟩
      · cases e
    · cases e
  · cases e
/-- xs.extend(ys), ys another list -/
def extL (S : List AV) (xs : List AV) : Option (List AV) := if xs.length + S.length ≤ sizeLine then some (xs ++ S) else none
end
end Pyx
end
section
set_option maxRecDepth 100000
namespace Pyx
open PySem PySem.Spec PyProof.Rows L2

/-! ### xs.index(y), xs.count(y), d.get(k, v), s.join(xs) -/
def okFor (ys : List AV) (y : AV) : Prop := y.okD = true ∧ AV.okDs ys = true ∧ min (PyData.depthAll (AV.pds ys)) y.dep ≤ 64
instance {ys : List AV} {y : AV} : Decidable (okFor ys y) := by unfold okFor; infer_instance
def idxA (ys : List AV) (y : AV) : Option AV := if okFor ys y then (ys.findIdx? fun z => z.eqb y).map fun (j : Nat) => .int j else none
def cntA (ys : List AV) (y : AV) : Option AV := if okFor ys y then some (.int ((ys.countP fun z => z.eqb y : Nat))) else none
def kind : AV → Nat
  | .lst _ => 1 | .tup _ => 2 | _ => 0
def seqF (f : List AV → AV → Option AV) : AV → AV → Option AV
  | .lst xs, y => f xs y
  | .tup xs, y => f xs y
  | _, _ => none
def eSeqM (f : List AV → AV → Option AV) (ks : List Nat) (o : MO) (e : MO) : ME := fun G a => (o G a).bind fun r => (cont r.2 r.1).bind fun c0 => if kind c0 ∈ ks then (e G r.2).bind fun q => (cont q.2 r.1).bind fun c => (cont q.2 q.1).bind fun y => if kind c = kind c0 then (seqF f c y).map fun v => (v, q.2) else none else none
section
variable {X : Cx} {F : Hot} {G : Gm} {x y : Expr} {pos apos : Pos}
theorem readOf_at {s : Shared} {its : List Value} {ds : List PyData} {as : List Addr} (hxs : PyData.canLayAll0 ds = true) (h : ReadsAll s.heap its ds as) {m : Nat} (hm : m < its.length) {z : PyData} (hz : ds[m]? = some z) : SeqAt.readOf s.heap its[m] = z := by
  have hmap : its.map (SeqAt.readOf s.heap) = ds := SeqAt.readsAll_map ds its as hxs h
  rw [← hmap, List.getElem?_map, List.getElem?_eq_getElem hm] at hz
  exact Option.some.inj (show some (SeqAt.readOf s.heap its[m]) = some z from hz)
theorem pds_get (ys : List AV) (j : Nat) : (AV.pds ys)[j]? = ys[j]?.map AV.pd := by rw [AV.pds_map, List.getElem?_map]
/-- the items of a written, tracked or plain sequence as data -/
theorem seq_items (hu : X.A.units + 100 < cLine) {pins : List (Addr × PySem.Obj)} {s : Shared} {σ : L2.St} {H : Hp} {us : List V} {its : List Value} {ys : List AV} {c : AV} {v : V} {u : Value} (I : Inv X pins σ H s) (rv : Vals us its) (ru : RelV v u)
    (d1 : DpAll X.K H us (AV.pds ys)) (d2 : Dp X.K H v c.pd) (ok : okFor ys c) :
    its.length = ys.length ∧ (∀ z, z ∈ its.toArray → SeqAt.EqAt X.A.in1 s z u (PyData.eqv (SeqAt.readOf s.heap z) c.pd)) ∧ ∀ (m : Nat) (hm : m < its.length) (z : AV), ys[m]? = some z → PyData.eqv (SeqAt.readOf s.heap its[m]) c.pd = z.eqb c := by
  obtain ⟨k1, k2, k3⟩ := ok
  obtain ⟨as, h4⟩ := Dp.readsAll I _ us its d1 rv
  obtain ⟨bs, r1⟩ := Dp.reads I _ v u d2 ru
  have hl : its.length = ys.length := by
    have := SeqAt.ReadsAll.length _ its as h4
    rw [AV.pds_map, List.length_map] at this
    exact this
  refine ⟨hl, SeqAt.items_eqAt (vs := its.toArray) (show ReadsAll s.heap its.toArray.toList (AV.pds ys) as from h4) r1 (AV.okDs_lay _ k2) (AV.okD_lay _ k1) (by unfold AV.dep at k3; omega), fun m hm z hz => ?_⟩
  rw [readOf_at (AV.okDs_lay _ k2) h4 hm (z := z.pd) (by rw [pds_get, hz]; rfl)]
  rfl
theorem idx_spec {ys : List AV} {y : AV} {v : AV} (h : idxA ys y = some v) : okFor ys y ∧ ∃ (j : Nat) (z : AV), v = .int (j : Nat) ∧ ys[j]? = some z ∧ z.eqb y = true ∧ ∀ (m : Nat) (w : AV), m < j → ys[m]? = some w → w.eqb y = false := by
  unfold idxA at h
  split at h
  · rename_i ok
    obtain ⟨j, e1, e2⟩ := Option.map_eq_some_iff.mp h
    obtain ⟨hj, h1, h2⟩ := List.findIdx?_eq_some_iff_getElem.mp e1
    refine ⟨ok, j, ys[j], e2.symm, List.getElem?_eq_getElem hj, h1, fun m w hm hw => ?_⟩
    have hm' : m < ys.length := by omega
    rw [List.getElem?_eq_getElem hm'] at hw
    cases hw
    have := h2 m hm
    simpa using this
  · cases h
def rSeqM (K : PySem.W.Frag) (T : AV → Prop) (f : List AV → AV → Option AV) : V → List V → Hp → VK → Prop := fun x xs H Q => ∃ y F m a σ c d v, xs = [y] ∧ Rl K F m a σ H ∧ T c ∧ RB K H (hotOf F m a σ) m x c ∧ RB K H (hotOf F m a σ) m y d ∧ seqF f c d = some v ∧ Aft K F m a σ H v Q
theorem mt_idxL (hu : X.A.units + 100 < cLine) : MtR X "list.index" (rSeqM X.K (fun c => kind c = 1) idxA) := by
  intro pins s σ H x xs v us Q I rx rxs ⟨y, F, m, a, σ', c, d, w, e, R, hT, bx, bd, ef, A⟩
  subst e
  cases c with
  | lst ys =>
    obtain ⟨p, vs, rfl, h1, r⟩ := bx.lst
    cases rx
    obtain ⟨u, rfl, ru⟩ := rxs.one
    obtain ⟨ok, j, z, rfl, hz, hzj, hno⟩ := idx_spec (show idxA ys d = some w from ef)
    obtain ⟨its, rv, ⟨⟨cls, dd, data, sls⟩, n, ho, hc, hdn, hdt⟩, hlen⟩ := I.list h1
    simp only at hc hdt
    subst hc hdt
    obtain ⟨hl, hE, hR⟩ := seq_items hu I rv ru (r.dp ok.2.1) (bd.dp ok.1) ok
    have hsl := sizeLine_eq
    obtain ⟨hjd, _⟩ := List.getElem?_eq_some_iff.mp hz
    have hjl : j < its.length := by omega
    have hvl := rv.length
    refine call_meets PySem.F.slot_list_index ⟨_, ho, rfl⟩ PySem.F.entry_list_index (PySem.F.args_list_index_2 _ _)
      (SeqAt.list_indexAt p its.toArray n dd sls u (fun u => PyData.eqv (SeqAt.readOf s.heap u) d.pd) j (by simpa using hjl) (by omega) ?_ ?_) ⟨ho, hE, ⟨.int (j : Nat), H, I.tok _, ⟨_, rfl⟩, A.here R (.int _)⟩⟩
    · show PyData.eqv (SeqAt.readOf s.heap its.toArray[j]) d.pd = true
      have := hR j hjl z hz
      rw [hzj] at this
      simpa using this
    · intro k hk hkj
      have hk' : k < its.length := by simpa using hk
      have hz' : ys[k]? = some ys[k] := List.getElem?_eq_getElem (by omega)
      show PyData.eqv (SeqAt.readOf s.heap its.toArray[k]) d.pd = false
      have := hR k hk' _ hz'
      rw [hno k _ hkj hz'] at this
      simpa using this
  | _ => cases hT
theorem mt_idxT (hu : X.A.units + 100 < cLine) : MtR X "tuple.index" (rSeqM X.K (fun c => kind c = 2) idxA) := by
  intro pins s σ H x xs v us Q I rx rxs ⟨y, F, m, a, σ', c, d, w, e, R, hT, bx, bd, ef, A⟩
  subst e
  cases c with
  | tup ys =>
    obtain ⟨p, vs, rfl, h1, r⟩ := bx.tup
    cases rx
    obtain ⟨u, rfl, ru⟩ := rxs.one
    obtain ⟨ok, j, z, rfl, hz, hzj, hno⟩ := idx_spec (show idxA ys d = some w from ef)
    obtain ⟨its, n, sls, rv, ho, hlen⟩ := TupZ.obj I h1
    obtain ⟨hl, hE, hR⟩ := seq_items hu I rv ru (r.dp ok.2.1) (bd.dp ok.1) ok
    obtain ⟨hjd, _⟩ := List.getElem?_eq_some_iff.mp hz
    have hjl : j < its.length := by omega
    refine call_meets PySem.F.slot_tuple_index ⟨_, ho, rfl⟩ PySem.F.entry_tuple_index (PySem.F.args_tuple_index_2 _ _)
      (TI.tuple_indexAt p its.toArray n none sls u (fun u => PyData.eqv (SeqAt.readOf s.heap u) d.pd) j (by simpa using hjl) ?_ ?_) ⟨ho, hE, ⟨.int (j : Nat), H, I.tok _, ⟨_, rfl⟩, A.here R (.int _)⟩⟩
    · show PyData.eqv (SeqAt.readOf s.heap its.toArray[j]) d.pd = true
      have := hR j hjl z hz
      rw [hzj] at this
      simpa using this
    · intro k hk hkj
      have hk' : k < its.length := by simpa using hk
      have hz' : ys[k]? = some ys[k] := List.getElem?_eq_getElem (by omega)
      show PyData.eqv (SeqAt.readOf s.heap its.toArray[k]) d.pd = false
      have := hR k hk' _ hz'
      rw [hno k _ hkj hz'] at this
      simpa using this
  | _ => cases hT
theorem mt_cntL (hu : X.A.units + 100 < cLine) : MtR X "list.count" (rSeqM X.K (fun c => kind c = 1) cntA) := by
  intro pins s σ H x xs v us Q I rx rxs ⟨y, F, m, a, σ', c, d, w, e, R, hT, bx, bd, ef, A⟩
  subst e
  cases c with
  | lst ys =>
    obtain ⟨p, vs, rfl, h1, r⟩ := bx.lst
    cases rx
    obtain ⟨u, rfl, ru⟩ := rxs.one
    have ef' : (if okFor ys d then some (AV.int ((ys.countP fun z => z.eqb d : Nat))) else none) = some w := ef
    split at ef'
    · rename_i ok
      cases ef'
      obtain ⟨its, rv, ⟨⟨cls, dd, data, sls⟩, n, ho, hc, hdn, hdt⟩, hlen⟩ := I.list h1
      simp only at hc hdt
      subst hc hdt
      obtain ⟨hl, hE, hR⟩ := seq_items hu I rv ru (r.dp ok.2.1) (bd.dp ok.1) ok
      refine call_meets PySem.F.slot_list_count ⟨_, ho, rfl⟩ PySem.F.entry_list_count (PySem.F.args_list_count_2 _ _)
        (SeqAt.list_countAt p its.toArray n dd sls u (fun u => PyData.eqv (SeqAt.readOf s.heap u) d.pd)) ⟨ho, hE, ⟨.int _, H, I.tok _, ⟨_, rfl⟩, ?_⟩⟩
      have e : (its.toArray.toList.countP fun u => PyData.eqv (SeqAt.readOf s.heap u) d.pd) = ys.countP fun z => z.eqb d := by
        have e1 : its.map (fun u => PyData.eqv (SeqAt.readOf s.heap u) d.pd) = ys.map fun z => z.eqb d := by
          apply List.ext_getElem?
          intro k
          rw [List.getElem?_map, List.getElem?_map]
          by_cases hk : k < its.length
          · rw [List.getElem?_eq_getElem hk, List.getElem?_eq_getElem (show k < ys.length by omega)]
            exact congrArg some (hR k hk _ (List.getElem?_eq_getElem (by omega)))
          · rw [List.getElem?_eq_none (by omega), List.getElem?_eq_none (by omega)]
            rfl
        have h1 := congrArg (List.countP id) e1
        rw [List.countP_map, List.countP_map] at h1
        exact h1
      rw [e]
      exact A.here R (.int _)
    · cases ef'
  | _ => cases hT

/-- a tuple's method -/
def tBMT (K : PySem.W.Frag) (r : V → List V → Hp → VK → Prop) (to : TE) (t : TA) : TE := fun σ H Q => to σ H fun x H1 => (∃ p vs, x = .ref p ∧ TupZ K H1 p vs) ∧ t σ H1 fun xs H2 => r x xs H2 Q
theorem pe_bmT {name : Str} {id : String} {r : V → List V → Hp → VK → Prop} {to : TE} {t : TA} (pa : PlainAttrs "tuple") (slot : Slot "tuple" name id) (hty : typeOf (.builtin id) = pure (.type "method_descriptor")) (hm : MtR X id r) (ho : PE X x to) (ha : PA X [y] t)
    (hbase : attributeBase x name X.env (eval x X.env) = eval x X.env) (hy : notStar y = true) (hline : (apos.endLine == pos.line) = true) : PE X (.Call (.Attribute x name apos) [y] [] pos) (tBMT X.K r to t) := by
  refine ⟨fun pins s σ H Q I h => ?_⟩
  refine wpAny_Call_method_late hbase (few_ok (by simp [hy]) (by simp)) hline rfl (thn (ho.run pins s σ H _ I h) fun v s1 ⟨x, H1, I1, r1, ⟨p, vs, e, ty⟩, q1⟩ => ?_)
  subst e
  obtain ⟨its, n, sl, rv, hob, hlen⟩ := TupZ.obj I1 ty
  cases r1
  refine ⟨"tuple", id, pa, slot, hty, ⟨_, hob, rfl⟩, fun a e => by cases e; exact ⟨_, hob, rfl⟩, ?_⟩
  have hA := ha.run pos pins s1 σ H1 _ I1 q1
  rw [star_cons hy] at hA ⊢
  refine Calls.callWith_builtin rfl (Calls.evalArgs_plain ?_)
  exact thn hA fun us s2 ⟨vs, H2, I2, r2, q2⟩ => hm pins s2 σ H2 (.ref p) vs (.ref p) us Q I2 rfl r2 q2
theorem _root_.L2.PE.or {X : Cx} {e : Expr} {t u : TE} (h : PE X e t) (h' : PE X e u) : PE X e (fun σ H Q => t σ H Q ∨ u σ H Q) :=
  ⟨fun pins s σ H Q I q => q.elim (h.run pins s σ H Q I) (h'.run pins s σ H Q I)⟩
theorem seqM_read {f : List AV → AV → Option AV} {ks : List Nat} {o e : MO} {σ : L2.St} {H : Hp} {Q : VK} (h : tE X.K F G (eSeqM f ks o e) σ H Q) :
    (1 ∈ ks ∧ tBM X.K "list" (rSeqM X.K (fun c => kind c = 1) f) (tO X.K F G o) (tCons (tO X.K F G e) tNil) σ H Q) ∨ (2 ∈ ks ∧ tBMT X.K (rSeqM X.K (fun c => kind c = 2) f) (tO X.K F G o) (tCons (tO X.K F G e) tNil) σ H Q) := by
  obtain ⟨m, a, r, R, e, k⟩ := h
  obtain ⟨q, e1, e⟩ := Option.bind_eq_some_iff.mp e
  obtain ⟨c0, e2, e⟩ := Option.bind_eq_some_iff.mp e
  split at e
  · rename_i hk
    obtain ⟨q2, e3, e⟩ := Option.bind_eq_some_iff.mp e
    obtain ⟨c, e4, e⟩ := Option.bind_eq_some_iff.mp e
    obtain ⟨d, e5, e⟩ := Option.bind_eq_some_iff.mp e
    split at e
    · rename_i hkk
      obtain ⟨v, e6, e7⟩ := Option.map_eq_some_iff.mp e
      subst e7
      cases c0 with
      | lst xs0 =>
        refine .inl ⟨hk, m, a, q, R, e1, fun x H1 m1 R1 s1 h1 => ⟨tyL (h1.cont R1 e2) rfl, m1, q.2, q2, R1, e3, fun y H2 m2 R2 s2 h2 => ?_⟩⟩
        exact ⟨y, F, m2, q2.2, σ, c, d, v, rfl, R2, hkk, (h1.step R1 s2).cont R2 e4, h2.cont R2 e5, e6, fun z H' R' s' r' => k z H' m2 R' ((s1.trans s2).trans s') r'⟩
      | tup xs0 =>
        refine .inr ⟨hk, m, a, q, R, e1, fun x H1 m1 R1 s1 h1 => ⟨?_, m1, q.2, q2, R1, e3, fun y H2 m2 R2 s2 h2 => ?_⟩⟩
        · obtain ⟨p, vs, rfl, t, _⟩ := (h1.cont R1 e2).tup
          exact ⟨p, vs, rfl, t⟩
        · exact ⟨y, F, m2, q2.2, σ, c, d, v, rfl, R2, hkk, (h1.step R1 s2).cont R2 e4, h2.cont R2 e5, e6, fun z H' R' s' r' => k z H' m2 R' ((s1.trans s2).trans s') r'⟩
      | _ =>
        exfalso
        cases c <;> first | (cases hkk; done) | (cases e6; done) | cases hkk
    · cases e
  · cases e
theorem pe_eIdx {o e : MO} (hu : X.A.units + 100 < cLine) (ho : PE X x (tO X.K F G o)) (he : PE X y (tO X.K F G e)) (hx : notCall x = true) (hy : notStar y = true) (hl : (apos.endLine == pos.line) = true) : PE X (.Call (.Attribute x "index" apos) [y] [] pos) (tE X.K F G (eSeqM idxA [1, 2] o e)) := by
  have ha : PA X [y] (tCons (tO X.K F G e) tNil) := pa_cons he pa_nil (star_cons hy)
  exact (PE.or (pe_bm PySem.F.plainAttrs_list PySem.F.slot_list_index PySem.F.type_list_index (mt_idxL hu) ho ha (base_ok hx) (few_ok (by simp [hy]) (by simp)) hl (star_cons hy) rfl)
    (pe_bmT PySem.F.plainAttrs_tuple PySem.F.slot_tuple_index PySem.F.type_tuple_index (mt_idxT hu) ho ha (base_ok hx) hy hl)).weak fun σ H Q h => (seqM_read h).elim (fun h => .inl h.2) fun h => .inr h.2
theorem pe_eCnt {o e : MO} (hu : X.A.units + 100 < cLine) (ho : PE X x (tO X.K F G o)) (he : PE X y (tO X.K F G e)) (hx : notCall x = true) (hy : notStar y = true) (hl : (apos.endLine == pos.line) = true) : PE X (.Call (.Attribute x "count" apos) [y] [] pos) (tE X.K F G (eSeqM cntA [1] o e)) := by
  have ha : PA X [y] (tCons (tO X.K F G e) tNil) := pa_cons he pa_nil (star_cons hy)
  exact (pe_bm PySem.F.plainAttrs_list PySem.F.slot_list_count PySem.F.type_list_count (mt_cntL hu) ho ha (base_ok hx) (few_ok (by simp [hy]) (by simp)) hl (star_cons hy) rfl).weak fun σ H Q h => (seqM_read h).elim (fun h => h.2) fun h => absurd h.1 (by decide)
end
end Pyx
end
section
set_option maxRecDepth 100000
namespace Pyx
open PySem PySem.Spec PyProof.Rows L2

/-! ### statements -/
inductive Out where
  | nx | rt (v : AV) | bk | ct
  deriving Inhabited
abbrev MS := Gm → AS → Option (Out × AS)
section
variable (K : PySem.W.Frag) (F : Hot) (G : Gm)
def EndS (m : List Addr) (a : AS) (σ : L2.St) (H : Hp) (D : Ends) : Out → AS → Prop
  | .nx, a' => ∀ σ' H' m', Rl K F m' a' σ' H' → Stp m a σ H m' a' σ' H' → D.nx σ' H'
  | .rt v, a' => ∀ x σ' H' m', Rl K F m' a' σ' H' → Stp m a σ H m' a' σ' H' → Rp' K F m' a' σ' H' x v → D.rt x H'
  | .bk, a' => ∀ σ' H' m', Rl K F m' a' σ' H' → Stp m a σ H m' a' σ' H' → D.bk σ' H'
  | .ct, a' => ∀ σ' H' m', Rl K F m' a' σ' H' → Stp m a σ H m' a' σ' H' → D.ct σ' H'
def tS (e : MS) : TS := fun D σ H => ∃ m a r, Rl K F m a σ H ∧ e G a = some r ∧ EndS K F m a σ H D r.1 r.2
end
section
variable {K : PySem.W.Frag} {F : Hot} {G : Gm} {m m1 : List Addr} {a a1 a2 : AS} {σ σ1 : L2.St} {H H1 : Hp} {D D' : Ends} {o : Out}
theorem EndS.after (h : EndS K F m a σ H D o a2) (s : Stp m a σ H m1 a1 σ1 H1) : EndS K F m1 a1 σ1 H1 D o a2 := by
  cases o with
  | nx => exact fun σ' H' m' R t => h σ' H' m' R (s.trans t)
  | rt v => exact fun x σ' H' m' R t r => h x σ' H' m' R (s.trans t) r
  | bk => exact fun σ' H' m' R t => h σ' H' m' R (s.trans t)
  | ct => exact fun σ' H' m' R t => h σ' H' m' R (s.trans t)
end
def sSkip : MS := fun _ a => some (.nx, a)
def sSeq (s t : MS) : MS := fun G a => (s G a).bind fun r => match r.1 with
  | .nx => t G r.2
  | o => some (o, r.2)
def sExpr (e : ME) : MS := fun G a => (e G a).map fun r => (.nx, r.2)
def sRet (e : ME) : MS := fun G a => (e G a).map fun r => (.rt r.1, r.2)
def sRetN : MS := fun _ a => some (.rt .non, a)
def sBreak : MS := fun _ a => some (.bk, a)
def sCont : MS := fun _ a => some (.ct, a)
def sIf (c : MT) (s t : MS) : MS := fun G a => (c G a).bind fun r => if r.1 = true then s G r.2 else t G r.2
def sAsg (i : Nat) (e : ME) : MS := fun G a => (e G a).map fun r => (.nx, r.2.put i r.1)
def sOwn (i : Nat) (e : MAs) : MS := fun G a => (e G a).map fun r => (.nx, r.2.putOwn i r.1)
section
variable {X : Cx} {F : Hot} {G : Gm} {st : Stmt} {rest : List Stmt} {pos : Pos} {x : Expr} {e : ME} {s t : MS} {c : MT}
theorem pss_skip : PSs X [] (tS X.K F G sSkip) := pss_nil.weak fun D σ H ⟨m, a, r, R, e, k⟩ => by cases e; exact k σ H m R .refl
theorem pss_seq (h1 : PS X st (tS X.K F G s)) (h2 : PSs X rest (tS X.K F G t)) : PSs X (st :: rest) (tS X.K F G (sSeq s t)) := by
  refine (pss_cons h1 h2).weak fun D σ H ⟨m, a, r, R, e, k⟩ => ?_
  obtain ⟨q, e1, e2⟩ := Option.bind_eq_some_iff.mp e
  refine ⟨m, a, q, R, e1, ?_⟩
  split at e2
  · rename_i h
    rw [h]
    exact fun σ' H' m' R' s' => ⟨m', q.2, r, R', e2, k.after s'⟩
  · rename_i o h
    cases e2
    cases ho : q.1 with
    | nx => exact absurd ho h
    | rt v => rw [ho] at k; exact k
    | bk => rw [ho] at k; exact k
    | ct => rw [ho] at k; exact k
def notComp : Expr → Bool
  | .ListComp _ _ _ _ | .SetComp _ _ _ _ | .DictComp _ _ _ _ _ => false
  | _ => true
theorem swaps_no {v : Expr} {tg : Option Expr} {l : Nat} {env : Env} (h : notComp v = true) : swapsWith v tg l env = pure false := by
  cases v <;> first | rfl | cases h
theorem ps_sExpr (h : PE X x (tE X.K F G e)) (hc : notComp x = true) : PS X (.Expr x pos) (tS X.K F G (sExpr e)) := by
  refine (ps_expr h (swaps_no hc)).weak fun D σ H ⟨m, a, r, R, e, k⟩ => ?_
  obtain ⟨q, e1, e2⟩ := Option.map_eq_some_iff.mp e
  subst e2
  exact ⟨m, a, q, R, e1, fun _ H' m' R' s' _ => k σ H' m' R' s'⟩
theorem ps_sRet (h : PE X x (tE X.K F G e)) : PS X (.Return (some x) pos) (tS X.K F G (sRet e)) := by
  refine (ps_ret h).weak fun D σ H ⟨m, a, r, R, e, k⟩ => ?_
  obtain ⟨q, e1, e2⟩ := Option.map_eq_some_iff.mp e
  subst e2
  exact ⟨m, a, q, R, e1, fun x H' m' R' s' r' => k x σ H' m' R' s' r'⟩
theorem ps_sRetN : PS X (.Return none pos) (tS X.K F G sRetN) := ps_retN.weak fun D σ H ⟨m, a, r, R, e, k⟩ => by cases e; exact k .non σ H m R .refl .non
theorem ps_sBreak : PS X (.Break pos) (tS X.K F G sBreak) := ps_break.weak fun D σ H ⟨m, a, r, R, e, k⟩ => by cases e; exact k σ H m R .refl
theorem ps_sCont : PS X (.Continue pos) (tS X.K F G sCont) := ps_continue.weak fun D σ H ⟨m, a, r, R, e, k⟩ => by cases e; exact k σ H m R .refl
theorem ps_sPass : PS X (.Pass pos) (tS X.K F G sSkip) := ps_pass.weak fun D σ H ⟨m, a, r, R, e, k⟩ => by cases e; exact k σ H m R .refl
theorem ps_sIf {b1 b2 : List Stmt} (hc : PT X x (tM X.K F G c)) (h1 : PSs X b1 (tS X.K F G s)) (h2 : PSs X b2 (tS X.K F G t)) : PS X (.If x b1 b2 pos) (tS X.K F G (sIf c s t)) := by
  refine (ps_if hc h1 h2).weak fun D σ H ⟨m, a, r, R, e, k⟩ => ?_
  obtain ⟨q, e1, e2⟩ := Option.bind_eq_some_iff.mp e
  refine ⟨m, a, q, R, e1, fun H' m' R' s' => ?_⟩
  split at e2
  · rename_i hb
    rw [if_pos hb]
    exact ⟨m', q.2, r, R', e2, k.after s'⟩
  · rename_i hb
    rw [if_neg hb]
    exact ⟨m', q.2, r, R', e2, k.after s'⟩
theorem ps_sAsg {i : Nat} {y : Str} {py : Pos} (hN : X.N.Nodup) (hi : X.N[i]? = some y) (hy : Loc X.env.scope y) (hf : X.fn y = true ∨ X.env.scope.names.lookup y = some .local) (h : PE X x (tE X.K F G e)) (hc : notComp x = true) :
    PS X (.Assign [.Name y py] x pos) (tS X.K F G (sAsg i e)) := by
  refine (ps_set hN hi hy h (swaps_no hc) hf).weak fun D σ H ⟨m, a, r, R, e, k⟩ => ?_
  obtain ⟨q, e1, e2⟩ := Option.map_eq_some_iff.mp e
  subst e2
  exact ⟨m, a, q, R, e1, fun x H' m' R' s' r' => k _ H' m' (R'.put r') (s'.trans (Rl.putStp R'.len))⟩
theorem ps_sOwn {f : MAs} {i : Nat} {y : Str} {py : Pos} (hN : X.N.Nodup) (hi : X.N[i]? = some y) (hy : Loc X.env.scope y) (hf : X.fn y = true ∨ X.env.scope.names.lookup y = some .local) (h : PE X x (tF X.K F G f)) (hc : notComp x = true) :
    PS X (.Assign [.Name y py] x pos) (tS X.K F G (sOwn i f)) := by
  refine (ps_set hN hi hy h (swaps_no hc) hf).weak fun D σ H ⟨m, a, r, R, e, k⟩ => ?_
  obtain ⟨q, e1, e2⟩ := Option.map_eq_some_iff.mp e
  subst e2
  exact ⟨m, a, q, R, e1, fun p vs H' m' R' s' hp r' => k _ _ m' (R'.putOwn hp r') (s'.trans (Rl.putOwnStp hp))⟩

/-! ### targets of an unpacking -/
abbrev MG := List AV → AS → Option AS
/-- names, from the left -/
def gNs : List Nat → MG
  | [], [], a => some a
  | i :: is, v :: vs, a => gNs is vs (a.put i v)
  | _, _, _ => none
/-- only these slots change -/
def SetIn (is : List Nat) (σ σ' : L2.St) : Prop := σ'.length = σ.length ∧ ∀ j, j ∉ is → σ'[j]? = σ[j]?
def tGs (K : PySem.W.Frag) (F : Hot) (is : List Nat) : TGs := fun vs σ H Q => ∃ m a cs a', Rl K F m a σ H ∧ Rps' K F m a σ H vs cs ∧ gNs is cs a = some a' ∧ ∀ σ', SetIn is σ σ' → Rl K F m a' σ' H → Stp m a σ H m a' σ' H → Q σ' H
/-- the written targets are the names of these slots -/
def NamesAt (X : Cx) : List Expr → List Nat → Prop
  | [], [] => True
  | .Name y _ :: es, i :: is => X.N[i]? = some y ∧ Loc X.env.scope y ∧ (X.fn y = true ∨ X.env.scope.names.lookup y = some .local) ∧ NamesAt X es is
  | _, _ => False
theorem pgs_names (hN : X.N.Nodup) : ∀ {es : List Expr} {is : List Nat}, NamesAt X es is → PGs X es (tGs X.K F is) ∧ (assignEach es X.env).length = is.length ∧ (assignEach es X.env).findIdx? (·.1) = none
  | [], [], _ => ⟨⟨fun pins s σ H vs us Q I r ⟨m, a, cs, a', R, rr, e, k⟩ => pgs_nil.run pins s σ H vs us Q I r (by
      cases cs with
      | nil => cases rr; cases e; exact ⟨rfl, k σ ⟨rfl, fun _ _ => rfl⟩ R .refl⟩
      | cons c cs => cases e)⟩, rfl, rfl⟩
  | .Name y py :: es, i :: is, ⟨h1, h2, h3, h4⟩ => by
    obtain ⟨p, l, f⟩ := pgs_names hN h4
    refine ⟨⟨fun pins s σ H vs us Q I r ⟨m, a, cs, a', R, rr, e, k⟩ => (pgs_cons (pg_name hN h1 h2 h3) p).run pins s σ H vs us Q I r ?_⟩, by simpa [assignEach] using l, by simpa [assignEach, List.findIdx?_cons] using f⟩
    cases cs with
    | nil => cases e
    | cons c cs =>
      cases rr with
      | @cons v0 _ vs0 _ r1 rr =>
        refine ⟨v0, vs0, rfl, m, a.put i c, cs, a', R.put r1, rr.step R (Rl.putStp R.len), e, fun σ' hs R' s' => k σ' ⟨by rw [hs.1]; simp, fun j hj => ?_⟩ R' ((Rl.putStp R.len).trans s')⟩
        rw [hs.2 j fun h => hj (List.mem_cons_of_mem _ h)]
        exact List.getElem?_set_ne fun e => hj (by rw [← e]; exact List.mem_cons_self)
/-- a tuple or a list of that length is unpacked -/
def seqOf (S : List SObj) (v : AV) : Option (List AV) := match res S v with
  | .lst xs => some xs
  | .tup xs => some xs
  | _ => none
def sUnp (is : List Nat) (e : ME) : MS := fun G a => (e G a).bind fun r => (seqOf r.2.S r.1).bind fun xs => (gNs is xs r.2).map fun a' => (.nx, a')
theorem gNs_len : ∀ {is : List Nat} {xs : List AV} {a a' : AS}, gNs is xs a = some a' → xs.length = is.length
  | [], [], _, _, _ => rfl
  | _ :: _, _ :: _, _, _, h => congrArg Nat.succ (gNs_len h)
  | [], _ :: _, _, _, h => by cases h
  | _ :: _, [], _, _, h => by cases h
theorem pg_unp (hc : X.calm = true) (hN : X.N.Nodup) {es : List Expr} {is : List Nat} {k : Nat} (h : NamesAt X es is) :
    PG X (.Tuple es k pos) (fun v σ H Q => ∃ m a c xs a', Rl X.K F m a σ H ∧ Rp' X.K F m a σ H v c ∧ seqOf a.S c = some xs ∧ gNs is xs a = some a' ∧ ∀ σ', SetIn is σ σ' → Rl X.K F m a' σ' H → Stp m a σ H m a' σ' H → Q σ' H) := by
  obtain ⟨p, l, f⟩ := pgs_names (F := F) hN h
  refine ⟨fun pins s σ H v u Q I r ⟨m, a, c, xs, a', R, rr, e, e2, k⟩ => ?_⟩
  have b := Rp.res R rr
  unfold seqOf at e
  split at e
  · rename_i ys hy
    cases e
    rw [hy] at b
    obtain ⟨q, vs, rfl, h1, r1⟩ := b.lst
    exact (pg_unl hc p l f).run pins s σ H _ u Q I r ⟨q, vs, rfl, h1, r1.length.trans (gNs_len e2), m, a, _, a', R, r1, e2, k⟩
  · rename_i ys hy
    cases e
    rw [hy] at b
    obtain ⟨q, vs, rfl, h1, r1⟩ := b.tup
    exact (pg_tup hc p l f).run pins s σ H _ u Q I r ⟨q, vs, rfl, h1.sqT, r1.length.trans (gNs_len e2), m, a, _, a', R, r1, e2, k⟩
  · cases e
/-- what swaps no stores -/
def noSwap (ts : List Expr) : Expr → Bool
  | .Tuple _ _ _ => decide (3 < ts.length)
  | _ => true
theorem swapped_no {ts : List Expr} {k : Nat} {pt : Pos} {v : Expr} {env : Env} (h : noSwap ts v = true) : swappedStores [.Tuple ts k pt] v env = pure none := by
  cases v with
  | Tuple es k2 p2 =>
    have hl : 3 < ts.length := of_decide_eq_true h
    have h2 : (ts.length == 2) = false := by simp; omega
    have h3 : (ts.length == 3) = false := by simp; omega
    unfold swappedStores
    simp [h2, h3]
  | _ => rfl
theorem ps_sUnp {es : List Expr} {is : List Nat} {k : Nat} {pt : Pos} (hc : X.calm = true) (hN : X.N.Nodup) (hes : NamesAt X es is) (h : PE X x (tE X.K F G e)) (hx : notComp x = true) (hs : noSwap es x = true) :
    PS X (.Assign [.Tuple es k pt] x pos) (tS X.K F G (sUnp is e)) := by
  refine (ps_asg (pos := pos) h (pg_unp (F := F) hc hN hes) (by unfold swapsWithSole; exact swaps_no hx) (swapped_no hs)).weak fun D σ H ⟨m, a, r, R, e, k⟩ => ?_
  obtain ⟨q, e1, e⟩ := Option.bind_eq_some_iff.mp e
  obtain ⟨xs, e2, e⟩ := Option.bind_eq_some_iff.mp e
  obtain ⟨a', e3, e4⟩ := Option.map_eq_some_iff.mp e
  subst e4
  exact ⟨m, a, q, R, e1, fun x H' m' R' s' r' => ⟨m', q.2, q.1, xs, a', R', r', e2, e3, fun σ' _ R2 s2 => k σ' H' m' R2 (s'.trans s2)⟩⟩
/-- a, b = x, y; a, b, c = x, y, z: all values ahead of the stores -/
def sPar (is : List Nat) (t : MAs) : MS := fun G a => (t G a).bind fun r => (gNs is r.1 r.2).map fun a' => (.nx, a')
theorem isStar_no : ∀ e : Expr, notStar e = true → (match e with | .Starred .. => true | _ => false) = false := fun e h => by cases e <;> first | rfl | cases h
theorem swapped2 {n1 n2 : Str} {p1 p2 pt pv : Pos} {kt kv : Nat} {a b : Expr} {env : Env} (hk : env.scope.kind = .function) (h1 : env.scope.names.lookup n1 = some .local) (h2 : env.scope.names.lookup n2 = some .local) (hp : (p2.line == p1.line) = true) (hn : n1 ≠ n2)
    (sa : notStar a = true) (sb : notStar b = true) (hf : ([a, b].all (foldedForSure 8)) = false) (hc : ([a, b].all (constantsAlone 8)) = false) :
    swappedStores [.Tuple [.Name n1 p1, .Name n2 p2] kt pt] (.Tuple [a, b] kv pv) env = pure (some [n1, n2]) := by
  have e1 : env.kindOf n1 = some .local := h1
  have e2 : env.kindOf n2 = some .local := h2
  have hb : (env.blockKind != .function) = false := by unfold Env.blockKind; rw [hk]; rfl
  have h4 : ¬ n2 = n1 := fun e => hn e.symm
  have hp' : p2.line = p1.line := by simpa using hp
  unfold swappedStores
  simp [hb, e1, e2, hp', hf, hc, Expr.pos, List.eraseDups_cons, h4]
  rintro (h | h) <;> exfalso
  · split at h
    · cases sa
    · cases h
  · split at h
    · cases sb
    · cases h
theorem swapped3 {n1 n2 n3 : Str} {p1 p2 p3 pt pv : Pos} {kt kv : Nat} {a b c : Expr} {env : Env} (hk : env.scope.kind = .function) (h1 : env.scope.names.lookup n1 = some .local) (h2 : env.scope.names.lookup n2 = some .local) (h3 : env.scope.names.lookup n3 = some .local) (hp : (p2.line == p1.line) = true) (hp3 : (p3.line == p1.line) = true)
    (hn : n1 ≠ n2) (hn1 : n1 ≠ n3) (hn2 : n2 ≠ n3)
    (sa : notStar a = true) (sb : notStar b = true) (sc : notStar c = true) (hf : ([a, b, c].all (foldedForSure 8)) = false) (hc : ([a, b, c].all (constantsAlone 8)) = false) :
    swappedStores [.Tuple [.Name n1 p1, .Name n2 p2, .Name n3 p3] kt pt] (.Tuple [a, b, c] kv pv) env = pure (some [n1, n2, n3]) := by
  have e1 : env.kindOf n1 = some .local := h1
  have e2 : env.kindOf n2 = some .local := h2
  have e3 : env.kindOf n3 = some .local := h3
  have hb : (env.blockKind != .function) = false := by unfold Env.blockKind; rw [hk]; rfl
  have h4 : ¬ n2 = n1 := fun e => hn e.symm
  have h5 : ¬ n3 = n1 := fun e => hn1 e.symm
  have h6 : ¬ n3 = n2 := fun e => hn2 e.symm
  have hp' : p2.line = p1.line := by simpa using hp
  have hp3' : p3.line = p1.line := by simpa using hp3
  unfold swappedStores
  simp [hb, e1, e2, e3, hp', hp3', hf, hc, Expr.pos, List.eraseDups_cons, h4, h5, h6]
  rintro (h | h | h) <;> exfalso
  · split at h
    · cases sa
    · cases h
  · split at h
    · cases sb
    · cases h
  · split at h
    · cases sc
    · cases h
theorem set_put {K : PySem.W.Frag} {m : List Addr} {a a' : AS} {σ : L2.St} {H : Hp} : ∀ {is : List Nat} {vs : List V} {cs : List AV}, Rl K F m a σ H → Rps' K F m a σ H vs cs → gNs is cs a = some a' →
    Rl K F m a' ((is.zip vs).foldl (fun σ p => σ.set p.1 (some p.2)) σ) H ∧ Stp m a σ H m a' ((is.zip vs).foldl (fun σ p => σ.set p.1 (some p.2)) σ) H
  | [], [], [], R, _, e => by cases e; exact ⟨R, .refl⟩
  | i :: is, _ :: vs, c :: cs, R, .cons r rr, e => by
    obtain ⟨h1, h2⟩ := set_put (R.put r) (rr.step R (Rl.putStp R.len)) e
    exact ⟨h1, (Rl.putStp R.len).trans h2⟩
  | [], _ :: _, _ :: _, _, _, e => by cases e
  | _ :: _, [], [], _, _, e => by cases e
theorem ps_sPar2 {i j : Nat} {n1 n2 : Str} {p1 p2 pt pv : Pos} {kt kv : Nat} {x y : Expr} {t : MAs} (hc : X.calm = true) (hN : X.N.Nodup) (hk : X.env.scope.kind = .function) (hi : X.N[i]? = some n1) (hj : X.N[j]? = some n2) (hij : i ≠ j)
    (h1 : X.env.scope.names.lookup n1 = some .local) (h2 : X.env.scope.names.lookup n2 = some .local) (hp : (p2.line == p1.line) = true) (hn : n1 ≠ n2) (sa : notStar x = true) (sb : notStar y = true) (hf : ([x, y].all (foldedForSure 8)) = false) (hcc : ([x, y].all (constantsAlone 8)) = false)
    (ha : PA X [x, y] (tAs X.K F G t)) : PS X (.Assign [.Tuple [.Name n1 p1, .Name n2 p2] kt pt] (.Tuple [x, y] kv pv) pos) (tS X.K F G (sPar [i, j] t)) := by
  refine (ps_par hc hN hi hj hij h1 h2 ha (swapped2 hk h1 h2 hp hn sa sb hf hcc)).weak fun D σ H ⟨m, a, r, R, e, k⟩ => ?_
  obtain ⟨q, e1, e⟩ := Option.bind_eq_some_iff.mp e
  obtain ⟨a', e2, e3⟩ := Option.map_eq_some_iff.mp e
  subst e3
  refine ⟨m, a, q, R, e1, fun vs H1 m1 R1 s1 r1 => ?_⟩
  have hl : vs.length = 2 := r1.length.trans (gNs_len e2)
  match vs, hl with
  | [u, v], _ =>
    obtain ⟨w1, w2⟩ := set_put R1 r1 e2
    exact ⟨u, v, rfl, k _ H1 m1 w1 (s1.trans w2)⟩
theorem ps_sPar3 {i j l : Nat} {n1 n2 n3 : Str} {p1 p2 p3 pt pv : Pos} {kt kv : Nat} {x y z : Expr} {t : MAs} (hc : X.calm = true) (hN : X.N.Nodup) (hk : X.env.scope.kind = .function) (hi : X.N[i]? = some n1) (hj : X.N[j]? = some n2) (hl : X.N[l]? = some n3) (hij : i ≠ j) (hil : i ≠ l) (hjl : j ≠ l)
    (h1 : X.env.scope.names.lookup n1 = some .local) (h2 : X.env.scope.names.lookup n2 = some .local) (h3 : X.env.scope.names.lookup n3 = some .local) (hp : (p2.line == p1.line) = true) (hp3 : (p3.line == p1.line) = true) (hn : n1 ≠ n2) (hn1 : n1 ≠ n3) (hn2 : n2 ≠ n3)
    (sa : notStar x = true) (sb : notStar y = true) (sc : notStar z = true) (hf : ([x, y, z].all (foldedForSure 8)) = false) (hcc : ([x, y, z].all (constantsAlone 8)) = false)
    (ha : PA X [x, y, z] (tAs X.K F G t)) : PS X (.Assign [.Tuple [.Name n1 p1, .Name n2 p2, .Name n3 p3] kt pt] (.Tuple [x, y, z] kv pv) pos) (tS X.K F G (sPar [i, j, l] t)) := by
  refine (ps_par3 hc hN hi hj hl hij hil hjl h1 h2 h3 ha (swapped3 hk h1 h2 h3 hp hp3 hn hn1 hn2 sa sb sc hf hcc)).weak fun D σ H ⟨m, a, r, R, e, k⟩ => ?_
  obtain ⟨q, e1, e⟩ := Option.bind_eq_some_iff.mp e
  obtain ⟨a', e2, e3⟩ := Option.map_eq_some_iff.mp e
  subst e3
  refine ⟨m, a, q, R, e1, fun vs H1 m1 R1 s1 r1 => ?_⟩
  have hl : vs.length = 3 := r1.length.trans (gNs_len e2)
  match vs, hl with
  | [u, v, w], _ =>
    obtain ⟨w1, w2⟩ := set_put R1 r1 e2
    exact ⟨u, v, w, rfl, k _ H1 m1 w1 (s1.trans w2)⟩

/-! ### x += e, x -= e of whole numbers -/
def sAug (i : Nat) (f : Op2) (o : MO) : MS := fun G a => (slotV a.S a.ρ[i]?).bind fun c0 => (o G a).bind fun r => (cont r.2 r.1).bind fun c => match c0, c with
  | .int x, .int y => (f r.2.S (.int x) (.int y)).bind fun v => match v with
    | .int z => some (.nx, r.2.put i (.int z))
    | _ => none
  | _, _ => none
theorem ps_sAug {op : Operator} {f : Op2} {i : Nat} {y : Str} {py : Pos} {o : MO} (hN : X.N.Nodup) (hi : X.N[i]? = some y) (hy : Loc X.env.scope y) (hf : X.fn y = true ∨ X.env.scope.names.lookup y = some .local) (h : PE X x (tO X.K F G o))
    (ho : (op = .Add ∧ f = opAdd) ∨ (op = .Sub ∧ f = opSub)) : PS X (.AugAssign (.Name y py) op x pos) (tS X.K F G (sAug i f o)) := by
  have main : ∀ (g : Int → Int → Int), PIp X op (ipI g) → (∀ S (a b : Int), f S (.int a) (.int b) = some (.int (g a b))) → PS X (.AugAssign (.Name y py) op x pos) (tS X.K F G (sAug i f o)) := by
    intro g hg hfg
    refine (ps_aug hN hi hy h hg hf).weak fun D σ H ⟨m, a, r, R, e, k⟩ => ?_
    obtain ⟨c0, e0, e⟩ := Option.bind_eq_some_iff.mp e
    obtain ⟨q, e1, e⟩ := Option.bind_eq_some_iff.mp e
    obtain ⟨c, e2, e⟩ := Option.bind_eq_some_iff.mp e
    obtain ⟨u, w, rfl, rfl⟩ : ∃ u w, c0 = .int u ∧ c = .int w := by
      cases c0 <;> cases c <;> first | exact ⟨_, _, rfl, rfl⟩ | cases e
    have e9 : ((f q.2.S (.int u) (.int w)).bind fun v => match v with | .int z => some (Out.nx, q.2.put i (.int z)) | _ => none) = some r := e
    rw [hfg] at e9
    cases e9
    · skip
      have hx : σ[i]? = some (some (.int u)) := by
        cases q : a.ρ[i]? with
        | none => rw [q] at e0; cases e0
        | some s0 =>
          rw [q] at e0
          cases s0 with
          | none => cases e0
          | some sl =>
            cases sl with
            | own xs => cases e0
            | val v =>
              obtain ⟨z, z1, z2⟩ := R.slot i v q
              have b := Rp.res R z2
              rw [show res a.S v = .int u from Option.some.inj e0] at b
              rw [z1, b.int]
      refine ⟨_, hx, m, a, q, R, e1, fun x H' m' R' s' r' => ?_⟩
      have b := r'.cont R' e2
      rw [b.int]
      exact ⟨u, w, rfl, rfl, k _ H' m' (R'.put (.int _)) (s'.trans (Rl.putStp R'.len))⟩
  rcases ho with ⟨rfl, rfl⟩ | ⟨rfl, rfl⟩
  · exact main _ ip_add fun _ _ _ => rfl
  · exact main _ ip_sub fun _ _ _ => rfl

/-! ### o[i] = e -/
def dPut (kvs : List (Str × AV)) (k : Str) (v : AV) : List (Str × AV) :=
  if (kvs.any fun kv => decide (kv.1 = k)) = true then kvs.map (fun kv => if kv.1 = k then (kv.1, v) else kv) else kvs ++ [(k, v)]
def putD (a : AS) (n : Nat) (k : Str) (v : AV) : Option SObj → Option AS
  | some (.dic kvs) => if kvs.length < sizeLine then some (a.setS n (.dic (dPut kvs k v))) else none
  | _ => none
def setL (j : Int) (v : AV) (xs : List AV) : Option (List AV) := (ixN xs.length j).map fun k => xs.set k v
def hdRef (a : AS) : Hd → Option Nat
  | .val (.ref n) => some n
  | .slot i => match a.ρ[i]? with
    | some (some (.val (.ref n))) => some n
    | _ => none
  | _ => none
def storeI (a : AS) (h : Hd) (i v : AV) : Option AS := match i with
  | .int j => mutL a (setL j v) h
  | .str k => (hdRef a h).bind fun n => putD a n k v a.S[n]?
  | _ => none
def sSet (o : MO) (i e : ME) : MS := fun G a => (e G a).bind fun r => (o G r.2).bind fun r1 => (i G r1.2).bind fun r2 => (storeI r2.2 r1.1 r2.1 r.1).map fun a' => (.nx, a')
def rSetG : V → V → V → Hp → (Hp → Prop) → Prop := fun o i v H Q => rSetL o i v H Q ∨ ∃ a H', o = .ref a ∧ DPut H a i v H' ∧ Q H'
theorem set_g (hu : X.A.units + 1 < cLine) : PSet X rSetG := by
  intro pins s σ H o i v ov iv u Q I ro ri rv h
  rcases h with h | ⟨a, H', rfl, g, q⟩
  · exact set_list pins s σ H o i v ov iv u Q I ro ri rv h
  · cases ro
    exact d_setItem hu I g ri rv fun s' I' => ⟨H', I', q⟩
theorem RpD.length {K : PySem.W.Frag} {H : Hp} {hot : Hot} {m : List Addr} : ∀ {xs : List (Key × V)} {vs : List (Str × AV)}, RpD K H hot m xs vs → xs.length = vs.length
  | [], [], _ => rfl
  | _ :: _, _ :: _, ⟨_, _, t⟩ => congrArg Nat.succ (RpD.length t)
  | [], _ :: _, h => h.elim
  | _ :: _, [], h => h.elim
theorem RpD.put {K : PySem.W.Frag} {H : Hp} {hot : Hot} {m : List Addr} {k : Str} {v : AV} {x : V} {xs : List (Key × V)} {vs : List (Str × AV)} (r : RpD K H hot m xs vs) (rv : Rp K H hot m x v) : RpD K H hot m (putK xs (Sum.inr k) x) (dPut vs k v) := by
  have hany : ∀ {xs : List (Key × V)} {vs : List (Str × AV)}, RpD K H hot m xs vs → (xs.any fun kv => decide (kv.1 = Sum.inr k)) = vs.any fun kv => decide (kv.1 = k) := by
    intro xs vs r
    induction xs generalizing vs with
    | nil => cases vs with
      | nil => rfl
      | cons _ _ => exact r.elim
    | cons p xs ih => cases vs with
      | nil => exact r.elim
      | cons q vs =>
        obtain ⟨k', x'⟩ := p
        obtain ⟨s, v'⟩ := q
        obtain ⟨e, _, t⟩ := r
        subst e
        rw [List.any_cons, List.any_cons, ih t]
        congr 1
        by_cases h : s = k
        · simp [h]
        · simp [h]
  have hmap : ∀ {xs : List (Key × V)} {vs : List (Str × AV)}, RpD K H hot m xs vs → RpD K H hot m (xs.map fun kv => if kv.1 = Sum.inr k then (kv.1, x) else kv) (vs.map fun kv => if kv.1 = k then (kv.1, v) else kv) := by
    intro xs vs r
    induction xs generalizing vs with
    | nil => cases vs with
      | nil => trivial
      | cons _ _ => exact r.elim
    | cons p xs ih => cases vs with
      | nil => exact r.elim
      | cons q vs =>
        obtain ⟨k', x'⟩ := p
        obtain ⟨s, v'⟩ := q
        obtain ⟨e, r1, t⟩ := r
        subst e
        rw [List.map_cons, List.map_cons]
        by_cases h : s = k
        · subst h
          rw [if_pos rfl, if_pos rfl]
          exact ⟨rfl, rv, ih t⟩
        · rw [if_neg (fun e => h (Sum.inr.inj e)), if_neg h]
          exact ⟨rfl, r1, ih t⟩
  have happ : ∀ {xs : List (Key × V)} {vs : List (Str × AV)}, RpD K H hot m xs vs → RpD K H hot m (xs ++ [(Sum.inr k, x)]) (vs ++ [(k, v)]) := by
    intro xs vs r
    induction xs generalizing vs with
    | nil => cases vs with
      | nil => exact ⟨rfl, rv, trivial⟩
      | cons _ _ => exact r.elim
    | cons p xs ih => cases vs with
      | nil => exact r.elim
      | cons q vs => exact ⟨r.1, r.2.1, ih r.2.2⟩
  unfold putK dPut
  rw [hany r]
  split
  · exact hmap r
  · exact happ r
theorem swaps_sub {v o i : Expr} {p : Pos} {l : Nat} {env : Env} : swapsWith v (some (.Subscript o i p)) l env = pure false := by
  cases v <;> rfl
theorem ps_sSet {o : MO} {i : ME} {ob ix : Expr} {pt : Pos} (hu : X.A.units + 100 < cLine) (he : PE X x (tE X.K F G e)) (ho : PE X ob (tO X.K F G o)) (hi : PE X ix (tE X.K F G i))
    (ha : ∀ v, assign (.Subscript ob ix pt) X.env v = (do
      let ov ← holding [v] (eval ob X.env)
      let iv ← holding [v, ov] (eval ix X.env)
      standAt pt
      holding [v, ov, iv] (setItem ov iv v)
      release [v, ov, iv] [])) : PS X (.Assign [.Subscript ob ix pt] x pos) (tS X.K F G (sSet o i e)) := by
  refine (ps_asg (pos := pos) he (pg_sub ho hi (set_g (by omega)) ha) (by unfold swapsWithSole; exact swaps_sub)).weak fun D σ H ⟨m, a, r, R, e, k⟩ => ?_
  obtain ⟨q, e1, e⟩ := Option.bind_eq_some_iff.mp e
  obtain ⟨q1, e2, e⟩ := Option.bind_eq_some_iff.mp e
  obtain ⟨q2, e3, e⟩ := Option.bind_eq_some_iff.mp e
  obtain ⟨a', e4, e5⟩ := Option.map_eq_some_iff.mp e
  subst e5
  refine ⟨m, a, q, R, e1, fun v H1 m1 R1 s1 r1 => ⟨m1, q.2, q1, R1, e2, fun ov H2 m2 R2 s2 h2 => ⟨m2, q1.2, q2, R2, e3, fun iv H3 m3 R3 s3 r3 => ?_⟩⟩⟩
  have rv := (r1.step R1 s2).step R2 s3
  have h3 := h2.step R2 s3
  have s := (s1.trans s2).trans s3
  unfold storeI at e4
  split at e4
  · rename_i j hj
    rw [hj] at r3; cases r3
    obtain ⟨p, vs, xs, ys, rfl, g1, g2, g3, g4, g5⟩ := mutL_ok R3 h3 e4
    obtain ⟨kk, g5, g6⟩ := Option.map_eq_some_iff.mp g3
    subst g6
    obtain ⟨w1, w2⟩ := g4 (vs.set kk v) (Rps.set rv kk g2)
    exact .inl ⟨p, vs, j, kk, rfl, rfl, g1, by rw [g2.length]; exact g5, k _ _ m3 w1 (s.trans w2)⟩
  · rename_i kk hj
    rw [hj] at r3; cases r3
    obtain ⟨n, e6, e7⟩ := Option.bind_eq_some_iff.mp e4
    have rn : Rp' X.K F m3 q2.2 σ H3 ov (.ref n) := by
      cases hq : q1.1 with
      | val w =>
        rw [hq] at e6 h3
        cases w with
        | ref n' => cases e6; exact h3
        | _ => cases e6
      | slot l =>
        rw [hq] at e6 h3
        have h3' : σ[l]? = some (some ov) := h3
        unfold hdRef at e6
        simp only at e6
        split at e6
        · rename_i n' hz
          cases e6
          obtain ⟨z, z1, z2⟩ := R3.slot l _ hz
          rw [h3'] at z1; cases z1
          exact z2
        · cases e6
    cases hz : q2.2.S[n]? with
    | none => rw [hz] at e7; cases e7
    | some ob =>
      rw [hz] at e7
      cases ob with
      | lst _ => cases e7
      | dic kvs =>
        have e7' : (if kvs.length < sizeLine then some (q2.2.setS n (.dic (dPut kvs kk q.1))) else none) = some a' := e7
        split at e7'
        · rename_i hl
          cases e7'
          cases rn with
          | ref hm =>
            rename_i p
            obtain ⟨vs, g1, g2⟩ := R3.obj n _ _ hz hm
            have hlen : vs.length = kvs.length := g2.length
            have st : Stp m3 q2.2 σ H3 m3 (q2.2.setS n (.dic (dPut kvs kk q.1))) σ (upd H3 p (.dK (putK vs (Sum.inr kk) v))) := Rl.setSStp hm
            refine .inr ⟨p, _, rfl, DPut.k (k := Sum.inr kk) g1 (by rw [hlen]; exact hl), k _ _ m3 (R3.setS hm ⟨_, upd_same, (g2.put rv).keep (R3.keeps st)⟩ (.inr ⟨_, upd_same⟩)) (s.trans st)⟩
        · cases e7'
  · cases e4
end
end Pyx
end
section
set_option maxRecDepth 100000
namespace Pyx
open PySem PySem.Spec PyProof.Rows L2

/-! ### loops -/
/-- behind a turn: on, out, away -/
def turn (next : AS → Option (Out × AS)) (q : Out × AS) : Option (Out × AS) := match q.1 with
  | .nx => next q.2
  | .ct => next q.2
  | .bk => some (.nx, q.2)
  | .rt v => some (.rt v, q.2)
inductive Tg where
  | one (i : Nat) | many (is : List Nat)
def Tg.slots : Tg → List Nat
  | .one i => [i]
  | .many is => is
def asgT : Tg → AV → AS → Option AS
  | .one i, v, a => some (a.put i v)
  | .many is, v, a => (seqOf a.S v).bind fun xs => gNs is xs a
def loopL (tg : Tg) (body : AS → Option (Out × AS)) : List AV → AS → Option (Out × AS)
  | [], a => some (.nx, a)
  | x :: xs, a => (asgT tg x a).bind fun a' => (body a').bind (turn (loopL tg body xs))
/-- over a list of the store, as it stands at each turn; its length stays -/
def lenIs (a : AS) (n len : Nat) : Bool := match a.S[n]? with
  | some (.lst xs) => xs.length == len
  | _ => false
def itemAt (a : AS) (n len i : Nat) : Option AV := match a.S[n]? with
  | some (.lst xs) => if xs.length = len then xs[i]? else none
  | _ => none
def loopR (tg : Tg) (body : AS → Option (Out × AS)) (n len : Nat) : Nat → AS → Option (Out × AS)
  | 0, a => if lenIs a n len = true then some (.nx, a) else none
  | k + 1, a => (itemAt a n len (len - (k + 1))).bind fun x => (asgT tg x a).bind fun a' => (body a').bind (turn (loopR tg body n len k))

section
variable {X : Cx} {F : Hot} {G : Gm}
theorem for_gen {J : It} {g : TG} {body : MS} {D : Ends} {n : Nat} {m0 : List Addr} {a0 : AS} {σ0 : L2.St} {H0 : Hp} {rF : Out × AS} (run : Nat → AS → Option (Out × AS)) (asg : Nat → AS → Option AS)
    (R0 : Rl X.K F m0 a0 σ0 H0) (h0 : run 0 a0 = some rF) (hD : EndS X.K F m0 a0 σ0 H0 D rF.1 rF.2)
    (hrun : ∀ i a r, i < n → run i a = some r → ∃ a' q, asg i a = some a' ∧ body G a' = some q ∧ turn (run (i + 1)) q = some r)
    (hend : ∀ a r, run n a = some r → r = (.nx, a))
    (hstop : ∀ m a σ H r, Rl X.K F m a σ H → Stp m0 a0 σ0 H0 m a σ H → run n a = some r → J.stop n H)
    (hgo : ∀ i m a σ H a', i < n → Rl X.K F m a σ H → Stp m0 a0 σ0 H0 m a σ H → asg i a = some a' → J.go i H ∧ ∀ x H', J.yld i H x H' → ∀ Q : L2.St → Hp → Prop, (∀ σ' H'' m', Rl X.K F m' a' σ' H'' → Stp m a σ H m' a' σ' H'' → Q σ' H'') → g x σ H' Q) :
    ∃ W : Nat → Nat → L2.St → Hp → Prop, (∃ k, W 0 k σ0 H0) ∧ ∀ i k σ H, W i k σ H →
      (J.stop i H ∧ D.nx σ H) ∨ (J.go i H ∧ ∃ N : L2.St → Hp → Prop, (∀ σ' H', N σ' H' → ∃ m', m' < k ∧ W (i + 1) m' σ' H') ∧ ∀ x H', J.yld i H x H' → g x σ H' fun σ2 H2 => tS X.K F G body { D with nx := N, ct := N, bk := D.nx } σ2 H2) := by
  refine ⟨fun i k σ H => i + k = n ∧ ∃ m a, Rl X.K F m a σ H ∧ Stp m0 a0 σ0 H0 m a σ H ∧ run i a = some rF, ⟨n, by omega, m0, a0, R0, .refl, h0⟩, ?_⟩
  rintro i k σ H ⟨hik, m, a, R, s, hr⟩
  by_cases hi : i < n
  · refine .inr ?_
    obtain ⟨a', q, e1, e2, e3⟩ := hrun i a rF hi hr
    obtain ⟨h1, h2⟩ := hgo i m a σ H a' hi R s e1
    refine ⟨h1, fun σ' H' => ∃ m', Rl X.K F m' q.2 σ' H' ∧ Stp m0 a0 σ0 H0 m' q.2 σ' H' ∧ run (i + 1) q.2 = some rF, ?_, fun x H' hy => h2 x H' hy _ fun σ' H'' m' R' s' => ⟨m', a', q, R', e2, ?_⟩⟩
    · rintro σ' H' ⟨m', R', s', hr'⟩
      exact ⟨k - 1, by omega, by omega, m', q.2, R', s', hr'⟩
    · have st := s.trans s'
      obtain ⟨o, a2⟩ := q
      cases o with
      | nx => exact fun σ2 H2 m2 R2 s2 => ⟨m2, R2, st.trans s2, e3⟩
      | ct => exact fun σ2 H2 m2 R2 s2 => ⟨m2, R2, st.trans s2, e3⟩
      | bk =>
        cases e3
        exact fun σ2 H2 m2 R2 s2 => hD σ2 H2 m2 R2 (st.trans s2)
      | rt v =>
        cases e3
        exact fun x σ2 H2 m2 R2 s2 r2 => hD x σ2 H2 m2 R2 (st.trans s2) r2
  · refine .inl ?_
    have e : i = n := by omega
    subst e
    have e := hend a rF hr
    subst e
    exact ⟨hstop m a σ H _ R s hr, hD σ H m R s⟩

/-! ### targets -/
def TgOk (X : Cx) : Expr → Tg → Prop
  | .Name y p, .one i => NamesAt X [.Name y p] [i]
  | .Tuple es _ _, .many is => NamesAt X es is
  | _, _ => False
def tG (K : PySem.W.Frag) (F : Hot) (tg : Tg) : TG := fun v σ H Q => ∃ m a c a', Rl K F m a σ H ∧ Rp' K F m a σ H v c ∧ asgT tg c a = some a' ∧ ∀ σ', SetIn tg.slots σ σ' → Rl K F m a' σ' H → Stp m a σ H m a' σ' H → Q σ' H
theorem pg_tg (hc : X.calm = true) (hN : X.N.Nodup) : ∀ {t : Expr} {tg : Tg}, TgOk X t tg → PG X t (tG X.K F tg)
  | .Name y p, .one i, ⟨h1, h2, h3, _⟩ => ⟨fun pins s σ H v u Q I r ⟨m, a, c, a', R, rr, e, k⟩ => (pg_name hN h1 h2 h3).run pins s σ H v u Q I r (by
      cases e
      refine k _ ⟨by simp, fun j hj => ?_⟩ (R.put rr) (Rl.putStp R.len)
      exact List.getElem?_set_ne fun e => hj (by rw [e]; exact List.mem_cons_self))⟩
  | .Tuple es k p, .many is, h => ⟨fun pins s σ H v u Q I r ⟨m, a, c, a', R, rr, e, k⟩ => (pg_unp (F := F) hc hN h).run pins s σ H v u Q I r (by
      obtain ⟨xs, e1, e2⟩ := Option.bind_eq_some_iff.mp e
      exact ⟨m, a, c, xs, a', R, rr, e1, e2, k⟩)⟩

/-! ### for over a list or a tuple -/
def sForV (it : ME) (tg : Tg) (body : MS) : MS := fun G a => (it G a).bind fun r => match r.1 with
  | .lst xs => loopL tg (body G) xs r.2
  | .tup xs => loopL tg (body G) xs r.2
  | .ref n => match r.2.S[n]? with
    | some (.lst xs) => loopR tg (body G) n xs.length xs.length r.2
    | _ => none
  | _ => none
theorem loopL_step {tg : Tg} {body : MS} {xs : List AV} {i : Nat} {a : AS} {r : Out × AS} (hi : i < xs.length) (h : loopL tg (body G) (xs.drop i) a = some r) :
    ∃ a' q, (xs[i]?.bind fun x => asgT tg x a) = some a' ∧ body G a' = some q ∧ turn (fun a => loopL tg (body G) (xs.drop (i + 1)) a) q = some r := by
  rw [List.drop_eq_getElem_cons hi] at h
  obtain ⟨a', e1, e2⟩ := Option.bind_eq_some_iff.mp h
  obtain ⟨q, e3, e4⟩ := Option.bind_eq_some_iff.mp e2
  exact ⟨a', q, by rw [List.getElem?_eq_getElem hi]; exact e1, e3, e4⟩
def notSet : Expr → Bool
  | .Set _ _ _ => false
  | _ => true
theorem foldedSet_no {iter : Expr} {env : Env} (h : notSet iter = true) : ∀ x, foldedSetIterable iter env x = pure x := fun x => by
  cases iter <;> first | rfl | cases h
theorem Rd.stay {m : List Addr} {a : AS} {σ : L2.St} {H : Hp} {m0 : List Addr} {a0 : AS} {σ0 : L2.St} {H0 : Hp} {p : Addr} {vs : List V} (s : Stp m0 a0 σ0 H0 m a σ H) (h : Rd H0 p (.lst vs)) (n : ¬ Loc' m0 a0 σ0 p) : Rd H p (.lst vs) := by
  rcases h with h | ⟨o, h⟩
  · exact .inl (s.keep p _ h n)
  · exact .inr ⟨o, s.keep p _ h n⟩
theorem Rp.lstI {K : PySem.W.Frag} {F : Hot} {m : List Addr} {a : AS} {σ : L2.St} {H : Hp} {x : V} {xs : List AV} (r : Rp' K F m a σ H x (.lst xs)) : ∃ p vs, x = .ref p ∧ Rps' K F m a σ H vs xs ∧ ∀ {m' a' σ' H'}, Stp m a σ H m' a' σ' H' → SqL K H' p vs := by
  cases r with
  | lst hl hn rr => exact ⟨_, _, rfl, rr, fun s => .inl (Rd.stay s hl fun l => hn (.inr l))⟩
  | lstK hl rr => exact ⟨_, _, rfl, rr, fun s => .inr hl⟩
theorem TupZ.stay {K : PySem.W.Frag} {m : List Addr} {a : AS} {σ : L2.St} {H : Hp} {m0 : List Addr} {a0 : AS} {σ0 : L2.St} {H0 : Hp} {p : Addr} {vs : List V} (R : Rl K F m0 a0 σ0 H0) (s : Stp m0 a0 σ0 H0 m a σ H) (h : TupZ K H0 p vs) : TupZ K H p vs := by
  rcases h with ⟨o, h, t⟩ | h
  · exact .inl ⟨o, (R.keeps s).tup _ _ _ h, t⟩
  · exact .inr h
theorem ps_sForV {it : Expr} {t : Expr} {tg : Tg} {e : ME} {body : MS} {sb : List Stmt} {pos : Pos} (hc : X.calm = true) (hxe : X.xe = fun _ _ => False) (hN : X.N.Nodup) (ht : TgOk X t tg) (he : PE X it (tE X.K F G e)) (hb : PSs X sb (tS X.K F G body))
    (hs : notSet it = true) : PS X (.For t it sb [] pos) (tS X.K F G (sForV e tg body)) := by
  have hp : PassesOwn (model X.prog X.w) X.A X.env X.xe := by rw [hxe]; exact PassesOwn.never
  have PL := ps_for (pos := pos) hp hc (pi_list (tg := t) he) (pg_tg (F := F) hc hN ht) hb (foldedSet_no hs)
  have PT := ps_for (pos := pos) hp hc (pi_tup (tg := t) he) (pg_tg (F := F) hc hN ht) hb (foldedSet_no hs)
  have both : PS X (.For t it sb [] pos) (fun D σ H => tFor (iList X.K (tE X.K F G e)) (tG X.K F tg) (tS X.K F G body) D σ H ∨ tFor (iTup X.K (tE X.K F G e)) (tG X.K F tg) (tS X.K F G body) D σ H) :=
    ⟨fun pins s σ H D I h => h.elim (PL.run pins s σ H D I) (PT.run pins s σ H D I)⟩
  refine both.weak fun D σ H ⟨m, a, r, R, e, k⟩ => ?_
  obtain ⟨q, e1, e2⟩ := Option.bind_eq_some_iff.mp e
  obtain ⟨v, a1⟩ := q
  cases v with
  | lst xs =>
    have e2' : loopL tg (body G) xs a1 = some r := e2
    refine .inl ⟨m, a, (.lst xs, a1), R, e1, fun x H1 m1 R1 s1 r1 => ?_⟩
    obtain ⟨p, vs, rfl, rr, hst⟩ := r1.lstI
    · refine ⟨p, rfl, ⟨vs, hst .refl⟩, ?_⟩
      refine for_gen (n := xs.length) (fun i a => loopL tg (body G) (xs.drop i) a) (fun i a => xs[i]?.bind fun x => asgT tg x a) R1 (by simpa using e2') (k.after s1) (fun i a r hi h => loopL_step hi h) (fun a r h => by rw [List.drop_length] at h; cases h; rfl) (fun m a σ H r R s h => ?_) (fun i m a σ H a' hi R s h => ?_)
      · exact ⟨vs, hst s, by rw [rr.length]; exact Nat.le_refl _⟩
      · have hl' := hst s
        obtain ⟨c, e3, e4⟩ := Option.bind_eq_some_iff.mp h
        have rr' := rr.step R1 s
        obtain ⟨x, e5, e6⟩ := rr'.get e3
        refine ⟨⟨vs, x, hl', e5⟩, fun y H' hy Q hQ => ?_⟩
        obtain ⟨rfl, hy⟩ := hy
        have := hy vs hl'
        rw [e5] at this; cases this
        exact ⟨m, a, c, a', R, e6, e4, fun σ' _ R' s' => hQ σ' _ m R' s'⟩
  | tup xs =>
    have e2' : loopL tg (body G) xs a1 = some r := e2
    refine .inr ⟨m, a, (.tup xs, a1), R, e1, fun x H1 m1 R1 s1 r1 => ?_⟩
    cases r1 with
    | tup hl rr =>
      rename_i p vs
      refine ⟨p, rfl, ⟨vs, hl.sqT⟩, ?_⟩
      refine for_gen (n := xs.length) (fun i a => loopL tg (body G) (xs.drop i) a) (fun i a => xs[i]?.bind fun x => asgT tg x a) R1 (by simpa using e2') (k.after s1) (fun i a r hi h => loopL_step hi h) (fun a r h => by rw [List.drop_length] at h; cases h; rfl) (fun m a σ H r R s h => ?_) (fun i m a σ H a' hi R s h => ?_)
      · exact ⟨vs, (TupZ.stay R1 s hl).sqT, by rw [rr.length]; exact Nat.le_refl _⟩
      · have hl' := (TupZ.stay R1 s hl).sqT
        obtain ⟨c, e3, e4⟩ := Option.bind_eq_some_iff.mp h
        have rr' := rr.step R1 s
        obtain ⟨x, e5, e6⟩ := rr'.get e3
        refine ⟨⟨vs, x, hl', e5⟩, fun y H' hy Q hQ => ?_⟩
        obtain ⟨rfl, hy⟩ := hy
        have := hy vs hl'
        rw [e5] at this; cases this
        exact ⟨m, a, c, a', R, e6, e4, fun σ' _ R' s' => hQ σ' _ m R' s'⟩
  | ref n =>
    have e2' : (match a1.S[n]? with | some (.lst xs) => loopR tg (body G) n xs.length xs.length a1 | _ => none) = some r := e2
    split at e2'
    · rename_i xs hxs
      refine .inl ⟨m, a, (.ref n, a1), R, e1, fun x H1 m1 R1 s1 r1 => ?_⟩
      cases r1 with
      | ref hm =>
        rename_i p
        obtain ⟨vs, g1, g2⟩ := R1.obj n _ _ hxs hm
        refine ⟨p, rfl, ⟨vs, .inl (.inl g1)⟩, ?_⟩
        have at_ : ∀ {m a σ' H} {ys : List AV}, Rl X.K F m a σ' H → Stp m1 a1 σ H1 m a σ' H → a.S[n]? = some (.lst ys) → ∃ vs, H p = some (.lst vs) ∧ Rps' X.K F m a σ' H vs ys := fun R s h => R.obj n _ _ h (s.pre _ _ hm)
        refine for_gen (n := xs.length) (fun i a => loopR tg (body G) n xs.length (xs.length - i) a) (fun i a => (itemAt a n xs.length i).bind fun x => asgT tg x a) R1 (by simpa using e2') (k.after s1) (fun i a r hi h => ?_) (fun a r h => ?_) (fun m a σ H r R s h => ?_) (fun i m a σ H a' hi R s h => ?_)
        · have e : xs.length - i = (xs.length - (i + 1)) + 1 := by omega
          rw [e] at h
          obtain ⟨x, e3, h⟩ := Option.bind_eq_some_iff.mp h
          obtain ⟨a', e4, h⟩ := Option.bind_eq_some_iff.mp h
          obtain ⟨q, e5, h⟩ := Option.bind_eq_some_iff.mp h
          have e6 : xs.length - (xs.length - (i + 1) + 1) = i := by omega
          rw [e6] at e3
          exact ⟨a', q, by rw [e3]; exact e4, e5, h⟩
        · rw [Nat.sub_self] at h
          have h' : (if lenIs a n xs.length = true then some (Out.nx, a) else none) = some r := h
          split at h' <;> cases h'
          rfl
        · rw [Nat.sub_self] at h
          have h' : (if lenIs a n xs.length = true then some (Out.nx, a) else none) = some r := h
          split at h'
          · rename_i hl
            unfold lenIs at hl
            split at hl
            · rename_i ys hy
              obtain ⟨vs', g3, g4⟩ := at_ R s hy
              exact ⟨vs', .inl (.inl g3), by rw [g4.length]; exact Nat.le_of_eq (by simpa using hl)⟩
            · cases hl
          · cases h'
        · obtain ⟨c, e3, e4⟩ := Option.bind_eq_some_iff.mp h
          unfold itemAt at e3
          split at e3
          · rename_i ys hy
            split at e3
            · obtain ⟨vs', g3, g4⟩ := at_ R s hy
              obtain ⟨x, e5, e6⟩ := g4.get e3
              refine ⟨⟨vs', x, .inl (.inl g3), e5⟩, fun y H' hy Q hQ => ?_⟩
              obtain ⟨rfl, hy⟩ := hy
              have := hy vs' (.inl (.inl g3))
              rw [e5] at this; cases this
              exact ⟨m, a, c, a', R, e6, e4, fun σ' _ R' s' => hQ σ' _ m R' s'⟩
            · cases e3
          · cases e3
    · cases e2'
  | _ => cases e2

/-! ### for over a range -/
def asR1 : List AV → Option (Int × Nat)
  | [.int j] => if -(2 ^ 62) ≤ j ∧ j < 2 ^ 62 then some (0, j.toNat) else none
  | _ => none
def asR2 : List AV → Option (Int × Nat)
  | [.int i, .int j] => if -(2 ^ 62) ≤ i ∧ i < 2 ^ 62 ∧ -(2 ^ 62) ≤ j ∧ j < 2 ^ 62 then some (i, (j - i).toNat) else none
  | _ => none
def rgA (lo : Int) (n : Nat) : List AV := (List.range n).map fun (i : Nat) => .int (lo + (i : Int))
theorem rgA_length (lo : Int) (n : Nat) : (rgA lo n).length = n := by simp [rgA]
theorem rgA_get {lo : Int} {n i : Nat} (h : i < n) : (rgA lo n)[i]? = some (.int (lo + i)) := by simp [rgA, h]
def sForR (rg : List AV → Option (Int × Nat)) (t : MAs) (tg : Tg) (body : MS) : MS := fun G a => (t G a).bind fun r => (rg r.1).bind fun p => loopL tg (body G) (rgA p.1 p.2) r.2
theorem asR1_of {l : List AV} {p : Int × Nat} (h : asR1 l = some p) : ∃ j : Int, l = [.int j] ∧ -(2 ^ 62) ≤ j ∧ j < 2 ^ 62 ∧ p = (0, j.toNat) := by
  match l, h with
  | [.int j], h =>
    have h' : (if -(2 ^ 62) ≤ j ∧ j < 2 ^ 62 then some ((0 : Int), j.toNat) else none) = some p := h
    split at h'
    · rename_i hj; cases h'; exact ⟨j, rfl, hj.1, hj.2, rfl⟩
    · cases h'
theorem asR2_of {l : List AV} {p : Int × Nat} (h : asR2 l = some p) : ∃ i j : Int, l = [.int i, .int j] ∧ (-(2 ^ 62) ≤ i ∧ i < 2 ^ 62 ∧ -(2 ^ 62) ≤ j ∧ j < 2 ^ 62) ∧ p = (i, (j - i).toNat) := by
  match l, h with
  | [.int i, .int j], h =>
    have h' : (if -(2 ^ 62) ≤ i ∧ i < 2 ^ 62 ∧ -(2 ^ 62) ≤ j ∧ j < 2 ^ 62 then some (i, (j - i).toNat) else none) = some p := h
    split at h'
    · rename_i hj; cases h'; exact ⟨i, j, rfl, hj, rfl⟩
    · cases h'
theorem range_loop {J : It} {tg : Tg} {body : MS} {D : Ends} {lo : Int} {n : Nat} {m : List Addr} {a : AS} {σ : L2.St} {H : Hp} {r : Out × AS} (hJ : J = Itr lo n) (R : Rl X.K F m a σ H) (e : loopL tg (body G) (rgA lo n) a = some r) (k : EndS X.K F m a σ H D r.1 r.2) :
    ∃ W : Nat → Nat → L2.St → Hp → Prop, (∃ k, W 0 k σ H) ∧ ∀ i k σ H, W i k σ H →
      (J.stop i H ∧ D.nx σ H) ∨ (J.go i H ∧ ∃ N : L2.St → Hp → Prop, (∀ σ' H', N σ' H' → ∃ m', m' < k ∧ W (i + 1) m' σ' H') ∧ ∀ x H', J.yld i H x H' → tG X.K F tg x σ H' fun σ2 H2 => tS X.K F G body { D with nx := N, ct := N, bk := D.nx } σ2 H2) := by
  subst hJ
  refine for_gen (n := n) (fun i a => loopL tg (body G) ((rgA lo n).drop i) a) (fun i a => (rgA lo n)[i]?.bind fun x => asgT tg x a) R (by simpa using e) k (fun i a r hi h => loopL_step (by rw [rgA_length]; exact hi) h) (fun a r h => ?_) (fun m a σ H r R s h => Nat.le_refl _) (fun i m a σ H a' hi R s h => ⟨hi, fun x H' hy Q hQ => ?_⟩)
  · rw [List.drop_eq_nil_of_le (by rw [rgA_length]; exact Nat.le_refl _)] at h
    cases h; rfl
  · obtain ⟨rfl, rfl⟩ := hy
    rw [rgA_get hi] at h
    exact ⟨m, a, _, a', R, .int _, h, fun σ' _ R' s' => hQ σ' _ m R' s'⟩
theorem rps_ints1 {K : PySem.W.Frag} {H : Hp} {hot : Hot} {m : List Addr} {xs : List V} {j : Int} (r : Rps K H hot m xs [.int j]) : xs = [.int j] := by cases r with | cons r t => cases r; cases t; rfl
theorem rps_ints2 {K : PySem.W.Frag} {H : Hp} {hot : Hot} {m : List Addr} {xs : List V} {i j : Int} (r : Rps K H hot m xs [.int i, .int j]) : xs = [.int i, .int j] := by cases r with | cons r t => cases r; cases t with | cons r t => cases r; cases t; rfl
theorem ps_sForR1 {x : Expr} {t : Expr} {tg : Tg} {u : MAs} {body : MS} {sb : List Stmt} {p p2 pos : Pos} (hc : X.calm = true) (hxe : X.xe = fun _ _ => False) (hN : X.N.Nodup) (ht : TgOk X t tg) (hg : Gl X "range") (hm : X.mg "range" = none) (he : PA X [x] (tAs X.K F G u)) (hx : notStar x = true) (hb : PSs X sb (tS X.K F G body)) :
    PS X (.For t (.Call (.Name "range" p) [x] [] p2) sb [] pos) (tS X.K F G (sForR asR1 u tg body)) := by
  have hp : PassesOwn (model X.prog X.w) X.A X.env X.xe := by rw [hxe]; exact PassesOwn.never
  refine (ps_for (pos := pos) hp hc (pi_range1 hg hm he (star_cons hx)) (pg_tg (F := F) hc hN ht) hb).weak fun D σ H ⟨m, a, r, R, e, k⟩ => ?_
  obtain ⟨q, e1, e⟩ := Option.bind_eq_some_iff.mp e
  obtain ⟨b, e2, e⟩ := Option.bind_eq_some_iff.mp e
  obtain ⟨l, a1⟩ := q
  obtain ⟨j, rfl, h1, h2, rfl⟩ := asR1_of e2
  exact ⟨m, a, _, R, e1, fun xs H1 m1 R1 s1 r1 => ⟨j, rps_ints1 r1, h1, h2, range_loop rfl R1 e (k.after s1)⟩⟩
theorem ps_sForR2 {x y : Expr} {t : Expr} {tg : Tg} {u : MAs} {body : MS} {sb : List Stmt} {p p2 pos : Pos} (hc : X.calm = true) (hxe : X.xe = fun _ _ => False) (hN : X.N.Nodup) (ht : TgOk X t tg) (hg : Gl X "range") (hm : X.mg "range" = none) (he : PA X [x, y] (tAs X.K F G u)) (hx : notStar x = true) (hy : notStar y = true) (hb : PSs X sb (tS X.K F G body)) :
    PS X (.For t (.Call (.Name "range" p) [x, y] [] p2) sb [] pos) (tS X.K F G (sForR asR2 u tg body)) := by
  have hp : PassesOwn (model X.prog X.w) X.A X.env X.xe := by rw [hxe]; exact PassesOwn.never
  have hs2 : starEach [y] X.env = [(false, eval y X.env)] := star_cons hy
  have hs : starEach [x, y] X.env = [(false, eval x X.env), (false, eval y X.env)] := by rw [star_cons hx, hs2]
  refine (ps_for (pos := pos) hp hc (pi_range2 hg hm he hs hs2) (pg_tg (F := F) hc hN ht) hb).weak fun D σ H ⟨m, a, r, R, e, k⟩ => ?_
  obtain ⟨q, e1, e⟩ := Option.bind_eq_some_iff.mp e
  obtain ⟨b, e2, e⟩ := Option.bind_eq_some_iff.mp e
  obtain ⟨l, a1⟩ := q
  obtain ⟨i, j, rfl, h1, rfl⟩ := asR2_of e2
  exact ⟨m, a, _, R, e1, fun xs H1 m1 R1 s1 r1 => ⟨i, j, rps_ints2 r1, h1, range_loop rfl R1 e (k.after s1)⟩⟩

/-! ### while, with a bound of turns -/
def whN (c : AS → Option (Bool × AS)) (body : AS → Option (Out × AS)) : Nat → AS → Option (Out × AS)
  | 0, _ => none
  | n + 1, a => (c a).bind fun r => if r.1 = true then (body r.2).bind (turn (whN c body n)) else some (.nx, r.2)
def sWhile (fuel : Nat) (c : MT) (body : MS) : MS := fun G a => whN (c G) (body G) fuel a
theorem ps_sWhile {x : Expr} {c : MT} {body : MS} {sb : List Stmt} {fuel : Nat} {pos : Pos} (hxe : X.xe = fun _ _ => False) (h : PT X x (tM X.K F G c)) (hb : PSs X sb (tS X.K F G body)) : PS X (.While x sb [] pos) (tS X.K F G (sWhile fuel c body)) := by
  have hp : PassesOwn (model X.prog X.w) X.A X.env X.xe := by rw [hxe]; exact PassesOwn.never
  refine (ps_while hp h hb).weak fun D σ0 H0 ⟨m0, a0, rF, R0, e, k⟩ => ?_
  refine ⟨fun n σ H => ∃ m a, Rl X.K F m a σ H ∧ Stp m0 a0 σ0 H0 m a σ H ∧ whN (c G) (body G) n a = some rF, ⟨fuel, m0, a0, R0, .refl, e⟩, ?_⟩
  rintro n σ H ⟨m, a, R, s, hr⟩
  cases n with
  | zero => cases hr
  | succ n =>
    obtain ⟨q, e1, e2⟩ := Option.bind_eq_some_iff.mp hr
    refine ⟨m, a, q, R, e1, fun H' m' R' s' => ?_⟩
    split at e2
    · rename_i hq
      rw [if_pos hq]
      obtain ⟨q2, e3, e4⟩ := Option.bind_eq_some_iff.mp e2
      refine ⟨fun σ' H' => ∃ m a, Rl X.K F m a σ' H' ∧ Stp m0 a0 σ0 H0 m a σ' H' ∧ whN (c G) (body G) n a = some rF, fun σ' H' hN => ⟨n, Nat.lt_succ_self n, hN⟩, m', q.2, q2, R', e3, ?_⟩
      have st := s.trans s'
      obtain ⟨o, a2⟩ := q2
      cases o with
      | nx => exact fun σ2 H2 m2 R2 s2 => ⟨m2, a2, R2, st.trans s2, e4⟩
      | ct => exact fun σ2 H2 m2 R2 s2 => ⟨m2, a2, R2, st.trans s2, e4⟩
      | bk =>
        cases e4
        exact fun σ2 H2 m2 R2 s2 => k σ2 H2 m2 R2 (st.trans s2)
      | rt v =>
        cases e4
        exact fun x σ2 H2 m2 R2 s2 r2 => k x σ2 H2 m2 R2 (st.trans s2) r2
    · rename_i hq
      rw [if_neg hq]
      cases e2
      exact k σ H' m' R' (s.trans s')
end
end Pyx
end
section
set_option maxRecDepth 100000
namespace Pyx
open PySem PySem.Spec PyProof.Rows L2

/-! ### list comprehensions -/
/-- the names of the block are forgotten; behind the block they are as they were -/
def clr (a : AS) : List Nat → AS
  | [] => a
  | v :: vs => (clr a vs).drop v
def rst (a0 a : AS) : List Nat → AS
  | [] => a
  | v :: vs => ⟨(rst a0 a vs).ρ.set v ((a0.ρ[v]?).getD none), (rst a0 a vs).S⟩
def noOwn (a : AS) (vs : List Nat) : Bool := vs.all fun v => match a.ρ[v]? with
  | some (some (.own _)) => false
  | _ => true
section
variable {K : PySem.W.Frag} {F : Hot} {m m0 m' : List Addr} {a a0 a' : AS} {σ σ' : L2.St} {H H0 H' : Hp}
theorem Rl.clr (R : Rl K F m a σ H) : ∀ vs : List Nat, Rl K F m (Pyx.clr a vs) (wipe σ vs) H ∧ Stp m a σ H m (Pyx.clr a vs) (wipe σ vs) H
  | [] => ⟨R, .refl⟩
  | v :: vs => by
    obtain ⟨h1, h2⟩ := Rl.clr R vs
    exact ⟨h1.drop, h2.trans Rl.dropStp⟩
theorem rst_len (a0 a : AS) : ∀ vs : List Nat, (rst a0 a vs).ρ.length = a.ρ.length
  | [] => rfl
  | v :: vs => by simp [rst, rst_len a0 a vs]
theorem rst_S (a0 a : AS) : ∀ vs : List Nat, (rst a0 a vs).S = a.S
  | [] => rfl
  | v :: vs => by simp [rst, rst_S a0 a vs]
theorem rst_get (hl : a.ρ.length = a0.ρ.length) {j : Nat} : ∀ vs : List Nat, (rst a0 a vs).ρ[j]? = if j ∈ vs then a0.ρ[j]? else a.ρ[j]?
  | [] => by simp [rst]
  | v :: vs => by
    have ih := rst_get hl (j := j) vs
    show ((rst a0 a vs).ρ.set v ((a0.ρ[v]?).getD none))[j]? = _
    by_cases e : j = v
    · subst e
      rw [if_pos List.mem_cons_self]
      by_cases hj : j < a0.ρ.length
      · rw [List.getElem?_set_self (by rw [rst_len, hl]; exact hj), List.getElem?_eq_getElem hj]
        rfl
      · rw [List.getElem?_eq_none (by simp [rst_len, hl]; omega), List.getElem?_eq_none (by omega)]
    · rw [List.getElem?_set_ne (Ne.symm e), ih]
      by_cases h : j ∈ vs
      · rw [if_pos h, if_pos (List.mem_cons_of_mem _ h)]
      · rw [if_neg h, if_neg (fun q => (List.mem_cons.mp q).elim e h)]
theorem wipe_in {σ : L2.St} {i : Nat} {x : V} : ∀ {vs : List Nat}, i ∈ vs → (wipe σ vs)[i]? ≠ some (some x) := fun {vs} h e => (wipe_some e).2 h
theorem Rl.rst {vs : List Nat} (R0 : Rl K F m0 a0 σ H0) (R : Rl K F m a (wipe σ vs) H) (s : Stp m0 a0 σ H0 m a (wipe σ vs) H) (no : noOwn a0 vs = true) :
    Rl K F m (Pyx.rst a0 a vs) σ H ∧ Stp m0 a0 σ H0 m (Pyx.rst a0 a vs) σ H ∧ ∀ x v, Rp' K F m a (wipe σ vs) H x v → Rp' K F m (Pyx.rst a0 a vs) σ H x v := by
  have hl : a.ρ.length = a0.ρ.length := by rw [R.len, R0.len, wipe_length]
  have hno : ∀ v ∈ vs, ∀ xs, a0.ρ[v]? ≠ some (some (Slt.own xs)) := fun v hv xs e => by
    have := List.all_eq_true.mp no v hv
    rw [e] at this
    cases this
  have hown : ∀ {j : Nat} {xs : List AV}, (Pyx.rst a0 a vs).ρ[j]? = some (some (Slt.own xs)) → j ∉ vs ∧ a.ρ[j]? = some (some (Slt.own xs)) := fun {j xs} e => by
    rw [rst_get hl] at e
    by_cases h : j ∈ vs
    · rw [if_pos h] at e; exact absurd e (hno j h xs)
    · rw [if_neg h] at e; exact ⟨h, e⟩
  have hO : ∀ {p : Addr}, Own (Pyx.rst a0 a vs).ρ σ p → Own a.ρ (wipe σ vs) p := fun ⟨j, xs, e1, e2⟩ => by
    obtain ⟨h1, h2⟩ := hown e1
    exact ⟨j, xs, h2, by rw [wipe_out h1]; exact e2⟩
  have hot : ∀ p, hotOf F m (Pyx.rst a0 a vs) σ p → hotOf F m a (wipe σ vs) p := fun p h => h.elim .inl fun h => h.elim (fun h => .inr (.inl h)) fun h => .inr (.inr (hO h))
  have hk : KeepR K H H (hotOf F m a (wipe σ vs)) (hotOf F m (Pyx.rst a0 a vs) σ) m m := KeepR.hot hot
  have st : Stp m0 a0 σ H0 m (Pyx.rst a0 a vs) σ H := ⟨s.pre, s.keep, s.dom, fun b h => s.locs b (h.elim .inl fun h => .inr (hO h))⟩
  refine ⟨⟨?_, fun j v e => ?_, fun j xs e => ?_, fun i j xs ys p e1 e2 e3 e4 => ?_, ?_, fun n o p e1 e2 => ?_, R.mnd, R.mF, R.FH⟩, st, fun x v r => r.keep hk⟩
  · rw [rst_len, R.len, wipe_length]
  · rw [rst_get hl] at e
    by_cases h : j ∈ vs
    · rw [if_pos h] at e
      obtain ⟨x, e1, r⟩ := R0.slot j v e
      exact ⟨x, e1, r.step R0 st⟩
    · rw [if_neg h] at e
      obtain ⟨x, e1, r⟩ := R.slot j v e
      exact ⟨x, by rw [wipe_out h] at e1; exact e1, r.keep hk⟩
  · obtain ⟨h1, h2⟩ := hown e
    obtain ⟨p, us, e1, e2, r, n⟩ := R.own j xs h2
    exact ⟨p, us, by rw [wipe_out h1] at e1; exact e1, e2, r.keep hk, n⟩
  · obtain ⟨h1, h2⟩ := hown e1
    obtain ⟨h3, h4⟩ := hown e2
    exact R.inj i j xs ys p h2 h4 (by rw [wipe_out h1]; exact e3) (by rw [wipe_out h3]; exact e4)
  · rw [rst_S]; exact R.mlen
  · rw [rst_S] at e1
    exact (R.obj n o p e1 e2).keep hk rfl
/-- one more hot thing outside of all that is written here -/
def addF (F : Hot) (D : Addr) : Hot := fun p => F p ∨ p = D
theorem Rl.outer {D : Addr} {us ws : List V} (R : Rl K (addF F D) m a σ H) (hD : H D = some (.lst us)) : Rl K (addF F D) m a σ (upd H D (.lst ws)) ∧ ∀ xs vs, Rps' K (addF F D) m a σ H xs vs → Rps' K (addF F D) m a σ (upd H D (.lst ws)) xs vs := by
  have hk : KeepR K H (upd H D (.lst ws)) (hotOf (addF F D) m a σ) (hotOf (addF F D) m a σ) m m := by
    refine ⟨fun b o vs e => ?_, fun b vs e n => ⟨?_, n⟩, fun _ _ e => e⟩
    · rw [upd_ne (fun q => by rw [q, hD] at e; cases e)]; exact e
    · have nb : b ≠ D := fun q => n (.inl (.inr q))
      rcases e with e | ⟨o, e⟩
      · exact .inl (by rw [upd_ne nb]; exact e)
      · exact .inr ⟨o, by rw [upd_ne nb]; exact e⟩
  refine ⟨⟨R.len, fun j v e => let ⟨x, e1, r⟩ := R.slot j v e; ⟨x, e1, r.keep hk⟩, fun j xs e => ?_, R.inj, R.mlen, fun n o p e1 e2 => (R.obj n o p e1 e2).keep hk (upd_ne fun q => R.mF p (List.mem_of_getElem? e2) (.inr q)), R.mnd, R.mF, fun p h => ?_⟩, fun xs vs r => r.keep hk⟩
  · obtain ⟨p, vs, e1, e2, r, n1, n2⟩ := R.own j xs e
    exact ⟨p, vs, e1, by rw [upd_ne fun q => n1 (.inr q)]; exact e2, r.keep hk, n1, n2⟩
  · by_cases q : p = D
    · rw [q]; exact .inl ⟨ws, upd_same⟩
    · unfold IsMut; rw [upd_ne q]; exact R.FH p h
/-- a new list becomes such a thing -/
theorem Rl.addNew {D : Addr} (R : Rl K F m a σ H) (hD : H D = none) : Rl K (addF F D) m a σ (upd H D (.lst [])) := by
  have R1 := R.new (o := .lst []) hD
  have nD : ∀ {b}, Loc' m a σ b → b ≠ D := fun l e => R.locSome l (e ▸ hD)
  have hk : KeepR K H (upd H D (.lst [])) (hotOf F m a σ) (hotOf (addF F D) m a σ) m m := by
    refine ⟨fun b o vs e => by rw [upd_ne (ne_of_none e hD)]; exact e, fun b vs e n => ?_, fun _ _ e => e⟩
    have nb : b ≠ D := fun q => by rcases e with e | ⟨o, e⟩ <;> rw [q, hD] at e <;> cases e
    refine ⟨?_, fun h => h.elim (fun h => h.elim (fun h => n (.inl h)) nb) fun h => n (.inr h)⟩
    rcases e with e | ⟨o, e⟩
    · exact .inl (by rw [upd_ne nb]; exact e)
    · exact .inr ⟨o, by rw [upd_ne nb]; exact e⟩
  refine ⟨R.len, fun j v e => let ⟨x, e1, r⟩ := R.slot j v e; ⟨x, e1, r.keep hk⟩, fun j xs e => ?_, R.inj, R.mlen, fun n o p e1 e2 => (R.obj n o p e1 e2).keep hk (upd_ne (nD (.inl (List.mem_of_getElem? e2)))), R.mnd, fun p hp h => h.elim (R.mF p hp) (nD (.inl hp)), fun p h => ?_⟩
  · obtain ⟨p, vs, e1, e2, r, n1, n2⟩ := R.own j xs e
    have np := nD (.inr ⟨j, xs, e, e1⟩)
    exact ⟨p, vs, e1, by rw [upd_ne np]; exact e2, r.keep hk, fun h => h.elim n1 np, n2⟩
  · rcases h with h | h
    · have np : p ≠ D := fun q => by rcases R.FH p h with ⟨_, z⟩ | ⟨_, z⟩ <;> rw [q, hD] at z <;> cases z
      unfold IsMut; rw [upd_ne np]; exact R.FH p h
    · rw [h]; exact .inl ⟨_, upd_same⟩
def del (H : Hp) (D : Addr) : Hp := fun b => if b = D then none else H b
theorem del_same {H : Hp} {D : Addr} : del H D D = none := by unfold del; rw [if_pos rfl]
theorem del_ne {H : Hp} {D b : Addr} (h : b ≠ D) : del H D b = H b := by unfold del; rw [if_neg h]
theorem upd_del {H : Hp} {D : Addr} {o : HO} (h : H D = some o) : upd (del H D) D o = H := by
  funext b
  by_cases e : b = D
  · rw [e, upd_same, h]
  · rw [upd_ne e, del_ne e]
theorem Rl.unhot {D : Addr} (nF : ¬ F D) (R : Rl K (addF F D) m a σ H) (hm : ∃ vs, H D = some (.lst vs)) : Rl K F m a σ (del H D) ∧ ∀ xs vs, Rps' K (addF F D) m a σ H xs vs → Rps' K F m a σ (del H D) xs vs := by
  obtain ⟨ws, hD⟩ := hm
  have hk : KeepR K H (del H D) (hotOf (addF F D) m a σ) (hotOf F m a σ) m m := by
    refine ⟨fun b o vs e => ?_, fun b vs e n => ?_, fun _ _ e => e⟩
    · rw [del_ne (fun q => by rw [q, hD] at e; cases e)]; exact e
    · have nb : b ≠ D := fun q => n (.inl (.inr q))
      refine ⟨?_, fun h => n (h.elim (fun h => .inl (.inl h)) .inr)⟩
      rcases e with e | ⟨o, e⟩
      · exact .inl (by rw [del_ne nb]; exact e)
      · exact .inr ⟨o, by rw [del_ne nb]; exact e⟩
  refine ⟨⟨R.len, fun j v e => let ⟨x, e1, r⟩ := R.slot j v e; ⟨x, e1, r.keep hk⟩, fun j xs e => ?_, R.inj, R.mlen, fun n o p e1 e2 => (R.obj n o p e1 e2).keep hk (del_ne fun q => R.mF p (List.mem_of_getElem? e2) (.inr q)), R.mnd, fun p hp h => R.mF p hp (.inl h), fun p h => ?_⟩, fun xs vs r => r.keep hk⟩
  · obtain ⟨p, vs, e1, e2, r, n1, n2⟩ := R.own j xs e
    exact ⟨p, vs, e1, by rw [del_ne fun q => n1 (.inr q)]; exact e2, r.keep hk, fun h => n1 (.inl h), n2⟩
  · have np : p ≠ D := fun q => nF (q ▸ h)
    unfold IsMut; rw [del_ne np]; exact R.FH p (.inl h)
end
/-- one target's slots are set: nothing else of the frame -/
theorem wipe_setIn {vs is : List Nat} {σ σ2 : L2.St} (h : SetIn is (wipe σ vs) σ2) (hs : ∀ i ∈ is, i ∈ vs) : wipe σ2 vs = wipe σ vs := by
  have one : ∀ (us : List Nat) (τ : L2.St) (j : Nat), (wipe τ us)[j]? = if j ∈ us ∧ j < τ.length then some none else τ[j]? := by
    intro us
    induction us with
    | nil => intro τ j; simp [wipe]
    | cons u us ih =>
      intro τ j
      show ((wipe τ us).set u none)[j]? = _
      by_cases e : j = u
      · subst e
        by_cases hj : j < τ.length
        · rw [List.getElem?_set_self (by rw [wipe_length]; exact hj), if_pos ⟨List.mem_cons_self, hj⟩]
        · rw [List.getElem?_eq_none (by simp [wipe_length]; omega), if_neg (fun q => hj q.2), List.getElem?_eq_none (by omega)]
      · rw [List.getElem?_set_ne (Ne.symm e), ih]
        by_cases h : j ∈ us ∧ j < τ.length
        · rw [if_pos h, if_pos ⟨List.mem_cons_of_mem _ h.1, h.2⟩]
        · rw [if_neg h, if_neg (fun q => h ⟨(List.mem_cons.mp q.1).elim (fun z => absurd z e) id, q.2⟩)]
  apply List.ext_getElem?
  intro j
  have hl : σ2.length = σ.length := h.1.trans (wipe_length _ _)
  rw [one, one]
  by_cases hj : j ∈ vs
  · by_cases hlt : j < σ.length
    · rw [if_pos ⟨hj, by rw [hl]; exact hlt⟩, if_pos ⟨hj, hlt⟩]
    · rw [if_neg (fun q => hlt (hl ▸ q.2)), if_neg (fun q => hlt q.2), List.getElem?_eq_none (by omega), List.getElem?_eq_none (by omega)]
  · rw [if_neg (fun q => hj q.1), if_neg (fun q => hj q.1), h.2 j (fun q => hj (hs j q)), wipe_out hj]
/-- behind a turn's target: the test, the element -/
def compT (tst : AS → Option (Bool × AS)) (elt : AS → Option (AV × AS)) (next : List AV → AS → Option (List AV × AS)) (acc : List AV) (a1 : AS) : Option (List AV × AS) :=
  (tst a1).bind fun r => if r.1 = true then (if acc.length < sizeLine then (elt r.2).bind fun q => next (acc ++ [q.1]) q.2 else none) else next acc r.2
def compL (vs : List Nat) (tg : Tg) (tst : AS → Option (Bool × AS)) (elt : AS → Option (AV × AS)) : List AV → List AV → AS → Option (List AV × AS)
  | [], acc, a => some (acc, a)
  | x :: xs, acc, a => (asgT tg x (clr a vs)).bind fun a1 => compT tst elt (compL vs tg tst elt xs) acc a1
def compR (vs : List Nat) (tg : Tg) (tst : AS → Option (Bool × AS)) (elt : AS → Option (AV × AS)) (n len : Nat) : Nat → List AV → AS → Option (List AV × AS)
  | 0, acc, a => if lenIs a n len = true then some (acc, a) else none
  | k + 1, acc, a => (itemAt a n len (len - (k + 1))).bind fun x => (asgT tg x (clr a vs)).bind fun a1 => compT tst elt (compR vs tg tst elt n len k) acc a1
theorem clr_S (a : AS) : ∀ vs : List Nat, (clr a vs).S = a.S
  | [] => rfl
  | v :: vs => clr_S a vs
/-- readings with any hot things outside -/
def xE (K : PySem.W.Frag) (G : Gm) (e : ME) : TE := fun σ H Q => ∃ F, tE K F G e σ H Q
def xM (K : PySem.W.Frag) (G : Gm) (e : MT) : TT := fun σ H Q => ∃ F, tM K F G e σ H Q
def xG (K : PySem.W.Frag) (tg : Tg) : TG := fun v σ H Q => ∃ F, tG K F tg v σ H Q
section
variable {X : Cx} {F : Hot} {G : Gm}
theorem pe_xE {x : Expr} {e : ME} (h : ∀ F, PE X x (tE X.K F G e)) : PE X x (xE X.K G e) := ⟨fun pins s σ H Q I ⟨F, q⟩ => (h F).run pins s σ H Q I q⟩
theorem pt_xM {x : Expr} {e : MT} (h : ∀ F, PT X x (tM X.K F G e)) : PT X x (xM X.K G e) := ⟨fun pins s σ H Q I ⟨F, q⟩ => (h F).run pins s σ H Q I q⟩
theorem pg_xG {x : Expr} {tg : Tg} (hc : X.calm = true) (hN : X.N.Nodup) (h : TgOk X x tg) : PG X x (xG X.K tg) := ⟨fun pins s σ H v u Q I r ⟨F, q⟩ => (pg_tg (F := F) hc hN h).run pins s σ H v u Q I r q⟩
theorem lc_gen {J : It} {g : TG} {n : Nat} {vs : List Nat} {tst : MT} {elt : ME} {m1 : List Addr} {a1 : AS} {σ : L2.St} {H1 : Hp} {rF : List AV × AS} {D : Addr} {Q : VK} (run : Nat → List AV → AS → Option (List AV × AS)) (asg : Nat → AS → Option AS)
    (R1 : Rl X.K F m1 a1 σ H1) (no : noOwn a1 vs = true) (hD : H1 D = none) (h0 : run 0 [] a1 = some rF)
    (kQ : ∀ p us H' m', Rl X.K F m' (rst a1 (clr rF.2 vs) vs) σ H' → Stp m1 a1 σ H1 m' (rst a1 (clr rF.2 vs) vs) σ H' → H' p = none → Rps' X.K F m' (rst a1 (clr rF.2 vs) vs) σ H' us rF.1 → Q (.ref p) (upd H' p (.lst us)))
    (hrun : ∀ i acc a r, i < n → run i acc a = some r → ∃ a', asg i a = some a' ∧ compT (tst G) (elt G) (run (i + 1)) acc a' = some r)
    (hend : ∀ acc a r, run n acc a = some r → r = (acc, a))
    (hstop : ∀ m a H acc r, Rl X.K (addF F D) m (clr a vs) (wipe σ vs) H → Stp m1 a1 σ H1 m (clr a vs) (wipe σ vs) H → run n acc a = some r → J.stop n H)
    (hgo : ∀ i m a H a', i < n → Rl X.K (addF F D) m (clr a vs) (wipe σ vs) H → Stp m1 a1 σ H1 m (clr a vs) (wipe σ vs) H → asg i a = some a' → J.go i H ∧ ∀ x H', J.yld i H x H' → ∀ Q : L2.St → Hp → Prop,
      (∀ σ' H'' m', wipe σ' vs = wipe σ vs → Rl X.K (addF F D) m' a' σ' H'' → Stp m (clr a vs) (wipe σ vs) H m' a' σ' H'' → Q σ' H'') → g x (wipe σ vs) H' Q) :
    ∃ W : Nat → Nat → Hp → Prop, (∃ m, W 0 m (upd H1 D (.lst []))) ∧ ∀ i m H, W i m H →
      (J.stop i H ∧ Q (.ref D) H) ∨ (J.go i H ∧ ∃ Nx : Hp → Prop, (∀ H', Nx H' → ∃ m', m' < m ∧ W (i + 1) m' H') ∧ ∀ x H', J.yld i H x H' → g x (wipe σ vs) H' fun σ2 H2 => wipe σ2 vs = wipe σ vs ∧ xM X.K G tst σ2 H2 fun b H3 =>
        if b = true then xE X.K G elt σ2 H3 fun y H4 => ∃ acc, H4 D = some (.lst acc) ∧ acc.length < sizeLine ∧ Nx (upd H4 D (.lst (acc ++ [y]))) else Nx H3) := by
  have nFD : ¬ F D := fun h => by rcases R1.FH D h with ⟨_, q⟩ | ⟨_, q⟩ <;> rw [hD] at q <;> cases q
  let Wm (m : List Addr) (a : AS) (us : List V) (acc : List AV) (i : Nat) (H : Hp) : Prop :=
    Rl X.K (addF F D) m (clr a vs) (wipe σ vs) H ∧ H D = some (.lst us) ∧ Rps' X.K (addF F D) m (clr a vs) (wipe σ vs) H us acc ∧ Stp m1 a1 σ H1 m (clr a vs) (wipe σ vs) H ∧ run i acc a = some rF
  refine ⟨fun i k H => i + k = n ∧ ∃ m a us acc, Wm m a us acc i H, ⟨n, by omega, m1, a1, [], [], ?_⟩, ?_⟩
  · obtain ⟨R2, s2⟩ := (R1.addNew hD).clr vs
    refine ⟨R2, upd_same, .nil, ?_, h0⟩
    obtain ⟨_, s3⟩ := R1.clr vs
    exact s3.trans (.new hD)
  · rintro i k H ⟨hik, m, a, us, acc, R, hus, hr, s, hrn⟩
    by_cases hi : i < n
    · refine .inr ?_
      obtain ⟨a', e1, e2⟩ := hrun i acc a rF hi hrn
      obtain ⟨h1, h2⟩ := hgo i m a H a' hi R s e1
      refine ⟨h1, fun H' => ∃ m a us acc, Wm m a us acc (i + 1) H', ?_, fun x H' hy => h2 x H' hy _ fun σ2 H2 m2 hw R2 s2 => ⟨hw, ?_⟩⟩
      · rintro H' ⟨m', a2, us', acc', hW⟩
        exact ⟨k - 1, by omega, by omega, m', a2, us', acc', hW⟩
      · obtain ⟨q, e3, e4⟩ := Option.bind_eq_some_iff.mp e2
        refine ⟨addF F D, m2, a', q, R2, e3, fun H3 m3 R3 s3 => ?_⟩
        have nloc : ∀ {m a σ H}, Rl X.K (addF F D) m a σ H → ¬ Loc' m a σ D := fun R l => l.elim (fun h => R.mF D h (.inr rfl)) fun ⟨j, xs, f1, f2⟩ => by
          obtain ⟨p, ws, f3, _, _, f4, _⟩ := R.own j xs f1
          rw [f2] at f3; cases f3
          exact f4 (.inr rfl)
        have hD3 : H3 D = some (.lst us) := (s2.trans s3).keep D _ hus (nloc R)
        have hr3 := hr.step R (s2.trans s3)
        have st3 := s.trans (s2.trans s3)
        split at e4
        · rename_i hb
          dsimp only
          rw [if_pos hb]
          split at e4
          · rename_i hlen
            obtain ⟨q2, e5, e6⟩ := Option.bind_eq_some_iff.mp e4
            refine ⟨addF F D, m3, q.2, q2, R3, e5, fun y H4 m4 R4 s4 r4 => ⟨us, s4.keep D _ hD3 (nloc R3), by rw [hr.length]; exact hlen, m4, q2.2, us ++ [y], acc ++ [q2.1], ?_⟩⟩
            have hD4 := s4.keep D _ hD3 (nloc R3)
            obtain ⟨R5, k5⟩ := R4.outer (ws := us ++ [y]) hD4
            obtain ⟨R6, s6⟩ := R5.clr vs
            have hr4 : Rps' X.K (addF F D) m4 q2.2 σ2 H4 (us ++ [y]) (acc ++ [q2.1]) := (hr3.step R3 s4).snoc r4
            have st4 := st3.trans s4
            rw [hw] at R6 s6
            refine ⟨R6, upd_same, (k5 _ _ hr4).step R5 s6, ?_, e6⟩
            have st5 : Stp m1 a1 σ H1 m4 q2.2 σ2 (upd H4 D (.lst (us ++ [y]))) := by
              refine ⟨st4.pre, fun b o e nl => ?_, fun b e => ?_, st4.locs⟩
              · rw [upd_ne (ne_of_none e hD)]; exact st4.keep b o e nl
              · by_cases q : b = D
                · rw [q, upd_same]; simp
                · rw [upd_ne q]; exact st4.dom b e
            exact st5.trans s6
          · cases e4
        · rename_i hb
          dsimp only
          rw [if_neg hb]
          refine ⟨m3, q.2, us, acc, ?_⟩
          obtain ⟨R6, s6⟩ := R3.clr vs
          rw [hw] at R6 s6
          exact ⟨R6, hD3, hr3.step R3 s6, st3.trans s6, e4⟩
    · have e : i = n := by omega
      subst e
      refine .inl ⟨hstop m a H acc _ R s hrn, ?_⟩
      have e := hend acc a rF hrn
      subst e
      obtain ⟨R2, k2⟩ := R.unhot nFD ⟨us, hus⟩
      have hr2 := k2 _ _ hr
      have s2 : Stp m1 a1 σ H1 m (clr a vs) (wipe σ vs) (del H D) := by
        refine ⟨s.pre, fun b o e nl => ?_, fun b e => ?_, s.locs⟩
        · rw [del_ne (ne_of_none e hD)]; exact s.keep b o e nl
        · rw [del_ne (fun q => e (by rw [q]; exact hD))]; exact s.dom b e
      obtain ⟨R3, s3, k3⟩ := Rl.rst R1 R2 s2 no
      have hr3 : Rps' X.K F m (rst a1 (clr a vs) vs) σ (del H D) us acc := by
        have all : ∀ {us : List V} {acc : List AV}, Rps' X.K F m (clr a vs) (wipe σ vs) (del H D) us acc → Rps' X.K F m (rst a1 (clr a vs) vs) σ (del H D) us acc := by
          intro us acc r
          induction acc generalizing us with
          | nil => cases r; exact .nil
          | cons c acc ih => cases r with | cons r t => exact .cons (k3 _ _ r) (ih t)
        exact all hr2
      have := kQ D us (del H D) m R3 s3 del_same hr3
      rw [upd_del hus] at this
      exact this

def compV (vs : List Nat) (tg : Tg) (tst : AS → Option (Bool × AS)) (elt : AS → Option (AV × AS)) (a : AS) : AV → Option (List AV × AS)
  | .lst xs => compL vs tg tst elt xs [] a
  | .tup xs => compL vs tg tst elt xs [] a
  | .ref n => match a.S[n]? with
    | some (.lst xs) => compR vs tg tst elt n xs.length xs.length [] a
    | _ => none
  | _ => none
def fComp (it : ME) (vs : List Nat) (tg : Tg) (tst : MT) (elt : ME) : MAs := fun G a => (it G a).bind fun r => if noOwn r.2 vs = true then (compV vs tg (tst G) (elt G) r.2 r.1).map fun q => (q.1, rst r.2 (clr q.2 vs) vs) else none
def fCompR (rg : List AV → Option (Int × Nat)) (t : MAs) (vs : List Nat) (tg : Tg) (tst : MT) (elt : ME) : MAs := fun G a => (t G a).bind fun r => if noOwn r.2 vs = true then (rg r.1).bind fun p => (compL vs tg (tst G) (elt G) (rgA p.1 p.2) [] r.2).map fun q => (q.1, rst r.2 (clr q.2 vs) vs) else none
theorem compL_step {vs : List Nat} {tg : Tg} {tst : AS → Option (Bool × AS)} {elt : AS → Option (AV × AS)} {xs acc : List AV} {i : Nat} {a : AS} {r : List AV × AS} (hi : i < xs.length) (h : compL vs tg tst elt (xs.drop i) acc a = some r) :
    ∃ a', (xs[i]?.bind fun x => asgT tg x (clr a vs)) = some a' ∧ compT tst elt (compL vs tg tst elt (xs.drop (i + 1))) acc a' = some r := by
  rw [List.drop_eq_getElem_cons hi] at h
  obtain ⟨a', e1, e2⟩ := Option.bind_eq_some_iff.mp h
  exact ⟨a', by rw [List.getElem?_eq_getElem hi]; exact e1, e2⟩
/-- what the block's own target gives -/
theorem tg_turn {tg : Tg} {vs : List Nat} (hsl : ∀ i ∈ tg.slots, i ∈ vs) {D : Addr} {m : List Addr} {a a' : AS} {σ : L2.St} {H : Hp} {x : V} {c : AV} {Q : L2.St → Hp → Prop} (R : Rl X.K (addF F D) m (clr a vs) (wipe σ vs) H) (r : Rp' X.K (addF F D) m (clr a vs) (wipe σ vs) H x c) (e : asgT tg c (clr a vs) = some a')
    (hQ : ∀ σ' H'' m', wipe σ' vs = wipe σ vs → Rl X.K (addF F D) m' a' σ' H'' → Stp m (clr a vs) (wipe σ vs) H m' a' σ' H'' → Q σ' H'') : xG X.K tg x (wipe σ vs) H Q :=
  ⟨addF F D, m, clr a vs, c, a', R, r, e, fun σ' hs R' s' => hQ σ' H m (wipe_setIn hs hsl) R' s'⟩
section
variable {it elt tgE : Expr} {ifs : List Expr} {scope : Scope} {own : List (Str × Nat)} {pos : Pos} {tg : Tg} {tst : MT} {me : ME}
/-- what is known of the block: its names, its target, its tests and its element, wherever it runs -/
structure BlkG (X : Cx) (G : Gm) (scope : Scope) (own : List (Str × Nat)) (tgE : Expr) (ifs : List Expr) (elt : Expr) (tg : Tg) (tst : MT) (me : ME) : Prop where
  ok : BlkOk X.N X.env.scope scope own
  hg : ∀ (s : Shared) (H : Hp) (C : Addr) (cl : List (Str × Addr)) (fp : List Addr), PG (X.blk s H scope (compEnvC scope cl C X.env) fp) tgE (xG X.K tg)
  ht : ∀ (s : Shared) (H : Hp) (C : Addr) (cl : List (Str × Addr)) (fp : List Addr), PTs (X.blk s H scope (compEnvC scope cl C X.env) fp) ifs (xM X.K G tst)
  he : ∀ (s : Shared) (H : Hp) (C : Addr) (cl : List (Str × Addr)) (fp : List Addr), PE (X.blk s H scope (compEnvC scope cl C X.env) fp) elt (xE X.K G me)
  sl : ∀ i ∈ tg.slots, i ∈ own.map (·.2)
def tComp (K : PySem.W.Frag) (G : Gm) (wi : TI) (tg : Tg) (tst : MT) (me : ME) (vs : List Nat) : TE := tLc wi (xG K tg) (xM K G tst) (xE K G me) vs
theorem Rps.stepD {K : PySem.W.Frag} {D : Addr} {m m1 : List Addr} {a a1 : AS} {σ σ1 : L2.St} {H H1 : Hp} (R : Rl K F m a σ H) (s : Stp m a σ H m1 a1 σ1 H1) (hD : H D = none) {x : List V} {v : List AV} (r : Rps' K F m a σ H x v) : Rps' K (addF F D) m1 a1 σ1 H1 x v := by
  have k := R.keeps s
  refine Rps.keep ⟨k.tup, fun b vs e n => ⟨(k.lst b vs e n).1, fun h => ?_⟩, k.pre⟩ r
  rcases h with (h | h) | h
  · exact (k.lst b vs e n).2 (.inl h)
  · rcases e with e | ⟨o, e⟩ <;> rw [h, hD] at e <;> cases e
  · exact (k.lst b vs e n).2 (.inr h)
theorem comp_read {e : ME} {vs : List Nat} {σ : L2.St} {H : Hp} {Q : VK} (hsl : ∀ i ∈ tg.slots, i ∈ vs) (h : tF X.K F G (fComp e vs tg tst me) σ H Q) :
    tComp X.K G (iList X.K (tE X.K F G e)) tg tst me vs σ H Q ∨ tComp X.K G (iTup X.K (tE X.K F G e)) tg tst me vs σ H Q := by
  obtain ⟨m, a, r, R, e, k⟩ := h
  obtain ⟨q, e1, e2⟩ := Option.bind_eq_some_iff.mp e
  split at e2
  · rename_i no
    obtain ⟨rF, e3, e4⟩ := Option.map_eq_some_iff.mp e2
    subst e4
    obtain ⟨v, a1⟩ := q
    cases v with
    | lst xs =>
      have e3' : compL vs tg (tst G) (me G) xs [] a1 = some rF := e3
      refine .inl ⟨m, a, (.lst xs, a1), R, e1, fun x H1 m1 R1 s1 r1 => ?_⟩
      obtain ⟨p, us, rfl, rr, hst⟩ := r1.lstI
      · refine ⟨p, rfl, ⟨us, hst .refl⟩, fun D hD => ?_⟩
        refine lc_gen (F := F) (n := xs.length) (fun i acc a => compL vs tg (tst G) (me G) (xs.drop i) acc a) (fun i a => xs[i]?.bind fun x => asgT tg x (clr a vs)) R1 no hD (by simpa using e3') (fun p us H' m' R' s' hp r' => k p us H' m' R' (s1.trans s') hp r') (fun i acc a r hi h => compL_step hi h) (fun acc a r h => by rw [List.drop_length] at h; cases h; rfl) (fun m a H acc r R s h => ?_) (fun i m a H a' hi R s h => ?_)
        · exact ⟨us, hst s, by rw [rr.length]; exact Nat.le_refl _⟩
        · have hl' := hst s
          obtain ⟨c, e5, e6⟩ := Option.bind_eq_some_iff.mp h
          obtain ⟨x, e7, rx⟩ := (rr.stepD R1 s hD).get e5
          refine ⟨⟨us, x, hl', e7⟩, fun y H' hy Q hQ => ?_⟩
          obtain ⟨rfl, hy⟩ := hy
          have := hy us hl'
          rw [e7] at this; cases this
          exact tg_turn hsl R rx e6 hQ
    | tup xs =>
      have e3' : compL vs tg (tst G) (me G) xs [] a1 = some rF := e3
      refine .inr ⟨m, a, (.tup xs, a1), R, e1, fun x H1 m1 R1 s1 r1 => ?_⟩
      cases r1 with
      | tup hl rr =>
        rename_i p us
        refine ⟨p, rfl, ⟨us, hl.sqT⟩, fun D hD => ?_⟩
        refine lc_gen (F := F) (n := xs.length) (fun i acc a => compL vs tg (tst G) (me G) (xs.drop i) acc a) (fun i a => xs[i]?.bind fun x => asgT tg x (clr a vs)) R1 no hD (by simpa using e3') (fun p us H' m' R' s' hp r' => k p us H' m' R' (s1.trans s') hp r') (fun i acc a r hi h => compL_step hi h) (fun acc a r h => by rw [List.drop_length] at h; cases h; rfl) (fun m a H acc r R s h => ?_) (fun i m a H a' hi R s h => ?_)
        · exact ⟨us, (TupZ.stay R1 s hl).sqT, by rw [rr.length]; exact Nat.le_refl _⟩
        · have hl' := (TupZ.stay R1 s hl).sqT
          obtain ⟨c, e5, e6⟩ := Option.bind_eq_some_iff.mp h
          obtain ⟨x, e7, rx⟩ := (rr.stepD R1 s hD).get e5
          refine ⟨⟨us, x, hl', e7⟩, fun y H' hy Q hQ => ?_⟩
          obtain ⟨rfl, hy⟩ := hy
          have := hy us hl'
          rw [e7] at this; cases this
          exact tg_turn hsl R rx e6 hQ
    | ref n =>
      have e3' : (match a1.S[n]? with | some (.lst xs) => compR vs tg (tst G) (me G) n xs.length xs.length [] a1 | _ => none) = some rF := e3
      split at e3'
      · rename_i xs hxs
        refine .inl ⟨m, a, (.ref n, a1), R, e1, fun x H1 m1 R1 s1 r1 => ?_⟩
        cases r1 with
        | ref hm =>
          rename_i p
          obtain ⟨us, g1, g2⟩ := R1.obj n _ _ hxs hm
          refine ⟨p, rfl, ⟨us, .inl (.inl g1)⟩, fun D hD => ?_⟩
          have at_ : ∀ {m a σ' H} {ys : List AV}, Rl X.K (addF F D) m (clr a vs) σ' H → Stp m1 a1 σ H1 m (clr a vs) σ' H → a.S[n]? = some (.lst ys) → ∃ us, H p = some (.lst us) ∧ Rps' X.K (addF F D) m (clr a vs) σ' H us ys := fun R s h => R.obj n (.lst _) _ (by rw [clr_S]; exact h) (s.pre _ _ hm)
          refine lc_gen (F := F) (n := xs.length) (fun i acc a => compR vs tg (tst G) (me G) n xs.length (xs.length - i) acc a) (fun i a => (itemAt a n xs.length i).bind fun x => asgT tg x (clr a vs)) R1 no hD (by simpa using e3') (fun p us H' m' R' s' hp r' => k p us H' m' R' (s1.trans s') hp r') (fun i acc a r hi h => ?_) (fun acc a r h => ?_) (fun m a H acc r R s h => ?_) (fun i m a H a' hi R s h => ?_)
          · have e : xs.length - i = (xs.length - (i + 1)) + 1 := by omega
            rw [e] at h
            obtain ⟨x, e5, h⟩ := Option.bind_eq_some_iff.mp h
            obtain ⟨a', e6, h⟩ := Option.bind_eq_some_iff.mp h
            have e7 : xs.length - (xs.length - (i + 1) + 1) = i := by omega
            rw [e7] at e5
            exact ⟨a', by rw [e5]; exact e6, h⟩
          · rw [Nat.sub_self] at h
            have h' : (if lenIs a n xs.length = true then some (acc, a) else none) = some r := h
            split at h' <;> cases h'
            rfl
          · rw [Nat.sub_self] at h
            have h' : (if lenIs a n xs.length = true then some (acc, a) else none) = some r := h
            split at h'
            · rename_i hl
              unfold lenIs at hl
              split at hl
              · rename_i ys hy
                obtain ⟨us', g3, g4⟩ := at_ R s hy
                exact ⟨us', .inl (.inl g3), by rw [g4.length]; exact Nat.le_of_eq (by simpa using hl)⟩
              · cases hl
            · cases h'
          · obtain ⟨c, e5, e6⟩ := Option.bind_eq_some_iff.mp h
            unfold itemAt at e5
            split at e5
            · rename_i ys hy
              split at e5
              · obtain ⟨us', g3, g4⟩ := at_ R s hy
                obtain ⟨x, e7, rx⟩ := g4.get e5
                refine ⟨⟨us', x, .inl (.inl g3), e7⟩, fun y H' hy Q hQ => ?_⟩
                obtain ⟨rfl, hy⟩ := hy
                have := hy us' (.inl (.inl g3))
                rw [e7] at this; cases this
                exact tg_turn hsl R rx e6 hQ
              · cases e5
            · cases e5
      · cases e3'
    | _ => cases e3
  · cases e2
theorem compR_read {u : MAs} {rg : List AV → Option (Int × Nat)} {vs : List Nat} {σ : L2.St} {H : Hp} {Q : VK} {wi : TI} (hsl : ∀ i ∈ tg.slots, i ∈ vs) (h : tF X.K F G (fCompR rg u vs tg tst me) σ H Q)
    (hw : ∀ R : It → Hp → Prop, (∃ m a r p, Rl X.K F m a σ H ∧ u G a = some r ∧ rg r.1 = some p ∧ ∀ xs H' m', Rl X.K F m' r.2 σ H' → Stp m a σ H m' r.2 σ H' → Rps' X.K F m' r.2 σ H' xs r.1 → R (Itr p.1 p.2) H') → wi σ H R) : tComp X.K G wi tg tst me vs σ H Q := by
  obtain ⟨m, a, r, R, e, k⟩ := h
  obtain ⟨q, e1, e2⟩ := Option.bind_eq_some_iff.mp e
  split at e2
  · rename_i no
    obtain ⟨b, e3, e4⟩ := Option.bind_eq_some_iff.mp e2
    obtain ⟨rF, e5, e6⟩ := Option.map_eq_some_iff.mp e4
    subst e6
    refine hw _ ⟨m, a, q, b, R, e1, e3, fun xs H1 m1 R1 s1 r1 => ?_⟩
    intro D hD
    refine lc_gen (F := F) (n := b.2) (fun i acc a => compL vs tg (tst G) (me G) ((rgA b.1 b.2).drop i) acc a) (fun i a => (rgA b.1 b.2)[i]?.bind fun x => asgT tg x (clr a vs)) R1 no hD (by simpa using e5) (fun p us H' m' R' s' hp r' => k p us H' m' R' (s1.trans s') hp r') (fun i acc a r hi h => compL_step (by rw [rgA_length]; exact hi) h) (fun acc a r h => ?_) (fun m a H acc r R s h => Nat.le_refl _) (fun i m a H a' hi R s h => ⟨hi, fun x H' hy Q hQ => ?_⟩)
    · rw [List.drop_eq_nil_of_le (by rw [rgA_length]; exact Nat.le_refl _)] at h
      cases h; rfl
    · obtain ⟨rfl, rfl⟩ := hy
      rw [rgA_get hi] at h
      exact tg_turn hsl R (.int _) h hQ
  · cases e2
/-- over a list or a tuple -/
theorem pe_fComp {e : ME} (hc : X.calm = true) (hN : X.N.Nodup) (hi : PE X it (tE X.K F G e)) (B : BlkG X G scope own tgE ifs elt tg tst me) (hs : notSet it = true) :
    PE X (.ListComp elt [⟨tgE, it, ifs, 0⟩] scope pos) (tF X.K F G (fComp e (own.map (·.2)) tg tst me)) :=
  (PE.or (pe_lc hc hN (pi_list hi) B.ok B.hg B.ht B.he (foldedSet_no hs)) (pe_lc hc hN (pi_tup hi) B.ok B.hg B.ht B.he (foldedSet_no hs))).weak fun _ _ _ h => comp_read B.sl h
theorem pe_fCompR1 {x : Expr} {u : MAs} {p p2 : Pos} (hc : X.calm = true) (hN : X.N.Nodup) (hg : Gl X "range") (hm : X.mg "range" = none) (he : PA X [x] (tAs X.K F G u)) (hx : notStar x = true) (B : BlkG X G scope own tgE ifs elt tg tst me) :
    PE X (.ListComp elt [⟨tgE, .Call (.Name "range" p) [x] [] p2, ifs, 0⟩] scope pos) (tF X.K F G (fCompR asR1 u (own.map (·.2)) tg tst me)) :=
  (pe_lc hc hN (pi_range1 hg hm he (star_cons hx)) B.ok B.hg B.ht B.he).weak fun σ H Q h => compR_read B.sl h fun R ⟨m, a, r, p, R0, e, hp, k⟩ => by
    obtain ⟨l, a1⟩ := r
    obtain ⟨j, rfl, h1, h2, rfl⟩ := asR1_of hp
    exact ⟨m, a, _, R0, e, fun xs H1 m1 R1 s1 r1 => ⟨j, rps_ints1 r1, h1, h2, k xs H1 m1 R1 s1 r1⟩⟩
theorem pe_fCompR2 {x y : Expr} {u : MAs} {p p2 : Pos} (hc : X.calm = true) (hN : X.N.Nodup) (hg : Gl X "range") (hm : X.mg "range" = none) (he : PA X [x, y] (tAs X.K F G u)) (hx : notStar x = true) (hy : notStar y = true) (B : BlkG X G scope own tgE ifs elt tg tst me) :
    PE X (.ListComp elt [⟨tgE, .Call (.Name "range" p) [x, y] [] p2, ifs, 0⟩] scope pos) (tF X.K F G (fCompR asR2 u (own.map (·.2)) tg tst me)) := by
  have hs2 : starEach [y] X.env = [(false, eval y X.env)] := star_cons hy
  have hs : starEach [x, y] X.env = [(false, eval x X.env), (false, eval y X.env)] := by rw [star_cons hx, hs2]
  exact (pe_lc hc hN (pi_range2 hg hm he hs hs2) B.ok B.hg B.ht B.he).weak fun σ H Q h => compR_read B.sl h fun R ⟨m, a, r, p, R0, e, hp, k⟩ => by
    obtain ⟨l, a1⟩ := r
    obtain ⟨i, j, rfl, h1, rfl⟩ := asR2_of hp
    exact ⟨m, a, _, R0, e, fun xs H1 m1 R1 s1 r1 => ⟨i, j, rps_ints2 r1, h1, k xs H1 m1 R1 s1 r1⟩⟩
/-- name = [..] on one line: the same, by the layer's own rule -/
theorem setLc_of {i : Nat} {y : Str} {py spos : Pos} {wi : TI} {f : MAs} {vs : List Nat} (h : PS X (.Assign [.Name y py] (.ListComp elt [⟨tgE, it, ifs, 0⟩] scope pos) spos) (tAsg (tComp X.K G wi tg tst me vs) (gName i)))
    (hw : ∀ σ H Q, tF X.K F G f σ H Q → tComp X.K G wi tg tst me vs σ H Q) :
    PS X (.Assign [.Name y py] (.ListComp elt [⟨tgE, it, ifs, 0⟩] scope pos) spos) (tS X.K F G (sOwn i f)) ∧ PS X (.Assign [.Name y py] (.ListComp elt [⟨tgE, it, ifs, 0⟩] scope pos) spos) (tS X.K F G (sAsg i (eFrz f))) ∧ PS X (.Assign [.Name y py] (.ListComp elt [⟨tgE, it, ifs, 0⟩] scope pos) spos) (tS X.K F G (sAsg i (eLay f))) := by
  refine ⟨h.weak fun D σ H ⟨m, a, r, R, e, k⟩ => ?_, h.weak fun D σ H ⟨m, a, r, R, e, k⟩ => ?_, h.weak fun D σ H ⟨m, a, r, R, e, k⟩ => ?_⟩
  · obtain ⟨q, e1, e2⟩ := Option.map_eq_some_iff.mp e
    subst e2
    exact hw σ H _ ⟨m, a, q, R, e1, fun p vs H' m' R' s' hp r' => k _ _ m' (R'.putOwn hp r') (s'.trans (Rl.putOwnStp hp))⟩
  · obtain ⟨q, e1, e2⟩ := Option.map_eq_some_iff.mp e
    subst e2
    obtain ⟨q', e3, e4⟩ := Option.map_eq_some_iff.mp e1
    subst e4
    exact hw σ H _ ⟨m, a, q', R, e3, fun p vs H' m' R' s' hp r' => k _ _ m' ((R'.new hp).put (R'.newLst hp r')) ((s'.trans (.new hp)).trans (Rl.putStp (R'.new (o := .lst vs) hp).len))⟩
  · obtain ⟨q, e1, e2⟩ := Option.map_eq_some_iff.mp e
    subst e2
    obtain ⟨q', e3, e4⟩ := Option.map_eq_some_iff.mp e1
    subst e4
    exact hw σ H _ ⟨m, a, q', R, e3, fun p vs H' m' R' s' hp r' => k _ _ (m' ++ [p]) ((R'.layLst hp r').put R'.layRef) ((s'.trans (Rl.layStp hp)).trans (Rl.putStp (R'.layLst hp r').len))⟩
end
end
end Pyx
end
section
set_option maxRecDepth 100000
set_option maxHeartbeats 1000000
/-! enumerate(t) of a tuple -/
namespace Pyx
open PySem L2
open PySem.Spec PyProof.Rows
section
variable {P : Program} {w : World} {A : Around} {s : Shared} {it t : Addr} {xs : Array Value} {k : Nat}
/-- one draw of a tuple's iterator, at the level of its own built-in -/
theorem tupDraw {R : Value → Shared → Prop} {E : Value → Shared → Prop} (a : s.heap.IsTupleIter it t k) (b : s.heap.IsTuple t xs) {x : Value} (e : xs[k]? = some x)
    (q : ∀ h, h.IsTupleIter it t (k + 1) → Heap.SameBut it s.heap h → R x { s with heap := h }) :
    wpAny (model P w) A (Builtin.SmallTypes.nextOf (.ref it)) R E s := by
  have ty := a.typeIs
  obtain ⟨oi, ei, ci, di⟩ := a
  obtain ⟨_, et, _, _, dt⟩ := b
  unfold Builtin.SmallTypes.nextOf
  apply wpAny_bind
  apply wpAny_callSpecial?_slot (name := Str.ofString "__next__") ty F.slot_tuple_iterator_next
  apply wpAny_call_entry F.slot_tuple_iterator_next ty F.entry_tuple_iterator_next _ (F.args_tuple_iterator_next_1 _)
  show wpAny _ _ (field (Value.ref it) 0 >>= _) _ _ _
  refine wpAny_bind (wpAny_field (x := .ref t) ei di rfl ?_)
  show wpAny _ _ (if (Value.ref t == .none) = true then _ else _) _ _ _
  rw [if_neg (by exact Bool.false_ne_true)]
  show wpAny _ _ (field (Value.ref it) 1 >>= _) _ _ _
  refine wpAny_bind (wpAny_field (x := .int k 0) ei di rfl ?_)
  show wpAny _ _ (seqItems? (Value.ref t) >>= _) _ _ _
  refine wpAny_bind (wpAny_seqItems et dt ?_)
  simp only [Int.toNat_natCast, e]
  refine wpAny_bind (wpAny_setField ei di (by simp) (wpAny_pure ⟨x, rfl, ?_⟩))
  refine wpAny_pure (q _ ⟨_, Heap.get?_update_self _ ei (Obj.isFreed_of_fields (Obj.data_mapFields di _)), (Obj.cls_mapFields ..).trans ci, ?_⟩ (Heap.SameBut.update ..))
  rw [Obj.data_mapFields di]
  simp [rawInt]
theorem tupDone {R : Value → Shared → Prop} {E : Value → Shared → Prop} (free : A.handled = none) (a : s.heap.IsTupleIter it t k) (b : s.heap.IsTuple t xs) (e : xs[k]? = none)
    (q : ∀ h x, Heap.ExtBut it s.heap h → (∃ o, h.get? x = some o ∧ o.cls = .type "StopIteration") → E (.ref x) { s with heap := h }) :
    wpAny (model P w) A (Builtin.SmallTypes.nextOf (.ref it)) R E s := by
  have ty := a.typeIs
  obtain ⟨oi, ei, ci, di⟩ := a
  obtain ⟨_, et, _, _, dt⟩ := b
  unfold Builtin.SmallTypes.nextOf
  apply wpAny_bind
  apply wpAny_callSpecial?_slot (name := Str.ofString "__next__") ty F.slot_tuple_iterator_next
  apply wpAny_call_entry F.slot_tuple_iterator_next ty F.entry_tuple_iterator_next _ (F.args_tuple_iterator_next_1 _)
  show wpAny _ _ (field (Value.ref it) 0 >>= _) _ _ _
  refine wpAny_bind (wpAny_field (x := .ref t) ei di rfl ?_)
  show wpAny _ _ (if (Value.ref t == .none) = true then _ else _) _ _ _
  rw [if_neg (by exact Bool.false_ne_true)]
  show wpAny _ _ (field (Value.ref it) 1 >>= _) _ _ _
  refine wpAny_bind (wpAny_field (x := .int k 0) ei di rfl ?_)
  show wpAny _ _ (seqItems? (Value.ref t) >>= _) _ _ _
  refine wpAny_bind (wpAny_seqItems et dt ?_)
  simp only [Int.toNat_natCast, e]
  apply wpAny_bind
  apply wpAny_rule
  refine wpAny_bind (wpAny_setField ei di (by simp) ?_)
  show wpAny _ _ (newExc (Value.type "StopIteration") [] >>= _) _ _ _
  apply wpAny_bind
  simp only [newExc, newTuple]
  apply wpAny_bind
  refine wpAny_newObj_type ?_ (by size_fits)
  refine wpAny_bind (m := firstArgMember _ _) (wpAny_of_eq (a := .none) (by simp only [firstArgMember]; rfl) ?_)
  refine wpAny_newObj_type ?_ (by size_fits)
  simp only [raiseNew]
  apply wpAny_bind
  apply wpAny_handled
  rw [show A.in1.handled = none from free]
  refine wpAny_throw ?_
  exact q _ _ (((Heap.SameBut.update ..).extBut.push _).push _) ⟨_, Heap.get?_push_size _ rfl, rfl⟩
end
theorem drawsTup {P : Program} {w : World} {A : Around} (free : A.handled = none) (it t : Addr) (ne : t ≠ it) (xs : Array Value) :
    Draws P w A it [it, t] xs.size (fun k v => xs[k]? = some v) (fun k h => h.IsTupleIter it t k ∧ h.IsTuple t xs) where
  live := fun _ _ ⟨⟨o, e, _⟩, _⟩ => ⟨o, e⟩
  frame := fun _ _ _ ⟨⟨o, e, r⟩, ⟨o2, e2, r2⟩⟩ k => ⟨⟨o, k it List.mem_cons_self o e, r⟩, ⟨o2, k t (List.mem_cons_of_mem _ List.mem_cons_self) o2 e2, r2⟩⟩
  item := fun k s Q E lt ⟨a, b⟩ q => tupDraw a b (Array.getElem?_eq_getElem lt) fun h a' same => q _ h s.toks (Array.getElem?_eq_getElem lt) ⟨a', b.extBut same.extBut ne⟩ same
  done := fun s Q E ⟨a, b⟩ q => tupDone free a b (by simp) q
section
variable {P : Program} {w : World} {A : Around} {E : Value → Shared → Prop} {s : Shared}
theorem meets_enumTup (l : Addr) (xs : Array Value) (n : Nat) (dd : Option Addr) (sl : Array (Option Value)) :
    Meets (Builtin.«enumerate.__new__» ⟨[.type "enumerate", .ref l], []⟩) (fun _ R s => s.heap.get? l = some { cls := .type "tuple", dict := dd, data := .seq xs n, slots := sl } ∧
      R (.ok (.ret (.ref (s.heap.push { cls := .type "tuple_iterator", data := .fields #[.ref l, .int 0 0] }).objs.size)))
        { s with heap := (s.heap.push { cls := .type "tuple_iterator", data := .fields #[.ref l, .int 0 0] }).push { cls := .type "enumerate", data := .fields #[.none, .bool false, .ref s.heap.objs.size, rawInt 0, .none, .none] } }) := by
  refine .of_wp fun P w A R s hs => ?_
  obtain ⟨hp, g, d, tk, os⟩ := s
  obtain ⟨hl, h⟩ := hs
  have sub := sub_enumerate
  have isT : Heap.IsTuple (Shared.heap ⟨hp, g, d, tk, os⟩) l xs := ⟨_, hl, rfl, n, rfl⟩
  wp_walk using AutoSeq1.wpAny_loadPart' hl
  refine wpAny_stack_any fun st => wpAny_pure ?_
  split
  · rename_i c _ _ _ _ _
    cases (c == Value.type "enumerate") <;>
    · wp_walk using AutoSeq1.wpAny_loadPart' hl, wpAny_pyIter_tuple isT
      exact ⟨_, rfl, h⟩
  · wp_walk using AutoSeq1.wpAny_loadPart' hl, wpAny_pyIter_tuple isT
    exact ⟨_, rfl, h⟩
theorem call_enumTup {l : Addr} {xs : Array Value} {Q : Value → Shared → Prop} (a : s.heap.IsTuple l xs)
    (q : ∀ h, IsEnum h (s.heap.objs.size + 1) s.heap.objs.size 0 .none → h.IsTupleIter s.heap.objs.size l 0 → (∀ b o, s.heap.get? b = some o → h.get? b = some o) → Q (.ref (s.heap.objs.size + 1)) { s with heap := h }) :
    wpAny (model P w) A (PySem.call (.type "enumerate") [.ref l]) Q E s := by
  obtain ⟨⟨c, dd, dt, sl⟩, hl, hc, n, hd⟩ := a
  cases hc; cases hd
  refine callType_new F.called_enumerate (by decide) (F.typeCall_enumerate_1 _) (F.newCall_enumerate_1 _) (fun obj => F.args_object_init_2 obj _) F.entry_enumerate_new (meets_enumTup l xs n dd sl) ⟨hl, ?_⟩
  have z : (s.heap.push { cls := .type "tuple_iterator", data := .fields #[.ref l, .int 0 0] }).objs.size = s.heap.objs.size + 1 := Heap.size_push ..
  have en : IsEnum ((s.heap.push { cls := .type "tuple_iterator", data := .fields #[.ref l, .int 0 0] }).push { cls := .type "enumerate", data := .fields #[.none, .bool false, .ref s.heap.objs.size, rawInt 0, .none, .none] }) (s.heap.objs.size + 1) s.heap.objs.size 0 .none := by
    rw [← z]
    exact Heap.get?_push_size _ rfl
  show _ ∧ _
  rw [z]
  exact ⟨⟨_, en, rfl⟩, q _ en ⟨_, Heap.get?_push_of_some _ (Heap.get?_push_size _ rfl), rfl, rfl⟩ fun b o e => Heap.get?_push_of_some _ (Heap.get?_push_of_some _ e)⟩
end
/-- the items of the tuple at t, each in a new pair -/
def ItT (K : PySem.W.Frag) (t : Addr) : It :=
  ⟨fun k H => ∃ (xs : List V) (x : V), SqT K H t xs ∧ xs[k]? = some x, fun k H v H' => ∃ p x, v = .ref p ∧ H p = none ∧ H' = upd H p (.tup [.int (k : Nat), x]) ∧ ∀ xs, SqT K H t xs → xs[k]? = some x, fun k H => ∃ xs : List V, SqT K H t xs ∧ xs.length ≤ k⟩
theorem turn_enumT {P : Program} {w : World} {K : PySem.W.Frag} {es : List Expr} {kk : Nat} {tp : Pos} (t e it : Addr) :
    Turn P w K (.Tuple es kk tp) (ItT K t) [e, it] e (fun k h => (∃ old, IsEnum h e it ((k : Nat) : Int) old) ∧ h.IsTupleIter it t k ∧ e ≠ it ∧ t ≠ it ∧ t ≠ e) where
  mem := List.mem_cons_self
  obj := fun k h ⟨⟨old, en⟩, ⟨o, ho, _, hd⟩, _⟩ b hb => by
    rcases List.mem_cons.mp hb with rfl | hb
    · exact ⟨_, en, fun v q => nomatch q⟩
    · rw [List.mem_singleton.mp hb]
      exact ⟨o, ho, fun v q => by rw [hd] at q; cases q⟩
  keep := fun k h h' ⟨⟨old, en⟩, ⟨o, ho, r⟩, ne⟩ kp => ⟨⟨old, kp e List.mem_cons_self _ en⟩, ⟨o, kp it (List.mem_cons_of_mem _ List.mem_cons_self) o ho, r⟩, ne⟩
  item := by
    intro X hP hw hK hc k pins s σ H E I hf st hg
    subst hP hw hK
    obtain ⟨⟨old, en⟩, ti, ne, n2, n3⟩ := st
    obtain ⟨xs, x, hq, hx⟩ := hg
    obtain ⟨its, rv, pl, _⟩ := I.tuple hq
    obtain ⟨u, hu, ru⟩ := rv.get hx
    have el : e < s.heap.objs.size := Heap.lt_size en
    have il : it < s.heap.objs.size := let ⟨_, q, _⟩ := ti; Heap.lt_size q
    have ku : its.toArray[k]? = some u := by simpa using hu
    have kl : k < its.toArray.size := (Array.getElem?_eq_some_iff.mp ku).1
    refine wpAny_pyNext_enum_itemD (drawsTup (P := X.prog) (w := X.w) (A := X.A.in1) (I.ok.hd hc) it t n2 its.toArray) en ⟨ti, pl⟩ kl ne (by simp [ne, Ne.symm n3]) fun y h' tk hy ho ⟨ti', _⟩ hT hsz hk => ?_
    rw [ku] at hy
    cases hy
    refine ⟨_, rfl, wpAny_letOwnedTupleGo_enum (s := { s with heap := h', toks := tk + 1 }) ho fun h2 en2 sb => ?_⟩
    have hT2 : h2.get? s.heap.objs.size = some { cls := .type "tuple", data := .seq #[.int k tk, u] } := (sb.2 _ (Nat.ne_of_gt el)).trans hT
    have fresh : ObjOk X.prog X.w (upd H s.heap.objs.size (.tup [.int (k : Nat), x])) h2 s.heap.objs.size (.tup [.int (k : Nat), x]) :=
      ⟨by show 2 ≤ sizeLine; decide, [.int k tk, u], .cons ⟨_, rfl⟩ (.cons ru .nil), ⟨_, hT2, rfl, _, rfl⟩⟩
    have I1 : Inv X pins σ (upd H s.heap.objs.size (.tup [.int (k : Nat), x])) { s with heap := h2, toks := tk + 1 } :=
      I.turnedNew (ch := [e, it]) (fun b ob hb q => (sb.2 b fun z => hb (by simp [z])).trans (hk b ob (fun z => hb (by simp [z])) (fun z => hb (by simp [z])) q)) hf (Nat.le_refl _) fresh
    have ti2 : h2.IsTupleIter it t (k + 1) := let ⟨o, ho, r⟩ := ti'; ⟨o, (sb.2 it (Ne.symm ne)).trans ho, r⟩
    refine ⟨.ref s.heap.objs.size, _, I1, rfl, ⟨_, x, rfl, I.hok.fresh (Nat.le_refl _), rfl, fun ys hy => by rw [I.tuple_inj hy hq]; exact hx⟩, ⟨⟨u, ?_⟩, ti2, ne, n2, n3⟩, fun b hb => ?_⟩
    · rw [show ((k + 1 : Nat) : Int) = (k : Int) + 1 by omega]; exact en2
    · have bl : b < s.heap.objs.size := by
        rcases List.mem_cons.mp hb with rfl | hb
        · exact el
        · rw [List.mem_singleton.mp hb]; exact il
      rw [upd_ne (Nat.ne_of_lt bl)]
      exact (hf b hb).1
  done := by
    intro X hP hw hK hc k pins s σ H E I hf st hg
    subst hP hw hK
    obtain ⟨⟨old, en⟩, ti, ne, n2, n3⟩ := st
    obtain ⟨xs, hq, hx⟩ := hg
    obtain ⟨its, rv, pl, _⟩ := I.tuple hq
    obtain ⟨f0, f1, f2, f3, f4, f5⟩ := hf it (by simp)
    have lenE := rv.length
    have D := drawsTup (P := X.prog) (w := X.w) (A := X.A.in1) (I.ok.hd hc) it t n2 its.toArray
    have hT : s.TypeIs (.ref e) "enumerate" := ⟨_, en, rfl⟩
    unfold pyNext
    apply wpAny_bind
    apply wpAny_attempt
    apply wpAny_callSpecial?_slot (name := Str.ofString "__next__") hT F.slot_enumerate_next
    refine wpAny_call_entry F.slot_enumerate_next hT F.entry_enumerate_next ?_ (F.args_enumerate_next_1 _)
    show wpAny _ _ (field (Value.ref e) 2 >>= _) _ _ _
    refine wpAny_bind (wpAny_field en rfl (x := .ref it) rfl ?_)
    refine wpAny_bind (tupDone (I.ok.hd hc) ti pl (by simp; omega) fun h' x eb ⟨o, ho, hc'⟩ => ?_)
    refine wpAny_bind (wpAny_isInstance (T := "StopIteration") (b := true) ⟨o, ho, hc'⟩ isSubtype_stop ?_)
    exact wpAny_pure ⟨rfl, I.turned (t' := s.toks) (fun b o hb q => eb b o hb q) f0 f1 f3 f4 f5⟩
  self := fun A k s Q E ⟨⟨_, en⟩, _⟩ h => wpAny_pyIter_enum en h
def iEnumT (K : PySem.W.Frag) (ta : TA) : TI := fun σ H R => ta σ H fun vs H1 => ∃ t xs, vs = [.ref t] ∧ SqT K H1 t xs ∧ R (ItT K t) H1
theorem pi_enumT {X : Cx} {e : Expr} {ta : TA} {p pos tp : Pos} {es : List Expr} {kk : Nat} (hg : Gl X "enumerate") (hm : X.mg "enumerate" = none) (ha : PA X [e] ta) (hs : starEach [e] X.env = [(false, eval e X.env)]) :
    PI X (.Tuple es kk tp) (.Call (.Name "enumerate" p) [e] [] pos) (iEnumT X.K ta) := by
  refine ⟨fun pins s σ H R I h => ?_⟩
  refine Call_ (ld_blt I hg hm boot_enumerate (PyProof.Rows.callWith_type1 (thn (ha.run pos pins s σ H _ I h) fun us s1 ⟨vs, H1, I1, r1, t, xs, ev, hq, q⟩ => ?_) hs rfl))
  subst ev
  rw [Vals.ref1 r1]
  obtain ⟨its, rv, pl, _⟩ := I1.tuple hq
  have tl : t < s1.heap.objs.size := let ⟨_, z, _⟩ := pl; Heap.lt_size z
  refine call_enumTup pl fun h' en ti kp => wpAny_pyIter_enum en ?_
  have I2 : Inv X pins σ H1 { s1 with heap := h' } := I1.kept (t' := s1.toks) kp
  refine ⟨s1.heap.objs.size + 1, [s1.heap.objs.size + 1, s1.heap.objs.size], _, _, H1, rfl, I2, turn_enumT t (s1.heap.objs.size + 1) s1.heap.objs.size, ⟨⟨.none, en⟩, ti, Nat.succ_ne_self _, Nat.ne_of_lt tl, Nat.ne_of_lt (Nat.lt_succ_of_lt tl)⟩, fun b hb => ?_, q⟩
  have le : s1.heap.objs.size ≤ b := by
    rcases List.mem_cons.mp hb with rfl | hb
    · exact Nat.le_succ _
    · rw [List.mem_singleton.mp hb]; exact Nat.le_refl _
  exact I1.fpOk le (I1.hok.fresh le)
end Pyx
end
section
set_option maxRecDepth 100000
namespace Pyx
open PySem L2
open PySem.Spec PyProof.Rows

/-! ### for k, x in enumerate(e) -/
def prA (k : Nat) (x : AV) : AV := .tup [.int (k : Nat), x]
def enA (xs : List AV) : List AV := xs.zipIdx.map fun p => prA p.2 p.1
theorem enA_length (xs : List AV) : (enA xs).length = xs.length := by simp [enA]
theorem enA_get {xs : List AV} {k : Nat} : (enA xs)[k]? = xs[k]?.map (prA k) := by
  unfold enA
  rw [List.getElem?_map, List.getElem?_zipIdx]
  cases xs[k]? <;> simp
def itemE (a : AS) (n len k : Nat) : Option AV := (itemAt a n len k).map (prA k)
def loopE (tg : Tg) (body : AS → Option (Out × AS)) (n len : Nat) : Nat → AS → Option (Out × AS)
  | 0, a => if lenIs a n len = true then some (.nx, a) else none
  | k + 1, a => (itemE a n len (len - (k + 1))).bind fun x => (asgT tg x a).bind fun a' => (body a').bind (turn (loopE tg body n len k))
def sForE (it : ME) (is : List Nat) (body : MS) : MS := fun G a => (it G a).bind fun r => match r.1 with
  | .lst xs => loopL (.many is) (body G) (enA xs) r.2
  | .tup xs => loopL (.many is) (body G) (enA xs) r.2
  | .ref n => match r.2.S[n]? with
    | some (.lst xs) => loopE (.many is) (body G) n xs.length xs.length r.2
    | _ => none
  | _ => none
/-- the pair's items go to the names -/
def tGE (K : PySem.W.Frag) (F : Hot) (is : List Nat) : TG := fun v σ H Q => ∃ m a T vs cs a', Rl K F m a σ H ∧ v = .ref T ∧ SqT K H T vs ∧ Rps' K F m a σ H vs cs ∧ gNs is cs a = some a' ∧ ∀ σ', SetIn is σ σ' → Rl K F m a' σ' H → Stp m a σ H m a' σ' H → Q σ' H
section
variable {X : Cx} {F : Hot} {G : Gm}
theorem pg_en (hc : X.calm = true) (hN : X.N.Nodup) {es : List Expr} {is : List Nat} {k : Nat} {p : Pos} (h : NamesAt X es is) : PG X (.Tuple es k p) (tGE X.K F is) := by
  obtain ⟨q, l, f⟩ := pgs_names (F := F) hN h
  refine ⟨fun pins s σ H v u Q I r ⟨m, a, T, vs, cs, a', R, ev, sq, rr, e, k⟩ => ?_⟩
  subst ev
  exact (pg_tup hc q l f).run pins s σ H _ u Q I r ⟨T, vs, rfl, sq, rr.length.trans (gNs_len e), m, a, cs, a', R, rr, e, k⟩
theorem prA_asg {is : List Nat} {k : Nat} {x : AV} {a a' : AS} (h : asgT (.many is) (prA k x) a = some a') : gNs is [.int (k : Nat), x] a = some a' := h
/-- what a turn's target gives -/
theorem en_turn {is : List Nat} {m : List Addr} {a a' : AS} {σ : L2.St} {H : Hp} {x : V} {c : AV} {k : Nat} {T : Addr} {Q : L2.St → Hp → Prop} (R : Rl X.K F m a σ H) (rx : Rp' X.K F m a σ H x c) (hT : H T = none) (e : asgT (.many is) (prA k c) a = some a')
    (hQ : ∀ σ' H'' m', Rl X.K F m' a' σ' H'' → Stp m a σ H m' a' σ' H'' → Q σ' H'') : tGE X.K F is (.ref T) σ (upd H T (.tup [.int (k : Nat), x])) Q :=
  ⟨m, a, T, _, _, a', R.new hT, rfl, .inl (Rd.of upd_same), .cons (.int _) (.cons (rx.step R (.new hT)) .nil), prA_asg e, fun σ' _ R' s' => hQ σ' _ m R' ((Stp.new hT).trans s')⟩
theorem loopL_stepE {tg : Tg} {body : MS} {xs : List AV} {i : Nat} {a : AS} {r : Out × AS} (hi : i < xs.length) (h : loopL tg (body G) ((enA xs).drop i) a = some r) :
    ∃ a' q, (xs[i]?.bind fun x => asgT tg (prA i x) a) = some a' ∧ body G a' = some q ∧ turn (fun a => loopL tg (body G) ((enA xs).drop (i + 1)) a) q = some r := by
  obtain ⟨a', q, e1, e2⟩ := loopL_step (G := G) (by rw [enA_length]; exact hi) h
  rw [enA_get] at e1
  refine ⟨a', q, ?_, e2⟩
  cases e : xs[i]? with
  | none => rw [e] at e1; cases e1
  | some x => rw [e] at e1; exact e1
theorem ps_sForE {e : Expr} {es : List Expr} {is : List Nat} {kk : Nat} {me : ME} {body : MS} {sb : List Stmt} {p p2 tp pos : Pos} (hc : X.calm = true) (hxe : X.xe = fun _ _ => False) (hN : X.N.Nodup) (ht : NamesAt X es is) (hg : Gl X "enumerate") (hm : X.mg "enumerate" = none)
    (he : PE X e (tE X.K F G me)) (hs : notStar e = true) (hb : PSs X sb (tS X.K F G body)) : PS X (.For (.Tuple es kk tp) (.Call (.Name "enumerate" p) [e] [] p2) sb [] pos) (tS X.K F G (sForE me is body)) := by
  have hp : PassesOwn (model X.prog X.w) X.A X.env X.xe := by rw [hxe]; exact PassesOwn.never
  have PL := ps_for (pos := pos) hp hc (pi_enum (tpos := tp) (elts := es) (kk := kk) (p := p) (pos := p2) hg hm (pa_cons he pa_nil (star_cons hs)) (star_cons hs)) (pg_en (F := F) hc hN ht) hb
  have PT := ps_for (pos := pos) hp hc (pi_enumT (tp := tp) (es := es) (kk := kk) (p := p) (pos := p2) hg hm (pa_cons he pa_nil (star_cons hs)) (star_cons hs)) (pg_en (F := F) hc hN ht) hb
  have both : PS X (.For (.Tuple es kk tp) (.Call (.Name "enumerate" p) [e] [] p2) sb [] pos) (fun D σ H => tFor (iEnum X.K (tCons (tE X.K F G me) tNil)) (tGE X.K F is) (tS X.K F G body) D σ H ∨ tFor (iEnumT X.K (tCons (tE X.K F G me) tNil)) (tGE X.K F is) (tS X.K F G body) D σ H) :=
    ⟨fun pins s σ H D I h => h.elim (PL.run pins s σ H D I) (PT.run pins s σ H D I)⟩
  refine both.weak fun D σ H ⟨m, a, r, R, e, k⟩ => ?_
  obtain ⟨q, e1, e2⟩ := Option.bind_eq_some_iff.mp e
  obtain ⟨v, a1⟩ := q
  cases v with
  | lst xs =>
    have e2' : loopL (.many is) (body G) (enA xs) a1 = some r := e2
    refine .inl ⟨m, a, (.lst xs, a1), R, e1, fun x H1 m1 R1 s1 r1 => ?_⟩
    obtain ⟨p, vs, rfl, rr, hst⟩ := r1.lstI
    refine ⟨p, vs, rfl, hst .refl, ?_⟩
    refine for_gen (n := xs.length) (fun i a => loopL (.many is) (body G) ((enA xs).drop i) a) (fun i a => xs[i]?.bind fun x => asgT (.many is) (prA i x) a) R1 (by simpa using e2') (k.after s1) (fun i a r hi h => loopL_stepE hi h)
      (fun a r h => by rw [List.drop_eq_nil_of_le (by rw [enA_length]; exact Nat.le_refl _)] at h; cases h; rfl) (fun m a σ H r R s h => ?_) (fun i m a σ H a' hi R s h => ?_)
    · exact ⟨vs, hst s, by rw [rr.length]; exact Nat.le_refl _⟩
    · obtain ⟨c, e3, e4⟩ := Option.bind_eq_some_iff.mp h
      obtain ⟨x, e5, e6⟩ := (rr.step R1 s).get e3
      refine ⟨⟨vs, x, hst s, e5⟩, fun y H' hy Q hQ => ?_⟩
      obtain ⟨T, z, rfl, hT, rfl, hz⟩ := hy
      have := hz vs (hst s)
      rw [e5] at this; cases this
      exact en_turn R e6 hT e4 hQ
  | tup xs =>
    have e2' : loopL (.many is) (body G) (enA xs) a1 = some r := e2
    refine .inr ⟨m, a, (.tup xs, a1), R, e1, fun x H1 m1 R1 s1 r1 => ?_⟩
    cases r1 with
    | tup hl rr =>
      rename_i p vs
      refine ⟨p, vs, rfl, hl.sqT, ?_⟩
      refine for_gen (n := xs.length) (fun i a => loopL (.many is) (body G) ((enA xs).drop i) a) (fun i a => xs[i]?.bind fun x => asgT (.many is) (prA i x) a) R1 (by simpa using e2') (k.after s1) (fun i a r hi h => loopL_stepE hi h)
        (fun a r h => by rw [List.drop_eq_nil_of_le (by rw [enA_length]; exact Nat.le_refl _)] at h; cases h; rfl) (fun m a σ H r R s h => ?_) (fun i m a σ H a' hi R s h => ?_)
      · exact ⟨vs, (TupZ.stay R1 s hl).sqT, by rw [rr.length]; exact Nat.le_refl _⟩
      · obtain ⟨c, e3, e4⟩ := Option.bind_eq_some_iff.mp h
        obtain ⟨x, e5, e6⟩ := (rr.step R1 s).get e3
        have sq := (TupZ.stay R1 s hl).sqT
        refine ⟨⟨vs, x, sq, e5⟩, fun y H' hy Q hQ => ?_⟩
        obtain ⟨T, z, rfl, hT, rfl, hz⟩ := hy
        have := hz vs sq
        rw [e5] at this; cases this
        exact en_turn R e6 hT e4 hQ
  | ref n =>
    have e2' : (match a1.S[n]? with | some (.lst xs) => loopE (.many is) (body G) n xs.length xs.length a1 | _ => none) = some r := e2
    split at e2'
    · rename_i xs hxs
      refine .inl ⟨m, a, (.ref n, a1), R, e1, fun x H1 m1 R1 s1 r1 => ?_⟩
      cases r1 with
      | ref hm =>
        rename_i p
        obtain ⟨vs, g1, g2⟩ := R1.obj n _ _ hxs hm
        refine ⟨p, vs, rfl, .inl (.inl g1), ?_⟩
        have at_ : ∀ {m a σ' H} {ys : List AV}, Rl X.K F m a σ' H → Stp m1 a1 σ H1 m a σ' H → a.S[n]? = some (.lst ys) → ∃ vs, H p = some (.lst vs) ∧ Rps' X.K F m a σ' H vs ys := fun R s h => R.obj n _ _ h (s.pre _ _ hm)
        refine for_gen (n := xs.length) (fun i a => loopE (.many is) (body G) n xs.length (xs.length - i) a) (fun i a => (itemAt a n xs.length i).bind fun x => asgT (.many is) (prA i x) a) R1 (by simpa using e2') (k.after s1) (fun i a r hi h => ?_) (fun a r h => ?_) (fun m a σ H r R s h => ?_) (fun i m a σ H a' hi R s h => ?_)
        · rw [show xs.length - i = (xs.length - (i + 1)) + 1 by omega] at h
          obtain ⟨x, e3, w1⟩ := Option.bind_eq_some_iff.mp h
          obtain ⟨a', e4, w2⟩ := Option.bind_eq_some_iff.mp w1
          obtain ⟨q, e5, w3⟩ := Option.bind_eq_some_iff.mp w2
          rw [show xs.length - (xs.length - (i + 1) + 1) = i by omega] at e3
          obtain ⟨y, e6, rfl⟩ := Option.map_eq_some_iff.mp e3
          exact ⟨a', q, by rw [e6]; exact e4, e5, w3⟩
        · rw [Nat.sub_self] at h
          have h' : (if lenIs a n xs.length = true then some (Out.nx, a) else none) = some r := h
          split at h' <;> cases h'
          rfl
        · rw [Nat.sub_self] at h
          have h' : (if lenIs a n xs.length = true then some (Out.nx, a) else none) = some r := h
          split at h'
          · rename_i hl
            unfold lenIs at hl
            split at hl
            · rename_i ys hy
              obtain ⟨vs', g3, g4⟩ := at_ R s hy
              exact ⟨vs', .inl (.inl g3), by rw [g4.length]; exact Nat.le_of_eq (by simpa using hl)⟩
            · cases hl
          · cases h'
        · obtain ⟨c, e3, e4⟩ := Option.bind_eq_some_iff.mp h
          unfold itemAt at e3
          split at e3
          · rename_i ys hy
            split at e3
            · obtain ⟨vs', g3, g4⟩ := at_ R s hy
              obtain ⟨x, e5, e6⟩ := g4.get e3
              refine ⟨⟨vs', x, .inl (.inl g3), e5⟩, fun y H' hy Q hQ => ?_⟩
              obtain ⟨T, z, rfl, hT, rfl, hz⟩ := hy
              have := hz vs' (.inl (.inl g3))
              rw [e5] at this; cases this
              exact en_turn R e6 hT e4 hQ
            · cases e3
          · cases e3
    · cases e2'
  | _ => cases e2

/-! ### [.. for k, x in enumerate(e) ..] -/
def compE (vs : List Nat) (tg : Tg) (tst : AS → Option (Bool × AS)) (elt : AS → Option (AV × AS)) (n len : Nat) : Nat → List AV → AS → Option (List AV × AS)
  | 0, acc, a => if lenIs a n len = true then some (acc, a) else none
  | k + 1, acc, a => (itemE a n len (len - (k + 1))).bind fun x => (asgT tg x (clr a vs)).bind fun a1 => compT tst elt (compE vs tg tst elt n len k) acc a1
def compVE (vs : List Nat) (tg : Tg) (tst : AS → Option (Bool × AS)) (elt : AS → Option (AV × AS)) (a : AS) : AV → Option (List AV × AS)
  | .lst xs => compL vs tg tst elt (enA xs) [] a
  | .tup xs => compL vs tg tst elt (enA xs) [] a
  | .ref n => match a.S[n]? with
    | some (.lst xs) => compE vs tg tst elt n xs.length xs.length [] a
    | _ => none
  | _ => none
def fCompE (it : ME) (vs : List Nat) (is : List Nat) (tst : MT) (elt : ME) : MAs := fun G a => (it G a).bind fun r => if noOwn r.2 vs = true then (compVE vs (.many is) (tst G) (elt G) r.2 r.1).map fun q => (q.1, rst r.2 (clr q.2 vs) vs) else none
def xGE (K : PySem.W.Frag) (is : List Nat) : TG := fun v σ H Q => ∃ F, tGE K F is v σ H Q
theorem pg_xGE {es : List Expr} {is : List Nat} {k : Nat} {p : Pos} (hc : X.calm = true) (hN : X.N.Nodup) (h : NamesAt X es is) : PG X (.Tuple es k p) (xGE X.K is) := ⟨fun pins s σ H v u Q I r ⟨F, q⟩ => (pg_en (F := F) hc hN h).run pins s σ H v u Q I r q⟩
theorem compL_stepE {vs : List Nat} {tg : Tg} {tst : AS → Option (Bool × AS)} {elt : AS → Option (AV × AS)} {xs acc : List AV} {i : Nat} {a : AS} {r : List AV × AS} (hi : i < xs.length) (h : compL vs tg tst elt ((enA xs).drop i) acc a = some r) :
    ∃ a', (xs[i]?.bind fun x => asgT tg (prA i x) (clr a vs)) = some a' ∧ compT tst elt (compL vs tg tst elt ((enA xs).drop (i + 1))) acc a' = some r := by
  obtain ⟨a', e1, e2⟩ := compL_step (by rw [enA_length]; exact hi) h
  rw [enA_get] at e1
  refine ⟨a', ?_, e2⟩
  cases e : xs[i]? with
  | none => rw [e] at e1; cases e1
  | some x => rw [e] at e1; exact e1
theorem en_turnC {is vs : List Nat} (hsl : ∀ i ∈ is, i ∈ vs) {D : Addr} {m : List Addr} {a a' : AS} {σ : L2.St} {H : Hp} {x : V} {c : AV} {k : Nat} {T : Addr} {Q : L2.St → Hp → Prop} (R : Rl X.K (addF F D) m (clr a vs) (wipe σ vs) H)
    (rx : Rp' X.K (addF F D) m (clr a vs) (wipe σ vs) H x c) (hT : H T = none) (e : asgT (.many is) (prA k c) (clr a vs) = some a')
    (hQ : ∀ σ' H'' m', wipe σ' vs = wipe σ vs → Rl X.K (addF F D) m' a' σ' H'' → Stp m (clr a vs) (wipe σ vs) H m' a' σ' H'' → Q σ' H'') : xGE X.K is (.ref T) (wipe σ vs) (upd H T (.tup [.int (k : Nat), x])) Q :=
  ⟨addF F D, m, clr a vs, T, _, _, a', R.new hT, rfl, .inl (Rd.of upd_same), .cons (.int _) (.cons (rx.step R (.new hT)) .nil), prA_asg e, fun σ' hs R' s' => hQ σ' _ m (wipe_setIn hs hsl) R' ((Stp.new hT).trans s')⟩
section
variable {elt e : Expr} {es : List Expr} {ifs : List Expr} {scope : Scope} {own : List (Str × Nat)} {p p2 pos tp : Pos} {kk : Nat} {is : List Nat} {tst : MT} {me : ME}
structure BlkE (X : Cx) (G : Gm) (scope : Scope) (own : List (Str × Nat)) (es : List Expr) (kk : Nat) (tp : Pos) (ifs : List Expr) (elt : Expr) (is : List Nat) (tst : MT) (me : ME) : Prop where
  ok : BlkOk X.N X.env.scope scope own
  hg : ∀ (s : Shared) (H : Hp) (C : Addr) (cl : List (Str × Addr)) (fp : List Addr), PG (X.blk s H scope (compEnvC scope cl C X.env) fp) (.Tuple es kk tp) (xGE X.K is)
  ht : ∀ (s : Shared) (H : Hp) (C : Addr) (cl : List (Str × Addr)) (fp : List Addr), PTs (X.blk s H scope (compEnvC scope cl C X.env) fp) ifs (xM X.K G tst)
  he : ∀ (s : Shared) (H : Hp) (C : Addr) (cl : List (Str × Addr)) (fp : List Addr), PE (X.blk s H scope (compEnvC scope cl C X.env) fp) elt (xE X.K G me)
  sl : ∀ i ∈ is, i ∈ own.map (·.2)
def tCompE (K : PySem.W.Frag) (G : Gm) (wi : TI) (is : List Nat) (tst : MT) (me : ME) (vs : List Nat) : TE := tLc wi (xGE K is) (xM K G tst) (xE K G me) vs
theorem compE_read {mi : ME} {vs : List Nat} {σ : L2.St} {H : Hp} {Q : VK} (hsl : ∀ i ∈ is, i ∈ vs) (h : tF X.K F G (fCompE mi vs is tst me) σ H Q) :
    tCompE X.K G (iEnum X.K (tCons (tE X.K F G mi) tNil)) is tst me vs σ H Q ∨ tCompE X.K G (iEnumT X.K (tCons (tE X.K F G mi) tNil)) is tst me vs σ H Q := by
  obtain ⟨m, a, r, R, e, k⟩ := h
  obtain ⟨q, e1, e2⟩ := Option.bind_eq_some_iff.mp e
  split at e2
  · rename_i no
    obtain ⟨rF, e3, e4⟩ := Option.map_eq_some_iff.mp e2
    subst e4
    obtain ⟨v, a1⟩ := q
    cases v with
    | lst xs =>
      have e3' : compL vs (.many is) (tst G) (me G) (enA xs) [] a1 = some rF := e3
      refine .inl ⟨m, a, (.lst xs, a1), R, e1, fun x H1 m1 R1 s1 r1 => ?_⟩
      obtain ⟨p, us, rfl, rr, hst⟩ := r1.lstI
      refine ⟨p, us, rfl, hst .refl, fun D hD => ?_⟩
      refine lc_gen (F := F) (n := xs.length) (fun i acc a => compL vs (.many is) (tst G) (me G) ((enA xs).drop i) acc a) (fun i a => xs[i]?.bind fun x => asgT (.many is) (prA i x) (clr a vs)) R1 no hD (by simpa using e3') (fun p us H' m' R' s' hp r' => k p us H' m' R' (s1.trans s') hp r') (fun i acc a r hi h => compL_stepE hi h)
        (fun acc a r h => by rw [List.drop_eq_nil_of_le (by rw [enA_length]; exact Nat.le_refl _)] at h; cases h; rfl) (fun m a H acc r R s h => ?_) (fun i m a H a' hi R s h => ?_)
      · exact ⟨us, hst s, by rw [rr.length]; exact Nat.le_refl _⟩
      · obtain ⟨c, e5, e6⟩ := Option.bind_eq_some_iff.mp h
        obtain ⟨x, e7, rx⟩ := (rr.stepD R1 s hD).get e5
        refine ⟨⟨us, x, hst s, e7⟩, fun y H' hy Q hQ => ?_⟩
        obtain ⟨T, z, rfl, hT, rfl, hz⟩ := hy
        have := hz us (hst s)
        rw [e7] at this; cases this
        exact en_turnC hsl R rx hT e6 hQ
    | tup xs =>
      have e3' : compL vs (.many is) (tst G) (me G) (enA xs) [] a1 = some rF := e3
      refine .inr ⟨m, a, (.tup xs, a1), R, e1, fun x H1 m1 R1 s1 r1 => ?_⟩
      cases r1 with
      | tup hl rr =>
        rename_i p us
        refine ⟨p, us, rfl, hl.sqT, fun D hD => ?_⟩
        refine lc_gen (F := F) (n := xs.length) (fun i acc a => compL vs (.many is) (tst G) (me G) ((enA xs).drop i) acc a) (fun i a => xs[i]?.bind fun x => asgT (.many is) (prA i x) (clr a vs)) R1 no hD (by simpa using e3') (fun p us H' m' R' s' hp r' => k p us H' m' R' (s1.trans s') hp r') (fun i acc a r hi h => compL_stepE hi h)
          (fun acc a r h => by rw [List.drop_eq_nil_of_le (by rw [enA_length]; exact Nat.le_refl _)] at h; cases h; rfl) (fun m a H acc r R s h => ?_) (fun i m a H a' hi R s h => ?_)
        · exact ⟨us, (TupZ.stay R1 s hl).sqT, by rw [rr.length]; exact Nat.le_refl _⟩
        · obtain ⟨c, e5, e6⟩ := Option.bind_eq_some_iff.mp h
          obtain ⟨x, e7, rx⟩ := (rr.stepD R1 s hD).get e5
          have sq := (TupZ.stay R1 s hl).sqT
          refine ⟨⟨us, x, sq, e7⟩, fun y H' hy Q hQ => ?_⟩
          obtain ⟨T, z, rfl, hT, rfl, hz⟩ := hy
          have := hz us sq
          rw [e7] at this; cases this
          exact en_turnC hsl R rx hT e6 hQ
    | ref n =>
      have e3' : (match a1.S[n]? with | some (.lst xs) => compE vs (.many is) (tst G) (me G) n xs.length xs.length [] a1 | _ => none) = some rF := e3
      split at e3'
      · rename_i xs hxs
        refine .inl ⟨m, a, (.ref n, a1), R, e1, fun x H1 m1 R1 s1 r1 => ?_⟩
        cases r1 with
        | ref hm =>
          rename_i p
          obtain ⟨us, g1, g2⟩ := R1.obj n _ _ hxs hm
          refine ⟨p, us, rfl, .inl (.inl g1), fun D hD => ?_⟩
          have at_ : ∀ {m a σ' H} {ys : List AV}, Rl X.K (addF F D) m (clr a vs) σ' H → Stp m1 a1 σ H1 m (clr a vs) σ' H → a.S[n]? = some (.lst ys) → ∃ us, H p = some (.lst us) ∧ Rps' X.K (addF F D) m (clr a vs) σ' H us ys := fun R s h => R.obj n (.lst _) _ (by rw [clr_S]; exact h) (s.pre _ _ hm)
          refine lc_gen (F := F) (n := xs.length) (fun i acc a => compE vs (.many is) (tst G) (me G) n xs.length (xs.length - i) acc a) (fun i a => (itemAt a n xs.length i).bind fun x => asgT (.many is) (prA i x) (clr a vs)) R1 no hD (by simpa using e3') (fun p us H' m' R' s' hp r' => k p us H' m' R' (s1.trans s') hp r') (fun i acc a r hi h => ?_) (fun acc a r h => ?_) (fun m a H acc r R s h => ?_) (fun i m a H a' hi R s h => ?_)
          · rw [show xs.length - i = (xs.length - (i + 1)) + 1 by omega] at h
            obtain ⟨x, e5, w1⟩ := Option.bind_eq_some_iff.mp h
            obtain ⟨a', e6, w2⟩ := Option.bind_eq_some_iff.mp w1
            rw [show xs.length - (xs.length - (i + 1) + 1) = i by omega] at e5
            obtain ⟨y, e8, rfl⟩ := Option.map_eq_some_iff.mp e5
            exact ⟨a', by rw [e8]; exact e6, w2⟩
          · rw [Nat.sub_self] at h
            have h' : (if lenIs a n xs.length = true then some (acc, a) else none) = some r := h
            split at h' <;> cases h'
            rfl
          · rw [Nat.sub_self] at h
            have h' : (if lenIs a n xs.length = true then some (acc, a) else none) = some r := h
            split at h'
            · rename_i hl
              unfold lenIs at hl
              split at hl
              · rename_i ys hy
                obtain ⟨us', g3, g4⟩ := at_ R s hy
                exact ⟨us', .inl (.inl g3), by rw [g4.length]; exact Nat.le_of_eq (by simpa using hl)⟩
              · cases hl
            · cases h'
          · obtain ⟨c, e5, e6⟩ := Option.bind_eq_some_iff.mp h
            unfold itemAt at e5
            split at e5
            · rename_i ys hy
              split at e5
              · obtain ⟨us', g3, g4⟩ := at_ R s hy
                obtain ⟨x, e7, rx⟩ := g4.get e5
                refine ⟨⟨us', x, .inl (.inl g3), e7⟩, fun y H' hy Q hQ => ?_⟩
                obtain ⟨T, z, rfl, hT, rfl, hz⟩ := hy
                have := hz us' (.inl (.inl g3))
                rw [e7] at this; cases this
                exact en_turnC hsl R rx hT e6 hQ
              · cases e5
            · cases e5
      · cases e3'
    | _ => cases e3
  · cases e2
theorem pe_fCompE {mi : ME} (hc : X.calm = true) (hN : X.N.Nodup) (hg : Gl X "enumerate") (hm : X.mg "enumerate" = none) (he : PE X e (tE X.K F G mi)) (hs : notStar e = true) (B : BlkE X G scope own es kk tp ifs elt is tst me) :
    PE X (.ListComp elt [⟨.Tuple es kk tp, .Call (.Name "enumerate" p) [e] [] p2, ifs, 0⟩] scope pos) (tF X.K F G (fCompE mi (own.map (·.2)) is tst me)) :=
  (PE.or (pe_lc hc hN (pi_enum hg hm (pa_cons he pa_nil (star_cons hs)) (star_cons hs)) B.ok B.hg B.ht B.he) (pe_lc hc hN (pi_enumT hg hm (pa_cons he pa_nil (star_cons hs)) (star_cons hs)) B.ok B.hg B.ht B.he)).weak fun _ _ _ h => compE_read B.sl h
end
end
end Pyx
end
section
set_option maxRecDepth 100000
namespace Pyx
open PySem L2
open PySem.Spec PyProof.Rows

/-! ### t[::-1] of a tuple -/
section
variable {P : Program} {w : World} {A : Around} {E : Value → Shared → Prop} {s : Shared}
theorem rev_places (n : Nat) : Builtin.Slice.slicePlaces ((n : Int) - 1) (-1) (-1) = n := by
  unfold Builtin.Slice.slicePlaces
  simp only [show ¬ ((-1 : Int) > 0) by omega, if_false, Int.neg_neg, Int.ediv_one]
  split <;> omega
theorem rev_applied {sl : Addr} {vs : Value} {n : Nat} {Q : Int × Int × Nat → Shared → Prop} (hs : s.heap.IsSliceOf sl .none .none vs) (ps : IsPart vs (some (-1))) (q : Q ((n : Int) - 1, -1, n) s) :
    wpAny (model P w) A (Builtin.Slice.sliceApplied (.ref sl) (pure (n : Int))) Q E s := by
  obtain ⟨os, e, _, d⟩ := hs
  unfold Builtin.Slice.sliceApplied Builtin.Slice.sliceFields
  refine wpAny_bind (wpAny_bind (wpAny_field e d (x := .none) rfl ?_))
  refine wpAny_bind (wpAny_field e d (x := .none) rfl ?_)
  refine wpAny_bind (wpAny_field e d (x := vs) rfl (wpAny_pure ?_))
  refine wpAny_bind (HT.slicePart_ ps ?_)
  show wpAny _ _ (if ((-1 : Int) == 0) = true then _ else _) _ _ s
  rw [if_neg (by decide)]
  refine wpAny_bind (HT.slicePart_ .none (wpAny_bind (HT.slicePart_ .none (wpAny_bind (wpAny_pure ?_)))))
  show wpAny _ _ (pure (((n : Int) - 1), (-1 : Int), Builtin.Slice.slicePlaces ((n : Int) - 1) (-1) (-1))) _ _ s
  rw [rev_places]
  exact wpAny_pure q
theorem fm_same {f g : Nat → Option Value} : ∀ l : List Nat, (∀ k ∈ l, f k = g k) → l.filterMap f = l.filterMap g
  | [], _ => rfl
  | k :: l, h => by
    rw [List.filterMap_cons, List.filterMap_cons, h k List.mem_cons_self, fm_same l fun j hj => h j (List.mem_cons_of_mem _ hj)]
theorem fm_self : ∀ ys : List Value, (List.range ys.length).filterMap (fun k => ys[k]?) = ys
  | [] => rfl
  | y :: ys => by
    rw [List.length_cons, List.range_succ_eq_map, List.filterMap_cons, List.filterMap_map]
    have := fm_self ys
    simpa [Function.comp_def] using this
theorem rev_pick (xs : Array Value) : ((List.range xs.size).filterMap fun (k : Nat) => xs[(((xs.size : Int) - 1) + (k : Int) * (-1)).toNat]?) = xs.toList.reverse := by
  have h := fm_self xs.toList.reverse
  rw [List.length_reverse, Array.length_toList] at h
  rw [← h]
  refine fm_same _ fun k hk => ?_
  have hk := List.mem_range.mp hk
  rw [List.getElem?_reverse (by simpa using hk), Array.length_toList, Array.getElem?_toList, show (((xs.size : Int) - 1) + (k : Int) * (-1)).toNat = xs.size - 1 - k by omega]
theorem getItem_rev {t sl : Addr} {xs : Array Value} {vs : Value} {Q : Value → Shared → Prop} (ht : IsTup s.heap t xs) (hs : s.heap.IsSliceOf sl .none .none vs) (ps : IsPart vs (some (-1))) (hz : xs.size ≤ sizeLine)
    (q : Q (.ref s.heap.objs.size) { s with heap := s.heap.push { cls := .type "tuple", data := .seq xs.toList.reverse.toArray } }) : wpAny (model P w) A (getItem (.ref t) (.ref sl)) Q E s := by
  have fit : sizeOk (.seq xs.toList.reverse.toArray) := by
    show xs.toList.reverse.toArray.size ≤ sizeLine
    simpa using hz
  have ty : s.TypeIs (.ref sl) "slice" := let ⟨os, e, c, _⟩ := hs; ⟨os, e, c⟩
  unfold getItem
  try with_reducible refine wpAny_holding ?_
  first | refine wpAny_bind (wpAny_pure ?_) | skip
  refine wpAny_bind (wpAny_sequenceKey ht.typeIs (by decide) ?_)
  apply wpAny_bind
  apply wpAny_callSpecial?_slot (name := Str.ofString "__getitem__") ht.typeIs slot_tuple_getitem
  refine wpAny_call_entry slot_tuple_getitem ht.typeIs entry_tuple_getitem ?_ (args_tuple_getitem _ _)
  show wpAny _ _ (Builtin.Tuple.tupleItemsOf (Value.ref t) >>= _) _ _ _
  refine wpAny_bind (tupleItemsOf_ ht ?_)
  apply wpAny_bind
  refine wpAny_typeOf ty ?_
  rw [if_pos (by rfl)]
  refine wpAny_bind (rev_applied hs ps ?_)
  have no : ¬ ((((xs.size : Int) - 1) == 0 && (-1 : Int) == 1 && xs.size == xs.size) = true) := by simp
  show wpAny _ _ (if (((xs.size : Int) - 1) == 0 && (-1 : Int) == 1 && xs.size == xs.size) = true then _ else _) _ _ _
  rw [if_neg no, rev_pick]
  first
    | exact wpAny_bind (m := Builtin.Tuple.tupleExact _) (wpAny_newObj_type (wpAny_pure ⟨_, rfl, wpAny_pure q⟩) fit)
    | exact wpAny_bind (m := Builtin.Tuple.tupleExact _) (wpAny_newObj_type (wpAny_bind (wpAny_pure (wpAny_pure ⟨_, rfl, wpAny_pure q⟩))) fit)
    | exact wpAny_bind (wpAny_bind (m := Builtin.Tuple.tupleExact _) (wpAny_newObj_type (wpAny_pure (wpAny_pure ⟨_, rfl, wpAny_pure q⟩)) fit))
    | exact wpAny_bind (wpAny_bind (m := Builtin.Tuple.tupleExact _) (wpAny_newObj_type (wpAny_pure ⟨_, rfl, wpAny_pure q⟩) fit))
end
section
variable {X : Cx} {F : Hot} {G : Gm}
def tRevT (K : PySem.W.Frag) (te : TE) : TE := fun σ H Q => te σ H fun x H1 => ∃ a xs, x = .ref a ∧ SqT K H1 a xs ∧ ∀ p o, H1 p = none → TupO o → Q (.ref p) (upd H1 p (.frz o (.tup xs.reverse)))
theorem pe_revT {e : Expr} {te : TE} {k : Nat} {p1 p2 p3 pos : Pos} (he : PE X e te) : PE X (.Subscript e (.Slice none none (some (.UnaryOp .USub (.Constant (.int 1) k p1) p2)) p3) pos) (tRevT X.K te) := by
  refine ⟨fun pins s σ H Q I h => ?_⟩
  refine Subscript_ (thn (he.run pins s σ H _ I h) fun v s1 ⟨x, H1, I1, r1, a, xs, ex, hx, q⟩ => ?_)
  subst ex
  cases r1
  have step : PO X (some (.UnaryOp .USub (.Constant (.int 1) k p1) p2)) (tPart (tUn (rU fun i => .int (-i)) (tC (.int 1)))) := po_some (pe_un un_neg pe_int)
  refine wpAny_Slice (thn (po_none.run pins s1 σ H1 (fun o H2 => o = none ∧ H2 = H1) I1 ⟨rfl, rfl⟩) fun vl s2 ⟨l, H2, I2, pl, el, e2⟩ => ?_)
  subst el e2
  refine thn (po_none.run pins s2 σ H2 (fun o H3 => o = none ∧ H3 = H2) I2 ⟨rfl, rfl⟩) fun vu s3 ⟨u, H3, I3, pu, eu, e3⟩ => ?_
  subst eu e3
  refine thn (step.run pins s3 σ H3 (fun o H4 => o = some (-1) ∧ H4 = H3) I3 ⟨1, rfl, -1, rfl, rfl, rfl⟩) fun vs s4 ⟨o, H4, I4, ps, eo, e4⟩ => ?_
  subst eo e4
  cases pl
  cases pu
  have I5 : Inv X pins σ H4 { s4 with heap := s4.heap.push { cls := .type "slice", data := .fields #[.none, .none, vs] } } := I4.kept (t' := s4.toks) fun b ob q => Heap.get?_push_of_some _ q
  obtain ⟨its, r, pt, hz⟩ := I5.tuple hx
  have ln := r.length
  show wpAny (model X.prog X.w) X.A (subscriptTail e (.Slice none none (some (.UnaryOp .USub (.Constant (.int 1) k p1) p2)) p3) (.ref a) (.ref s4.heap.objs.size)) (EP X pins σ Q) X.xe _
  refine tail_any (ops := [.ref a, .ref s4.heap.objs.size]) pt.typeIs slot_tuple_getitem.lookup ?_ (by with_unfolding_all rfl)
  refine getItem_rev pt (Heap.IsSliceOf.new _ .none .none vs) ps (by rw [List.size_toArray]; omega) ?_
  have J := laidZ (s' := s4) I5 (xs := xs.reverse) (us := its.reverse) (by rw [List.length_reverse]; exact hz) r.reverse s4.toks
  exact ⟨.ref _, _, J, rfl, q _ _ (I5.hok.fresh (Nat.le_refl _)) ⟨rfl, rfl⟩⟩
def revT : AV → Option (List AV)
  | .tup xs => some xs.reverse
  | _ => none
def eRevT (o : MO) : ME := fun G a => (o G a).bind fun r => (cont r.2 r.1).bind fun c => (revT c).map fun xs => (.tup xs, r.2)
theorem pe_eRevT {e : Expr} {o : MO} {k : Nat} {p1 p2 p3 pos : Pos} (he : PE X e (tO X.K F G o)) : PE X (.Subscript e (.Slice none none (some (.UnaryOp .USub (.Constant (.int 1) k p1) p2)) p3) pos) (tE X.K F G (eRevT o)) := by
  refine (pe_revT he).weak fun σ H Q ⟨m, a, r, R, e, k⟩ => ?_
  obtain ⟨q, e1, e⟩ := Option.bind_eq_some_iff.mp e
  obtain ⟨c, e2, e⟩ := Option.bind_eq_some_iff.mp e
  obtain ⟨xs, e3, e4⟩ := Option.map_eq_some_iff.mp e
  subst e4
  refine ⟨m, a, q, R, e1, fun x H' m' R' s r' => ?_⟩
  have b := r'.cont R' e2
  cases c <;> cases e3
  obtain ⟨p, vs, rfl, h1, r1⟩ := b.tup
  exact ⟨p, vs, rfl, h1.sqT, fun p o hp ho => k _ _ m' (R'.new hp) (s.trans (.new hp)) (R'.newTup hp ho r1.rev)⟩
end
end Pyx
end
section
set_option maxRecDepth 100000
namespace Pyx
open PySem L2
open PySem.Spec PyProof.Rows

/-! ### sep.join(xs) -/
def asStrs : List AV → Option (List Str)
  | [] => some []
  | .str x :: r => (asStrs r).map (x :: ·)
  | _ => none
theorem Rps.of_strs {K : PySem.W.Frag} {H : Hp} {hot : Hot} {m : List Addr} : ∀ {xs : List AV} {vs : List V} {ys : List Str}, Rps K H hot m vs xs → asStrs xs = some ys → vs = ys.map V.str
  | [], _, _, .nil, h => by cases h; rfl
  | .str x :: r, _, ys, .cons a t, h => by
    obtain ⟨zs, e1, e2⟩ := Option.map_eq_some_iff.mp (show (asStrs r).map (x :: ·) = some ys from h)
    subst e2
    cases a
    rw [List.map_cons, Rps.of_strs t e1]
  | .non :: _, _, _, _, h | .bl _ :: _, _, _, _, h | .int _ :: _, _, _, _, h | .tup _ :: _, _, _, _, h | .lst _ :: _, _, _, _, h | .ref _ :: _, _, _, _, h => by cases h
def joinA (z : Str) : AV → Option AV
  | .lst xs => (asStrs xs).bind fun ys => if (ys.map (·.length)).sum + ys.length * z.length ≤ 16777216 then some (.str (Txt.join z ys)) else none
  | _ => none
def eJoin (z : Str) (o : MO) : ME := fun G a => (o G a).bind fun r => (cont r.2 r.1).bind fun c => (joinA z c).map fun v => (v, r.2)
section
variable {X : Cx} {F : Hot} {G : Gm}
theorem pe_eJoin {z : Str} {o : MO} {e : Expr} {k : Nat} {pz apos pos : Pos} (he : PE X e (tO X.K F G o)) (hs : notStar e = true) (hl : (apos.endLine == pos.line) = true) :
    PE X (.Call (.Attribute (.Constant (.str z) k pz) "join" apos) [e] [] pos) (tE X.K F G (eJoin z o)) := by
  refine (pe_join (ho := pe_str) he (star_cons hs) rfl hl).weak fun σ H Q ⟨m, a, r, R, e, k⟩ => ?_
  obtain ⟨q, e1, e⟩ := Option.bind_eq_some_iff.mp e
  obtain ⟨c, e2, e⟩ := Option.bind_eq_some_iff.mp e
  obtain ⟨v, e3, e4⟩ := Option.map_eq_some_iff.mp e
  subst e4
  refine ⟨⟨z, rfl⟩, m, a, q, R, e1, fun x H' m' R' s r' => ?_⟩
  have b := r'.cont R' e2
  cases c with
  | lst xs =>
    obtain ⟨ys, e5, e6⟩ := Option.bind_eq_some_iff.mp (show ((asStrs xs).bind fun ys => if (ys.map (·.length)).sum + ys.length * z.length ≤ 16777216 then some (AV.str (Txt.join z ys)) else none) = some v from e3)
    split at e6
    · rename_i hb
      cases e6
      obtain ⟨p, vs, rfl, h1, r1⟩ := b.lst
      rw [Rps.of_strs r1 e5] at h1
      exact ⟨z, p, ys, rfl, rfl, .inl h1, hb, k _ _ m' R' s (.str _)⟩
    · cases e6
  | _ => cases e3

/-! ### list(range(n)) -/
def rgOk (j : Int) : Bool := decide (-(2 ^ 62) ≤ j ∧ j ≤ 16777216)
def fRg (e : ME) : MAs := fun G a => (e G a).bind fun r => match r.1 with
  | .int j => if rgOk j = true then some (rgA 0 j.toNat, r.2) else none
  | _ => none
theorem rgV_rps {K : PySem.W.Frag} {H : Hp} {hot : Hot} {m : List Addr} (j : Int) : Rps K H hot m (rgV 0 j) (rgA 0 j.toNat) := by
  unfold rgV rgA
  rw [Int.sub_zero]
  have : ∀ l : List Nat, Rps K H hot m (l.map fun (i : Nat) => V.int (0 + (i : Nat))) (l.map fun (i : Nat) => AV.int (0 + (i : Int))) := by
    intro l
    induction l with
    | nil => exact .nil
    | cons x l ih => exact .cons (.int _) ih
  exact this _
theorem pe_fRg {e : ME} {x : Expr} {p p2 p3 pos : Pos} (hc : X.calm = true) (hg : Gl X "list") (hm : X.mg "list" = none) (hg2 : Gl X "range") (hm2 : X.mg "range" = none) (he : PE X x (tE X.K F G e)) (hs : notStar x = true) :
    PE X (.Call (.Name "list" p) [.Call (.Name "range" p2) [x] [] p3] [] pos) (tF X.K F G (fRg e)) := by
  refine (pe_listRg hc hg hm (prg_1 hg2 hm2 he (star_cons hs))).weak fun σ H Q ⟨m, a, r, R, e, k⟩ => ?_
  obtain ⟨q, e1, e2⟩ := Option.bind_eq_some_iff.mp e
  obtain ⟨v, a1⟩ := q
  cases v with
  | int j =>
    have e2' : (if rgOk j = true then some (rgA 0 j.toNat, a1) else none) = some r := e2
    split at e2'
    · rename_i h
      cases e2'
      have h := of_decide_eq_true h
      refine ⟨m, a, (.int j, a1), R, e1, fun y H' m' R' s r' => ?_⟩
      cases r'
      exact ⟨j, rfl, ⟨by omega, by omega, by omega, by omega, by omega⟩, fun p hp => k p _ H' m' R' s hp (rgV_rps j)⟩
    · cases e2'
  | _ => cases e2

/-! ### a dict's display: the new dict is of the store -/
def asgK (ks : List Str) : Bool := decide ks.Nodup && decide (ks.length ≤ 15) && !ks.isEmpty
def eDic (ks : List Str) (t : MAs) : ME := fun G a => (t G a).bind fun r => if r.1.length = ks.length then some (.ref r.2.S.length, r.2.lay (.dic (ks.zip r.1))) else none
theorem Rl.forget {K : PySem.W.Frag} {m : List Addr} {a : AS} {σ : L2.St} {H : Hp} {D : Addr} {ws : List (Key × V)} (R : Rl K F m a σ H) (hD : H D = some (.dK ws)) (nF : ¬ F D) (nl : ¬ Loc' m a σ D) :
    Rl K F m a σ (del H D) ∧ ∀ xs vs, Rps' K F m a σ H xs vs → Rps' K F m a σ (del H D) xs vs := by
  have hk : KeepR K H (del H D) (hotOf F m a σ) (hotOf F m a σ) m m := by
    refine ⟨fun b o vs e => ?_, fun b vs e n => ⟨?_, n⟩, fun _ _ e => e⟩
    · rw [del_ne fun q => by rw [q, hD] at e; cases e]; exact e
    · rcases e with e | ⟨o, e⟩
      · exact .inl (by rw [del_ne fun q => by rw [q, hD] at e; cases e]; exact e)
      · exact .inr ⟨o, by rw [del_ne fun q => by rw [q, hD] at e; cases e]; exact e⟩
  have lne : ∀ {b}, Loc' m a σ b → b ≠ D := fun l q => nl (q ▸ l)
  refine ⟨⟨R.len, fun j v e => let ⟨x, e1, r⟩ := R.slot j v e; ⟨x, e1, r.keep hk⟩, fun j xs e => ?_, R.inj, R.mlen, fun n o p e1 e2 => (R.obj n o p e1 e2).keep hk (del_ne (lne (.inl (List.mem_of_getElem? e2)))), R.mnd, R.mF, fun p h => ?_⟩, fun xs vs r => r.keep hk⟩
  · obtain ⟨p, vs, e1, e2, r, n⟩ := R.own j xs e
    exact ⟨p, vs, e1, by rw [del_ne (lne (.inr ⟨j, xs, e, e1⟩))]; exact e2, r.keep hk, n⟩
  · have np : p ≠ D := fun q => nF (q ▸ h)
    unfold IsMut; rw [del_ne np]; exact R.FH p h
/-- the pairs of a display: their keys are these texts, their values as the evaluator has them -/
def DP (X : Cx) (G : Gm) (F : Hot) (pos : Pos) (keys : List (Option Expr)) (vals : List Expr) (ks : List Str) (t : MAs) : Prop :=
  ∃ trs, PPs X pos keys vals trs ∧ ∀ (m : List Addr) (a : AS) (σ : L2.St) (H : Hp) (r : List AV × AS) (Q : List (V × V) → Hp → Prop), Rl X.K F m a σ H → t G a = some r →
    (∀ us H' m', Rl X.K F m' r.2 σ H' → Stp m a σ H m' r.2 σ H' → Rps' X.K F m' r.2 σ H' us r.1 → Q ((ks.map V.str).zip us) H') → tPairs trs σ H Q
theorem dp_nil {pos : Pos} : DP X G F pos [] [] [] aNil := ⟨[], pps_nil, fun m a σ H r Q R e k => by cases e; exact k [] H m R .refl .nil⟩
theorem dp_cons {pos pk : Pos} {k : Str} {kn : Nat} {v : Expr} {keys : List (Option Expr)} {vals : List Expr} {ks : List Str} {e : ME} {t : MAs} (he : PE X v (tE X.K F G e)) (h : DP X G F pos keys vals ks t) :
    DP X G F pos (some (.Constant (.str k) kn pk) :: keys) (v :: vals) (k :: ks) (aCons e t) := by
  obtain ⟨trs, hp, hr⟩ := h
  refine ⟨(tC (.str k), tE X.K F G e) :: trs, pps_cons pe_str he hp, fun m a σ H r Q R e1 q => ?_⟩
  obtain ⟨r1, e2, e3⟩ := Option.bind_eq_some_iff.mp e1
  obtain ⟨r2, e4, e5⟩ := Option.map_eq_some_iff.mp e3
  subst e5
  refine ⟨m, a, r1, R, e2, fun x H1 m1 R1 s1 rx => ?_⟩
  refine hr m1 r1.2 σ H1 r2 _ R1 e4 fun us H2 m2 R2 s2 rs => ?_
  exact q (x :: us) H2 m2 R2 (s1.trans s2) (.cons (rx.step R1 s2) rs)
theorem RpD.of_zip {K : PySem.W.Frag} {H : Hp} {hot : Hot} {m : List Addr} : ∀ {ks : List Str} {us : List V} {xs : List AV}, Rps K H hot m us xs → us.length = ks.length → RpD K H hot m ((ks.map Sum.inr).zip us : List (Key × V)) (ks.zip xs)
  | [], [], _, .nil, _ => trivial
  | k :: ks, _ :: _, _, .cons a t, h => ⟨rfl, a, RpD.of_zip t (by simpa using h)⟩
  | [], _ :: _, _, _, h => by simp at h
  | _ :: _, [], _, _, h => by simp at h
theorem merge_new : ∀ (acc more : List (Key × V)), ((acc ++ more).map (·.1)).Nodup → mergeK acc more = acc ++ more
  | acc, [], _ => by simp [mergeK]
  | acc, p :: more, h => by
    have hp : (acc.any fun kv => decide (kv.1 = p.1)) = false := by
      rw [List.any_eq_false]
      intro kv hkv
      have h' : (acc.map (·.1) ++ p.1 :: more.map (·.1)).Nodup := by simpa using h
      have := (List.nodup_append.mp h').2.2 kv.1 (List.mem_map_of_mem hkv) p.1 List.mem_cons_self
      simpa using this
    have e : putK acc p.1 p.2 = acc ++ [p] := by
      unfold putK
      rw [hp]
      rfl
    show mergeK (putK acc p.1 p.2) more = _
    rw [e, merge_new (acc ++ [p]) more (by simpa using h)]
    simp
theorem zip_kv : ∀ (ks : List Str) (us : List V), (ks.map V.str).zip us = (((ks.map Sum.inr).zip us : List (Key × V)).map fun kv => (kV kv.1, kv.2))
  | [], _ => by simp
  | _ :: _, [] => by simp
  | k :: ks, u :: us => by
    simp only [List.map_cons, List.zip_cons_cons]
    rw [zip_kv ks us]
    rfl
theorem pe_eDic {pos : Pos} {keys : List (Option Expr)} {vals : List Expr} {ks : List Str} {t : MAs} (h : DP X G F pos keys vals ks t) (hall : keys.all (·.isSome) = true) (hl : keys.length = vals.length) (h0 : keys ≠ []) (h15 : keys.length ≤ 15) (hk : keys.length = ks.length) (hn : ks.Nodup) :
    PE X (.Dict keys vals pos) (tE X.K F G (eDic ks t)) := by
  obtain ⟨trs, hp, hr⟩ := h
  refine (pe_disp hp hall hl h0 h15).weak fun σ H Q ⟨m, a, r, R, e, k⟩ p hpn => ?_
  obtain ⟨q, e1, e2⟩ := Option.bind_eq_some_iff.mp e
  split at e2
  · rename_i hlen
    cases e2
    have nF : ¬ F p := fun h => by rcases R.FH p h with ⟨_, z⟩ | ⟨_, z⟩ <;> rw [hpn] at z <;> cases z
    have R1 := R.new (o := .dK []) hpn
    refine hr m a σ _ q _ R1 e1 fun us H2 m2 R2 s2 rs => ?_
    have nl0 : ¬ Loc' m a σ p := fun l => R.locSome l hpn
    have hp2 : H2 p = some (.dK []) := s2.keep p _ upd_same nl0
    have nl2 : ¬ Loc' m2 q.2 σ p := fun l => (s2.locs p l).elim nl0 fun z => by rw [upd_same] at z; cases z
    obtain ⟨R3, k3⟩ := R2.forget hp2 nF nl2
    have r3 := k3 _ _ rs
    have ul : us.length = ks.length := rs.length.trans hlen
    have st : Stp m a σ H m2 q.2 σ (del H2 p) := by
      refine ⟨s2.pre, fun b o e n => ?_, fun b e => ?_, fun b l => (s2.locs b l).imp id fun z => ?_⟩
      · have nb := ne_of_none e hpn
        rw [del_ne nb]
        exact s2.keep b o (by rw [upd_ne nb]; exact e) n
      · have nb : b ≠ p := fun q => e (q ▸ hpn)
        rw [del_ne nb]
        exact s2.dom b (by rw [upd_ne nb]; exact e)
      · by_cases nb : b = p
        · rw [nb]; exact hpn
        · rw [upd_ne nb] at z; exact z
    refine ⟨hp2, (ks.map Sum.inr).zip us, zip_kv ks us, by simp [ul]; omega, ?_⟩
    rw [merge_new [] _ (by
      simp only [List.nil_append]
      rw [List.map_fst_zip (by simp [ul])]
      exact List.Pairwise.map _ (fun a b h e => h (Sum.inr.inj e)) hn)]
    have R4 := R3.lay (p := p) (u := .dK ((ks.map Sum.inr).zip us)) (o := .dic (ks.zip q.1)) del_same fun R => ⟨_, upd_same, RpD.keep (R.keeps (Rl.layStp del_same)) (RpD.of_zip r3 ul)⟩
    have e9 : upd (del H2 p) p (.dK ((ks.map Sum.inr).zip us)) = upd H2 p (.dK ((ks.map Sum.inr).zip us)) := by
      funext b
      by_cases nb : b = p
      · rw [nb, upd_same, upd_same]
      · rw [upd_ne nb, upd_ne nb, del_ne nb]
    have fin := k (.ref p) _ (m2 ++ [p]) R4 (st.trans (Rl.layStp del_same)) R3.layRef
    rw [e9] at fin
    exact fin
  · cases e2
end
end Pyx
end
section
set_option maxRecDepth 100000
namespace Pyx
open PySem L2
open PySem.Spec PyProof.Rows

/-! ### a call behind which what it laid into the store is forgotten -/
mutual
def AV.rlt (n : Nat) : AV → Bool
  | .ref k => decide (k < n)
  | .tup xs => AV.rlts n xs | .lst xs => AV.rlts n xs
  | _ => true
def AV.rlts (n : Nat) : List AV → Bool
  | [] => true | x :: xs => x.rlt n && AV.rlts n xs
end
def rltD (n : Nat) : List (Str × AV) → Bool
  | [] => true | x :: xs => x.2.rlt n && rltD n xs
def SObj.rlt (n : Nat) : SObj → Bool
  | .lst xs => AV.rlts n xs
  | .dic kvs => rltD n kvs
def eCallT (name : Str) (t : MAs) : ME := fun G a => (t G a).bind fun r => (G name r.1 r.2.S).bind fun q =>
  if (q.1.rlt r.2.S.length && (q.2.take r.2.S.length).all (SObj.rlt r.2.S.length)) = true ∧ r.2.S.length ≤ q.2.length then some (q.1, r.2.wS (q.2.take r.2.S.length)) else none
section
variable {K : PySem.W.Frag} {H : Hp} {hot hot' : Hot} {m m' : List Addr} {n : Nat}
mutual
theorem Rp.lower (k : ∀ p, hot' p → hot p) (hm : ∀ i, i < n → m'[i]? = m[i]?) : ∀ {v : AV} {x : V}, Rp K H hot m x v → v.rlt n = true → Rp K H hot' m' x v
  | .non, _, .non, _ => .non
  | .bl _, _, .bl b, _ => .bl b
  | .int _, _, .int i, _ => .int i
  | .str _, _, .str x, _ => .str x
  | .tup xs, _, .tup h r, e => .tup h (Rps.lower k hm r e)
  | .lst xs, _, .lst h q r, e => .lst h (fun z => q (k _ z)) (Rps.lower k hm r e)
  | .lst xs, _, .lstK h r, e => .lstK h (Rps.lower k hm r e)
  | .ref j, _, .ref h, e => .ref ((hm j (of_decide_eq_true e)).trans h)
theorem Rps.lower (k : ∀ p, hot' p → hot p) (hm : ∀ i, i < n → m'[i]? = m[i]?) : ∀ {vs : List AV} {xs : List V}, Rps K H hot m xs vs → AV.rlts n vs = true → Rps K H hot' m' xs vs
  | [], _, .nil, _ => .nil
  | v :: vs, _, .cons r t, e => by
    have e' : (v.rlt n && AV.rlts n vs) = true := e
    rw [Bool.and_eq_true] at e'
    exact .cons (Rp.lower k hm r e'.1) (Rps.lower k hm t e'.2)
end
theorem RpD.lower (k : ∀ p, hot' p → hot p) (hm : ∀ i, i < n → m'[i]? = m[i]?) : ∀ {xs : List (Key × V)} {vs : List (Str × AV)}, RpD K H hot m xs vs → rltD n vs = true → RpD K H hot' m' xs vs
  | [], [], _, _ => trivial
  | (_, _) :: _, (_, v) :: vs, ⟨e, r, t⟩, h => by
    have h' : (v.rlt n && rltD n vs) = true := h
    rw [Bool.and_eq_true] at h'
    exact ⟨e, r.lower k hm h'.1, RpD.lower k hm t h'.2⟩
  | [], _ :: _, h, _ => h.elim
  | _ :: _, [], h, _ => h.elim
end
section
variable {X : Cx} {F : Hot} {G : Gm}
theorem callT_read {name : Str} {n : Nat} {t : MAs} {σ : L2.St} {H : Hp} {Q : VK} (hn : ∀ as S r, G name as S = some r → as.length = n) (h : tE X.K F G (eCallT name t) σ H Q) : tCall (spG X.K G name n) [] E0 (tAs X.K F G t) σ H Q := by
  obtain ⟨m, a, r, R, e, k⟩ := h
  obtain ⟨q, e1, e⟩ := Option.bind_eq_some_iff.mp e
  obtain ⟨v, e2, e3⟩ := Option.bind_eq_some_iff.mp e
  split at e3
  · rename_i hc
    cases e3
    obtain ⟨hc, hle⟩ := hc
    rw [Bool.and_eq_true, List.all_eq_true] at hc
    obtain ⟨c1, c2⟩ := hc
    refine ⟨m, a, q, R, e1, fun xs H1 m1 R1 s1 r1 => ?_⟩
    show spG X.K G name n (xs ++ []) H1 Q E0
    rw [List.append_nil]
    refine ⟨r1.length.trans (hn _ _ _ e2), inF F q.2 σ, m1, q.2.S, q.1, v, R1.enter, r1.keep (KeepR.hot fun p h => hot_in.mp h), e2, fun x H' m' R' s' r' => ?_⟩
    obtain ⟨a1, a2, a3⟩ := R1.leave R' s'
    have hm : ∀ i, i < q.2.S.length → m1[i]? = m'[i]? := fun i hi => by
      have h1 : i < m1.length := by rw [R1.mlen]; exact hi
      rw [List.getElem?_eq_getElem h1]
      exact (s'.pre i _ (List.getElem?_eq_getElem h1)).symm
    have sub : ∀ p, p ∈ m1 → p ∈ m' := fun p hp => by
      obtain ⟨i, hi, e⟩ := List.getElem_of_mem hp
      exact List.mem_of_getElem? (s'.pre i p (by rw [List.getElem?_eq_getElem hi, e]))
    have hh : ∀ p, hotOf F m1 (q.2.wS (v.2.take q.2.S.length)) σ p → hotOf F m' (q.2.wS v.2) σ p := fun p h => h.imp id fun h => h.imp (sub p) id
    have st : Stp m1 q.2 σ H1 m1 (q.2.wS (v.2.take q.2.S.length)) σ H' := ⟨fun _ _ e => e, a2.keep, a2.dom, fun b h => .inl h⟩
    have R2 : Rl X.K F m1 (q.2.wS (v.2.take q.2.S.length)) σ H' := by
      refine ⟨R1.len, fun i w e => ?_, fun i ys e => ?_, R1.inj, ?_, fun i o p e4 e5 => ?_, R1.mnd, R1.mF, a1.FH⟩
      · obtain ⟨y, e4, r4⟩ := R1.slot i w e
        exact ⟨y, e4, r4.step R1 st⟩
      · obtain ⟨p, vs, e4, h1, r4, n1, n2⟩ := R1.own i ys e
        exact ⟨p, vs, e4, s'.keep p _ h1 fun h => h.elim n2 fun h => own_nil h, r4.step R1 st, n1, n2⟩
      · show m1.length = (v.2.take q.2.S.length).length
        rw [R1.mlen, List.length_take]
        omega
      · have hi : i < q.2.S.length := by
          have := (List.getElem?_eq_some_iff.mp e5).1
          rw [R1.mlen] at this
          exact this
        have e6 : v.2[i]? = some o := by
          have : (v.2.take q.2.S.length)[i]? = some o := e4
          rwa [List.getElem?_take_of_lt hi] at this
        have ob := a1.obj i o p e6 (by rw [← hm i hi]; exact e5)
        have ok := c2 o (List.mem_of_getElem? (show (v.2.take q.2.S.length)[i]? = some o from e4))
        cases o with
        | lst ys => obtain ⟨vs, h1, r4⟩ := ob; exact ⟨vs, h1, r4.lower hh hm ok⟩
        | dic ys => obtain ⟨vs, h1, r4⟩ := ob; exact ⟨vs, h1, r4.lower hh hm ok⟩
    exact k x H' m1 R2 (s1.trans st) ((a3 x v.1 r').lower hh hm c1)
  · cases e3
theorem pe_eCallT {name : Str} {n d : Nat} {t : MAs} {e : Expr} {es : List Expr} {p pos : Pos} (f : FnG X G d name n) (hr : Room d X.A) (hg : Gl X name) (hd : (name == ("__debug__" : Str)) = false) (ha : PA X (e :: es) (tAs X.K F G t)) (hs : (e :: es).all notStar = true) :
    PE X (.Call (.Name name p) (e :: es) [] pos) (tE X.K F G (eCallT name t)) := by
  obtain ⟨f1, fd, ps, h1, h2, h3, h4⟩ := f.ex
  rw [List.all_cons, Bool.and_eq_true] at hs
  exact (pe_call h4 hr hg h1 h2 h3 .nil pass0 ha hd (star_cons hs.1) (star_any hs.2)).weak fun _ _ _ => callT_read f.ar
end
end Pyx
end
section
set_option maxRecDepth 100000
set_option maxHeartbeats 5000000
namespace Pyx
open PySem L2
open PySem.Spec PyProof.Rows

/-! ### set(xs), xs a list of whole numbers: what stands behind the call -/
section
variable {P : Program} {w : World} {A : Around}
/-- an empty set as it is made -/
abbrev mtSet (w : World) : Obj := { cls := .type "set", data := .set #[] 0 (.fresh 0 0 (!w.params.followText "set-order")), dict := none }
abbrev withMt (w : World) (s : Shared) : Shared := { s with heap := s.heap.push (mtSet w) }
/-- s' is s with the set of ns behind its objects -/
def SetBehind (w : World) (s : Shared) (ns : List Int) (s' : Shared) : Prop :=
  ∃ (h : Heap) (k c : Nat), s' = { s with heap := h, toks := k } ∧ c ≤ ns.length ∧
    SetR w h s.heap.objs.size (fun z => decide (z ∈ ns)) c ∧ ∀ b o, s.heap.get? b = some o → h.get? b = some o
theorem list_lt {h : Heap} {l : Addr} {its : Array Value} (a : h.IsList l its) : l < h.objs.size := let ⟨_, e, _⟩ := a; Heap.lt_size e
theorem put_all {s : Shared} {l : Addr} {its : Array Value} {ns : List Int} {R : Result → Shared → Prop} (free : A.in1.handled = none)
    (a : s.heap.IsList l its) (zs : IntsAre its.toList ns) (few : ns.length + 1 < scanBound) (done : ∀ s', SetBehind w s ns s' → R (.ok (.ret .none)) s') :
    codeAny (model P w) A (.builtin "set.update.loop" ⟨[.ref s.heap.objs.size, .ref (withMt w s).heap.objs.size], []⟩) R
      { withMt w s with heap := (withMt w s).heap.push { cls := .type "list_iterator", data := .fields #[.ref l, .int 0 0] } } := by
  have lt := list_lt a
  have sz : (withMt w s).heap.objs.size = s.heap.objs.size + 1 := Heap.size_push ..
  have size : its.size = ns.length := by simpa using zs.length
  have ne : l ≠ (withMt w s).heap.objs.size := Nat.ne_of_lt (by rw [sz]; exact Nat.lt_succ_of_lt lt)
  have vals : ∀ (i : Nat) (v : Value), its[i]? = some v → ∃ k t, ns[i]? = some k ∧ v = Value.int k t := by
    intro i v e
    have lt : i < ns.length := size ▸ (Array.getElem?_eq_some_iff.mp e).1
    obtain ⟨t, e'⟩ := zs.int_at i v (by simpa using e)
    exact ⟨ns[i], t, List.getElem?_eq_getElem lt, by simpa [lt] using e'⟩
  have out : s.heap.objs.size ∉ [(withMt w s).heap.objs.size, l] := by
    intro h
    rcases List.mem_cons.mp h with h | h
    · rw [sz] at h; exact Nat.succ_ne_self _ h.symm
    · exact Nat.ne_of_gt lt (List.mem_singleton.mp h)
  apply set_update_ints (Walks.list free _ l ne its).toS _ out ns size few vals its.size 0 _ (by omega) (Nat.zero_le _)
  · exact ⟨⟨_, Heap.get?_push_size _ rfl, rfl, rfl⟩, (a.push _).push _⟩
  · exact ⟨0, Nat.le_refl _, setR_new_at (Heap.get?_push_of_some _ (Heap.get?_push_size _ rfl))⟩
  · intro s' c m hc S
    refine done s' ⟨s'.heap, s'.toks, c, m.eq_with, size ▸ hc, S, fun b o e => m.heap b o (fun hb => ?_) ?_⟩
    · have l1 := Heap.lt_size e
      rcases List.mem_cons.mp hb with hb | hb
      · exact Nat.ne_of_lt l1 hb
      · exact Nat.ne_of_lt (by rw [sz]; exact Nat.lt_succ_of_lt l1) (List.mem_singleton.mp hb)
    · exact Heap.get?_push_of_some _ (Heap.get?_push_of_some _ e)
theorem init_ok {s : Shared} {l : Addr} {its : Array Value} {ns : List Int} {R : PySem.Fin → Shared → Prop} {E : Value → Shared → Prop} (free : A.handled = none)
    (a : s.heap.IsList l its) (zs : IntsAre its.toList ns) (few : ns.length + 1 < scanBound) (done : ∀ s', SetBehind w s ns s' → R (.done (.ret .none)) s') :
    wpAny (model P w) A (Builtin.«set.__init__» ⟨[.ref s.heap.objs.size] ++ [.ref l], []⟩) R E (withMt w s) := by
  have a1 : (withMt w s).heap.IsList l its := a.push _
  obtain ⟨⟨_, d, _, slots⟩, e, rfl, n, rfl⟩ := a
  have e1 : (withMt w s).heap.get? l = some { cls := .type "list", dict := d, data := .seq its n, slots := slots } := Heap.get?_push_of_some _ e
  have s1 := F.sub_list_set; have s2 := F.sub_list_frozenset
  have nd : (Value.type "list" == .type "dict") = false := by rfl
  unfold Builtin.«set.__init__» noKeywords
  unfold Builtin.Frozenset.updateFrom
  generalize eI : pyIter = it
  wp_walk
  subst eI
  apply wpAny_pyIter_list a1
  apply wpAny_bind (wpAny_runValue _)
  refine put_all (by simp [free]) ⟨_, e, rfl, n, rfl⟩ zs few fun s' h => ?_
  exact wpAny_pure (wpAny_pure (done s' h))
theorem call_set_lstI {s : Shared} {l : Addr} {its : Array Value} (ns : List Int) {Q E : Value → Shared → Prop} (free : A.handled = none)
    (a : s.heap.IsList l its) (zs : IntsAre its.toList ns) (few : ns.length + 1 < scanBound) (done : ∀ s', SetBehind w s ns s' → Q (.ref s.heap.objs.size) s') :
    wpAny (model P w) A (PySem.call (Value.type "set") [Value.ref l]) Q E s := by
  have ⟨_, _, mro⟩ := F.called_set.mro
  have c1 := F.called_set.made; have c2 := F.called_set.sub; have c3 := F.called_set.notType
  have c4 := F.called_set.canCreate; have c5 := F.typeCall_set_1 (.ref l)
  have c6 := F.called_set.init.lookup; have c7 := F.called_set.init.bind (.ref s.heap.objs.size)
  apply wpAny_call
  apply codeAny_of_tree
  show wpAny _ _ (callAny (.type "set") ⟨[.ref l], []⟩) _ _ _
  refine wpAny_pure (And.intro (Code.quiet_builtin _ (by decide +kernel)) ?_)
  refine codeAny_builtin F.entry_type_call ?_
  rw [A.under_plain (weight_type_call_type _ _ _) rfl]
  repeat any_goals first | assumption | wp_step
  refine codeAny_mono (code_set_led1 (.ref l) (E := E) (Q₁ := fun v t => v = .ref s.heap.objs.size ∧ t = withMt w s) ⟨rfl, rfl⟩) fun r t hr => ?_
  rcases r with e | f
  · exact hr
  rcases f with f | _ | _ | v
  any_goals exact hr.elim
  obtain ⟨rfl, rfl⟩ := hr
  have ty : (withMt w s).TypeIs (.ref s.heap.objs.size) "set" := ⟨_, Heap.get?_push_size _ rfl, rfl⟩
  repeat any_goals first | assumption | wp_step
  refine codeAny_mono (codeAny_call_builtin (R := wants (fun v t => v = .none ∧ SetBehind w s ns t) E) F.called_set.init.plain F.entry_set_init
    (check_set_init_1 ty (init_ok (by simp [free]) a zs few fun _ h => ⟨rfl, h⟩))) fun r t hr => ?_
  rcases r with e | f
  · exact hr
  rcases f with f | _ | _ | v
  any_goals exact hr.elim
  obtain ⟨rfl, hb⟩ := hr
  repeat any_goals first | assumption | wp_step
  exact done t hb
end
end Pyx
end
section
set_option maxRecDepth 100000
namespace Pyx
open PySem PySem.Spec PyProof.Rows L2

/-! ### sorted(set(xs)) of whole numbers: the rule -/
def insD (x : Int) : List Int → List Int
  | [] => [x]
  | y :: r => if x < y then x :: y :: r else if x = y then y :: r else y :: insD x r
def ssI : List Int → List Int
  | [] => []
  | x :: r => insD x (ssI r)
theorem insD_mem {x k : Int} : ∀ l : List Int, k ∈ insD x l ↔ k = x ∨ k ∈ l
  | [] => by simp [insD]
  | y :: r => by
    unfold insD
    split
    · simp
    · split
      · rename_i h; subst h; simp
      · rw [List.mem_cons, insD_mem r, List.mem_cons]
        constructor
        · rintro (h | h | h)
          · exact .inr (.inl h)
          · exact .inl h
          · exact .inr (.inr h)
        · rintro (h | h | h)
          · exact .inr (.inl h)
          · exact .inl h
          · exact .inr (.inr h)
theorem insD_sorted {x : Int} : ∀ l : List Int, l.Pairwise (· < ·) → (insD x l).Pairwise (· < ·)
  | [], _ => by simp [insD]
  | y :: r, h => by
    rw [List.pairwise_cons] at h
    unfold insD
    split
    · rename_i hx
      refine List.pairwise_cons.mpr ⟨fun k hk => ?_, List.pairwise_cons.mpr h⟩
      rcases List.mem_cons.mp hk with rfl | hk
      · exact hx
      · exact Int.lt_trans hx (h.1 k hk)
    · split
      · exact List.pairwise_cons.mpr h
      · refine List.pairwise_cons.mpr ⟨fun k hk => ?_, insD_sorted r h.2⟩
        rcases (insD_mem r).mp hk with rfl | hk
        · omega
        · exact h.1 k hk
theorem ssI_mem {k : Int} : ∀ l : List Int, k ∈ ssI l ↔ k ∈ l
  | [] => Iff.rfl
  | x :: r => by
    show k ∈ insD x (ssI r) ↔ _
    rw [insD_mem, ssI_mem r, List.mem_cons]
theorem ssI_sorted : ∀ l : List Int, (ssI l).Pairwise (· < ·)
  | [] => .nil
  | x :: r => insD_sorted _ (ssI_sorted r)
theorem strict_uniq : ∀ {a b : List Int}, a.Pairwise (· < ·) → b.Pairwise (· < ·) → (∀ k, k ∈ a ↔ k ∈ b) → a = b
  | [], [], _, _, _ => rfl
  | [], y :: b, _, _, h => by have := (h y).mpr List.mem_cons_self; cases this
  | x :: a, [], _, _, h => by have := (h x).mp List.mem_cons_self; cases this
  | x :: a, y :: b, ha, hb, h => by
    rw [List.pairwise_cons] at ha hb
    have e : x = y := by
      rcases List.mem_cons.mp ((h x).mp List.mem_cons_self) with e | e
      · exact e
      · rcases List.mem_cons.mp ((h y).mpr List.mem_cons_self) with e2 | e2
        · exact e2.symm
        · have h1 := hb.1 x e
          have h2 := ha.1 y e2
          omega
    subst e
    rw [strict_uniq ha.2 hb.2 fun k => ?_]
    constructor
    · intro hk
      rcases List.mem_cons.mp ((h k).mp (List.mem_cons_of_mem _ hk)) with e | e
      · have := ha.1 k hk; omega
      · exact e
    · intro hk
      rcases List.mem_cons.mp ((h k).mpr (List.mem_cons_of_mem _ hk)) with e | e
      · have := hb.1 k hk; omega
      · exact e
def rSetLI (K : PySem.W.Frag) (w : World) : List V → Hp → VK → Prop := fun vs H Q => ∃ (a : Addr) (ns : List Int), vs = [V.ref a] ∧ SqL K H a (ns.map V.int) ∧ ns.length < 64 ∧
  ∀ (p : Addr) (c : Nat), H p = none → c ≤ ns.length → Q (.ref p) (upd H p (SetO w p (fun j => decide (j ∈ ns)) c))
theorem cr_setLI {X : Cx} (hc : X.calm = true) : CallR X (.type "set") (rSetLI X.K X.w) := by
  intro pins s σ H vs us Q I r h
  obtain ⟨a, ns, rfl, hs, h64, q⟩ := h
  obtain ⟨its, rv, hl, hz⟩ := I.list hs
  rw [Vals.ref1 r]
  refine call_set_lstI ns (I.ok.hd hc) hl.isList (by simpa using rv.ints) (by unfold scanBound; omega) fun _ ⟨h', tk, c, es, hcl, hS, hk⟩ => ?_
  subst es
  exact ⟨.ref _, upd H s.heap.objs.size (SetO X.w s.heap.objs.size (fun j => decide (j ∈ ns)) c), I.laid (t' := tk) hk (Nat.le_refl _) (setO_new hS), rfl, q _ c (I.hok.fresh (Nat.le_refl _)) hcl⟩
def fSS (o : MO) : MAs := fun G a => (o G a).bind fun r => (cont r.2 r.1).bind fun c => match c with
  | .lst xs => (asInts xs).bind fun ns => if ns.length < 64 then some ((ssI ns).map .int, r.2) else none
  | _ => none
section
variable {X : Cx} {F : Hot} {G : Gm}
theorem ss_read {o : MO} {σ : L2.St} {H : Hp} {Q : VK} (h : tF X.K F G (fSS o) σ H Q) : tCB (rSortedSet X.w) (tCons (tCB (rSetLI X.K X.w) (tCons (tO X.K F G o) tNil)) tNil) σ H Q := by
  obtain ⟨m, a, r, R, e, k⟩ := h
  obtain ⟨q, e1, e⟩ := Option.bind_eq_some_iff.mp e
  obtain ⟨c, e2, e⟩ := Option.bind_eq_some_iff.mp e
  split at e
  · rename_i xs
    obtain ⟨ns, e3, e⟩ := Option.bind_eq_some_iff.mp e
    split at e
    · rename_i h64
      cases e
      have := asInts_of e3; subst this
      refine ⟨m, a, q, R, e1, fun x H1 m1 R1 s1 h1 => ?_⟩
      obtain ⟨p, vs, rfl, hs, r1⟩ := (h1.cont R1 e2).lst
      rw [r1.of_ints] at hs
      refine ⟨p, ns, rfl, hs, h64, fun p' c hp hcl => ⟨p', _, c, rfl, upd_same, by omega, fun ns' q' hs' hm hl hq => ?_⟩⟩
      have e9 : ns' = ssI ns := strict_uniq hs' (ssI_sorted ns) fun k => by rw [hm k, ssI_mem]; simp
      subst e9
      exact k q' _ _ m1 (R1.new hp) (s1.trans (.new hp)) hq (.ints _)
    · cases e
  · cases e
end
end Pyx
end
section
set_option maxRecDepth 100000
namespace Pyx
open PySem PySem.Spec PyProof.Rows L2

/-! ### from the text to the evaluator -/
/-- the names by slot, the scope's names, which cells may be stored, the marks (1: a name's own list, 2: laid into the store, 3: lent), the defs, the constants -/
structure CC where
  N : List Str
  names : List (Str × NameKind)
  fnc : Str → Bool
  marks : List ((Nat × Nat) × Nat)
  defs : List (Str × Nat)
  consts : List (Str × AV)
def idx (x : Str) : List Str → Option Nat
  | [] => none
  | y :: r => if y = x then some 0 else (idx x r).map (· + 1)
theorem idx_get {x : Str} : ∀ {N : List Str} {i : Nat}, idx x N = some i → N[i]? = some x
  | y :: r, i, h => by
    unfold idx at h
    split at h
    · rename_i e; cases h; rw [e]; rfl
    · obtain ⟨j, e1, e2⟩ := Option.map_eq_some_iff.mp h
      subst e2
      simpa using idx_get e1
  | [], _, h => by cases h
def grd {α : Type} (b : Bool) (x : Option α) : Option α := if b = true then x else none
theorem grd_of {α : Type} {b : Bool} {x : Option α} {y : α} (h : grd b x = some y) : b = true ∧ x = some y := by
  unfold grd at h
  split at h
  · exact ⟨by assumption, h⟩
  · cases h
def CC.mark (C : CC) (p : Pos) : Nat := (C.marks.lookup (p.line, p.col)).getD 0
def CC.vis (C : CC) (x : Str) : Bool := match C.names.lookup x with
  | some .local | some .cell | some .free => true
  | _ => false
def CC.loc (C : CC) (x : Str) : Bool := match C.names.lookup x with
  | some .local => true
  | some .cell => C.fnc x
  | _ => false
def CC.isLocal (C : CC) (x : Str) : Bool := match C.names.lookup x with
  | some .local => true
  | _ => false
def CC.glob (C : CC) (x : Str) : Bool := match C.names.lookup x with
  | some .globalImplicit => true
  | _ => false
def okName (x : Str) : Bool := !(x == ("__debug__" : Str)) && !(x == ("__classdict__" : Str)) && !(x == ("__name__" : Str))
def CC.var (C : CC) (x : Str) : Option Nat := grd (C.vis x && okName x) (idx x C.N)
def conOf : Const → Option AV
  | .none => some .non
  | .bool b => some (.bl b)
  | .int i => some (.int i)
  | .str x => some (.str x)
  | _ => none
/-- built-ins by name -/
structure BiE where
  isTy : Bool
  id : String
  f : Bi
structure BfE where
  isTy : Bool
  id : String
  f : BiF
def biTab : List (Str × BiE) := [("len", ⟨false, "len", biLen⟩), ("int", ⟨true, "int", biInt⟩), ("abs", ⟨false, "abs", biAbs⟩), ("sum", ⟨false, "sum", biSum⟩), ("max", ⟨false, "max", biMax⟩), ("min", ⟨false, "min", biMin⟩), ("any", ⟨false, "any", biAny⟩),
  ("all", ⟨false, "all", biAll⟩), ("tuple", ⟨true, "tuple", biTuple⟩)]
def bfTab : List (Str × BfE) := [("list", ⟨true, "list", bfList⟩), ("sorted", ⟨false, "sorted", bfSorted⟩)]
def tyTab : List (Str × String) := [("tuple", "tuple"), ("int", "int"), ("bool", "bool"), ("str", "str"), ("list", "list")]
def bltNames : List Str := ["len", "int", "abs", "sum", "max", "min", "any", "all", "tuple", "list", "sorted", "isinstance", "range", "bool", "str", "set", "enumerate", "zip"]
def opNeg : List SObj → AV → Option AV
  | _, .int i => some (.int (-i))
  | _, _ => none
def eNeg (o : MO) : ME := fun G a => (o G a).bind fun r => (cont r.2 r.1).bind fun c => (opNeg r.2.S c).map fun v => (v, r.2)
def isSlice : Expr → Bool
  | .Slice _ _ _ _ => true
  | _ => false
/-- the names of a block that are its own, with their slots -/
def ownOf (N : List Str) : List (Str × NameKind) → List (Str × Nat)
  | [] => []
  | (y, k) :: r => match k, idx y N with
    | .local, some i => (y, i) :: ownOf N r
    | .cell, some i => (y, i) :: ownOf N r
    | _, _ => ownOf N r
def blkB (N : List Str) (names : List (Str × NameKind)) (scope : Scope) (own : List (Str × Nat)) : Bool :=
  (match scope.kind with | .function => true | _ => false) && (scope.names.all fun y => decide (scope.names.lookup y.1 = some y.2)) && (own.all fun p => decide (N[p.2]? = some p.1)) &&
    (scope.names.all fun y => match y.2 with
      | .free => (match names.lookup y.1 with | some .cell => true | some .free => true | _ => false)
      | .local => decide (y.1 ∈ own.map (·.1)) || decide (y.1 ∉ N)
      | .cell => decide (y.1 ∈ own.map (·.1)) || decide (y.1 ∉ N)
      | _ => true)
def CC.blk (C : CC) (scope : Scope) : CC := { C with
  names := scope.names.map fun (n, k) => if (k == .free && C.names.lookup n == some .cell) then (n, .cell) else (n, k)
  fnc := fun x => scope.names.lookup x == some .cell }
/-- a target's slots -/
def cNs (C : CC) : List Expr → Option (List Nat)
  | [] => some []
  | .Name y _ :: es => (grd (C.loc y) (idx y C.N)).bind fun i => (cNs C es).map (i :: ·)
  | _ => none
def cTg (C : CC) : Expr → Option Tg
  | .Name y _ => (grd (C.loc y) (idx y C.N)).map .one
  | .Tuple es _ _ => (cNs C es).map .many
  | _ => none
def mTrue : MT := fun _ a => some (true, a)
/-- isinstance, or what makes a fresh list -/
def cIsi (C : CC) (x : Str) (args : List Expr) (rO : Expr → Option MO) (fr : Option ME) : Option ME := match args with
  | [e, .Name T _] => if x = ("isinstance" : Str) then grd (C.glob T && okName T && (C.defs.lookup T).isNone) ((tyTab.lookup T).bind fun s => (rO e).map (eIsi s)) else none
  | _ => fr
/-- a built-in's call -/
def cBi (C : CC) (x : Str) (args : List Expr) (b : Option BiE) (rO : Expr → Option MO) (os : Option MOs) (fr : Option ME) : Option ME := match b with
  | some b => if args.isEmpty = true then none else os.map (eBi b.f)
  | none => cIsi C x args rO fr
/-- sorted(set(e)): e -/
def setArg (C : CC) (x : Str) : Expr → Option Expr
  | .Call (.Name y _) [e] [] _ => grd (decide (x = ("sorted" : Str)) && decide (y = ("set" : Str)) && C.glob y && (C.defs.lookup y).isNone && notStar e) (some e)
  | _ => none
/-- list(range(e)): e -/
def rgArg (C : CC) (x : Str) : Expr → Option Expr
  | .Call (.Name y _) [e] [] _ => grd (decide (x = ("list" : Str)) && decide (y = ("range" : Str)) && C.glob y && (C.defs.lookup y).isNone && notStar e) (some e)
  | _ => none
/-- is it [::-1] -/
def isRev (lo hi : Option Expr) (st : Expr) : Bool := match lo, hi, st with
  | none, none, .UnaryOp .USub (.Constant (.int i) _ _) _ => decide (i = 1)
  | _, _, _ => false
/-- a display's keys, if they are texts -/
def keyStrs : List (Option Expr) → Option (List Str)
  | [] => some []
  | some (.Constant (.str k) _ _) :: r => (keyStrs r).map (k :: ·)
  | _ => none
/-- the written text ahead of a method's name -/
def txtOf : Expr → Option Str
  | .Constant (.str z) _ _ => some z
  | _ => none
mutual
def cE : Nat → CC → Expr → Option ME
  | 0, _, _ => none
  | n + 1, C, .Name x _ => match C.var x with
    | some i => some (eVar i)
    | none => grd (C.glob x && okName x) ((C.consts.lookup x).map eCon)
  | n + 1, C, .Constant c _ _ => (conOf c).map eCon
  | n + 1, C, .BinOp x op y pos => if C.mark pos = 2 then (cF n C (.BinOp x op y pos)).map eLay else (binF op).bind fun f => (cO n C x).bind fun a => (cO n C y).map fun b => eBin f a b
  | n + 1, C, .UnaryOp op x _ => match op with
    | .Not => (cE n C x).map eNot
    | .USub => (cO n C x).map eNeg
    | _ => none
  | n + 1, C, .BoolOp op vs pos => match vs with
    | [x] => cE n C x
    | x :: y :: rest => (cE n C x).bind fun a => (cE n C (.BoolOp op (y :: rest) pos)).map fun b => match op with
      | .And => eAnd a b
      | .Or => eOr a b
    | [] => none
  | n + 1, C, .IfExp t x y _ => (cM n C t).bind fun c => (cE n C x).bind fun a => (cE n C y).map fun b => eIte c a b
  | n + 1, C, .Compare x ops ys _ => match ops, ys with
    | [op], [y] => grd (!behindInMarks op y) ((cmpF op).bind fun f => (cO n C x).bind fun a => (cO n C y).map fun b => eBin f a b)
    | [op, op'], [y, z] => grd (!lastMarks [op, op'] [y, z]) ((cmpF op).bind fun f => (cmpF op').bind fun f' => (cO n C x).bind fun a => (cO n C y).bind fun b => (cO n C z).map fun c => eChain f f' a b c)
    | _, _ => none
  | n + 1, C, .Tuple es _ _ => (cA n C es).map eTup
  | n + 1, C, .List es pos => (cF n C (.List es pos)).map fun f => if C.mark pos = 2 then eLay f else eFrz f
  | n + 1, C, .ListComp elt gs sc pos => (cF n C (.ListComp elt gs sc pos)).map fun f => if C.mark pos = 2 then eLay f else eFrz f
  | n + 1, C, .Subscript x i pos => match i with
    | .Slice lo hi st p2 => if C.mark pos = 2 then (cF n C (.Subscript x (.Slice lo hi st p2) pos)).map eLay else match st with
      | none => (cO n C x).bind fun o => (cP n C lo).bind fun l => (cP n C hi).map fun h => eSl o l h
      | some st => if isRev lo hi st = true then (cO n C x).map eRevT else none
    | i => (cO n C x).bind fun a => (cO n C i).map fun b => eBin opIx a b
  | n + 1, C, .Call f args kws pos => match f, kws with
    | .Name x px, [] => grd (C.glob x && okName x && args.all notStar) (match C.defs.lookup x with
      | some _ => match args with
        | [] => some (eCall x aNil)
        | e :: es => if C.mark pos = 3 then (cOs n C (e :: es)).map (eLend x) else if C.mark pos = 4 then (cA n C (e :: es)).map (eCallT x) else (cA n C (e :: es)).map (eCall x)
      | none => cBi C x args (biTab.lookup x) (cO n C) (cOs n C args) ((cF n C (.Call (.Name x px) args [] pos)).map fun f => if C.mark pos = 2 then eLay f else eFrz f))
    | .Attribute o m apos, [] => grd (notCall o && args.all notStar && (apos.endLine == pos.line)) (match args with
      | [] => if m = ("pop" : Str) then (cO n C o).map ePop else none
      | [y] => if m = ("append" : Str) then (cO n C o).bind fun a => (cE n C y).map (eApp a)
        else if m = ("pop" : Str) then (cO n C o).bind fun a => (cE n C y).map (ePopAt a)
        else if m = ("index" : Str) then (cO n C o).bind fun a => (cO n C y).map (eSeqM idxA [1, 2] a)
        else if m = ("count" : Str) then (cO n C o).bind fun a => (cO n C y).map (eSeqM cntA [1] a)
        else if m = ("join" : Str) then (txtOf o).bind fun z => (cO n C y).map (eJoin z)
        else none
      | _ => none)
    | _, _ => none
  | n + 1, C, .Dict keys vals _ => (keyStrs keys).bind fun ks => grd (asgK ks && decide (keys.length = vals.length)) ((cA n C vals).map (eDic ks))
  | _ + 1, _, _ => none
def cO : Nat → CC → Expr → Option MO
  | 0, _, _ => none
  | n + 1, C, .Name x p => match C.var x with
    | some i => some (oVar i)
    | none => (cE n C (.Name x p)).map oE
  | n + 1, C, e => (cE n C e).map oE
def cF : Nat → CC → Expr → Option MAs
  | 0, _, _ => none
  | n + 1, C, .List es _ => (cA n C es).map fLst
  | n + 1, C, .BinOp x op y _ => match op with
    | .Add => (cO n C x).bind fun a => (cO n C y).map fun b => fCat a b
    | _ => none
  | n + 1, C, .Subscript x i _ => match i with
    | .Slice lo hi none _ => (cO n C x).bind fun o => (cP n C lo).bind fun l => (cP n C hi).map fun h => fSl o l h
    | _ => none
  | n + 1, C, .Call f args kws _ => match f, kws, args with
    | .Name x _, [], [e] => grd (C.glob x && okName x && notStar e && (C.defs.lookup x).isNone) (match setArg C x e with
      | some e2 => (cO n C e2).map fSS
      | none => match rgArg C x e with
      | some e2 => (cE n C e2).map fRg
      | none => (bfTab.lookup x).bind fun b => (cOs n C [e]).map (fBi b.f))
    | _, _, _ => none
  | n + 1, C, .ListComp elt gs sc _ => match gs with
    | [⟨tg, it, ifs, asy⟩] => grd (asy == 0 && blkB C.N C.names sc (ownOf C.N sc.names) && notSet it) ((cTg (C.blk sc) tg).bind fun t => grd (t.slots.all fun i => decide (i ∈ (ownOf C.N sc.names).map Prod.snd)) ((cE n (C.blk sc) elt).bind fun me => (match ifs with
        | [] => some mTrue
        | [c] => cM n (C.blk sc) c
        | _ => none).bind fun tst => match it with
          | .Call (.Name r _) args [] _ => if r = ("range" : Str) then grd (C.glob r && (C.defs.lookup r).isNone) (match args with
              | [x] => grd (notStar x) ((cA n C [x]).map fun u => fCompR asR1 u ((ownOf C.N sc.names).map Prod.snd) t tst me)
              | [x, y] => grd (notStar x && notStar y) ((cA n C [x, y]).map fun u => fCompR asR2 u ((ownOf C.N sc.names).map Prod.snd) t tst me)
              | _ => none) else if r = ("enumerate" : Str) then grd (C.glob r && (C.defs.lookup r).isNone) (match args, t with
              | [x], .many is => grd (notStar x) ((cE n C x).map fun u => fCompE u ((ownOf C.N sc.names).map Prod.snd) is tst me)
              | _, _ => none) else (cE n C it).map fun e => fComp e ((ownOf C.N sc.names).map Prod.snd) t tst me
          | _ => (cE n C it).map fun e => fComp e ((ownOf C.N sc.names).map Prod.snd) t tst me))
    | _ => none
  | _ + 1, _, _ => none
def cM : Nat → CC → Expr → Option MT
  | 0, _, _ => none
  | n + 1, C, .UnaryOp op x _ => match op with
    | .Not => (cM n C x).map mNot
    | _ => none
  | n + 1, C, .BoolOp op vs _ => cW n C op vs
  | n + 1, C, .IfExp _ _ _ _ => none
  | n + 1, C, .Compare x ops ys _ => match ops, ys with
    | [op], [y] => grd (!behindInMarks op y) ((cmpF op).bind fun f => (cO n C x).bind fun a => (cO n C y).map fun b => mBool (eBin f a b))
    | [op, op'], [y, z] => grd (!lastMarks [op, op'] [y, z]) ((cmpF op).bind fun f => (cmpF op').bind fun f' => (cO n C x).bind fun a => (cO n C y).bind fun b => (cO n C z).map fun c => mBool (eChain f f' a b c))
    | _, _ => none
  | n + 1, C, e => (cO n C e).map mTru
def cW : Nat → CC → BoolOp → List Expr → Option MT
  | 0, _, _, _ => none
  | n + 1, C, op, vs => match vs with
    | [x] => cM n C x
    | x :: y :: rest => (cM n C x).bind fun a => (cW n C op (y :: rest)).map fun b => match op with
      | .And => mAnd a b
      | .Or => mOr a b
    | [] => none
def cA : Nat → CC → List Expr → Option MAs
  | 0, _, _ => none
  | n + 1, C, es => match es with
    | [] => some aNil
    | e :: es => grd (notStar e) ((cE n C e).bind fun a => (cA n C es).map fun b => aCons a b)
def cOs : Nat → CC → List Expr → Option MOs
  | 0, _, _ => none
  | n + 1, C, es => match es with
    | [] => some osNil
    | e :: es => grd (notStar e) ((cO n C e).bind fun a => (cOs n C es).map fun b => osCons a b)
def cP : Nat → CC → Option Expr → Option MP
  | 0, _, _ => none
  | n + 1, C, e => match e with
    | none => some pNone
    | some e => (cE n C e).map pSome
end
end Pyx
end
section
set_option maxRecDepth 100000
namespace Pyx
open PySem PySem.Spec PyProof.Rows L2

structure Good (G : Gm) (d : Nat) (C : CC) (X : Cx) : Prop where
  calm : X.calm = true
  xe : X.xe = fun _ _ => False
  N : X.N = C.N
  nd : X.N.Nodup
  kind : X.env.scope.kind = .function
  names : X.env.scope.names = C.names
  fnc : ∀ x, C.fnc x = true → X.fn x = true
  room : Room d X.A
  blt : ∀ x ∈ bltNames, X.mg x = none
  fns : ∀ p ∈ C.defs, FnG X G d p.1 p.2
  con : ∀ p ∈ C.consts, ∃ u xv, X.mg p.1 = some u ∧ RelV xv u ∧ ConV X.K xv p.2

theorem lookup_mem {α : Type} : ∀ {l : List (Str × α)} {x : Str} {v : α}, l.lookup x = some v → (x, v) ∈ l
  | (y, w) :: r, x, v, h => by
    rw [List.lookup_cons] at h
    split at h
    · rename_i e
      cases h
      rw [eq_of_beq e]
      exact List.mem_cons_self
    · exact List.mem_cons_of_mem _ (lookup_mem h)
  | [], _, _, h => by cases h
section
variable {G : Gm} {d : Nat} {C : CC} {X : Cx} {F : Hot}
theorem Good.vis (g : Good G d C X) {x : Str} (h : C.vis x = true) : Vis X.env.scope x := by
  unfold Vis
  rw [g.names]
  unfold CC.vis at h
  split at h
  · rename_i e; exact .inl e
  · rename_i e; exact .inr (.inl e)
  · rename_i e; exact .inr (.inr e)
  · cases h
theorem Good.glob (g : Good G d C X) {x : Str} (h : C.glob x = true) : Gl X x := by
  show X.env.scope.names.lookup x = _
  rw [g.names]
  unfold CC.glob at h
  split at h
  · assumption
  · cases h
theorem Good.locV (g : Good G d C X) {x : Str} (h : C.loc x = true) : Loc X.env.scope x ∧ (X.fn x = true ∨ X.env.scope.names.lookup x = some .local) := by
  unfold L2.Loc
  rw [g.names]
  unfold CC.loc at h
  split at h
  · rename_i e; exact ⟨.inl e, .inr e⟩
  · rename_i e; exact ⟨.inr e, .inl (g.fnc x h)⟩
  · cases h
theorem okName_of {x : Str} (h : okName x = true) : (x == ("__debug__" : Str)) = false ∧ (x == ("__classdict__" : Str)) = false ∧ x ≠ "__name__" := by
  unfold okName at h
  simp only [Bool.and_eq_true, Bool.not_eq_true'] at h
  refine ⟨h.1.1, h.1.2, fun e => ?_⟩
  have := h.2
  rw [e] at this
  simp at this
theorem CC.var_of {x : Str} {i : Nat} (h : C.var x = some i) : C.vis x = true ∧ okName x = true ∧ C.N[i]? = some x := by
  obtain ⟨h1, h2⟩ := grd_of h
  rw [Bool.and_eq_true] at h1
  exact ⟨h1.1, h1.2, idx_get h2⟩
theorem Good.pvO (g : Good G d C X) {x : Str} {i : Nat} {p : Pos} (h : C.var x = some i) : PE X (.Name x p) (tO X.K F G (oVar i)) := by
  obtain ⟨h1, h2, h3⟩ := CC.var_of h
  obtain ⟨o1, o2, _⟩ := okName_of h2
  exact pe_oVar (by rw [g.N]; exact h3) (g.vis h1) o1 o2
theorem Good.pvE (g : Good G d C X) {x : Str} {i : Nat} {p : Pos} (h : C.var x = some i) : PE X (.Name x p) (tE X.K F G (eVar i)) := by
  obtain ⟨h1, h2, h3⟩ := CC.var_of h
  obtain ⟨o1, o2, _⟩ := okName_of h2
  exact pe_eVar (by rw [g.N]; exact h3) (g.vis h1) o1 o2
theorem Good.hu (g : Good G d C X) : X.A.units + 100 < cLine := by
  have := g.room.un
  omega
theorem plainIx {b : Expr} (h : isSlice b = false) : PlainIx b := fun o i => by cases b <;> first | rfl | cases h
theorem isTrue_plain {x : Expr} {env : Env} (h : (match x with | .UnaryOp .Not _ _ | .BoolOp _ _ _ | .IfExp _ _ _ _ | .Compare _ _ _ _ => false | _ => true) = true) (whole : Sem Value) :
    isTrue x env whole = (do let v ← whole; standAt x.pos; holding [v] (truthy v)) := by
  cases x with
  | UnaryOp op e p => cases op <;> first | rfl | cases h
  | BoolOp _ _ _ => cases h
  | IfExp _ _ _ _ => cases h
  | Compare _ _ _ _ => cases h
  | _ => rfl
theorem biTab_ok (g : Good G d C X) : ∀ {x : Str} {b : BiE}, biTab.lookup x = some b → X.mg x = none ∧ ((b.isTy = true ∧ bootBuiltins x = some (.type b.id) ∧ CallR X (.type b.id) (rCa X.K b.f)) ∨ (b.isTy = false ∧ bootBuiltins x = some (.builtin b.id) ∧ CallR X (.builtin b.id) (rCa X.K b.f))) := by
  intro x b h
  have h' := lookup_mem h
  simp only [biTab, List.mem_cons, Prod.mk.injEq, List.not_mem_nil, or_false] at h'
  rcases h' with ⟨rfl, rfl⟩ | ⟨rfl, rfl⟩ | ⟨rfl, rfl⟩ | ⟨rfl, rfl⟩ | ⟨rfl, rfl⟩ | ⟨rfl, rfl⟩ | ⟨rfl, rfl⟩ | ⟨rfl, rfl⟩ | ⟨rfl, rfl⟩ <;> refine ⟨g.blt _ (by decide), ?_⟩
  · exact .inr ⟨rfl, by decide +kernel, biLen_ok⟩
  · exact .inl ⟨rfl, by decide +kernel, biInt_ok⟩
  · exact .inr ⟨rfl, by decide +kernel, biAbs_ok⟩
  · exact .inr ⟨rfl, by decide +kernel, biSum_ok g.calm⟩
  · exact .inr ⟨rfl, by decide +kernel, biMax_ok g.calm g.hu⟩
  · exact .inr ⟨rfl, by decide +kernel, biMin_ok g.calm⟩
  · exact .inr ⟨rfl, by decide +kernel, biAny_ok g.calm⟩
  · exact .inr ⟨rfl, by decide +kernel, biAll_ok g.calm⟩
  · exact .inl ⟨rfl, by decide +kernel, biTuple_ok⟩
theorem bfTab_ok (g : Good G d C X) : ∀ {x : Str} {b : BfE}, bfTab.lookup x = some b → X.mg x = none ∧ ((b.isTy = true ∧ bootBuiltins x = some (.type b.id) ∧ CallR X (.type b.id) (rCaF X.K b.f)) ∨ (b.isTy = false ∧ bootBuiltins x = some (.builtin b.id) ∧ CallR X (.builtin b.id) (rCaF X.K b.f))) := by
  intro x b h
  have h' := lookup_mem h
  simp only [bfTab, List.mem_cons, Prod.mk.injEq, List.not_mem_nil, or_false] at h'
  rcases h' with ⟨rfl, rfl⟩ | ⟨rfl, rfl⟩ <;> refine ⟨g.blt _ (by decide), ?_⟩
  · exact .inl ⟨rfl, by decide +kernel, bfList_ok⟩
  · exact .inr ⟨rfl, by decide +kernel, bfSorted_ok⟩
theorem tyTab_ok {x : Str} {s : String} (h : tyTab.lookup x = some s) : x ∈ bltNames ∧ bootBuiltins x = some (.type s) ∧ isiOk s = true := by
  have h' := lookup_mem h
  simp only [tyTab, List.mem_cons, Prod.mk.injEq, List.not_mem_nil, or_false] at h'
  rcases h' with ⟨rfl, rfl⟩ | ⟨rfl, rfl⟩ | ⟨rfl, rfl⟩ | ⟨rfl, rfl⟩ | ⟨rfl, rfl⟩ <;> exact ⟨by decide, by decide +kernel, by decide⟩
theorem pe_callBi {r : List V → Hp → VK → Prop} {x : Str} {p pos : Pos} {e : Expr} {es : List Expr} {t : TA} {b : Bool} {id : String} (h : (b = true ∧ bootBuiltins x = some (.type id) ∧ CallR X (.type id) r) ∨ (b = false ∧ bootBuiltins x = some (.builtin id) ∧ CallR X (.builtin id) r))
    (hg : Gl X x) (hm : X.mg x = none) (ho : okName x = true) (ha : PA X (e :: es) t) (hs : (e :: es).all notStar = true) : PE X (.Call (.Name x p) (e :: es) [] pos) (tCB r t) := by
  obtain ⟨o1, _, o3⟩ := okName_of ho
  rw [List.all_cons, Bool.and_eq_true] at hs
  rcases h with ⟨_, h1, h2⟩ | ⟨_, h1, h2⟩
  · exact pe_callTy h2 hg hm h1 ha o3 o1 (star_cons hs.1) (star_any hs.2)
  · exact pe_callB h2 hg hm h1 ha o3 o1 (star_cons hs.1) (star_any hs.2)
theorem pe_eNeg {x : Expr} {o : MO} {pos : Pos} (h : PE X x (tO X.K F G o)) : PE X (.UnaryOp .USub x pos) (tE X.K F G (eNeg o)) := by
  refine (pe_un un_neg h).weak fun σ H Q ⟨m, a, r, R, e, k⟩ => ?_
  obtain ⟨q, e1, e⟩ := Option.bind_eq_some_iff.mp e
  obtain ⟨c, e2, e⟩ := Option.bind_eq_some_iff.mp e
  obtain ⟨v, e3, e4⟩ := Option.map_eq_some_iff.mp e
  subst e4
  refine ⟨m, a, q, R, e1, fun x H' m' R' s r' => ?_⟩
  have b := r'.cont R' e2
  cases c <;> cases e3
  rw [b.int]
  exact ⟨_, rfl, k _ H' m' R' s (.int _)⟩
theorem conOf_ok {c : Const} {v : AV} {k : Nat} {p : Pos} (h : conOf c = some v) : PE X (.Constant c k p) (tE X.K F G (eCon v)) := by
  cases c <;> cases h
  · exact pe_con pe_non fun _ _ _ => .non
  · exact pe_con pe_bl fun _ _ _ => .bl _
  · exact pe_con pe_int fun _ _ _ => .int _
  · exact pe_con pe_str fun _ _ _ => .str _
theorem pts_true : PTs X [] (xM X.K G mTrue) := ⟨fun pins s σ H Q I ⟨F, m, a, r, R, e, k⟩ => by
  cases e
  exact pts_nil.run pins s σ H Q I (k H m R .refl)⟩
theorem Good.tg (g : Good G d C X) : ∀ {es : List Expr} {is : List Nat}, cNs C es = some is → NamesAt X es is
  | [], _, h => by cases h; trivial
  | .Name y p :: es, is, h => by
    obtain ⟨i, h1, h2⟩ := Option.bind_eq_some_iff.mp h
    obtain ⟨js, h3, h4⟩ := Option.map_eq_some_iff.mp h2
    subst h4
    obtain ⟨h5, h6⟩ := grd_of h1
    obtain ⟨h7, h8⟩ := g.locV h5
    exact ⟨by rw [g.N]; exact idx_get h6, h7, h8, g.tg h3⟩
theorem Good.tgt (g : Good G d C X) {e : Expr} {t : Tg} (h : cTg C e = some t) : TgOk X e t := by
  cases e with
  | Name y p =>
    obtain ⟨i, h1, h2⟩ := Option.map_eq_some_iff.mp h
    subst h2
    obtain ⟨h5, h6⟩ := grd_of h1
    obtain ⟨h7, h8⟩ := g.locV h5
    exact ⟨by rw [g.N]; exact idx_get h6, h7, h8, trivial⟩
  | Tuple es k p =>
    obtain ⟨is, h1, h2⟩ := Option.map_eq_some_iff.mp h
    subst h2
    exact g.tg h1
  | _ => cases h
/-- the block of a comprehension -/
theorem Good.blk (g : Good G d C X) {scope : Scope} (hk : scope.kind = .function) (s : Shared) (H : Hp) (Cc : Addr) (cl : List (Str × Addr)) (fp : List Addr) : Good G d (C.blk scope) (X.blk s H scope (compEnvC scope cl Cc X.env) fp) where
  calm := g.calm
  xe := rfl
  N := g.N
  nd := g.nd
  kind := hk
  names := by
    show (relabel scope X.env).names = _
    unfold relabel CC.blk
    simp only
    congr 1
    funext ⟨n, k⟩
    have e1 : (X.env.scope.kind == ScopeKind.function) = true := by rw [g.kind]; rfl
    have e2 : X.env.kindOf n = C.names.lookup n := by show X.env.scope.names.lookup n = _; rw [g.names]
    rw [e1, e2, Bool.and_true]
  fnc := fun x h => h
  room := g.room
  blt := g.blt
  fns := fun p hp => let ⟨h1, h2⟩ := g.fns p hp; ⟨h1, h2⟩
  con := g.con
theorem blkB_ok (g : Good G d C X) {scope : Scope} {own : List (Str × Nat)} (h : blkB C.N C.names scope own = true) : BlkOk X.N X.env.scope scope own := by
  apply blkOk_by
  unfold blkC
  rw [g.N, g.names]
  exact h
end
end Pyx
end
section
set_option maxRecDepth 100000
namespace Pyx
open PySem PySem.Spec PyProof.Rows L2

structure Snd (G : Gm) (d : Nat) (n : Nat) : Prop where
  e : ∀ {C : CC} {X : Cx} {F : Hot}, Good G d C X → ∀ {x : Expr} {me : ME}, cE n C x = some me → PE X x (tE X.K F G me)
  o : ∀ {C : CC} {X : Cx} {F : Hot}, Good G d C X → ∀ {x : Expr} {mo : MO}, cO n C x = some mo → PE X x (tO X.K F G mo)
  f : ∀ {C : CC} {X : Cx} {F : Hot}, Good G d C X → ∀ {x : Expr} {mf : MAs}, cF n C x = some mf → PE X x (tF X.K F G mf)
  m : ∀ {C : CC} {X : Cx} {F : Hot}, Good G d C X → ∀ {x : Expr} {mt : MT}, cM n C x = some mt → PT X x (tM X.K F G mt)
  w : ∀ {C : CC} {X : Cx} {F : Hot}, Good G d C X → ∀ {op : BoolOp} {vs : List Expr} {p : Pos} {mt : MT}, cW n C op vs = some mt → PW X (.BoolOp op vs p) (tM X.K F G mt)
  a : ∀ {C : CC} {X : Cx} {F : Hot}, Good G d C X → ∀ {es : List Expr} {ma : MAs}, cA n C es = some ma → PA X es (tAs X.K F G ma)
  s : ∀ {C : CC} {X : Cx} {F : Hot}, Good G d C X → ∀ {es : List Expr} {ma : MOs}, cOs n C es = some ma → PA X es (tOs X.K F G ma)
  p : ∀ {C : CC} {X : Cx} {F : Hot}, Good G d C X → ∀ {x : Option Expr} {mp : MP}, cP n C x = some mp → PO X x (tP X.K F G mp)
  dp : ∀ {C : CC} {X : Cx} {F : Hot}, Good G d C X → ∀ {keys : List (Option Expr)} {vals : List Expr} {ks : List Str} {ma : MAs} {pos : Pos}, keyStrs keys = some ks → keys.length = vals.length → cA n C vals = some ma → DP X G F pos keys vals ks ma
section
variable {G : Gm} {d n : Nat} {C : CC} {X : Cx} {F : Hot}
theorem snd_o (S : Snd G d n) (g : Good G d C X) {x : Expr} {mo : MO} (h : cO (n + 1) C x = some mo) : PE X x (tO X.K F G mo) := by
  have gen : ∀ {x : Expr}, ((cE n C x).map oE) = some mo → PE X x (tO X.K F G mo) := fun h => by
    obtain ⟨e, h1, h2⟩ := Option.map_eq_some_iff.mp h
    subst h2
    exact pe_oE (S.e g h1)
  cases x with
  | Name y p =>
    have h' : (match C.var y with | some i => some (oVar i) | none => (cE n C (.Name y p)).map oE) = some mo := h
    split at h'
    · rename_i i hi
      cases h'
      exact g.pvO hi
    · exact gen h'
  | _ => exact gen h
theorem snd_a (S : Snd G d n) (g : Good G d C X) {es : List Expr} {ma : MAs} (h : cA (n + 1) C es = some ma) : PA X es (tAs X.K F G ma) := by
  cases es with
  | nil => cases h; exact pa_aNil
  | cons e es =>
    obtain ⟨h1, h2⟩ := grd_of h
    obtain ⟨a, h3, h4⟩ := Option.bind_eq_some_iff.mp h2
    obtain ⟨b, h5, h6⟩ := Option.map_eq_some_iff.mp h4
    subst h6
    exact pa_aCons (S.e g h3) (S.a g h5) (star_cons h1)
theorem snd_s (S : Snd G d n) (g : Good G d C X) {es : List Expr} {ma : MOs} (h : cOs (n + 1) C es = some ma) : PA X es (tOs X.K F G ma) := by
  cases es with
  | nil => cases h; exact pa_osNil
  | cons e es =>
    obtain ⟨h1, h2⟩ := grd_of h
    obtain ⟨a, h3, h4⟩ := Option.bind_eq_some_iff.mp h2
    obtain ⟨b, h5, h6⟩ := Option.map_eq_some_iff.mp h4
    subst h6
    exact pa_osCons (S.o g h3) (S.s g h5) (star_cons h1)
theorem snd_p (S : Snd G d n) (g : Good G d C X) {x : Option Expr} {mp : MP} (h : cP (n + 1) C x = some mp) : PO X x (tP X.K F G mp) := by
  cases x with
  | none => cases h; exact po_pNone
  | some e =>
    obtain ⟨a, h1, h2⟩ := Option.map_eq_some_iff.mp (show (cE n C e).map pSome = some mp from h)
    subst h2
    exact po_pSome (S.e g h1)
theorem snd_w (S : Snd G d n) (g : Good G d C X) {op : BoolOp} {vs : List Expr} {p : Pos} {mt : MT} (h : cW (n + 1) C op vs = some mt) : PW X (.BoolOp op vs p) (tM X.K F G mt) := by
  match vs, h with
  | [x], h =>
    have h' : cM n C x = some mt := h
    cases op
    · exact pw_and1 (S.m g h')
    · exact pw_or1 (S.m g h')
  | x :: y :: rest, h =>
    obtain ⟨a, h1, h2⟩ := Option.bind_eq_some_iff.mp h
    obtain ⟨b, h3, h4⟩ := Option.map_eq_some_iff.mp h2
    subst h4
    cases op
    · exact pw_mAnd (S.m g h1) (S.w g h3)
    · exact pw_mOr (S.m g h1) (S.w g h3)
theorem snd_m (S : Snd G d n) (g : Good G d C X) {x : Expr} {mt : MT} (h : cM (n + 1) C x = some mt) : PT X x (tM X.K F G mt) := by
  have gen : ∀ {x : Expr}, (∀ whole, isTrue x X.env whole = (do let v ← whole; standAt x.pos; holding [v] (truthy v))) → ((cO n C x).map mTru) = some mt → PT X x (tM X.K F G mt) := fun he h => by
    obtain ⟨e, h1, h2⟩ := Option.map_eq_some_iff.mp h
    subst h2
    exact pt_mTru (S.o g h1) he
  cases x with
  | UnaryOp op y p =>
    cases op with
    | Not =>
      obtain ⟨a, h1, h2⟩ := Option.map_eq_some_iff.mp (show (cM n C y).map mNot = some mt from h)
      subst h2
      exact pt_mNot (S.m g h1)
    | _ => cases h
  | BoolOp op vs p => exact (S.w (p := p) g (show cW n C op vs = some mt from h)).pt
  | IfExp _ _ _ _ => cases h
  | Compare x ops ys p =>
    match ops, ys, h with
    | [op], [y], h =>
      obtain ⟨h1, h2⟩ := grd_of h
      obtain ⟨f, h3, h4⟩ := Option.bind_eq_some_iff.mp h2
      obtain ⟨a, h5, h6⟩ := Option.bind_eq_some_iff.mp h4
      obtain ⟨b, h7, h8⟩ := Option.map_eq_some_iff.mp h6
      subst h8
      exact pt_cmp2 g.hu h3 (S.o g h5) (S.o g h7) (by simpa using h1)
    | [op, op'], [y, z], h =>
      obtain ⟨h1, h2⟩ := grd_of h
      obtain ⟨f, h3, h4⟩ := Option.bind_eq_some_iff.mp h2
      obtain ⟨f', h3', h4⟩ := Option.bind_eq_some_iff.mp h4
      obtain ⟨a, h5, h6⟩ := Option.bind_eq_some_iff.mp h4
      obtain ⟨b, h7, h8⟩ := Option.bind_eq_some_iff.mp h6
      obtain ⟨c, h9, h10⟩ := Option.map_eq_some_iff.mp h8
      subst h10
      exact pt_chn g.hu h3 h3' (S.o g h5) (S.o g h7) (S.o g h9) (by simpa using h1)
  | _ => exact gen (isTrue_plain rfl) h
theorem snd_f (S : Snd G d n) (g : Good G d C X) {x : Expr} {mf : MAs} (h : cF (n + 1) C x = some mf) : PE X x (tF X.K F G mf) := by
  cases x with
  | List es p =>
    obtain ⟨a, h1, h2⟩ := Option.map_eq_some_iff.mp (show (cA n C es).map fLst = some mf from h)
    subst h2
    exact pe_fLst (S.a g h1)
  | BinOp x op y p =>
    cases op with
    | Add =>
      obtain ⟨a, h1, h2⟩ := Option.bind_eq_some_iff.mp (show ((cO n C x).bind fun a => (cO n C y).map fun b => fCat a b) = some mf from h)
      obtain ⟨b, h3, h4⟩ := Option.map_eq_some_iff.mp h2
      subst h4
      exact pe_fCat (S.o g h1) (S.o g h3)
    | _ => cases h
  | Subscript x i p =>
    cases i with
    | Slice lo hi st p2 =>
      cases st with
      | none =>
        obtain ⟨a, h1, h2⟩ := Option.bind_eq_some_iff.mp (show ((cO n C x).bind fun o => (cP n C lo).bind fun l => (cP n C hi).map fun h => fSl o l h) = some mf from h)
        obtain ⟨b, h3, h4⟩ := Option.bind_eq_some_iff.mp h2
        obtain ⟨c, h5, h6⟩ := Option.map_eq_some_iff.mp h4
        subst h6
        exact pe_fSl (S.o g h1) (S.p g h3) (S.p g h5)
      | some _ => cases h
    | _ => cases h
  | Call f args kws p =>
    match f, kws, args, h with
    | .Name x px, [], [e], h =>
      obtain ⟨h1, h2⟩ := grd_of h
      simp only [Bool.and_eq_true] at h1
      cases hsa : setArg C x e with
      | some e2 =>
        rw [hsa] at h2
        obtain ⟨mo, h3, h4⟩ := Option.map_eq_some_iff.mp (show (cO n C e2).map fSS = some mf from h2)
        subst h4
        unfold setArg at hsa
        split at hsa
        · rename_i y py e0 pe
          obtain ⟨q1, q2⟩ := grd_of hsa
          cases q2
          simp only [Bool.and_eq_true, decide_eq_true_eq] at q1
          obtain ⟨⟨⟨⟨rfl, rfl⟩, q3⟩, _⟩, q4⟩ := q1
          have inner : PE X (.Call (.Name "set" py) [e2] [] pe) (tCB (rSetLI X.K X.w) (tCons (tO X.K F G mo) tNil)) :=
            pe_callTy (cr_setLI g.calm) (g.glob q3) (g.blt "set" (by decide)) (by decide +kernel) (pa_cons (S.o g h3) pa_nil (star_cons q4)) (by decide) (by decide) (star_cons q4)
          exact (pe_callB (cr_sortedSet g.calm) (g.glob h1.1.1.1) (g.blt "sorted" (by decide)) (by decide +kernel) (pa_cons inner pa_nil) (by decide) (by decide)).weak fun _ _ _ => ss_read
        · cases hsa
      | none =>
      rw [hsa] at h2
      cases hrg : rgArg C x e with
      | some e2 =>
        have h2 : (match rgArg C x e with | some e2 => (cE n C e2).map fRg | none => (bfTab.lookup x).bind fun b => (cOs n C [e]).map (fBi b.f)) = some mf := h2
        rw [hrg] at h2
        obtain ⟨mo, h3, h4⟩ := Option.map_eq_some_iff.mp (show (cE n C e2).map fRg = some mf from h2)
        subst h4
        unfold rgArg at hrg
        split at hrg
        · rename_i y py e0 pe
          obtain ⟨q1, q2⟩ := grd_of hrg
          cases q2
          simp only [Bool.and_eq_true, decide_eq_true_eq] at q1
          obtain ⟨⟨⟨⟨rfl, rfl⟩, q3⟩, _⟩, q4⟩ := q1
          exact pe_fRg g.calm (g.glob h1.1.1.1) (g.blt "list" (by decide)) (g.glob q3) (g.blt "range" (by decide)) (S.e g h3) q4
        · cases hrg
      | none =>
      have h2 : (match rgArg C x e with | some e2 => (cE n C e2).map fRg | none => (bfTab.lookup x).bind fun b => (cOs n C [e]).map (fBi b.f)) = some mf := h2
      rw [hrg] at h2
      have h2 : ((bfTab.lookup x).bind fun b => (cOs n C [e]).map (fBi b.f)) = some mf := h2
      obtain ⟨b, h3, h4⟩ := Option.bind_eq_some_iff.mp h2
      obtain ⟨os, h5, h6⟩ := Option.map_eq_some_iff.mp h4
      subst h6
      obtain ⟨hm, hb⟩ := bfTab_ok g h3
      exact (pe_callBi hb (g.glob h1.1.1.1) hm h1.1.1.2 (S.s g h5) (by simp [h1.1.2])).weak fun _ _ _ => fbi_read
  | ListComp elt gs sc p =>
    match gs, h with
    | [⟨tg, it, ifs, asy⟩], h =>
      obtain ⟨h1, h2⟩ := grd_of h
      simp only [Bool.and_eq_true, beq_iff_eq] at h1
      obtain ⟨⟨h1a, h1b⟩, h1c⟩ := h1
      subst h1a
      obtain ⟨t, h3, h4⟩ := Option.bind_eq_some_iff.mp h2
      obtain ⟨h5, h6⟩ := grd_of h4
      obtain ⟨me, h7, h8⟩ := Option.bind_eq_some_iff.mp h6
      obtain ⟨tst, h9, h10⟩ := Option.bind_eq_some_iff.mp h8
      have hk : sc.kind = .function := by
        unfold blkB at h1b
        simp only [Bool.and_eq_true] at h1b
        have := h1b.1.1.1
        split at this
        · assumption
        · cases this
      have B : BlkG X G sc (ownOf C.N sc.names) tg ifs elt t tst me := by
        refine ⟨blkB_ok g h1b, fun s H Cc cl fp => pg_xG (g.blk hk s H Cc cl fp).calm (g.blk hk s H Cc cl fp).nd ((g.blk hk s H Cc cl fp).tgt h3), fun s H Cc cl fp => ?_, fun s H Cc cl fp => pe_xE fun F => S.e (g.blk hk s H Cc cl fp) h7, fun i hi => ?_⟩
        · match ifs, h9 with
          | [], h9 => cases h9; exact pts_true
          | [c], h9 => exact pts_one (pt_xM fun F => S.m (g.blk hk s H Cc cl fp) h9)
        · have := List.all_eq_true.mp h5 i hi
          exact of_decide_eq_true this
      have gen : ∀ {it : Expr}, notSet it = true → ((cE n C it).map fun e => fComp e ((ownOf C.N sc.names).map Prod.snd) t tst me) = some mf → PE X (.ListComp elt [⟨tg, it, ifs, 0⟩] sc p) (tF X.K F G mf) := fun hs h => by
        obtain ⟨e, q1, q2⟩ := Option.map_eq_some_iff.mp h
        subst q2
        exact pe_fComp g.calm g.nd (S.e g q1) B hs
      split at h10
      · rename_i r pr args pc
        split at h10
        · rename_i hr
          subst hr
          obtain ⟨h11, h12⟩ := grd_of h10
          rw [Bool.and_eq_true] at h11
          have gr := g.glob h11.1
          have mr := g.blt "range" (by decide)
          match args, h12 with
          | [x], h12 =>
            obtain ⟨h13, h14⟩ := grd_of h12
            obtain ⟨u, h15, h16⟩ := Option.map_eq_some_iff.mp h14
            subst h16
            exact pe_fCompR1 g.calm g.nd gr mr (S.a g h15) h13 B
          | [x, y], h12 =>
            obtain ⟨h13, h14⟩ := grd_of h12
            rw [Bool.and_eq_true] at h13
            obtain ⟨u, h15, h16⟩ := Option.map_eq_some_iff.mp h14
            subst h16
            exact pe_fCompR2 g.calm g.nd gr mr (S.a g h15) h13.1 h13.2 B
        · split at h10
          · rename_i hr
            subst hr
            obtain ⟨h11, h12⟩ := grd_of h10
            rw [Bool.and_eq_true] at h11
            have gr := g.glob h11.1
            have mr := g.blt "enumerate" (by decide)
            match args, t, h3, h12, B, h5 with
            | [x], .many is, h3, h12, B, h5 =>
              obtain ⟨h13, h14⟩ := grd_of h12
              obtain ⟨u, h15, h16⟩ := Option.map_eq_some_iff.mp h14
              subst h16
              cases tg with
              | Tuple es kk tp => exact pe_fCompE g.calm g.nd gr mr (S.e g h15) h13 ⟨B.ok, fun s H Cc cl fp => pg_xGE (g.blk hk s H Cc cl fp).calm (g.blk hk s H Cc cl fp).nd ((g.blk hk s H Cc cl fp).tgt h3), B.ht, B.he, B.sl⟩
              | Name y p =>
                obtain ⟨_, _, e⟩ := Option.map_eq_some_iff.mp (show (grd ((C.blk sc).loc y) (idx y (C.blk sc).N)).map Tg.one = some (.many is) from h3)
                cases e
              | _ => cases h3
            | [], _, _, h12, _, _ => cases h12
            | _ :: _ :: _, _, _, h12, _, _ => cases h12
            | [x], .one i, _, h12, _, _ => cases h12
          · exact gen h1c h10
      · exact gen h1c h10
  | _ => cases h
theorem snd_e (S : Snd G d n) (g : Good G d C X) {x : Expr} {me : ME} (h : cE (n + 1) C x = some me) : PE X x (tE X.K F G me) := by
  have fresh : ∀ {x : Expr} {b : Bool}, ((cF n C x).map fun f => if b = true then eLay f else eFrz f) = some me → PE X x (tE X.K F G me) := fun {x b} h => by
    obtain ⟨f, h1, h2⟩ := Option.map_eq_some_iff.mp h
    subst h2
    cases b
    · exact pe_eFrz (S.f g h1)
    · exact pe_eLay (S.f g h1)
  have fresh' : ∀ {x : Expr} {k : Nat}, ((cF n C x).map fun f => if k = 2 then eLay f else eFrz f) = some me → PE X x (tE X.K F G me) := fun {x k} h => by
    apply fresh (b := decide (k = 2))
    rw [← h]
    congr 1
    funext f
    by_cases e : k = 2 <;> simp [e]
  have isi : ∀ {x : Str} {px pos : Pos} {args : List Expr}, Gl X x → args.all notStar = true → cIsi C x args (cO n C) ((cF n C (.Call (.Name x px) args [] pos)).map fun f => if C.mark pos = 2 then eLay f else eFrz f) = some me → PE X (.Call (.Name x px) args [] pos) (tE X.K F G me) := by
    intro x px pos args gl hs h2
    unfold cIsi at h2
    split at h2
    · split at h2
      · rename_i hx
        subst hx
        obtain ⟨h3, h4⟩ := grd_of h2
        simp only [Bool.and_eq_true] at h3
        obtain ⟨s, h5, h6⟩ := Option.bind_eq_some_iff.mp h4
        obtain ⟨o, h7, h8⟩ := Option.map_eq_some_iff.mp h6
        subst h8
        obtain ⟨t1, t2, t3⟩ := tyTab_ok h5
        obtain ⟨o1, o2, o3⟩ := okName_of h3.1.2
        rw [List.all_cons, Bool.and_eq_true] at hs
        exact pe_eIsi t3 gl (g.blt _ (by decide)) (g.glob h3.1.1) (g.blt _ t1) t2 o3 o1 (S.o g h7) hs.1
      · cases h2
    · exact fresh' h2
  cases x with
  | Name y p =>
    have h' : (match C.var y with | some i => some (eVar i) | none => grd (C.glob y && okName y) ((C.consts.lookup y).map eCon)) = some me := h
    split at h'
    · rename_i i hi
      cases h'
      exact g.pvE hi
    · obtain ⟨h1, h2⟩ := grd_of h'
      rw [Bool.and_eq_true] at h1
      obtain ⟨v, h3, h4⟩ := Option.map_eq_some_iff.mp h2
      subst h4
      obtain ⟨u, xv, c1, c2, c3⟩ := g.con _ (lookup_mem h3)
      exact pe_con (pe_glob (g.glob h1.1) c1 c2 (okName_of h1.2).1) c3
  | Constant c k p =>
    obtain ⟨v, h1, h2⟩ := Option.map_eq_some_iff.mp (show (conOf c).map eCon = some me from h)
    subst h2
    exact conOf_ok h1
  | BinOp x op y pos =>
    have h' : (if C.mark pos = 2 then (cF n C (.BinOp x op y pos)).map eLay else (binF op).bind fun f => (cO n C x).bind fun a => (cO n C y).map fun b => eBin f a b) = some me := h
    split at h'
    · obtain ⟨f, h1, h2⟩ := Option.map_eq_some_iff.mp h'
      subst h2
      exact pe_eLay (S.f g h1)
    · obtain ⟨f, h1, h2⟩ := Option.bind_eq_some_iff.mp h'
      obtain ⟨a, h3, h4⟩ := Option.bind_eq_some_iff.mp h2
      obtain ⟨b, h5, h6⟩ := Option.map_eq_some_iff.mp h4
      subst h6
      exact pe_bin h1 (S.o g h3) (S.o g h5)
  | UnaryOp op y p =>
    cases op with
    | Not =>
      obtain ⟨a, h1, h2⟩ := Option.map_eq_some_iff.mp (show (cE n C y).map eNot = some me from h)
      subst h2
      exact pe_eNot (S.e g h1)
    | USub =>
      obtain ⟨a, h1, h2⟩ := Option.map_eq_some_iff.mp (show (cO n C y).map eNeg = some me from h)
      subst h2
      exact pe_eNeg (S.o g h1)
    | _ => cases h
  | BoolOp op vs p =>
    match vs, h with
    | [x], h => exact pe_one (S.e g (show cE n C x = some me from h))
    | x :: y :: rest, h =>
      obtain ⟨a, h1, h2⟩ := Option.bind_eq_some_iff.mp h
      obtain ⟨b, h3, h4⟩ := Option.map_eq_some_iff.mp h2
      subst h4
      cases op
      · exact pe_eAnd (S.e g h1) (S.e g h3)
      · exact pe_eOr (S.e g h1) (S.e g h3)
  | IfExp t x y p =>
    obtain ⟨c, h1, h2⟩ := Option.bind_eq_some_iff.mp (show ((cM n C t).bind fun c => (cE n C x).bind fun a => (cE n C y).map fun b => eIte c a b) = some me from h)
    obtain ⟨a, h3, h4⟩ := Option.bind_eq_some_iff.mp h2
    obtain ⟨b, h5, h6⟩ := Option.map_eq_some_iff.mp h4
    subst h6
    exact pe_eIte (S.m g h1) (S.e g h3) (S.e g h5)
  | Compare x ops ys p =>
    match ops, ys, h with
    | [op], [y], h =>
      obtain ⟨h1, h2⟩ := grd_of h
      obtain ⟨f, h3, h4⟩ := Option.bind_eq_some_iff.mp h2
      obtain ⟨a, h5, h6⟩ := Option.bind_eq_some_iff.mp h4
      obtain ⟨b, h7, h8⟩ := Option.map_eq_some_iff.mp h6
      subst h8
      exact pe_cmp2 g.hu h3 (S.o g h5) (S.o g h7) (by simpa using h1)
    | [op, op'], [y, z], h =>
      obtain ⟨h1, h2⟩ := grd_of h
      obtain ⟨f, h3, h4⟩ := Option.bind_eq_some_iff.mp h2
      obtain ⟨f', h3', h4⟩ := Option.bind_eq_some_iff.mp h4
      obtain ⟨a, h5, h6⟩ := Option.bind_eq_some_iff.mp h4
      obtain ⟨b, h7, h8⟩ := Option.bind_eq_some_iff.mp h6
      obtain ⟨c, h9, h10⟩ := Option.map_eq_some_iff.mp h8
      subst h10
      exact pe_chn g.hu h3 h3' (S.o g h5) (S.o g h7) (S.o g h9) (by simpa using h1)
  | Tuple es k p =>
    obtain ⟨a, h1, h2⟩ := Option.map_eq_some_iff.mp (show (cA n C es).map eTup = some me from h)
    subst h2
    exact pe_eTup (S.a g h1)
  | List es p => exact fresh' (show ((cF n C (.List es p)).map fun f => if C.mark p = 2 then eLay f else eFrz f) = some me from h)
  | ListComp elt gs sc p => exact fresh' (show ((cF n C (.ListComp elt gs sc p)).map fun f => if C.mark p = 2 then eLay f else eFrz f) = some me from h)
  | Subscript x i pos =>
    have ix : ∀ {i : Expr}, isSlice i = false → ((cO n C x).bind fun a => (cO n C i).map fun b => eBin opIx a b) = some me → PE X (.Subscript x i pos) (tE X.K F G me) := fun hs h => by
      obtain ⟨a, h1, h2⟩ := Option.bind_eq_some_iff.mp h
      obtain ⟨b, h3, h4⟩ := Option.map_eq_some_iff.mp h2
      subst h4
      exact pe_sub2 g.hu (S.o g h1) (S.o g h3) (plainIx hs)
    cases i with
    | Slice lo hi st p2 =>
      have h' : (if C.mark pos = 2 then (cF n C (.Subscript x (.Slice lo hi st p2) pos)).map eLay else match (generalizing := false) st with
        | none => (cO n C x).bind fun o => (cP n C lo).bind fun l => (cP n C hi).map fun h => eSl o l h
        | some st => if isRev lo hi st = true then (cO n C x).map eRevT else none) = some me := h
      split at h'
      · obtain ⟨f, h1, h2⟩ := Option.map_eq_some_iff.mp h'
        subst h2
        exact pe_eLay (S.f g h1)
      · cases st with
        | some st =>
          have h' : (if isRev lo hi st = true then (cO n C x).map eRevT else none) = some me := h'
          split at h'
          · rename_i hr
            obtain ⟨a, h1, h2⟩ := Option.map_eq_some_iff.mp h'
            subst h2
            unfold isRev at hr
            split at hr
            · have hr := of_decide_eq_true hr
              subst hr
              exact pe_eRevT (S.o g h1)
            · cases hr
          · cases h'
        | none =>
          obtain ⟨a, h1, h2⟩ := Option.bind_eq_some_iff.mp h'
          obtain ⟨b, h3, h4⟩ := Option.bind_eq_some_iff.mp h2
          obtain ⟨c, h5, h6⟩ := Option.map_eq_some_iff.mp h4
          subst h6
          exact pe_eSl (S.o g h1) (S.p g h3) (S.p g h5)
    | _ => exact ix rfl h
  | Call f args kws pos =>
    match f, kws, h with
    | .Name x px, [], h =>
      obtain ⟨h1, h2⟩ := grd_of h
      simp only [Bool.and_eq_true] at h1
      obtain ⟨⟨hg, ho⟩, hs⟩ := h1
      have gl := g.glob hg
      split at h2
      · rename_i ar har
        have fn := g.fns _ (lookup_mem har)
        match args, h2, hs with
        | [], h2, _ => cases h2; exact pe_eCall0 fn g.room gl (okName_of ho).1
        | e :: es, h2, hs =>
          have h2' : (if C.mark pos = 3 then (cOs n C (e :: es)).map (eLend x) else if C.mark pos = 4 then (cA n C (e :: es)).map (eCallT x) else (cA n C (e :: es)).map (eCall x)) = some me := h2
          split at h2'
          · obtain ⟨t, h3, h4⟩ := Option.map_eq_some_iff.mp h2'
            subst h4
            exact pe_eLend fn g.room gl (okName_of ho).1 (S.s g h3) hs
          · split at h2'
            · obtain ⟨t, h3, h4⟩ := Option.map_eq_some_iff.mp h2'
              subst h4
              exact pe_eCallT fn g.room gl (okName_of ho).1 (S.a g h3) hs
            · obtain ⟨t, h3, h4⟩ := Option.map_eq_some_iff.mp h2'
              subst h4
              exact pe_eCall fn g.room gl (okName_of ho).1 (S.a g h3) hs
      · unfold cBi at h2
        split at h2
        · rename_i b hb
          split at h2
          · cases h2
          · rename_i hne
            obtain ⟨os, h3, h4⟩ := Option.map_eq_some_iff.mp h2
            subst h4
            obtain ⟨hm, hb'⟩ := biTab_ok g hb
            cases args with
            | nil => exact absurd rfl hne
            | cons e es => exact (pe_callBi hb' gl hm ho (S.s g h3) hs).weak fun _ _ _ => bi_read
        · exact isi gl hs h2
    | .Attribute o m apos, [], h =>
      obtain ⟨h1, h2⟩ := grd_of h
      simp only [Bool.and_eq_true] at h1
      obtain ⟨⟨hc, hs⟩, hl⟩ := h1
      match args, h2, hs with
      | [], h2, _ =>
        have h2' : (if m = ("pop" : Str) then (cO n C o).map ePop else none) = some me := h2
        split at h2'
        · rename_i hm
          subst hm
          obtain ⟨a, h3, h4⟩ := Option.map_eq_some_iff.mp h2'
          subst h4
          exact pe_ePop (S.o g h3) hc hl
        · cases h2'
      | [y], h2, hs =>
        have hy : notStar y = true := by simpa using hs
        have h2' : (if m = ("append" : Str) then (cO n C o).bind fun a => (cE n C y).map (eApp a)
          else if m = ("pop" : Str) then (cO n C o).bind fun a => (cE n C y).map (ePopAt a)
          else if m = ("index" : Str) then (cO n C o).bind fun a => (cO n C y).map (eSeqM idxA [1, 2] a)
          else if m = ("count" : Str) then (cO n C o).bind fun a => (cO n C y).map (eSeqM cntA [1] a)
          else if m = ("join" : Str) then (txtOf o).bind fun z => (cO n C y).map (eJoin z)
          else none) = some me := h2
        split at h2'
        · rename_i hm
          subst hm
          obtain ⟨a, h3, h4⟩ := Option.bind_eq_some_iff.mp h2'
          obtain ⟨b, h5, h6⟩ := Option.map_eq_some_iff.mp h4
          subst h6
          exact pe_eApp (S.o g h3) (S.e g h5) hc hy hl
        · split at h2'
          · rename_i hm
            subst hm
            obtain ⟨a, h3, h4⟩ := Option.bind_eq_some_iff.mp h2'
            obtain ⟨b, h5, h6⟩ := Option.map_eq_some_iff.mp h4
            subst h6
            exact pe_ePopAt (S.o g h3) (S.e g h5) hc hy hl
          · split at h2'
            · rename_i hm
              subst hm
              obtain ⟨a, h3, h4⟩ := Option.bind_eq_some_iff.mp h2'
              obtain ⟨b, h5, h6⟩ := Option.map_eq_some_iff.mp h4
              subst h6
              exact pe_eIdx g.hu (S.o g h3) (S.o g h5) hc hy hl
            · split at h2'
              · rename_i hm
                subst hm
                obtain ⟨a, h3, h4⟩ := Option.bind_eq_some_iff.mp h2'
                obtain ⟨b, h5, h6⟩ := Option.map_eq_some_iff.mp h4
                subst h6
                exact pe_eCnt g.hu (S.o g h3) (S.o g h5) hc hy hl
              · split at h2'
                · rename_i hm
                  subst hm
                  obtain ⟨z, h3, h4⟩ := Option.bind_eq_some_iff.mp h2'
                  obtain ⟨b, h5, h6⟩ := Option.map_eq_some_iff.mp h4
                  subst h6
                  unfold txtOf at h3
                  split at h3
                  · cases h3
                    exact pe_eJoin (S.o g h5) hy hl
                  · cases h3
                · cases h2'
  | Dict keys vals p =>
    obtain ⟨ks, h1, h2⟩ := Option.bind_eq_some_iff.mp (show ((keyStrs keys).bind fun ks => grd (asgK ks && decide (keys.length = vals.length)) ((cA n C vals).map (eDic ks))) = some me from h)
    obtain ⟨h3, h4⟩ := grd_of h2
    obtain ⟨t, h5, h6⟩ := Option.map_eq_some_iff.mp h4
    subst h6
    simp only [asgK, Bool.and_eq_true, decide_eq_true_eq, Bool.not_eq_true'] at h3
    obtain ⟨⟨⟨k1, k2⟩, k3⟩, k4⟩ := h3
    have hk : ∀ {keys : List (Option Expr)} {ks : List Str}, keyStrs keys = some ks → keys.length = ks.length ∧ keys.all (·.isSome) = true := by
      intro keys
      induction keys with
      | nil => intro ks h; cases h; exact ⟨rfl, rfl⟩
      | cons x r ih =>
        intro ks h
        unfold keyStrs at h
        split at h
        · rename_i e
          cases e
        · rename_i e
          cases e
          obtain ⟨ks', e1, e2⟩ := Option.map_eq_some_iff.mp h
          subst e2
          obtain ⟨q1, q2⟩ := ih e1
          exact ⟨by simp [q1], by simpa using q2⟩
        · cases h
    obtain ⟨hk1, hk2⟩ := hk h1
    refine pe_eDic (S.dp g h1 k4 h5) hk2 k4 (fun e => ?_) (by omega) hk1 k1
    subst e
    cases h1
    cases k3
  | _ => cases h
theorem snd_dp (S : Snd G d n) (g : Good G d C X) : ∀ {keys : List (Option Expr)} {vals : List Expr} {ks : List Str} {ma : MAs} {pos : Pos}, keyStrs keys = some ks → keys.length = vals.length → cA (n + 1) C vals = some ma → DP X G F pos keys vals ks ma
  | [], [], ks, ma, pos, h1, _, h => by cases h1; cases h; exact dp_nil
  | [], _ :: _, _, _, _, _, hl, _ => by simp at hl
  | _ :: _, [], _, _, _, _, hl, _ => by simp at hl
  | k0 :: keys, e :: es, ks, ma, pos, h1, hl, h => by
    obtain ⟨_, h3⟩ := grd_of (show grd (notStar e) ((cE n C e).bind fun a => (cA n C es).map fun b => aCons a b) = some ma from h)
    obtain ⟨a, h4, h5⟩ := Option.bind_eq_some_iff.mp h3
    obtain ⟨b, h6, h7⟩ := Option.map_eq_some_iff.mp h5
    subst h7
    unfold keyStrs at h1
    split at h1
    · cases ‹k0 :: keys = []›
    · rename_i q
      cases q
      obtain ⟨ks', e1, e2⟩ := Option.map_eq_some_iff.mp h1
      subst e2
      exact dp_cons (S.e g h4) (S.dp g e1 (by simpa using hl) h6)
    · cases h1
theorem snd (G : Gm) (d : Nat) : ∀ n, Snd G d n
  | 0 => by constructor <;> intro _ _ _ _ <;> intros <;> rename_i h <;> cases h
  | n + 1 => by
    have S := snd G d n
    exact ⟨snd_e S, snd_o S, snd_f S, snd_m S, snd_w S, snd_a S, snd_s S, snd_p S, snd_dp S⟩
end
end Pyx
end
section
set_option maxRecDepth 100000
namespace Pyx
open PySem PySem.Spec PyProof.Rows L2

/-! ### statements from the text -/
theorem swaps_lc {elt : Expr} {gs : List Comprehension} {sc : Scope} {lp py : Pos} {y : Str} {l : Nat} {env : Env} :
    swapsWith (.ListComp elt gs sc lp) (some (.Name y py)) l env = pure (env.blockKind == .function && env.kindOf y == some .local && py.line == (Expr.ListComp elt gs sc lp).pos.line && !(sc.names.any fun (n, k) => n == y && (k == .local || k == .cell))) := rfl
section
variable {X : Cx} {F : Hot} {G : Gm}
/-- name = [..] by the layer's rule, from the reading as a fresh list -/
theorem setLc_of' {i : Nat} {y : Str} {py spos : Pos} {f : MAs} {x : Expr} (h : PS X (.Assign [.Name y py] x spos) (tAsg (tF X.K F G f) (gName i))) :
    PS X (.Assign [.Name y py] x spos) (tS X.K F G (sOwn i f)) ∧ PS X (.Assign [.Name y py] x spos) (tS X.K F G (sAsg i (eFrz f))) ∧ PS X (.Assign [.Name y py] x spos) (tS X.K F G (sAsg i (eLay f))) := by
  refine ⟨h.weak fun D σ H ⟨m, a, r, R, e, k⟩ => ?_, h.weak fun D σ H ⟨m, a, r, R, e, k⟩ => ?_, h.weak fun D σ H ⟨m, a, r, R, e, k⟩ => ?_⟩
  · obtain ⟨q, e1, e2⟩ := Option.map_eq_some_iff.mp e
    subst e2
    exact ⟨m, a, q, R, e1, fun p vs H' m' R' s' hp r' => k _ _ m' (R'.putOwn hp r') (s'.trans (Rl.putOwnStp hp))⟩
  · obtain ⟨q, e1, e2⟩ := Option.map_eq_some_iff.mp e
    subst e2
    obtain ⟨q', e3, e4⟩ := Option.map_eq_some_iff.mp e1
    subst e4
    exact ⟨m, a, q', R, e3, fun p vs H' m' R' s' hp r' => k _ _ m' ((R'.new hp).put (R'.newLst hp r')) ((s'.trans (.new hp)).trans (Rl.putStp (R'.new (o := .lst vs) hp).len))⟩
  · obtain ⟨q, e1, e2⟩ := Option.map_eq_some_iff.mp e
    subst e2
    obtain ⟨q', e3, e4⟩ := Option.map_eq_some_iff.mp e1
    subst e4
    exact ⟨m, a, q', R, e3, fun p vs H' m' R' s' hp r' => k _ _ (m' ++ [p]) ((R'.layLst hp r').put R'.layRef) ((s'.trans (Rl.layStp hp)).trans (Rl.putStp (R'.layLst hp r').len))⟩
theorem _root_.L2.PS.weakA {X : Cx} {st : Stmt} {i : Nat} {t u : TE} (h : PS X st (tAsg t (gName i))) (k : ∀ σ H Q, u σ H Q → t σ H Q) : PS X st (tAsg u (gName i)) := h.weak fun D σ H q => k σ H _ q
theorem _root_.L2.PS.or {X : Cx} {st : Stmt} {t u : TS} (h : PS X st t) (h' : PS X st u) : PS X st (fun D σ H => t D σ H ∨ u D σ H) := ⟨fun pins s σ H D I q => q.elim (fun q => h.run pins s σ H D I q) fun q => h'.run pins s σ H D I q⟩
section
variable {d n : Nat} {C : CC}
theorem snd_lcs (S : Snd G d n) (g : Good G d C X) {elt : Expr} {gs : List Comprehension} {sc : Scope} {p : Pos} {mf : MAs} (h : cF (n + 1) C (.ListComp elt gs sc p) = some mf) {i : Nat} {y : Str} {py spos : Pos} (hy : X.N[i]? = some y) (hyl : X.env.scope.names.lookup y = some .local)
    (hsw : swapsWith (.ListComp elt gs sc p) (some (.Name y py)) spos.line X.env = pure true) : PS X (.Assign [.Name y py] (.ListComp elt gs sc p) spos) (tAsg (tF X.K F G mf) (gName i)) := by
  match gs, h with
  | [⟨tg, it, ifs, asy⟩], h =>
    obtain ⟨h1, h2⟩ := grd_of h
    simp only [Bool.and_eq_true, beq_iff_eq] at h1
    obtain ⟨⟨h1a, h1b⟩, h1c⟩ := h1
    subst h1a
    obtain ⟨t, h3, h4⟩ := Option.bind_eq_some_iff.mp h2
    obtain ⟨h5, h6⟩ := grd_of h4
    obtain ⟨me, h7, h8⟩ := Option.bind_eq_some_iff.mp h6
    obtain ⟨tst, h9, h10⟩ := Option.bind_eq_some_iff.mp h8
    have hk : sc.kind = .function := by
      unfold blkB at h1b
      simp only [Bool.and_eq_true] at h1b
      have := h1b.1.1.1
      split at this
      · assumption
      · cases this
    have B : BlkG X G sc (ownOf C.N sc.names) tg ifs elt t tst me := by
      refine ⟨blkB_ok g h1b, fun s H Cc cl fp => pg_xG (g.blk hk s H Cc cl fp).calm (g.blk hk s H Cc cl fp).nd ((g.blk hk s H Cc cl fp).tgt h3), fun s H Cc cl fp => ?_, fun s H Cc cl fp => pe_xE fun F => S.e (g.blk hk s H Cc cl fp) h7, fun i hi => ?_⟩
      · match ifs, h9 with
        | [], h9 => cases h9; exact pts_true
        | [c], h9 => exact pts_one (pt_xM fun F => S.m (g.blk hk s H Cc cl fp) h9)
      · have := List.all_eq_true.mp h5 i hi
        exact of_decide_eq_true this
    have gen : ∀ {it : Expr}, swapsWith (.ListComp elt [⟨tg, it, ifs, 0⟩] sc p) (some (.Name y py)) spos.line X.env = pure true → notSet it = true → ((cE n C it).map fun e => fComp e ((ownOf C.N sc.names).map Prod.snd) t tst me) = some mf → PS X (.Assign [.Name y py] (.ListComp elt [⟨tg, it, ifs, 0⟩] sc p) spos) (tAsg (tF X.K F G mf) (gName i)) := fun hsw hs h => by
      obtain ⟨e, q1, q2⟩ := Option.map_eq_some_iff.mp h
      subst q2
      have hi := S.e (F := F) g q1
      refine (PS.or (ps_setLc g.calm g.nd hy hyl hsw (pi_list hi) B.ok B.hg B.ht B.he (foldedSet_no hs)) (ps_setLc g.calm g.nd hy hyl hsw (pi_tup hi) B.ok B.hg B.ht B.he (foldedSet_no hs))).weak fun D σ H q => ?_
      exact comp_read B.sl q
    split at h10
    · rename_i r pr args pc
      split at h10
      · rename_i hr
        subst hr
        obtain ⟨h11, h12⟩ := grd_of h10
        rw [Bool.and_eq_true] at h11
        have gr := g.glob h11.1
        have mr := g.blt "range" (by decide)
        match args, h12 with
        | [x], h12 =>
          obtain ⟨h13, h14⟩ := grd_of h12
          obtain ⟨u, h15, h16⟩ := Option.map_eq_some_iff.mp h14
          subst h16
          refine (ps_setLc g.calm g.nd hy hyl hsw (pi_range1 gr mr (S.a g h15) (star_cons h13)) B.ok B.hg B.ht B.he).weakA fun σ H Q h => compR_read B.sl h fun R ⟨m, a, r, p, R0, e, hp, k⟩ => by
            obtain ⟨l, a1⟩ := r
            obtain ⟨j, rfl, h1, h2, rfl⟩ := asR1_of hp
            exact ⟨m, a, _, R0, e, fun xs H1 m1 R1 s1 r1 => ⟨j, rps_ints1 r1, h1, h2, k xs H1 m1 R1 s1 r1⟩⟩
        | [x, y], h12 =>
          obtain ⟨h13, h14⟩ := grd_of h12
          rw [Bool.and_eq_true] at h13
          obtain ⟨u, h15, h16⟩ := Option.map_eq_some_iff.mp h14
          subst h16
          have hs2 : starEach [y] X.env = [(false, eval y X.env)] := star_cons h13.2
          have hs : starEach [x, y] X.env = [(false, eval x X.env), (false, eval y X.env)] := by rw [star_cons h13.1, hs2]
          refine (ps_setLc g.calm g.nd hy hyl hsw (pi_range2 gr mr (S.a g h15) hs hs2) B.ok B.hg B.ht B.he).weakA fun σ H Q h => compR_read B.sl h fun R ⟨m, a, r, p, R0, e, hp, k⟩ => by
            obtain ⟨l, a1⟩ := r
            obtain ⟨i, j, rfl, h1, rfl⟩ := asR2_of hp
            exact ⟨m, a, _, R0, e, fun xs H1 m1 R1 s1 r1 => ⟨i, j, rps_ints2 r1, h1, k xs H1 m1 R1 s1 r1⟩⟩
      · split at h10
        · rename_i hr
          subst hr
          obtain ⟨h11, h12⟩ := grd_of h10
          rw [Bool.and_eq_true] at h11
          have gr := g.glob h11.1
          have mr := g.blt "enumerate" (by decide)
          match args, t, h3, h12, B with
          | [x], .many is, h3, h12, B =>
            obtain ⟨h13, h14⟩ := grd_of h12
            obtain ⟨u, h15, h16⟩ := Option.map_eq_some_iff.mp h14
            subst h16
            cases tg with
            | Tuple es kk tp =>
              have hi := S.e (F := F) g h15
              have hg : ∀ (s : Shared) (H : Hp) (Cc : Addr) (cl : List (Str × Addr)) (fp : List Addr), PG (X.blk s H sc (compEnvC sc cl Cc X.env) fp) (.Tuple es kk tp) (xGE X.K is) := fun s H Cc cl fp => pg_xGE (g.blk hk s H Cc cl fp).calm (g.blk hk s H Cc cl fp).nd ((g.blk hk s H Cc cl fp).tgt h3)
              refine (PS.or (ps_setLc g.calm g.nd hy hyl hsw (pi_enum gr mr (pa_cons hi pa_nil (star_cons h13)) (star_cons h13)) B.ok hg B.ht B.he) (ps_setLc g.calm g.nd hy hyl hsw (pi_enumT gr mr (pa_cons hi pa_nil (star_cons h13)) (star_cons h13)) B.ok hg B.ht B.he)).weak fun D σ H q => ?_
              exact compE_read B.sl q
            | Name y p =>
              obtain ⟨_, _, e⟩ := Option.map_eq_some_iff.mp (show (grd ((C.blk sc).loc y) (idx y (C.blk sc).N)).map Tg.one = some (.many is) from h3)
              cases e
            | _ => cases h3
          | [], _, _, h12, _ => cases h12
          | _ :: _ :: _, _, _, h12, _ => cases h12
          | [x], .one i, _, h12, _ => cases h12
        · exact gen hsw h1c h10
    · exact gen hsw h1c h10
end
end
def cAsgN (n : Nat) (C : CC) (i : Nat) (v : Expr) : Option MS := match v with
  | .ListComp elt gs sc p => (cF n C (.ListComp elt gs sc p)).map fun f => if C.mark p = 1 then sOwn i f else if C.mark p = 2 then sAsg i (eLay f) else sAsg i (eFrz f)
  | v => grd (notComp v) (if C.mark v.pos = 1 then (cF n C v).map (sOwn i) else (cE n C v).map (sAsg i))
/-- two or three names from as many values -/
def cPar (n : Nat) (C : CC) (ts vs : List Expr) : Option MS := match ts, vs with
  | [.Name n1 p1, .Name n2 p2], [x, y] => grd (C.isLocal n1 && C.isLocal n2 && p2.line == p1.line && !decide (n1 = n2) && notStar x && notStar y && !([x, y].all (foldedForSure 8)) && !([x, y].all (constantsAlone 8))) ((idx n1 C.N).bind fun i => (idx n2 C.N).bind fun j => (cA n C [x, y]).map (sPar [i, j]))
  | [.Name n1 p1, .Name n2 p2, .Name n3 p3], [x, y, z] => grd (C.isLocal n1 && C.isLocal n2 && C.isLocal n3 && p2.line == p1.line && p3.line == p1.line && !decide (n1 = n2) && !decide (n1 = n3) && !decide (n2 = n3) && notStar x && notStar y && notStar z && !([x, y, z].all (foldedForSure 8)) && !([x, y, z].all (constantsAlone 8)))
      ((idx n1 C.N).bind fun i => (idx n2 C.N).bind fun j => (idx n3 C.N).bind fun l => (cA n C [x, y, z]).map (sPar [i, j, l]))
  | _, _ => none
mutual
def cS (W : Nat) : Nat → CC → Stmt → Option MS
  | 0, _, _ => none
  | n + 1, C, .Expr x _ => grd (notComp x) ((cE n C x).map sExpr)
  | n + 1, C, .Return x _ => match x with
    | some x => (cE n C x).map sRet
    | none => some sRetN
  | n + 1, C, .Pass _ => some sSkip
  | n + 1, C, .Break _ => some sBreak
  | n + 1, C, .Continue _ => some sCont
  | n + 1, C, .If x b1 b2 _ => (cM n C x).bind fun c => (cB W n C b1).bind fun s => (cB W n C b2).map fun t => sIf c s t
  | n + 1, C, .While x b o _ => match o with
    | [] => (cM n C x).bind fun c => (cB W n C b).map fun s => sWhile W c s
    | _ => none
  | n + 1, C, .For t it b o _ => match o with
    | [] => (cTg C t).bind fun tg => (cB W n C b).bind fun s => match it with
      | .Call (.Name r _) args [] _ => if r = ("range" : Str) then grd (C.glob r && (C.defs.lookup r).isNone) (match args with
          | [x] => grd (notStar x) ((cA n C [x]).map fun u => sForR asR1 u tg s)
          | [x, y] => grd (notStar x && notStar y) ((cA n C [x, y]).map fun u => sForR asR2 u tg s)
          | _ => none) else if r = ("enumerate" : Str) then grd (C.glob r && (C.defs.lookup r).isNone) (match args, tg with
          | [x], .many is => grd (notStar x) ((cE n C x).map fun e => sForE e is s)
          | _, _ => none) else grd (notSet it) ((cE n C it).map fun e => sForV e tg s)
      | _ => grd (notSet it) ((cE n C it).map fun e => sForV e tg s)
    | _ => none
  | n + 1, C, .Assign ts v _ => match ts with
    | [.Name y _] => (grd (C.loc y) (idx y C.N)).bind fun i => cAsgN n C i v
    | [.Tuple es _ _] => if noSwap es v = true then grd (notComp v) ((cNs C es).bind fun is => (cE n C v).map (sUnp is)) else match v with
      | .Tuple vs _ _ => cPar n C es vs
      | _ => none
    | [.Subscript o i _] => grd (!isSlice i) ((cO n C o).bind fun mo => (cE n C i).bind fun mi => (cE n C v).map fun e => sSet mo mi e)
    | _ => none
  | n + 1, C, .AugAssign t op v _ => match t with
    | .Name y _ => (grd (C.loc y) (idx y C.N)).bind fun i => match op with
      | .Add => (cO n C v).map (sAug i opAdd)
      | .Sub => (cO n C v).map (sAug i opSub)
      | _ => none
    | _ => none
  | _ + 1, _, _ => none
def cB (W : Nat) : Nat → CC → List Stmt → Option MS
  | 0, _, _ => none
  | n + 1, C, b => match b with
    | [] => some sSkip
    | s :: r => (cS W n C s).bind fun a => (cB W n C r).map fun b => sSeq a b
end
theorem subAssign {o i : Expr} {p : Pos} {env : Env} (h : isSlice i = false) (v : Value) : assign (.Subscript o i p) env v = (do
      let ov ← holding [v] (eval o env)
      let iv ← holding [v, ov] (eval i env)
      standAt p
      holding [v, ov, iv] (setItem ov iv v)
      release [v, ov, iv] []) := by
  cases i <;> first | rfl | cases h
structure SndS (G : Gm) (d W : Nat) (n : Nat) : Prop where
  s : ∀ {C : CC} {X : Cx} {F : Hot}, Good G d C X → (X.xe = fun _ _ => False) → ∀ {x : Stmt} {ms : MS}, cS W n C x = some ms → PS X x (tS X.K F G ms)
  b : ∀ {C : CC} {X : Cx} {F : Hot}, Good G d C X → (X.xe = fun _ _ => False) → ∀ {x : List Stmt} {ms : MS}, cB W n C x = some ms → PSs X x (tS X.K F G ms)
section
variable {G : Gm} {d W n : Nat} {C : CC} {X : Cx} {F : Hot}
theorem Good.lc (g : Good G d C X) {y : Str} (h : C.isLocal y = true) : X.env.scope.names.lookup y = some .local := by
  rw [g.names]
  unfold CC.isLocal at h
  split at h
  · assumption
  · cases h
theorem snd_asgN (S : Snd G d n) (S' : ∀ m, n = m + 1 → Snd G d m) (g : Good G d C X) {y : Str} {i : Nat} {v : Expr} {ms : MS} {py pos : Pos} (hl : C.loc y = true) (hi : idx y C.N = some i) (h : cAsgN n C i v = some ms) : PS X (.Assign [.Name y py] v pos) (tS X.K F G ms) := by
  obtain ⟨h7, h8⟩ := g.locV hl
  have hN : X.N[i]? = some y := by rw [g.N]; exact idx_get hi
  have gen : ∀ {v : Expr}, grd (notComp v) (if C.mark v.pos = 1 then (cF n C v).map (sOwn i) else (cE n C v).map (sAsg i)) = some ms → PS X (.Assign [.Name y py] v pos) (tS X.K F G ms) := fun h => by
    obtain ⟨h1, h2⟩ := grd_of h
    split at h2
    · obtain ⟨f, h3, h4⟩ := Option.map_eq_some_iff.mp h2
      subst h4
      exact ps_sOwn g.nd hN h7 h8 (S.f g h3) h1
    · obtain ⟨f, h3, h4⟩ := Option.map_eq_some_iff.mp h2
      subst h4
      exact ps_sAsg g.nd hN h7 h8 (S.e g h3) h1
  cases v with
  | ListComp elt gs sc p =>
    obtain ⟨f, h3, h4⟩ := Option.map_eq_some_iff.mp (show ((cF n C (.ListComp elt gs sc p)).map fun f => if C.mark p = 1 then sOwn i f else if C.mark p = 2 then sAsg i (eLay f) else sAsg i (eFrz f)) = some ms from h)
    have key : PS X (.Assign [.Name y py] (.ListComp elt gs sc p) pos) (tAsg (tF X.K F G f) (gName i)) := by
      cases hb : (X.env.blockKind == .function && X.env.kindOf y == some .local && py.line == (Expr.ListComp elt gs sc p).pos.line && !(sc.names.any fun (n, k) => n == y && (k == .local || k == .cell))) with
      | false => exact ps_set g.nd hN h7 (S.f g h3) (by rw [swaps_lc, hb]) h8
      | true =>
        have hyl : X.env.scope.names.lookup y = some .local := by
          simp only [Bool.and_eq_true] at hb
          have := hb.1.1.2
          simpa [Env.kindOf] using this
        match n, S', h3 with
        | m + 1, S', h3 => exact snd_lcs (S' m rfl) g h3 hN hyl (by rw [swaps_lc, hb])
    obtain ⟨k1, k2, k3⟩ := setLc_of' key
    subst h4
    by_cases e1 : C.mark p = 1
    · rw [if_pos e1]; exact k1
    · rw [if_neg e1]
      by_cases e2 : C.mark p = 2
      · rw [if_pos e2]; exact k3
      · rw [if_neg e2]; exact k2
  | _ => exact gen h
theorem ne_of_nd {x y : Str} {i j : Nat} (hx : idx x C.N = some i) (hy : idx y C.N = some j) (h : x ≠ y) : i ≠ j := fun e => by
  subst e
  have h1 := idx_get hx
  have h2 := idx_get hy
  exact h (Option.some.inj (h1.symm.trans h2))
theorem snd_par (S : Snd G d n) (g : Good G d C X) {ts vs : List Expr} {ms : MS} {k kv : Nat} {pt pv pos : Pos} (h : cPar n C ts vs = some ms) : PS X (.Assign [.Tuple ts k pt] (.Tuple vs kv pv) pos) (tS X.K F G ms) := by
  unfold cPar at h
  split at h
  · rename_i n1 p1 n2 p2 x y
    obtain ⟨h1, h2⟩ := grd_of h
    simp only [Bool.and_eq_true, Bool.not_eq_true', decide_eq_false_iff_not] at h1
    obtain ⟨⟨⟨⟨⟨⟨⟨a1, a2⟩, a3⟩, a4⟩, a5⟩, a6⟩, a7⟩, a8⟩ := h1
    obtain ⟨i, b1, h3⟩ := Option.bind_eq_some_iff.mp h2
    obtain ⟨j, b2, h4⟩ := Option.bind_eq_some_iff.mp h3
    obtain ⟨t, b3, b4⟩ := Option.map_eq_some_iff.mp h4
    subst b4
    exact ps_sPar2 g.calm g.nd g.kind (by rw [g.N]; exact idx_get b1) (by rw [g.N]; exact idx_get b2) (ne_of_nd b1 b2 a4) (g.lc a1) (g.lc a2) a3 a4 a5 a6 a7 a8 (S.a g b3)
  · rename_i n1 p1 n2 p2 n3 p3 x y z
    obtain ⟨h1, h2⟩ := grd_of h
    simp only [Bool.and_eq_true, Bool.not_eq_true', decide_eq_false_iff_not] at h1
    obtain ⟨⟨⟨⟨⟨⟨⟨⟨⟨⟨⟨⟨a1, a2⟩, a3⟩, a4⟩, a5⟩, a6⟩, a7⟩, a8⟩, a9⟩, a10⟩, a11⟩, a12⟩, a13⟩ := h1
    obtain ⟨i, b1, h3⟩ := Option.bind_eq_some_iff.mp h2
    obtain ⟨j, b2, h4⟩ := Option.bind_eq_some_iff.mp h3
    obtain ⟨l, b5, h5⟩ := Option.bind_eq_some_iff.mp h4
    obtain ⟨t, b3, b4⟩ := Option.map_eq_some_iff.mp h5
    subst b4
    exact ps_sPar3 g.calm g.nd g.kind (by rw [g.N]; exact idx_get b1) (by rw [g.N]; exact idx_get b2) (by rw [g.N]; exact idx_get b5) (ne_of_nd b1 b2 a6) (ne_of_nd b1 b5 a7) (ne_of_nd b2 b5 a8) (g.lc a1) (g.lc a2) (g.lc a3) a4 a5 a6 a7 a8 a9 a10 a11 a12 a13 (S.a g b3)
  · cases h
theorem snd_b (S : SndS G d W n) (g : Good G d C X) (hx : X.xe = fun _ _ => False) {x : List Stmt} {ms : MS} (h : cB W (n + 1) C x = some ms) : PSs X x (tS X.K F G ms) := by
  cases x with
  | nil => cases h; exact pss_skip
  | cons s r =>
    obtain ⟨a, h1, h2⟩ := Option.bind_eq_some_iff.mp (show ((cS W n C s).bind fun a => (cB W n C r).map fun b => sSeq a b) = some ms from h)
    obtain ⟨b, h3, h4⟩ := Option.map_eq_some_iff.mp h2
    subst h4
    exact pss_seq (S.s g hx h1) (S.b g hx h3)
theorem snd_stmt (S : SndS G d W n) (g : Good G d C X) (hx : X.xe = fun _ _ => False) {x : Stmt} {ms : MS} (h : cS W (n + 1) C x = some ms) : PS X x (tS X.K F G ms) := by
  have T := snd G d n
  cases x with
  | Expr x p =>
    obtain ⟨h1, h2⟩ := grd_of h
    obtain ⟨a, h3, h4⟩ := Option.map_eq_some_iff.mp h2
    subst h4
    exact ps_sExpr (T.e g h3) h1
  | Return x p =>
    cases x with
    | none => cases h; exact ps_sRetN
    | some x =>
      obtain ⟨a, h3, h4⟩ := Option.map_eq_some_iff.mp (show (cE n C x).map sRet = some ms from h)
      subst h4
      exact ps_sRet (T.e g h3)
  | Pass p => cases h; exact ps_sPass
  | Break p => cases h; exact ps_sBreak
  | Continue p => cases h; exact ps_sCont
  | If x b1 b2 p =>
    obtain ⟨c, h1, h2⟩ := Option.bind_eq_some_iff.mp (show ((cM n C x).bind fun c => (cB W n C b1).bind fun s => (cB W n C b2).map fun t => sIf c s t) = some ms from h)
    obtain ⟨s, h3, h4⟩ := Option.bind_eq_some_iff.mp h2
    obtain ⟨t, h5, h6⟩ := Option.map_eq_some_iff.mp h4
    subst h6
    exact ps_sIf (T.m g h1) (S.b g hx h3) (S.b g hx h5)
  | While x b o p =>
    cases o with
    | cons _ _ => cases h
    | nil =>
      obtain ⟨c, h1, h2⟩ := Option.bind_eq_some_iff.mp (show ((cM n C x).bind fun c => (cB W n C b).map fun s => sWhile W c s) = some ms from h)
      obtain ⟨s, h3, h4⟩ := Option.map_eq_some_iff.mp h2
      subst h4
      exact ps_sWhile hx (T.m g h1) (S.b g hx h3)
  | For t it b o p =>
    cases o with
    | cons _ _ => cases h
    | nil =>
      obtain ⟨tg, h1, h2⟩ := Option.bind_eq_some_iff.mp h
      obtain ⟨s, h3, h4⟩ := Option.bind_eq_some_iff.mp h2
      have ht := g.tgt h1
      have hb := S.b (F := F) g hx h3
      have gen : ∀ {it : Expr}, grd (notSet it) ((cE n C it).map fun e => sForV e tg s) = some ms → PS X (.For t it b [] p) (tS X.K F G ms) := fun h => by
        obtain ⟨q1, q2⟩ := grd_of h
        obtain ⟨e, q3, q4⟩ := Option.map_eq_some_iff.mp q2
        subst q4
        exact ps_sForV g.calm hx g.nd ht (T.e g q3) hb q1
      split at h4
      · rename_i r pr args pc
        split at h4
        · rename_i hr
          subst hr
          obtain ⟨h11, h12⟩ := grd_of h4
          rw [Bool.and_eq_true] at h11
          have gr := g.glob h11.1
          have mr := g.blt "range" (by decide)
          match args, h12 with
          | [x], h12 =>
            obtain ⟨h13, h14⟩ := grd_of h12
            obtain ⟨u, h15, h16⟩ := Option.map_eq_some_iff.mp h14
            subst h16
            exact ps_sForR1 g.calm hx g.nd ht gr mr (T.a g h15) h13 hb
          | [x, y], h12 =>
            obtain ⟨h13, h14⟩ := grd_of h12
            rw [Bool.and_eq_true] at h13
            obtain ⟨u, h15, h16⟩ := Option.map_eq_some_iff.mp h14
            subst h16
            exact ps_sForR2 g.calm hx g.nd ht gr mr (T.a g h15) h13.1 h13.2 hb
        · split at h4
          · rename_i hr
            subst hr
            obtain ⟨h11, h12⟩ := grd_of h4
            rw [Bool.and_eq_true] at h11
            have gr := g.glob h11.1
            have mr := g.blt "enumerate" (by decide)
            match args, tg, ht, h12 with
            | [x], .many is, ht, h12 =>
              obtain ⟨h13, h14⟩ := grd_of h12
              obtain ⟨u, h15, h16⟩ := Option.map_eq_some_iff.mp h14
              subst h16
              cases t with
              | Tuple es kk tp => exact ps_sForE g.calm hx g.nd ht gr mr (T.e g h15) h13 hb
              | _ => exact ht.elim
            | [], _, _, h12 => cases h12
            | _ :: _ :: _, _, _, h12 => cases h12
            | [x], .one i, _, h12 => cases h12
          · exact gen h4
      · exact gen h4
  | Assign ts v p =>
    match ts, h with
    | [.Name y py], h =>
      obtain ⟨i, h1, h2⟩ := Option.bind_eq_some_iff.mp h
      obtain ⟨h3, h4⟩ := grd_of h1
      exact snd_asgN T (fun m _ => snd G d m) g h3 h4 h2
    | [.Tuple es k pt], h =>
      have h' : (if noSwap es v = true then grd (notComp v) ((cNs C es).bind fun is => (cE n C v).map (sUnp is)) else match (generalizing := false) v with
        | .Tuple vs _ _ => cPar n C es vs
        | _ => none) = some ms := h
      clear h
      split at h'
      · rename_i hs
        obtain ⟨h1, h2⟩ := grd_of h'
        obtain ⟨is, h3, h4⟩ := Option.bind_eq_some_iff.mp h2
        obtain ⟨e, h5, h6⟩ := Option.map_eq_some_iff.mp h4
        subst h6
        exact ps_sUnp g.calm g.nd (g.tg h3) (T.e g h5) h1 hs
      · split at h'
        · exact snd_par T g h'
        · cases h'
    | [.Subscript o i pt], h =>
      obtain ⟨h1, h2⟩ := grd_of h
      simp only [Bool.not_eq_true'] at h1
      obtain ⟨mo, h3, h4⟩ := Option.bind_eq_some_iff.mp h2
      obtain ⟨mi, h5, h6⟩ := Option.bind_eq_some_iff.mp h4
      obtain ⟨e, h7, h8⟩ := Option.map_eq_some_iff.mp h6
      subst h8
      exact ps_sSet g.hu (T.e g h7) (T.o g h3) (T.e g h5) (subAssign h1)
  | AugAssign t op v p =>
    cases t with
    | Name y py =>
      obtain ⟨i, h1, h2⟩ := Option.bind_eq_some_iff.mp h
      obtain ⟨h3, h4⟩ := grd_of h1
      obtain ⟨h7, h8⟩ := g.locV h3
      have hN : X.N[i]? = some y := by rw [g.N]; exact idx_get h4
      cases op with
      | Add =>
        obtain ⟨o, h5, h6⟩ := Option.map_eq_some_iff.mp (show (cO n C v).map (sAug i opAdd) = some ms from h2)
        subst h6
        exact ps_sAug g.nd hN h7 h8 (T.o g h5) (.inl ⟨rfl, rfl⟩)
      | Sub =>
        obtain ⟨o, h5, h6⟩ := Option.map_eq_some_iff.mp (show (cO n C v).map (sAug i opSub) = some ms from h2)
        subst h6
        exact ps_sAug g.nd hN h7 h8 (T.o g h5) (.inr ⟨rfl, rfl⟩)
      | _ => cases h2
    | _ => cases h
  | _ => cases h
theorem sndS (G : Gm) (d W : Nat) : ∀ n, SndS G d W n
  | 0 => by constructor <;> intro _ _ _ _ _ <;> intros <;> rename_i h <;> cases h
  | n + 1 => by
    refine ⟨?_, ?_⟩
    · intro C X F g hx x ms h
      exact snd_stmt (sndS G d W n) g hx h
    · intro C X F g hx x ms h
      exact snd_b (sndS G d W n) g hx h
end
end Pyx
end
section
set_option maxRecDepth 100000
namespace Pyx
open PySem PySem.Spec PyProof.Rows L2

/-! ### defs -/
/-- a def as the evaluator runs it: its parameters' number, its slots' number, its body -/
structure DfE where
  n : Nat
  sz : Nat
  body : MS
def frame (sz : Nat) (args : List AV) (S : List SObj) : AS := ⟨args.map (fun v => some (.val v)) ++ List.replicate (sz - args.length) none, S⟩
def outV : Out × AS → Option (AV × List SObj)
  | (.nx, a) => some (.non, a.S)
  | (.rt v, a) => some (v, a.S)
  | _ => none
def runB (sz : Nat) (b : MS) (G : Gm) (args : List AV) (S : List SObj) : Option (AV × List SObj) := (b G (frame sz args S)).bind outV
def runD (e : DfE) (G : Gm) (args : List AV) (S : List SObj) : Option (AV × List SObj) := if args.length = e.n then runB e.sz e.body G args S else none
/-- the defs of a text, with calls at most so deep -/
def lvl (T : List (Str × DfE)) : Nat → Gm
  | 0 => fun _ _ _ => none
  | d + 1 => fun x args S => (T.lookup x).bind fun e => runD e (lvl T d) args S
theorem lvl_len {T : List (Str × DfE)} {x : Str} {e : DfE} (h : T.lookup x = some e) : ∀ {d : Nat} {args : List AV} {S : List SObj} {r : AV × List SObj}, lvl T d x args S = some r → args.length = e.n
  | 0, _, _, _, q => by cases q
  | d + 1, args, S, r, q => by
    have q' : ((T.lookup x).bind fun e => runD e (lvl T d) args S) = some r := q
    rw [h] at q'
    have q2 : (if args.length = e.n then runB e.sz e.body (lvl T d) args S else none) = some r := q'
    split at q2
    · assumption
    · cases q2
section
variable {K : PySem.W.Frag} {F : Hot} {m : List Addr} {S : List SObj} {H : Hp} {vs : List V} {args : List AV} {sz : Nat}
theorem frame_noOwn {i : Nat} {xs : List AV} : (frame sz args S).ρ[i]? ≠ some (some (.own xs)) := fun e => by
  unfold frame at e
  simp only at e
  rw [List.getElem?_append] at e
  split at e
  · rw [List.getElem?_map] at e
    cases q : args[i]? with
    | none => rw [q] at e; cases e
    | some v => rw [q] at e; cases e
  · rw [List.getElem?_replicate] at e
    split at e <;> cases e
theorem frame_own {σ : L2.St} {p : Addr} : ¬ Own (frame sz args S).ρ σ p := fun ⟨i, xs, e, _⟩ => frame_noOwn e
theorem frame_hot {σ : L2.St} {p : Addr} : hotOf F m (frame sz args S) σ p ↔ hotOf F m ⟨[], S⟩ [] p := by
  constructor
  · rintro (h | h | h)
    · exact .inl h
    · exact .inr (.inl h)
    · exact absurd h frame_own
  · rintro (h | h | h)
    · exact .inl h
    · exact .inr (.inl h)
    · exact absurd h own_nil
theorem Rl.frame {N : List Str} (R : Rl K F m ⟨[], S⟩ [] H) (r : Rps' K F m ⟨[], S⟩ [] H vs args) : Rl K F m (frame N.length args S) (L2.start N vs) H where
  len := by
    unfold Pyx.frame L2.start
    simp only [List.length_append, List.length_map, List.length_replicate, r.length]
  slot := fun i v e => by
    unfold Pyx.frame at e
    simp only at e
    rw [List.getElem?_append] at e
    split at e
    · rename_i hi
      rw [List.length_map] at hi
      rw [List.getElem?_map] at e
      cases q : args[i]? with
      | none => rw [q] at e; cases e
      | some w =>
        rw [q] at e; cases e
        obtain ⟨x, e1, r1⟩ := r.get q
        refine ⟨x, ?_, r1.keep (KeepR.hot fun p h => frame_hot.mp h)⟩
        unfold L2.start
        rw [List.getElem?_append_left (by rw [List.length_map, r.length]; exact hi), List.getElem?_map, e1]
        rfl
    · rw [List.getElem?_replicate] at e
      split at e <;> cases e
  own := fun i xs e => absurd e frame_noOwn
  inj := fun i j xs ys p e => absurd e frame_noOwn
  mlen := R.mlen
  obj := fun n o p e1 e2 => (R.obj n o p e1 e2).keep (KeepR.hot fun p h => frame_hot.mp h) rfl
  mnd := R.mnd
  mF := R.mF
  FH := R.FH
/-- the frame is left: its own lists are forgotten -/
theorem Rl.exit {m' : List Addr} {a a' : AS} {σ σ' : L2.St} {H' : Hp} (R : Rl K F m' a' σ' H') (s : Stp m a σ H m' a' σ' H') (no : ∀ p, ¬ Own a.ρ σ p) :
    Rl K F m' ⟨[], a'.S⟩ [] H' ∧ Stp m ⟨[], a.S⟩ [] H m' ⟨[], a'.S⟩ [] H' ∧ ∀ x v, Rp' K F m' a' σ' H' x v → Rp' K F m' ⟨[], a'.S⟩ [] H' x v := by
  have hk : KeepR K H' H' (hotOf F m' a' σ') (hotOf F m' ⟨[], a'.S⟩ []) m' m' := KeepR.hot fun p h => by
    rcases h with h | h | h
    · exact .inl h
    · exact .inr (.inl h)
    · exact absurd h own_nil
  refine ⟨⟨rfl, fun i v e => by simp at e, fun i v e => by simp at e, fun i j v w p e => by simp at e, R.mlen, fun n o p e1 e2 => (R.obj n o p e1 e2).keep hk rfl, R.mnd, R.mF, R.FH⟩, ⟨s.pre, fun b o e n => s.keep b o e fun h => h.elim (fun h => n (.inl h)) (no b), s.dom, fun b h => ?_⟩, fun x v r => r.keep hk⟩
  rcases h with h | h
  · rcases s.locs b (.inl h) with h | h
    · rcases h with h | h
      · exact .inl (.inl h)
      · exact absurd h (no b)
    · exact .inr h
  · exact absurd h own_nil
end
/-- a def of the text as the compiler is given it -/
structure DD where
  name : Str
  ps : List Str
  N : List Str
  args : Arguments
  body : List Stmt
  scope : Scope
  marks : List ((Nat × Nat) × Nat)
def DD.cc (D : DD) (defs : List (Str × Nat)) (consts : List (Str × AV)) : CC := ⟨D.N, D.scope.names, fun _ => true, D.marks, defs, consts⟩
def DD.comp (W n : Nat) (defs : List (Str × Nat)) (consts : List (Str × AV)) (D : DD) : Option DfE := (cB W n (D.cc defs consts) D.body).map fun b => ⟨D.ps.length, D.N.length, b⟩
/-- the table of a text -/
def tabOf (W n : Nat) (defs : List (Str × Nat)) (consts : List (Str × AV)) : List DD → Option (List (Str × DfE))
  | [] => some []
  | D :: r => (D.comp W n defs consts).bind fun e => (tabOf W n defs consts r).map fun t => (D.name, e) :: t
theorem tab_get {W n : Nat} {defs : List (Str × Nat)} {consts : List (Str × AV)} : ∀ {Ds : List DD} {T : List (Str × DfE)}, tabOf W n defs consts Ds = some T → (Ds.map (·.name)).Nodup → ∀ D ∈ Ds, ∃ b, cB W n (D.cc defs consts) D.body = some b ∧ T.lookup D.name = some ⟨D.ps.length, D.N.length, b⟩
  | [], T, h, _, _, hD => by cases hD
  | D :: r, T, h, hn, D', hD => by
    obtain ⟨e1, h1, h2⟩ := Option.bind_eq_some_iff.mp h
    obtain ⟨t, h3, h4⟩ := Option.map_eq_some_iff.mp h2
    subst h4
    rw [List.map_cons, List.nodup_cons] at hn
    rcases List.mem_cons.mp hD with rfl | hD
    · obtain ⟨b, h5, h6⟩ := Option.map_eq_some_iff.mp h1
      subst h6
      exact ⟨b, h5, by rw [List.lookup_cons]; simp⟩
    · obtain ⟨b, h5, h6⟩ := tab_get h3 hn.2 D' hD
      refine ⟨b, h5, ?_⟩
      rw [List.lookup_cons]
      have : (D'.name == D.name) = false := by
        rw [beq_eq_false_iff_ne]
        intro e
        exact hn.1 (List.mem_map.mpr ⟨D', hD, e⟩)
      rw [this]
      exact h6
/-- what stands behind the top for a def -/
structure Stands (K : PySem.W.Frag) (mg : Str → Option Value) (D : DD) : Prop where
  ex : ∃ (f : Addr) (fd : FuncData), mg D.name = some (.ref f) ∧ FunD K D.name D.name D.args D.body D.scope [] [] f fd ∧ Binds K fd D.ps []
  sc : FnScope D.N D.ps D.scope
/-- what stands behind the top, all together -/
structure Top (K : PySem.W.Frag) (mg : Str → Option Value) (Ds : List DD) (defs : List (Str × Nat)) (consts : List (Str × AV)) : Prop where
  fns : ∀ D ∈ Ds, Stands K mg D
  defs : ∀ p ∈ defs, ∃ D ∈ Ds, D.name = p.1 ∧ D.ps.length = p.2
  blt : ∀ x ∈ bltNames, mg x = none
  con : ∀ p ∈ consts, ∃ u xv, mg p.1 = some u ∧ RelV xv u ∧ ConV K xv p.2
section
variable {P : Program} {w : World} {K : PySem.W.Frag} {mg : Str → Option Value} {base : Heap} {Ds : List DD} {defs : List (Str × Nat)} {consts : List (Str × AV)} {W n : Nat} {T : List (Str × DfE)}
theorem fn_ok (tp : Top K mg Ds defs consts) (hT : tabOf W n defs consts Ds = some T) (nd : (Ds.map (·.name)).Nodup) : ∀ (d : Nat) (D : DD), D ∈ Ds → ∀ (f : Addr) (fd : FuncData), FunD K D.name D.name D.args D.body D.scope [] [] f fd →
    FnOk P w K mg base CX0 d f fd D.ps (spG K (lvl T d) D.name D.ps.length)
  | 0, D, hD, f, fd, F => by
    refine ⟨fun vs H Q E h => h.1, fun A outer s H args us vs Q E hr he hb hv hs => ?_⟩
    obtain ⟨_, _, _, _, _, _, _, _, e, _⟩ := hs
    cases e
  | d + 1, D, hD, f, fd, F => by
    refine F.ok (tp.fns D hD).sc (fun vs H Q E h => h.1) fun cdv A outer s H vs Q E hr h => ?_
    obtain ⟨hl, F0, m, S, args, r, R, ra, e, k⟩ := h
    obtain ⟨e1, h1, h2⟩ := Option.bind_eq_some_iff.mp (show ((T.lookup D.name).bind fun e => runD e (lvl T d) args S) = some r from e)
    obtain ⟨b, h3, h4⟩ := tab_get hT nd D hD
    rw [h1] at h4
    cases h4
    have h2' : (if args.length = D.ps.length then (b (lvl T d) (frame D.N.length args S)).bind outV else none) = some r := h2
    split at h2'
    · rename_i hal
      obtain ⟨o, h5, h6⟩ := Option.bind_eq_some_iff.mp h2'
      have g : Good (lvl T d) d (D.cc defs consts) (cxOf CX0 P w K mg base D.N D.name D.scope f cdv A outer s H E).nox := by
        refine ⟨rfl, rfl, rfl, (tp.fns D hD).sc.nd, (tp.fns D hD).sc.kind, rfl, fun _ _ => rfl, hr, tp.blt, fun p hp => ?_, tp.con⟩
        obtain ⟨D', hD', n1, n2⟩ := tp.defs p hp
        obtain ⟨f', fd', q1, q2, q3⟩ := (tp.fns D' hD').ex
        obtain ⟨b', q4, q5⟩ := tab_get hT nd D' hD'
        refine ⟨⟨f', fd', D'.ps, by rw [← n1]; exact q1, q2.kp, q3, ?_⟩, fun as S r hr => ?_⟩
        · rw [← n1, ← n2]
          exact fn_ok tp hT nd d D' hD' f' fd' q2
        · rw [← n1] at hr
          rw [← n2]
          exact lvl_len q5 hr
      refine ⟨tS K F0 (lvl T d) b, PSs.nox ((sndS (lvl T d) d W n).b g rfl h3), ?_⟩
      obtain ⟨o, a'⟩ := o
      refine ⟨m, _, (o, a'), R.frame ra, h5, ?_⟩
      cases o with
      | nx =>
        cases h6
        intro σ' H' m' R' s'
        obtain ⟨a1, a2, a3⟩ := R'.exit s' fun p => frame_own
        exact k _ H' m' a1 a2 .non
      | rt v =>
        cases h6
        intro x σ' H' m' R' s' rx
        obtain ⟨a1, a2, a3⟩ := R'.exit s' fun p => frame_own
        exact k _ H' m' a1 a2 (a3 _ _ rx)
      | bk => cases h6
      | ct => cases h6
    · cases h2'
end
end Pyx
end
section
set_option maxRecDepth 100000
namespace Pyx
open PySem PySem.Spec PyProof.Rows L2
abbrev opLt : Op2 := opI fun i j => decide (i < j)
abbrev opLe : Op2 := opI fun i j => decide (i ≤ j)
abbrev opGt : Op2 := opI fun i j => decide (j < i)
abbrev opGe : Op2 := opI fun i j => decide (j ≤ i)

/-! ### the evaluator, stepped by rewriting: each continuation has a name, so nothing is looked at before its turn -/
section
variable {G : Gm} {a : AS} {ρ : List (Option Slt)} {S : List SObj} {i n : Nat} {v w : AV} {xs ys : List AV} {f f' : Op2} {oa ob oc : MO} {e e' : ME} {c c' : MT} {s t : MS} {h h' : Hd} {b : Bool} {r : AV × AS} {q : Hd × AS}
-- results
def kV (a : AS) : Option AV → Option (AV × AS)
  | some v => some (v, a)
  | none => none
@[simp] theorem kV_s : kV a (some v) = some (v, a) := rfl
-- names
def kO (i : Nat) (a : AS) : Option (Option Slt) → Option (Hd × AS)
  | some (some _) => some (.slot i, a)
  | _ => none
@[simp] theorem oVar_ev : oVar i G ⟨ρ, S⟩ = kO i ⟨ρ, S⟩ ρ[i]? := by
  show (match ρ[i]? with | some (some _) => some (Hd.slot i, (⟨ρ, S⟩ : AS)) | _ => none) = _
  unfold kO
  split <;> rfl
@[simp] theorem kO_s {x : Slt} : kO i a (some (some x)) = some (.slot i, a) := rfl
def kE (i : Nat) (a : AS) : Option (Option Slt) → Option (AV × AS)
  | some (some (.val v)) => some (v, a)
  | some (some (.own xs)) => some (.lst xs, a.frz i xs)
  | _ => none
@[simp] theorem eVar_ev : eVar i G ⟨ρ, S⟩ = kE i ⟨ρ, S⟩ ρ[i]? := by
  show (match ρ[i]? with | some (some (.val v)) => some (v, (⟨ρ, S⟩ : AS)) | some (some (.own xs)) => some (.lst xs, AS.frz ⟨ρ, S⟩ i xs) | _ => none) = _
  unfold kE
  split <;> rfl
@[simp] theorem kE_v : kE i a (some (some (.val v))) = some (v, a) := rfl
@[simp] theorem kE_o : kE i a (some (some (.own xs))) = some (.lst xs, a.frz i xs) := rfl
@[simp] theorem put_mk : AS.put ⟨ρ, S⟩ i v = ⟨ρ.set i (some (.val v)), S⟩ := rfl
@[simp] theorem frz_mk : AS.frz ⟨ρ, S⟩ i xs = ⟨ρ.set i (some (.val (.lst xs))), S⟩ := rfl
@[simp] theorem drop_mk : AS.drop ⟨ρ, S⟩ i = ⟨ρ.set i none, S⟩ := rfl
@[simp] theorem putOwn_mk : AS.putOwn ⟨ρ, S⟩ i xs = ⟨ρ.set i (some (.own xs)), S⟩ := rfl
@[simp] theorem setS_mk {o : SObj} : AS.setS ⟨ρ, S⟩ i o = ⟨ρ, S.set i o⟩ := rfl
@[simp] theorem lay_mk {o : SObj} : AS.lay ⟨ρ, S⟩ o = ⟨ρ, S ++ [o]⟩ := rfl
@[simp] theorem wS_mk {S' : List SObj} : AS.wS ⟨ρ, S⟩ S' = ⟨ρ, S'⟩ := rfl
-- contents
@[simp] theorem cont_slot : cont ⟨ρ, S⟩ (.slot i) = slotV S ρ[i]? := rfl
@[simp] theorem cont_val : cont ⟨ρ, S⟩ (.val v) = some (res S v) := rfl
@[simp] theorem slotV_v : slotV S (some (some (.val v))) = some (res S v) := rfl
@[simp] theorem slotV_o : slotV S (some (some (.own xs))) = some (.lst xs) := rfl
@[simp] theorem res_non : res S .non = .non := rfl
@[simp] theorem res_bl : res S (.bl b) = .bl b := rfl
@[simp] theorem res_int {i : Int} : res S (.int i) = .int i := rfl
@[simp] theorem res_str {z : Str} : res S (.str z) = .str z := rfl
@[simp] theorem res_tup : res S (.tup xs) = .tup xs := rfl
@[simp] theorem res_lst : res S (.lst xs) = .lst xs := rfl
@[simp] theorem res_ref : res S (.ref n) = resL n S[n]? := rfl
@[simp] theorem resL_l : resL n (some (.lst xs)) = .lst xs := rfl
@[simp] theorem resL_d {kvs : List (Str × AV)} : resL n (some (.dic kvs)) = .ref n := rfl
theorem res_nr (h : v.nr = true) : res S v = v := by cases v <;> first | rfl | cases h
-- values
def kH : Option (AV × AS) → Option (Hd × AS)
  | some r => some (.val r.1, r.2)
  | none => none
@[simp] theorem oE_ev : oE e G a = kH (e G a) := by show (e G a).map _ = _; cases e G a <;> rfl
@[simp] theorem kH_s : kH (some (v, a)) = some (.val v, a) := rfl
@[simp] theorem eCon_ev : eCon v G a = some (v, a) := rfl
def kB1 (f : Op2) (ob : MO) (G : Gm) : Option (Hd × AS) → Option (AV × AS)
  | some r => (ob G r.2).bind fun r2 => (cont r2.2 r.1).bind fun x => (cont r2.2 r2.1).bind fun y => (f r2.2.S x y).map fun v => (v, r2.2)
  | none => none
def kB2 (f : Op2) (h : Hd) : Option (Hd × AS) → Option (AV × AS)
  | some r2 => (cont r2.2 h).bind fun x => (cont r2.2 r2.1).bind fun y => (f r2.2.S x y).map fun v => (v, r2.2)
  | none => none
def kB3 (f : Op2) (a : AS) : Option AV → Option AV → Option (AV × AS)
  | some x, some y => kV a (f a.S x y)
  | _, _ => none
@[simp] theorem eBin_ev : eBin f oa ob G a = kB1 f ob G (oa G a) := by show (oa G a).bind _ = _; cases oa G a <;> rfl
@[simp] theorem kB1_s : kB1 f ob G (some (h, a)) = kB2 f h (ob G a) := by show (ob G a).bind _ = _; cases ob G a <;> rfl
@[simp] theorem kB2_s : kB2 f h (some (h', ⟨ρ, S⟩)) = kB3 f ⟨ρ, S⟩ (cont ⟨ρ, S⟩ h) (cont ⟨ρ, S⟩ h') := by
  show (cont (⟨ρ, S⟩ : AS) h).bind _ = _
  cases cont (⟨ρ, S⟩ : AS) h with
  | none => rfl
  | some x =>
    show (cont (⟨ρ, S⟩ : AS) h').bind _ = _
    cases cont (⟨ρ, S⟩ : AS) h' with
    | none => rfl
    | some y => show (f S x y).map _ = kV _ (f S x y); cases f S x y <;> rfl
@[simp] theorem kB3_s : kB3 f ⟨ρ, S⟩ (some v) (some w) = kV ⟨ρ, S⟩ (f S v w) := rfl
def kC3 (f' : Op2) (oc : MO) (G : Gm) (h' : Hd) (a : AS) : Option AV → Option (AV × AS)
  | some (.bl true) => (oc G a).bind fun r3 => (cont r3.2 h').bind fun y' => (cont r3.2 r3.1).bind fun z => (f' r3.2.S y' z).map fun w => (w, r3.2)
  | some (.bl false) => some (.bl false, a)
  | _ => none
def kC2 (f f' : Op2) (oc : MO) (G : Gm) (h h' : Hd) (a : AS) : Option AV → Option AV → Option (AV × AS)
  | some x, some y => kC3 f' oc G h' a (f a.S x y)
  | _, _ => none
def kC1 (f f' : Op2) (oc : MO) (G : Gm) (h : Hd) : Option (Hd × AS) → Option (AV × AS)
  | some r2 => kC2 f f' oc G h r2.1 r2.2 (cont r2.2 h) (cont r2.2 r2.1)
  | none => none
def kC0 (f f' : Op2) (ob oc : MO) (G : Gm) : Option (Hd × AS) → Option (AV × AS)
  | some r1 => kC1 f f' oc G r1.1 (ob G r1.2)
  | none => none
@[simp] theorem eChain_ev : eChain f f' oa ob oc G a = kC0 f f' ob oc G (oa G a) := by
  show (oa G a).bind _ = _
  cases oa G a with
  | none => rfl
  | some r1 =>
    show (ob G r1.2).bind _ = kC1 f f' oc G r1.1 (ob G r1.2)
    cases ob G r1.2 with
    | none => rfl
    | some r2 =>
      show (cont r2.2 r1.1).bind _ = kC2 f f' oc G r1.1 r2.1 r2.2 (cont r2.2 r1.1) (cont r2.2 r2.1)
      cases cont r2.2 r1.1 with
      | none => rfl
      | some x =>
        show (cont r2.2 r2.1).bind _ = _
        cases cont r2.2 r2.1 with
        | none => rfl
        | some y =>
          show (f r2.2.S x y).bind _ = kC3 f' oc G r2.1 r2.2 (f r2.2.S x y)
          cases f r2.2.S x y with
          | none => rfl
          | some v => cases v <;> first | rfl | (rename_i b; cases b <;> rfl)
@[simp] theorem kC0_s : kC0 f f' ob oc G (some (h, a)) = kC1 f f' oc G h (ob G a) := rfl
@[simp] theorem kC1_s : kC1 f f' oc G h (some (h', ⟨ρ, S⟩)) = kC2 f f' oc G h h' ⟨ρ, S⟩ (cont ⟨ρ, S⟩ h) (cont ⟨ρ, S⟩ h') := rfl
@[simp] theorem kC2_s : kC2 f f' oc G h h' ⟨ρ, S⟩ (some v) (some w) = kC3 f' oc G h' ⟨ρ, S⟩ (f S v w) := rfl
@[simp] theorem kC3_t : kC3 f' oc G h' a (some (.bl true)) = kB2 f' h' (oc G a) := by show (oc G a).bind _ = _; cases oc G a <;> rfl
@[simp] theorem kC3_f : kC3 f' oc G h' a (some (.bl false)) = some (.bl false, a) := rfl
@[simp] theorem kC3_d {P : Prop} [Decidable P] : kC3 f' oc G h' a (some (.bl (decide P))) = if P then kB2 f' h' (oc G a) else some (.bl false, a) := by
  by_cases p : P <;> simp [p]
-- truth
def kM : Option (AV × AS) → Option (Bool × AS)
  | some (.bl b, a) => some (b, a)
  | _ => none
@[simp] theorem mBool_ev : mBool e G a = kM (e G a) := by
  show (e G a).bind _ = _
  cases e G a with
  | none => rfl
  | some r => obtain ⟨v, a⟩ := r; cases v <;> rfl
@[simp] theorem kM_s : kM (some (.bl b, a)) = some (b, a) := rfl
def kT1 : Option (Hd × AS) → Option (Bool × AS)
  | some r => (cont r.2 r.1).bind fun c => (truV r.2.S c).map fun b => (b, r.2)
  | none => none
def kT2 (a : AS) : Option Bool → Option (Bool × AS)
  | some b => some (b, a)
  | none => none
def kT3 (a : AS) : Option AV → Option (Bool × AS)
  | some v => kT2 a (truV a.S v)
  | none => none
@[simp] theorem mTru_ev : mTru oa G a = kT1 (oa G a) := by show (oa G a).bind _ = _; cases oa G a <;> rfl
@[simp] theorem kT1_s : kT1 (some (h, ⟨ρ, S⟩)) = kT3 ⟨ρ, S⟩ (cont ⟨ρ, S⟩ h) := by
  show (cont (⟨ρ, S⟩ : AS) h).bind _ = _
  cases cont (⟨ρ, S⟩ : AS) h with
  | none => rfl
  | some v => show (truV S v).map _ = kT2 _ (truV S v); cases truV S v <;> rfl
@[simp] theorem kT3_s : kT3 ⟨ρ, S⟩ (some v) = kT2 ⟨ρ, S⟩ (truV S v) := rfl
@[simp] theorem kT2_s : kT2 a (some b) = some (b, a) := rfl
@[simp] theorem truV_non : truV S .non = some false := rfl
@[simp] theorem truV_bl : truV S (.bl b) = some b := rfl
@[simp] theorem truV_int {i : Int} : truV S (.int i) = some (i != 0) := rfl
@[simp] theorem truV_tup : truV S (.tup xs) = some (!xs.isEmpty) := rfl
@[simp] theorem truV_lst : truV S (.lst xs) = some (!xs.isEmpty) := rfl
def kAn (e : ME) (G : Gm) : Option (AV × AS) → Option (AV × AS)
  | some (.bl true, a) => e G a
  | some (.bl false, a) => some (.bl false, a)
  | _ => none
@[simp] theorem eAnd_ev : eAnd e e' G a = kAn e' G (e G a) := by
  show (e G a).bind _ = _
  cases e G a with
  | none => rfl
  | some r => obtain ⟨v, a⟩ := r; cases v <;> first | rfl | (rename_i b; cases b <;> rfl)
@[simp] theorem kAn_t : kAn e G (some (.bl true, a)) = e G a := rfl
@[simp] theorem kAn_f : kAn e G (some (.bl false, a)) = some (.bl false, a) := rfl
@[simp] theorem kAn_d {P : Prop} [Decidable P] : kAn e G (some (.bl (decide P), a)) = if P then e G a else some (.bl false, a) := by by_cases p : P <;> simp [p]
def kOr (e : ME) (G : Gm) : Option (AV × AS) → Option (AV × AS)
  | some (.bl false, a) => e G a
  | some (.bl true, a) => some (.bl true, a)
  | _ => none
@[simp] theorem eOr_ev : eOr e e' G a = kOr e' G (e G a) := by
  show (e G a).bind _ = _
  cases e G a with
  | none => rfl
  | some r => obtain ⟨v, a⟩ := r; cases v <;> first | rfl | (rename_i b; cases b <;> rfl)
@[simp] theorem kOr_t : kOr e G (some (.bl true, a)) = some (.bl true, a) := rfl
@[simp] theorem kOr_f : kOr e G (some (.bl false, a)) = e G a := rfl
@[simp] theorem kOr_d {P : Prop} [Decidable P] : kOr e G (some (.bl (decide P), a)) = if P then some (.bl true, a) else e G a := by by_cases p : P <;> simp [p]
def kNo : Option (AV × AS) → Option (AV × AS)
  | some (.bl b, a) => some (.bl (!b), a)
  | _ => none
@[simp] theorem eNot_ev : eNot e G a = kNo (e G a) := by
  show (e G a).bind _ = _
  cases e G a with
  | none => rfl
  | some r => obtain ⟨v, a⟩ := r; cases v <;> rfl
@[simp] theorem kNo_s : kNo (some (.bl b, a)) = some (.bl (!b), a) := rfl
def kMA (c : MT) (G : Gm) : Option (Bool × AS) → Option (Bool × AS)
  | some (true, a) => c G a
  | some (false, a) => some (false, a)
  | none => none
@[simp] theorem mAnd_ev : mAnd c c' G a = kMA c' G (c G a) := by
  show (c G a).bind _ = _
  cases c G a with
  | none => rfl
  | some r => obtain ⟨v, a⟩ := r; cases v <;> rfl
@[simp] theorem kMA_t : kMA c G (some (true, a)) = c G a := rfl
@[simp] theorem kMA_f : kMA c G (some (false, a)) = some (false, a) := rfl
@[simp] theorem kMA_d {P : Prop} [Decidable P] : kMA c G (some (decide P, a)) = if P then c G a else some (false, a) := by by_cases p : P <;> simp [p]
def kMO (c : MT) (G : Gm) : Option (Bool × AS) → Option (Bool × AS)
  | some (false, a) => c G a
  | some (true, a) => some (true, a)
  | none => none
@[simp] theorem mOr_ev : mOr c c' G a = kMO c' G (c G a) := by
  show (c G a).bind _ = _
  cases c G a with
  | none => rfl
  | some r => obtain ⟨v, a⟩ := r; cases v <;> rfl
@[simp] theorem kMO_t : kMO c G (some (true, a)) = some (true, a) := rfl
@[simp] theorem kMO_f : kMO c G (some (false, a)) = c G a := rfl
@[simp] theorem kMO_d {P : Prop} [Decidable P] : kMO c G (some (decide P, a)) = if P then some (true, a) else c G a := by by_cases p : P <;> simp [p]
def kMN : Option (Bool × AS) → Option (Bool × AS)
  | some (b, a) => some (!b, a)
  | none => none
@[simp] theorem mNot_ev : mNot c G a = kMN (c G a) := by
  show (c G a).map _ = _
  cases c G a with
  | none => rfl
  | some r => rfl
@[simp] theorem kMN_s : kMN (some (b, a)) = some (!b, a) := rfl
@[simp] theorem mTrue_ev : mTrue G a = some (true, a) := rfl
def kIt (e e' : ME) (G : Gm) : Option (Bool × AS) → Option (AV × AS)
  | some (true, a) => e G a
  | some (false, a) => e' G a
  | none => none
@[simp] theorem eIte_ev : eIte c e e' G a = kIt e e' G (c G a) := by
  show (c G a).bind _ = _
  cases c G a with
  | none => rfl
  | some r => obtain ⟨v, a⟩ := r; cases v <;> rfl
@[simp] theorem kIt_t : kIt e e' G (some (true, a)) = e G a := rfl
@[simp] theorem kIt_f : kIt e e' G (some (false, a)) = e' G a := rfl
@[simp] theorem kIt_d {P : Prop} [Decidable P] : kIt e e' G (some (decide P, a)) = if P then e G a else e' G a := by by_cases p : P <;> simp [p]
-- lists of arguments
def kA1 (t : MAs) (G : Gm) : Option (AV × AS) → Option (List AV × AS)
  | some r => (t G r.2).map fun q => (r.1 :: q.1, q.2)
  | none => none
def kA2 (v : AV) : Option (List AV × AS) → Option (List AV × AS)
  | some q => some (v :: q.1, q.2)
  | none => none
@[simp] theorem aNil_ev : aNil G a = some ([], a) := rfl
@[simp] theorem aCons_ev {t : MAs} : aCons e t G a = kA1 t G (e G a) := by show (e G a).bind _ = _; cases e G a <;> rfl
@[simp] theorem kA1_s {t : MAs} : kA1 t G (some (v, a)) = kA2 v (t G a) := by show (t G a).map _ = _; cases t G a <;> rfl
@[simp] theorem kA2_s : kA2 v (some (xs, a)) = some (v :: xs, a) := rfl
def kS1 (t : MOs) (G : Gm) : Option (Hd × AS) → Option (List Hd × AS)
  | some r => (t G r.2).map fun q => (r.1 :: q.1, q.2)
  | none => none
def kS2 (v : Hd) : Option (List Hd × AS) → Option (List Hd × AS)
  | some q => some (v :: q.1, q.2)
  | none => none
@[simp] theorem osNil_ev : osNil G a = some ([], a) := rfl
@[simp] theorem osCons_ev {t : MOs} : osCons oa t G a = kS1 t G (oa G a) := by show (oa G a).bind _ = _; cases oa G a <;> rfl
@[simp] theorem kS1_s {t : MOs} : kS1 t G (some (h, a)) = kS2 h (t G a) := by show (t G a).map _ = _; cases t G a <;> rfl
@[simp] theorem kS2_s {hs : List Hd} : kS2 h (some (hs, a)) = some (h :: hs, a) := rfl
def kTu : Option (List AV × AS) → Option (AV × AS)
  | some r => if r.1.length ≤ sizeLine then some (.tup r.1, r.2) else none
  | none => none
@[simp] theorem eTup_ev {t : MAs} : eTup t G a = kTu (t G a) := by show (t G a).bind _ = _; cases t G a <;> rfl
theorem kTu_s' (h : xs.length ≤ sizeLine) : kTu (some (xs, a)) = some (.tup xs, a) := if_pos h
theorem le_sl {n : Nat} (h : n ≤ 100000) : n ≤ sizeLine := Nat.le_trans h (by decide)
@[simp] theorem kTu_s (h : xs.length ≤ 100000) : kTu (some (xs, a)) = some (.tup xs, a) := if_pos (le_sl h)
def kFz : Option (List AV × AS) → Option (AV × AS)
  | some r => some (.lst r.1, r.2)
  | none => none
@[simp] theorem eFrz_ev {t : MAs} : eFrz t G a = kFz (t G a) := by show (t G a).map _ = _; cases t G a <;> rfl
@[simp] theorem kFz_s : kFz (some (xs, a)) = some (.lst xs, a) := rfl
def kLy : Option (List AV × AS) → Option (AV × AS)
  | some r => some (.ref r.2.S.length, r.2.lay (.lst r.1))
  | none => none
@[simp] theorem eLay_ev {t : MAs} : eLay t G a = kLy (t G a) := by show (t G a).map _ = _; cases t G a <;> rfl
@[simp] theorem kLy_s : kLy (some (xs, ⟨ρ, S⟩)) = some (.ref S.length, ⟨ρ, S ++ [.lst xs]⟩) := rfl
def kFL : Option (List AV × AS) → Option (List AV × AS)
  | some r => if r.1.length ≤ sizeLine then some r else none
  | none => none
@[simp] theorem fLst_ev {t : MAs} : fLst t G a = kFL (t G a) := by show (t G a).bind _ = _; cases t G a <;> rfl
@[simp] theorem kFL_s (h : xs.length ≤ 100000) : kFL (some (xs, a)) = some (xs, a) := if_pos (le_sl h)
-- slices
@[simp] theorem pNone_ev : pNone G a = some (none, a) := rfl
def kP : Option (AV × AS) → Option (Option Int × AS)
  | some (.int i, a) => some (some i, a)
  | _ => none
@[simp] theorem pSome_ev : pSome e G a = kP (e G a) := by
  show (e G a).bind _ = _
  cases e G a with
  | none => rfl
  | some r => obtain ⟨v, a⟩ := r; cases v <;> rfl
@[simp] theorem kP_s {i : Int} : kP (some (.int i, a)) = some (some i, a) := rfl
def kL1 (lo hi : MP) (G : Gm) : Option (Hd × AS) → Option (AV × AS)
  | some r => (lo G r.2).bind fun r1 => (hi G r1.2).bind fun r2 => (cont r2.2 r.1).bind fun c => (slF c r1.1 r2.1).map fun v => (v, r2.2)
  | none => none
def kL2 (hi : MP) (G : Gm) (h : Hd) : Option (Option Int × AS) → Option (AV × AS)
  | some r1 => (hi G r1.2).bind fun r2 => (cont r2.2 h).bind fun c => (slF c r1.1 r2.1).map fun v => (v, r2.2)
  | none => none
def kL3 (h : Hd) (lo : Option Int) : Option (Option Int × AS) → Option (AV × AS)
  | some r2 => (cont r2.2 h).bind fun c => (slF c lo r2.1).map fun v => (v, r2.2)
  | none => none
def kL4 (lo hi : Option Int) (a : AS) : Option AV → Option (AV × AS)
  | some c => kV a (slF c lo hi)
  | none => none
@[simp] theorem eSl_ev {lo hi : MP} : eSl oa lo hi G a = kL1 lo hi G (oa G a) := by show (oa G a).bind _ = _; cases oa G a <;> rfl
@[simp] theorem kL1_s {lo hi : MP} : kL1 lo hi G (some (h, a)) = kL2 hi G h (lo G a) := by show (lo G a).bind _ = _; cases lo G a <;> rfl
@[simp] theorem kL2_s {hi : MP} {x : Option Int} : kL2 hi G h (some (x, a)) = kL3 h x (hi G a) := by show (hi G a).bind _ = _; cases hi G a <;> rfl
@[simp] theorem kL3_s {x y : Option Int} : kL3 h x (some (y, ⟨ρ, S⟩)) = kL4 x y ⟨ρ, S⟩ (cont ⟨ρ, S⟩ h) := by
  show (cont (⟨ρ, S⟩ : AS) h).bind _ = _
  cases cont (⟨ρ, S⟩ : AS) h with
  | none => rfl
  | some c => show (slF c x y).map _ = kV _ (slF c x y); cases slF c x y <;> rfl
@[simp] theorem kL4_s {x y : Option Int} : kL4 x y a (some v) = kV a (slF v x y) := rfl
@[simp] theorem slF_tup {x y : Option Int} : slF (.tup xs) x y = some (.tup (cutA xs x y)) := rfl
@[simp] theorem slF_lst {x y : Option Int} : slF (.lst xs) x y = some (.lst (cutA xs x y)) := rfl
-- built-ins
@[simp] theorem conts_nil : conts a [] = some [] := rfl
def kCs (v : Option AV) : Option (List AV) → Option (List AV)
  | some vs => v.map (· :: vs)
  | none => none
theorem conts_cons {hs : List Hd} : conts a (h :: hs) = kCs (cont a h) (conts a hs) := by
  show (cont a h).bind _ = _
  cases cont a h with
  | none => cases conts a hs <;> rfl
  | some v => cases conts a hs <;> rfl
@[simp] theorem conts1 : conts a [h] = (cont a h).map fun v => [v] := by
  show (cont a h).bind _ = _
  cases cont a h <;> rfl
@[simp] theorem conts2 : conts a [h, h'] = kCs (cont a h) (conts a [h']) := conts_cons
@[simp] theorem kCs_s : kCs (some v) (some xs) = some (v :: xs) := rfl
def kBi1 (f : Bi) : Option (List Hd × AS) → Option (AV × AS)
  | some r => (conts r.2 r.1).bind fun cs => (f r.2.S cs).map fun v => (v, r.2)
  | none => none
def kBi2 (f : Bi) (a : AS) : Option (List AV) → Option (AV × AS)
  | some cs => kV a (f a.S cs)
  | none => none
@[simp] theorem eBi_ev {f : Bi} {os : MOs} : eBi f os G a = kBi1 f (os G a) := by show (os G a).bind _ = _; cases os G a <;> rfl
@[simp] theorem kBi1_s {f : Bi} {hs : List Hd} : kBi1 f (some (hs, ⟨ρ, S⟩)) = kBi2 f ⟨ρ, S⟩ (conts ⟨ρ, S⟩ hs) := by
  show (conts (⟨ρ, S⟩ : AS) hs).bind _ = _
  cases conts (⟨ρ, S⟩ : AS) hs with
  | none => rfl
  | some c => show (f S c).map _ = kV _ (f S c); cases f S c <;> rfl
@[simp] theorem kBi2_s {f : Bi} : kBi2 f ⟨ρ, S⟩ (some xs) = kV ⟨ρ, S⟩ (f S xs) := rfl
def kFV (a : AS) : Option (List AV) → Option (List AV × AS)
  | some v => some (v, a)
  | none => none
@[simp] theorem kFV_s : kFV a (some xs) = some (xs, a) := rfl
def kFi1 (f : BiF) : Option (List Hd × AS) → Option (List AV × AS)
  | some r => (conts r.2 r.1).bind fun cs => (f r.2.S cs).map fun v => (v, r.2)
  | none => none
def kFi2 (f : BiF) (a : AS) : Option (List AV) → Option (List AV × AS)
  | some cs => kFV a (f a.S cs)
  | none => none
@[simp] theorem fBi_ev {f : BiF} {os : MOs} : fBi f os G a = kFi1 f (os G a) := by show (os G a).bind _ = _; cases os G a <;> rfl
@[simp] theorem kFi1_s {f : BiF} {hs : List Hd} : kFi1 f (some (hs, ⟨ρ, S⟩)) = kFi2 f ⟨ρ, S⟩ (conts ⟨ρ, S⟩ hs) := by
  show (conts (⟨ρ, S⟩ : AS) hs).bind _ = _
  cases conts (⟨ρ, S⟩ : AS) hs with
  | none => rfl
  | some c => show (f S c).map _ = kFV _ (f S c); cases f S c <;> rfl
@[simp] theorem kFi2_s {f : BiF} : kFi2 f ⟨ρ, S⟩ (some xs) = kFV ⟨ρ, S⟩ (f S xs) := rfl
def kSS (a : AS) : Option AV → Option (List AV × AS)
  | some (.lst xs) => (asInts xs).bind fun ns => if ns.length < 64 then some ((ssI ns).map .int, a) else none
  | _ => none
def kSS1 : Option (Hd × AS) → Option (List AV × AS)
  | some r => kSS r.2 (cont r.2 r.1)
  | none => none
@[simp] theorem fSS_ev : fSS oa G a = kSS1 (oa G a) := by
  show (oa G a).bind _ = _
  cases oa G a with
  | none => rfl
  | some r =>
    show (cont r.2 r.1).bind _ = kSS r.2 (cont r.2 r.1)
    cases cont r.2 r.1 with
    | none => rfl
    | some c => cases c <;> rfl
@[simp] theorem kSS1_s : kSS1 (some (h, ⟨ρ, S⟩)) = kSS ⟨ρ, S⟩ (cont ⟨ρ, S⟩ h) := rfl
@[simp] theorem kSS_s {ns : List Int} (h : ns.length < 64) : kSS a (some (.lst (ns.map .int))) = some ((ssI ns).map .int, a) := by
  show ((asInts (ns.map AV.int)).bind _) = _
  rw [asInts_map]
  exact if_pos h
def kIs (T : String) (a : AS) : Option String → Option (AV × AS)
  | some t => some (.bl (isiB t T), a)
  | none => none
def kIs2 (T : String) (a : AS) : Option AV → Option (AV × AS)
  | some v => kIs T a (tyN v)
  | none => none
def kIs1 (T : String) : Option (Hd × AS) → Option (AV × AS)
  | some r => kIs2 T r.2 (cont r.2 r.1)
  | none => none
@[simp] theorem eIsi_ev {T : String} : eIsi T oa G a = kIs1 T (oa G a) := by
  show (oa G a).bind _ = _
  cases oa G a with
  | none => rfl
  | some r =>
    show (cont r.2 r.1).bind _ = kIs2 T r.2 (cont r.2 r.1)
    cases cont r.2 r.1 with
    | none => rfl
    | some c => show (tyN c).map _ = kIs T _ (tyN c); cases tyN c <;> rfl
@[simp] theorem kIs1_s {T : String} : kIs1 T (some (h, ⟨ρ, S⟩)) = kIs2 T ⟨ρ, S⟩ (cont ⟨ρ, S⟩ h) := rfl
@[simp] theorem kIs2_s {T : String} : kIs2 T a (some v) = kIs T a (tyN v) := rfl
@[simp] theorem kIs_s {T t : String} : kIs T a (some t) = some (.bl (isiB t T), a) := rfl
@[simp] theorem tyN_non : tyN .non = some "NoneType" := rfl
@[simp] theorem tyN_bl : tyN (.bl b) = some "bool" := rfl
@[simp] theorem tyN_int {i : Int} : tyN (.int i) = some "int" := rfl
@[simp] theorem tyN_str {z : Str} : tyN (.str z) = some "str" := rfl
@[simp] theorem tyN_tup : tyN (.tup xs) = some "tuple" := rfl
@[simp] theorem isiB_ev {t T : String} : isiB t T = (t == T || (t == "bool" && T == "int")) := rfl
def kN1 : Option (Hd × AS) → Option (AV × AS)
  | some r => (cont r.2 r.1).bind fun c => (opNeg r.2.S c).map fun v => (v, r.2)
  | none => none
@[simp] theorem eNeg_ev : eNeg oa G a = kN1 (oa G a) := by show (oa G a).bind _ = _; cases oa G a <;> rfl
def kN2 (a : AS) : Option AV → Option (AV × AS)
  | some v => kV a (opNeg a.S v)
  | none => none
@[simp] theorem kN1_s : kN1 (some (h, ⟨ρ, S⟩)) = kN2 ⟨ρ, S⟩ (cont ⟨ρ, S⟩ h) := by
  show (cont (⟨ρ, S⟩ : AS) h).bind _ = _
  cases cont (⟨ρ, S⟩ : AS) h with
  | none => rfl
  | some c => show (opNeg S c).map _ = kV _ (opNeg S c); cases opNeg S c <;> rfl
@[simp] theorem kN2_s {i : Int} : kN2 a (some (.int i)) = some (.int (-i), a) := rfl
-- calls
def kCa (x : Str) (G : Gm) : Option (List AV × AS) → Option (AV × AS)
  | some r => (G x r.1 r.2.S).map fun q => (q.1, r.2.wS q.2)
  | none => none
def kRt (ρ : List (Option Slt)) : Option (AV × List SObj) → Option (AV × AS)
  | some q => some (q.1, ⟨ρ, q.2⟩)
  | none => none
@[simp] theorem eCall_ev {x : Str} {t : MAs} : eCall x t G a = kCa x G (t G a) := by show (t G a).bind _ = _; cases t G a <;> rfl
@[simp] theorem kCa_s {x : Str} : kCa x G (some (xs, ⟨ρ, S⟩)) = kRt ρ (G x xs S) := by show (G x xs S).map _ = _; cases G x xs S <;> rfl
@[simp] theorem kRt_s : kRt ρ (some (v, S)) = some (v, ⟨ρ, S⟩) := rfl
-- methods
def kAp1 (e : ME) (G : Gm) : Option (Hd × AS) → Option (AV × AS)
  | some r => (cont r.2 r.1).bind fun c => if isLst c = true then (e G r.2).bind fun q => (mutL q.2 (appL q.1) r.1).map fun a' => (.non, a') else none
  | none => none
def kAp2 (e : ME) (G : Gm) (h : Hd) (a : AS) : Option AV → Option (AV × AS)
  | some (.lst _) => (e G a).bind fun q => (mutL q.2 (appL q.1) h).map fun a' => (.non, a')
  | _ => none
def kU : Option AS → Option (AV × AS)
  | some a => some (.non, a)
  | none => none
def kAp3 (h : Hd) : Option (AV × AS) → Option (AV × AS)
  | some q => kU (mutL q.2 (appL q.1) h)
  | none => none
@[simp] theorem eApp_ev : eApp oa e G a = kAp1 e G (oa G a) := by show (oa G a).bind _ = _; cases oa G a <;> rfl
@[simp] theorem kAp1_s : kAp1 e G (some (h, ⟨ρ, S⟩)) = kAp2 e G h ⟨ρ, S⟩ (cont ⟨ρ, S⟩ h) := by
  show (cont (⟨ρ, S⟩ : AS) h).bind _ = _
  cases cont (⟨ρ, S⟩ : AS) h with
  | none => rfl
  | some c => cases c <;> rfl
@[simp] theorem kAp2_s : kAp2 e G h a (some (.lst xs)) = kAp3 h (e G a) := by
  show (e G a).bind _ = _
  cases e G a with
  | none => rfl
  | some q => show (mutL q.2 (appL q.1) h).map _ = kU (mutL q.2 (appL q.1) h); cases mutL q.2 (appL q.1) h <;> rfl
@[simp] theorem kAp3_s : kAp3 h (some (v, a)) = kU (mutL a (appL v) h) := rfl
@[simp] theorem kU_s : kU (some a) = some (.non, a) := rfl
@[simp] theorem mutL_v {g : List AV → Option (List AV)} : mutL a g (.val v) = mutV a g v := rfl
@[simp] theorem mutL_s {g : List AV → Option (List AV)} : mutL ⟨ρ, S⟩ g (.slot i) = mutO ⟨ρ, S⟩ i g ρ[i]? := rfl
def kMO1 (ρ : List (Option Slt)) (S : List SObj) (i : Nat) : Option (List AV) → Option AS
  | some ys => some ⟨ρ.set i (some (.own ys)), S⟩
  | none => none
@[simp] theorem mutO_o {g : List AV → Option (List AV)} : mutO ⟨ρ, S⟩ i g (some (some (.own xs))) = kMO1 ρ S i (g xs) := by show (g xs).map _ = _; cases g xs <;> rfl
@[simp] theorem mutO_v {g : List AV → Option (List AV)} : mutO a i g (some (some (.val v))) = mutV a g v := rfl
@[simp] theorem kMO1_s : kMO1 ρ S i (some ys) = some ⟨ρ.set i (some (.own ys)), S⟩ := rfl
@[simp] theorem mutV_r {g : List AV → Option (List AV)} : mutV ⟨ρ, S⟩ g (.ref n) = mutR ⟨ρ, S⟩ n g S[n]? := rfl
def kMR (ρ : List (Option Slt)) (S : List SObj) (n : Nat) : Option (List AV) → Option AS
  | some ys => some ⟨ρ, S.set n (.lst ys)⟩
  | none => none
@[simp] theorem mutR_s {g : List AV → Option (List AV)} : mutR ⟨ρ, S⟩ n g (some (.lst xs)) = kMR ρ S n (g xs) := by show (g xs).map _ = _; cases g xs <;> rfl
@[simp] theorem kMR_s : kMR ρ S n (some ys) = some ⟨ρ, S.set n (.lst ys)⟩ := rfl
@[simp] theorem appL_s (h : xs.length < 100000) : appL v xs = some (xs ++ [v]) := if_pos (Nat.lt_of_lt_of_le h (by decide))
def kSq1 (f : List AV → AV → Option AV) (ks : List Nat) (ob : MO) (G : Gm) : Option (Hd × AS) → Option (AV × AS)
  | some r => (cont r.2 r.1).bind fun c0 => if kind c0 ∈ ks then (ob G r.2).bind fun q => (cont q.2 r.1).bind fun c => (cont q.2 q.1).bind fun y => if kind c = kind c0 then (seqF f c y).map fun v => (v, q.2) else none else none
  | none => none
def kSq2 (f : List AV → AV → Option AV) (ks : List Nat) (ob : MO) (G : Gm) (h : Hd) (a : AS) : Option AV → Option (AV × AS)
  | some c0 => if kind c0 ∈ ks then (ob G a).bind fun q => (cont q.2 h).bind fun c => (cont q.2 q.1).bind fun y => if kind c = kind c0 then (seqF f c y).map fun v => (v, q.2) else none else none
  | none => none
def kSq3 (f : List AV → AV → Option AV) (h : Hd) (k : Nat) : Option (Hd × AS) → Option (AV × AS)
  | some q => (cont q.2 h).bind fun c => (cont q.2 q.1).bind fun y => if kind c = k then (seqF f c y).map fun v => (v, q.2) else none
  | none => none
def kSq4 (f : List AV → AV → Option AV) (k : Nat) (a : AS) : Option AV → Option AV → Option (AV × AS)
  | some c, some y => if kind c = k then kV a (seqF f c y) else none
  | _, _ => none
@[simp] theorem eSeqM_ev {g : List AV → AV → Option AV} {ks : List Nat} : eSeqM g ks oa ob G a = kSq1 g ks ob G (oa G a) := by show (oa G a).bind _ = _; cases oa G a <;> rfl
@[simp] theorem kSq1_s {g : List AV → AV → Option AV} {ks : List Nat} : kSq1 g ks ob G (some (h, ⟨ρ, S⟩)) = kSq2 g ks ob G h ⟨ρ, S⟩ (cont ⟨ρ, S⟩ h) := by
  show (cont (⟨ρ, S⟩ : AS) h).bind _ = _
  cases cont (⟨ρ, S⟩ : AS) h <;> rfl
@[simp] theorem kSq2_s {g : List AV → AV → Option AV} {ks : List Nat} (hk : kind v ∈ ks) : kSq2 g ks ob G h a (some v) = kSq3 g h (kind v) (ob G a) := by
  show (if kind v ∈ ks then _ else _) = _
  rw [if_pos hk]
  cases ob G a <;> rfl
@[simp] theorem kSq3_s {g : List AV → AV → Option AV} {k : Nat} : kSq3 g h k (some (h', ⟨ρ, S⟩)) = kSq4 g k ⟨ρ, S⟩ (cont ⟨ρ, S⟩ h) (cont ⟨ρ, S⟩ h') := by
  show (cont (⟨ρ, S⟩ : AS) h).bind _ = _
  cases cont (⟨ρ, S⟩ : AS) h with
  | none => rfl
  | some c =>
    show (cont (⟨ρ, S⟩ : AS) h').bind _ = _
    cases cont (⟨ρ, S⟩ : AS) h' with
    | none => rfl
    | some y =>
      show (if kind c = k then _ else _) = (if kind c = k then _ else _)
      cases seqF g c y <;> rfl
@[simp] theorem kSq4_s {g : List AV → AV → Option AV} {k : Nat} (hk : kind v = k) : kSq4 g k a (some v) (some w) = kV a (seqF g v w) := if_pos hk
@[simp] theorem kind_lst : kind (.lst xs) = 1 := rfl
@[simp] theorem kind_tup : kind (.tup xs) = 2 := rfl
@[simp] theorem seqF_lst {g : List AV → AV → Option AV} : seqF g (.lst xs) w = g xs w := rfl
@[simp] theorem seqF_tup {g : List AV → AV → Option AV} : seqF g (.tup xs) w = g xs w := rfl
-- statements
@[simp] theorem sSkip_ev : sSkip G a = some (.nx, a) := rfl
def kSeq (t : MS) (G : Gm) : Option (Out × AS) → Option (Out × AS)
  | some (.nx, a) => t G a
  | some (o, a) => some (o, a)
  | none => none
@[simp] theorem sSeq_ev : sSeq s t G a = kSeq t G (s G a) := by
  show (s G a).bind _ = _
  cases s G a with
  | none => rfl
  | some r => obtain ⟨o, a⟩ := r; cases o <;> rfl
@[simp] theorem kSeq_n : kSeq t G (some (.nx, a)) = t G a := rfl
@[simp] theorem kSeq_r : kSeq t G (some (.rt v, a)) = some (.rt v, a) := rfl
@[simp] theorem kSeq_b : kSeq t G (some (.bk, a)) = some (.bk, a) := rfl
@[simp] theorem kSeq_c : kSeq t G (some (.ct, a)) = some (.ct, a) := rfl
def kX : Option (AV × AS) → Option (Out × AS)
  | some r => some (.nx, r.2)
  | none => none
@[simp] theorem sExpr_ev : sExpr e G a = kX (e G a) := by show (e G a).map _ = _; cases e G a <;> rfl
@[simp] theorem kX_s : kX (some (v, a)) = some (.nx, a) := rfl
def kR : Option (AV × AS) → Option (Out × AS)
  | some r => some (.rt r.1, r.2)
  | none => none
@[simp] theorem sRet_ev : sRet e G a = kR (e G a) := by show (e G a).map _ = _; cases e G a <;> rfl
@[simp] theorem kR_s : kR (some (v, a)) = some (.rt v, a) := rfl
@[simp] theorem sRetN_ev : sRetN G a = some (.rt .non, a) := rfl
@[simp] theorem sBreak_ev : sBreak G a = some (.bk, a) := rfl
@[simp] theorem sCont_ev : sCont G a = some (.ct, a) := rfl
def kIf (s t : MS) (G : Gm) : Option (Bool × AS) → Option (Out × AS)
  | some (true, a) => s G a
  | some (false, a) => t G a
  | none => none
@[simp] theorem sIf_ev : sIf c s t G a = kIf s t G (c G a) := by
  show (c G a).bind _ = _
  cases c G a with
  | none => rfl
  | some r => obtain ⟨v, a⟩ := r; cases v <;> rfl
@[simp] theorem kIf_t : kIf s t G (some (true, a)) = s G a := rfl
@[simp] theorem kIf_f : kIf s t G (some (false, a)) = t G a := rfl
@[simp] theorem kIf_d {P : Prop} [Decidable P] : kIf s t G (some (decide P, a)) = if P then s G a else t G a := by by_cases p : P <;> simp [p]
def kAs (i : Nat) : Option (AV × AS) → Option (Out × AS)
  | some r => some (.nx, r.2.put i r.1)
  | none => none
@[simp] theorem sAsg_ev : sAsg i e G a = kAs i (e G a) := by show (e G a).map _ = _; cases e G a <;> rfl
@[simp] theorem kAs_s : kAs i (some (v, ⟨ρ, S⟩)) = some (.nx, ⟨ρ.set i (some (.val v)), S⟩) := rfl
def kOw (i : Nat) : Option (List AV × AS) → Option (Out × AS)
  | some r => some (.nx, r.2.putOwn i r.1)
  | none => none
@[simp] theorem sOwn_ev {t : MAs} : sOwn i t G a = kOw i (t G a) := by show (t G a).map _ = _; cases t G a <;> rfl
@[simp] theorem kOw_s : kOw i (some (xs, ⟨ρ, S⟩)) = some (.nx, ⟨ρ.set i (some (.own xs)), S⟩) := rfl
def kUn (is : List Nat) : Option (AV × AS) → Option (Out × AS)
  | some r => (seqOf r.2.S r.1).bind fun xs => (gNs is xs r.2).map fun a' => (.nx, a')
  | none => none
def kNx : Option AS → Option (Out × AS)
  | some a => some (.nx, a)
  | none => none
@[simp] theorem kNx_s : kNx (some a) = some (.nx, a) := rfl
def kUn2 (is : List Nat) (a : AS) : Option (List AV) → Option (Out × AS)
  | some xs => kNx (gNs is xs a)
  | none => none
@[simp] theorem sUnp_ev {is : List Nat} : sUnp is e G a = kUn is (e G a) := by show (e G a).bind _ = _; cases e G a <;> rfl
@[simp] theorem kUn_s {is : List Nat} : kUn is (some (v, ⟨ρ, S⟩)) = kUn2 is ⟨ρ, S⟩ (seqOf S v) := by
  show (seqOf S v).bind _ = _
  cases seqOf S v with
  | none => rfl
  | some xs => show (gNs is xs (⟨ρ, S⟩ : AS)).map _ = kNx (gNs is xs ⟨ρ, S⟩); cases gNs is xs (⟨ρ, S⟩ : AS) <;> rfl
@[simp] theorem kUn2_s {is : List Nat} : kUn2 is a (some xs) = kNx (gNs is xs a) := rfl
@[simp] theorem seqOf_tup : seqOf S (.tup xs) = some xs := rfl
@[simp] theorem seqOf_lst : seqOf S (.lst xs) = some xs := rfl
def kSO : AV → Option (List AV)
  | .lst xs => some xs
  | .tup xs => some xs
  | _ => none
@[simp] theorem seqOf_ref : seqOf S (.ref n) = kSO (resL n S[n]?) := by show (match res S (.ref n) with | .lst xs => some xs | .tup xs => some xs | _ => none) = _; rw [res_ref]; cases resL n S[n]? <;> rfl
@[simp] theorem kSO_l : kSO (.lst xs) = some xs := rfl
@[simp] theorem gNs_nil : gNs [] [] a = some a := rfl
@[simp] theorem gNs_cons {is : List Nat} : gNs (i :: is) (v :: xs) ⟨ρ, S⟩ = gNs is xs ⟨ρ.set i (some (.val v)), S⟩ := rfl
def kPa (is : List Nat) : Option (List AV × AS) → Option (Out × AS)
  | some r => kNx (gNs is r.1 r.2)
  | none => none
@[simp] theorem sPar_ev {is : List Nat} {t : MAs} : sPar is t G a = kPa is (t G a) := by
  show (t G a).bind _ = _
  cases t G a with
  | none => rfl
  | some r => show (gNs is r.1 r.2).map _ = kNx (gNs is r.1 r.2); cases gNs is r.1 r.2 <;> rfl
@[simp] theorem kPa_s {is : List Nat} : kPa is (some (xs, a)) = kNx (gNs is xs a) := rfl
def kSt1 (oa : MO) (e : ME) (G : Gm) : Option (AV × AS) → Option (Out × AS)
  | some r => (oa G r.2).bind fun r1 => (e G r1.2).bind fun r2 => (storeI r2.2 r1.1 r2.1 r.1).map fun a' => (.nx, a')
  | none => none
def kSt2 (e : ME) (G : Gm) (v : AV) : Option (Hd × AS) → Option (Out × AS)
  | some r1 => (e G r1.2).bind fun r2 => (storeI r2.2 r1.1 r2.1 v).map fun a' => (.nx, a')
  | none => none
def kSt3 (v : AV) (h : Hd) : Option (AV × AS) → Option (Out × AS)
  | some r2 => kNx (storeI r2.2 h r2.1 v)
  | none => none
@[simp] theorem sSet_ev {e1 e2 : ME} : sSet oa e1 e2 G a = kSt1 oa e1 G (e2 G a) := by show (e2 G a).bind _ = _; cases e2 G a <;> rfl
@[simp] theorem kSt1_s : kSt1 oa e G (some (v, a)) = kSt2 e G v (oa G a) := by show (oa G a).bind _ = _; cases oa G a <;> rfl
@[simp] theorem kSt2_s : kSt2 e G v (some (h, a)) = kSt3 v h (e G a) := by
  show (e G a).bind _ = _
  cases e G a with
  | none => rfl
  | some r2 => show (storeI r2.2 h r2.1 v).map _ = kNx (storeI r2.2 h r2.1 v); cases storeI r2.2 h r2.1 v <;> rfl
@[simp] theorem kSt3_s : kSt3 v h (some (w, a)) = kNx (storeI a h w v) := rfl
@[simp] theorem storeI_int {j : Int} : storeI a h (.int j) v = mutL a (setL j v) h := rfl
def kAu1 (f : Op2) (oa : MO) (G : Gm) (a : AS) (i : Nat) : Option AV → Option (Out × AS)
  | some (.int x) => (oa G a).bind fun r => (cont r.2 r.1).bind fun c => match c with
    | .int y => (f r.2.S (.int x) (.int y)).bind fun v => match v with
      | .int z => some (.nx, r.2.put i (.int z))
      | _ => none
    | _ => none
  | _ => none
def kAu2 (f : Op2) (i : Nat) (x : Int) : Option (Hd × AS) → Option (Out × AS)
  | some r => (cont r.2 r.1).bind fun c => match c with
    | .int y => (f r.2.S (.int x) (.int y)).bind fun v => match v with
      | .int z => some (.nx, r.2.put i (.int z))
      | _ => none
    | _ => none
  | none => none
def kAu4 (i : Nat) (a : AS) : Option AV → Option (Out × AS)
  | some (.int z) => some (.nx, a.put i (.int z))
  | _ => none
def kAu3 (f : Op2) (i : Nat) (x : Int) (a : AS) : Option AV → Option (Out × AS)
  | some (.int y) => kAu4 i a (f a.S (.int x) (.int y))
  | _ => none
@[simp] theorem sAug_ev : sAug i f oa G ⟨ρ, S⟩ = kAu1 f oa G ⟨ρ, S⟩ i (slotV S ρ[i]?) := by
  show (slotV S ρ[i]?).bind _ = _
  cases slotV S ρ[i]? with
  | none => rfl
  | some c =>
    cases c with
    | int x =>
      show (oa G (⟨ρ, S⟩ : AS)).bind _ = (oa G (⟨ρ, S⟩ : AS)).bind _
      cases oa G (⟨ρ, S⟩ : AS) with
      | none => rfl
      | some r =>
        show (cont r.2 r.1).bind _ = (cont r.2 r.1).bind _
        cases cont r.2 r.1 with
        | none => rfl
        | some c => cases c <;> rfl
    | _ =>
      show (oa G (⟨ρ, S⟩ : AS)).bind _ = none
      cases oa G (⟨ρ, S⟩ : AS) with
      | none => rfl
      | some r =>
        show (cont r.2 r.1).bind _ = none
        cases cont r.2 r.1 <;> rfl
@[simp] theorem kAu1_s {x : Int} : kAu1 f oa G a i (some (.int x)) = kAu2 f i x (oa G a) := by show (oa G a).bind _ = _; cases oa G a <;> rfl
@[simp] theorem kAu2_s {x : Int} : kAu2 f i x (some (h, ⟨ρ, S⟩)) = kAu3 f i x ⟨ρ, S⟩ (cont ⟨ρ, S⟩ h) := by
  show (cont (⟨ρ, S⟩ : AS) h).bind _ = _
  cases cont (⟨ρ, S⟩ : AS) h with
  | none => rfl
  | some c =>
    cases c with
    | int y => show (f S (.int x) (.int y)).bind _ = kAu4 i _ (f S (.int x) (.int y)); cases f S (.int x) (.int y) with
      | none => rfl
      | some v => cases v <;> rfl
    | _ => rfl
@[simp] theorem kAu3_s {x y : Int} : kAu3 f i x ⟨ρ, S⟩ (some (.int y)) = kAu4 i ⟨ρ, S⟩ (f S (.int x) (.int y)) := rfl
@[simp] theorem kAu4_s {z : Int} : kAu4 i ⟨ρ, S⟩ (some (.int z)) = some (.nx, ⟨ρ.set i (some (.val (.int z))), S⟩) := rfl
-- operators on plain values
@[simp] theorem opAdd_i {x y : Int} : opAdd S (.int x) (.int y) = some (.int (x + y)) := rfl
@[simp] theorem opAdd_t (h : xs.length + ys.length ≤ 100000) : opAdd S (.tup xs) (.tup ys) = some (.tup (xs ++ ys)) := if_pos (le_sl h)
@[simp] theorem opAdd_l (h : xs.length + ys.length ≤ 100000) : opAdd S (.lst xs) (.lst ys) = some (.lst (xs ++ ys)) := if_pos (le_sl h)
@[simp] theorem opSub_i {x y : Int} : opSub S (.int x) (.int y) = some (.int (x - y)) := rfl
theorem opMul_i {x y : Int} (h : (-(2 ^ 64) < x ∧ x < 2 ^ 64) ∨ (-(2 ^ 64) < y ∧ y < 2 ^ 64)) : opMul S (.int x) (.int y) = some (.int (x * y)) := if_pos h
theorem opMod_i {x y : Int} (h : 0 < y) : opMod S (.int x) (.int y) = some (.int (x % y)) := if_pos h
theorem opFdiv_i {x y : Int} (h : 0 < y ∧ y < 1073741824) : opFdiv S (.int x) (.int y) = some (.int (x / y)) := if_pos h
@[simp] theorem opI_i {g : Int → Int → Bool} {x y : Int} : opI g S (.int x) (.int y) = some (.bl (g x y)) := rfl
@[simp] theorem opIs_n : opIs S v .non = some (.bl (isNon v)) := by cases v <;> rfl
@[simp] theorem opIsN_n : opIsN S v .non = some (.bl (!isNon v)) := by cases v <;> rfl
@[simp] theorem isNon_non : isNon .non = true := rfl
@[simp] theorem isNon_bl : isNon (.bl b) = false := rfl
@[simp] theorem isNon_int {i : Int} : isNon (.int i) = false := rfl
@[simp] theorem isNon_str {z : Str} : isNon (.str z) = false := rfl
@[simp] theorem isNon_tup : isNon (.tup xs) = false := rfl
@[simp] theorem isNon_lst : isNon (.lst xs) = false := rfl
@[simp] theorem opIx_t {k : Int} : opIx S (.tup xs) (.int k) = atI xs k := rfl
@[simp] theorem opIx_l {k : Int} : opIx S (.lst xs) (.int k) = atI xs k := rfl
@[simp] theorem biLen_l : biLen S [.lst xs] = some (.int xs.length) := rfl
@[simp] theorem biLen_t : biLen S [.tup xs] = some (.int xs.length) := rfl
@[simp] theorem biTuple_l : biTuple S [.lst xs] = some (.tup xs) := rfl
@[simp] theorem biTuple_t : biTuple S [.tup xs] = some (.tup xs) := rfl
@[simp] theorem bfList_l : bfList S [.lst xs] = some xs := rfl
-- defs
@[simp] theorem runD_ev {e : DfE} (h : xs.length = e.n) : runD e G xs S = runB e.sz e.body G xs S := if_pos h
def kOut : Option (Out × AS) → Option (AV × List SObj)
  | some (.nx, a) => some (.non, a.S)
  | some (.rt v, a) => some (v, a.S)
  | _ => none
@[simp] theorem runB_ev {b : MS} {sz : Nat} : runB sz b G xs S = kOut (b G (frame sz xs S)) := by
  show (b G (frame sz xs S)).bind _ = _
  cases b G (frame sz xs S) with
  | none => rfl
  | some r => obtain ⟨o, a⟩ := r; cases o <;> rfl
@[simp] theorem kOut_n : kOut (some (.nx, ⟨ρ, S⟩)) = some (.non, S) := rfl
@[simp] theorem kOut_r : kOut (some (.rt v, ⟨ρ, S⟩)) = some (v, S) := rfl
end
/-! ### texts -/
theorem char_inj {c d : Char} (h : c.toNat = d.toNat) : c = d := by
  apply Char.ext
  exact UInt32.toNat_inj.mp h
theorem str_inj {s t : String} : PySem.Str.ofString s = PySem.Str.ofString t ↔ s = t := by
  constructor
  · intro h
    rw [PySem.Str.ofString_eq_toList, PySem.Str.ofString_eq_toList] at h
    have h1 : s.toList.map Char.toNat = t.toList.map Char.toNat := by
      have := congrArg PySem.Str.cps h
      simpa using this
    have h2 : s.toList = t.toList := by
      have inj : ∀ (l m : List Char), l.map Char.toNat = m.map Char.toNat → l = m := by
        intro l
        induction l with
        | nil => intro m h; cases m with
          | nil => rfl
          | cons _ _ => simp at h
        | cons c l ih =>
          intro m h
          cases m with
          | nil => simp at h
          | cons d m =>
            simp only [List.map_cons, List.cons.injEq] at h
            rw [char_inj h.1, ih m h.2]
      exact inj _ _ h1
    exact String.ext h2
  · rintro rfl; rfl
end Pyx
end
section
set_option maxRecDepth 100000
namespace Pyx
open PySem PySem.Spec PyProof.Rows L2

/-! ### what all laws' texts have: the tape, draws, sameness -/
def bTape : MS := (sSeq (sAsg 1 (eCon (.int 7))) (sSeq (sForV (eVar 0) (.one 2) (sSeq (sAsg 1 (eBin opMod (oE (eBi biInt (osCons (oE (eBin opAdd (oE (eBin opMul (oVar 1) (oE (eCon (.int 31))))) (oE (eBi biAbs (osCons (oE (eBi biInt (osCons (oVar 2) osNil))) osNil))))) osNil))) (oE (eCon (.int 2147483647))))) sSkip)) (sSeq (sRet (eLay (fLst (aCons (eFrz (fBi bfList (osCons (oVar 0) osNil))) (aCons (eCon (.int 0)) (aCons (eCon (.int 0)) (aCons (eVar 1) aNil))))))) sSkip)))
def bDraw : MS := (sSeq (sIf (mBool (eBin opEq (oE (eBin opIx (oVar 0) (oE (eCon (.int 2))))) (oE (eCon (.int 0))))) (sSeq (sAsg 2 (eBin opIx (oVar 0) (oE (eCon (.int 1))))) (sSeq (sAsg 3 (eCon (.int 0))) (sSeq (sIf (mBool (eBin opLt (oVar 2) (oE (eBi biLen (osCons (oE (eBin opIx (oVar 0) (oE (eCon (.int 0))))) osNil))))) (sSeq (sAsg 3 (eBi biAbs (osCons (oE (eBi biInt (osCons (oE (eBin opIx (oE (eBin opIx (oVar 0) (oE (eCon (.int 0))))) (oVar 2))) osNil))) osNil))) sSkip) (sSeq (sSet (oVar 0) (eCon (.int 3)) (eBin opMod (oE (eBi biInt (osCons (oE (eBin opAdd (oE (eBin opAdd (oE (eBin opMul (oE (eBin opIx (oVar 0) (oE (eCon (.int 3))))) (oE (eCon (.int 48271))))) (oVar 2))) (oE (eCon (.int 1))))) osNil))) (oE (eCon (.int 2147483647))))) (sSeq (sAsg 3 (eBin opIx (oVar 0) (oE (eCon (.int 3))))) sSkip))) (sSeq (sSet (oVar 0) (eCon (.int 1)) (eBin opAdd (oVar 2) (oE (eCon (.int 1))))) (sSeq (sIf (mBool (eBin opLt (oVar 3) (oE (eBin opPow (oE (eCon (.int 10))) (oE (eCon (.int 18))))))) (sSeq (sAsg 3 (eBin opMod (oE (eBi biInt (osCons (oE (eBin opAdd (oE (eBin opAdd (oE (eBin opMul (oVar 3) (oE (eCon (.int 48271))))) (oE (eBin opMul (oVar 2) (oE (eCon (.int 69621))))))) (oE (eCon (.int 5))))) osNil))) (oE (eCon (.int 2147483647))))) (sSeq (sAsg 3 (eBin opMod (oE (eBi biInt (osCons (oE (eBin opMul (oVar 3) (oE (eCon (.int 69621))))) osNil))) (oE (eCon (.int 2147483629))))) (sSeq (sRet (eBin opMod (oE (eBi biInt (osCons (oVar 3) osNil))) (oE (eBi biMax (osCons (oVar 1) (osCons (oE (eCon (.int 1))) osNil)))))) sSkip))) sSkip) (sSeq (sSet (oVar 0) (eCon (.int 2)) (eVar 3)) sSkip)))))) sSkip) (sSeq (sAsg 3 (eBin opIx (oVar 0) (oE (eCon (.int 2))))) (sSeq (sSet (oVar 0) (eCon (.int 2)) (eBin opFdiv (oVar 3) (oE (eBi biMax (osCons (oVar 1) (osCons (oE (eCon (.int 2))) osNil)))))) (sSeq (sRet (eBin opMod (oE (eBi biInt (osCons (oVar 3) osNil))) (oE (eBi biMax (osCons (oVar 1) (osCons (oE (eCon (.int 1))) osNil)))))) sSkip))))
def bPick : MS := (sSeq (sRet (eBin opIx (oVar 1) (oE (eCall "_law_draw" (aCons (eVar 0) (aCons (eBi biLen (osCons (oVar 1) osNil)) aNil)))))) sSkip)
def bSame : MS := (sSeq (sIf (mTru (oE (eIsi "tuple" (oVar 1)))) (sSeq (sIf (mOr (mNot (mTru (oE (eIsi "tuple" (oVar 0))))) (mBool (eBin opNe (oE (eBi biLen (osCons (oVar 0) osNil))) (oE (eBi biLen (osCons (oVar 1) osNil)))))) (sSeq (sRet (eCon (.bl false))) sSkip) sSkip) (sSeq (sRet (eBin opNotIn (oE (eCon (.bl false))) (oE (eFrz (fCompR asR1 (aCons (eBi biLen (osCons (oVar 1) osNil)) aNil) [2] (.one 2) mTrue (eCall "_law_same" (aCons (eBin opIx (oVar 0) (oVar 2)) (aCons (eBin opIx (oVar 1) (oVar 2)) aNil)))))))) sSkip)) sSkip) (sSeq (sIf (mOr (mBool (eBin opIs (oVar 1) (oE (eCon .non)))) (mBool (eBin opIs (oVar 0) (oE (eCon .non))))) (sSeq (sRet (eAnd (eBin opIs (oVar 1) (oE (eCon .non))) (eBin opIs (oVar 0) (oE (eCon .non))))) sSkip) sSkip) (sSeq (sIf (mOr (mBool (eBin opNe (oE (eIsi "bool" (oVar 0))) (oE (eIsi "bool" (oVar 1))))) (mBool (eBin opNe (oE (eIsi "str" (oVar 0))) (oE (eIsi "str" (oVar 1)))))) (sSeq (sRet (eCon (.bl false))) sSkip) sSkip) (sSeq (sRet (eAnd (eBin opEq (oE (eIsi "int" (oVar 0))) (oE (eIsi "int" (oVar 1)))) (eBin opEq (oVar 0) (oVar 1)))) sSkip))))

/-- the tape: the script, the place, what is left of a great number, the running total -/
structure Tp where
  cells : List Int
  place : Int
  rest : Int
  total : Int
def tpO (t : Tp) : SObj := .lst [.lst (t.cells.map .int), .int t.place, .int t.rest, .int t.total]
section
variable {G : Gm} {S : List SObj} {v : AV} {xs : List AV}
theorem atI_nat {α : Type} {xs : List α} {k : Nat} : L2.atI xs (k : Int) = xs[k]? := by
  unfold L2.atI L2.ixN
  rw [if_pos (by omega)]
  by_cases h : (k : Int) < xs.length
  · rw [if_pos h]; simp
  · rw [if_neg h]
    have : xs.length ≤ k := by omega
    simp [this]
theorem atI_lit {α : Type} {xs : List α} {k : Nat} [OfNat Int k] (h : (OfNat.ofNat k : Int) = (k : Int)) : L2.atI xs (OfNat.ofNat k : Int) = xs[k]? := by rw [h, atI_nat]
@[simp] theorem atI0 {α : Type} {xs : List α} : L2.atI xs 0 = xs[0]? := atI_nat (k := 0)
@[simp] theorem atI1 {α : Type} {xs : List α} : L2.atI xs 1 = xs[1]? := atI_nat (k := 1)
@[simp] theorem atI2 {α : Type} {xs : List α} : L2.atI xs 2 = xs[2]? := atI_nat (k := 2)
@[simp] theorem atI3 {α : Type} {xs : List α} : L2.atI xs 3 = xs[3]? := atI_nat (k := 3)
@[simp] theorem atI4 {α : Type} {xs : List α} : L2.atI xs 4 = xs[4]? := atI_nat (k := 4)
@[simp] theorem atI5 {α : Type} {xs : List α} : L2.atI xs 5 = xs[5]? := atI_nat (k := 5)
@[simp] theorem atI6 {α : Type} {xs : List α} : L2.atI xs 6 = xs[6]? := atI_nat (k := 6)
@[simp] theorem atI7 {α : Type} {xs : List α} : L2.atI xs 7 = xs[7]? := atI_nat (k := 7)
theorem ixN_nat {n k : Nat} (h : k < n) : L2.ixN n (k : Int) = some k := by
  unfold L2.ixN
  rw [if_pos (by omega), if_pos (by omega)]
  rfl
theorem setL_nat {k : Nat} (h : k < xs.length) : setL (k : Int) v xs = some (xs.set k v) := by
  unfold setL
  rw [ixN_nat h]
  rfl
@[simp] theorem setL0 (h : 0 < xs.length) : setL 0 v xs = some (xs.set 0 v) := setL_nat (k := 0) h
@[simp] theorem setL1 (h : 1 < xs.length) : setL 1 v xs = some (xs.set 1 v) := setL_nat (k := 1) h
@[simp] theorem setL2 (h : 2 < xs.length) : setL 2 v xs = some (xs.set 2 v) := setL_nat (k := 2) h
@[simp] theorem setL3 (h : 3 < xs.length) : setL 3 v xs = some (xs.set 3 v) := setL_nat (k := 3) h
@[simp] theorem setL4 (h : 4 < xs.length) : setL 4 v xs = some (xs.set 4 v) := setL_nat (k := 4) h
@[simp] theorem biInt_i {i : Int} : biInt S [.int i] = some (.int i) := rfl
@[simp] theorem biInt_b {b : Bool} : biInt S [.bl b] = some (.int (if b then 1 else 0)) := rfl
@[simp] theorem biAbs_i {i : Int} : biAbs S [.int i] = some (.int (if i < 0 then -i else i)) := rfl
@[simp] theorem biMax_i {i j : Int} : biMax S [.int i, .int j] = some (.int (if j > i then j else i)) := rfl
@[simp] theorem opEq_i {x y : Int} : opEq S (.int x) (.int y) = some (.bl (decide (x = y))) := by
  unfold opEq
  rw [if_pos ⟨rfl, rfl, by show min 0 0 ≤ 64; omega⟩]
  show some (AV.bl (PyData.eqv (.int x) (.int y))) = _
  simp [PyData.eqv, BEq.beq, decide_eq_decide]
end
/-- the draw's number is in its bounds, and the tape stays a tape -/
structure Tp.Ok (t : Tp) : Prop where
  pl : 0 ≤ t.place
  rs : 0 ≤ t.rest
theorem atI_cells {cs : List Int} {i : Int} (h0 : 0 ≤ i) (h1 : i < cs.length) : L2.atI (cs.map AV.int) i = some (.int (cs.getD i.toNat 0)) := by
  obtain ⟨k, rfl⟩ := Int.eq_ofNat_of_zero_le h0
  have hk : k < cs.length := by omega
  show L2.atI (cs.map AV.int) (k : Int) = _
  rw [atI_nat, List.getElem?_map, List.getElem?_eq_getElem hk]
  simp [List.getD, hk]
@[simp] theorem pow_18 {S : List SObj} : opPow S (.int 10) (.int 18) = some (.int 1000000000000000000) := by
  show (if (0 : Int) ≤ 18 ∧ (18 : Int) ≤ 1000000 ∧ (10 : Int).natAbs < 2 ^ 64 then some (AV.int ((10 : Int) ^ (18 : Int).toNat)) else none) = _
  rw [if_pos (by decide)]
  rfl
theorem pos_max {m c : Int} (h : 0 < c) : 0 < (if c > m then c else m) := by split <;> omega
theorem ex_of {α : Type} {x : Option α} {P : α → Prop} {y : α} (h : x = some y) (p : P y) : ∃ q, x = some q ∧ P q := ⟨y, h, p⟩
def DrawP (many : Int) (R : List SObj) (q : AV × List SObj) : Prop := ∃ (r : Int) (t' : Tp), q = (.int r, tpO t' :: R) ∧ t'.Ok ∧ 0 ≤ r ∧ (r < many ∨ r < 1)
theorem draw_ok (G : Gm) (t : Tp) (ht : t.Ok) (many : Int) (hm : many < 1073741824) (R : List SObj) :
    ∃ q, runD ⟨2, 4, bDraw⟩ G [.ref 0, .int many] (tpO t :: R) = some q ∧ DrawP many R q := by
  obtain ⟨cells, place, rest, total⟩ := t
  obtain ⟨hp, hr⟩ := ht
  simp only at hp hr
  have m1 : 0 < (if 1 > many then 1 else many) := pos_max (by omega)
  have m2 : 0 < (if 2 > many then 2 else many) ∧ (if 2 > many then 2 else many) < 1073741824 := by constructor <;> split <;> omega
  have fin : ∀ x : Int, 0 ≤ x % (if 1 > many then 1 else many) ∧ (x % (if 1 > many then 1 else many) < many ∨ x % (if 1 > many then 1 else many) < 1) := fun x => by
    refine ⟨Int.emod_nonneg _ (by omega), ?_⟩
    have := Int.emod_lt_of_pos x m1
    split at this <;> rename_i h <;> simp only [h, if_true, if_false] <;> omega
  have dv : ∀ x : Int, 0 ≤ x → 0 ≤ x / (if 2 > many then 2 else many) := fun x hx => Int.ediv_nonneg hx (by omega)
  have ab : ∀ x : Int, 0 ≤ (if x < 0 then -x else x) := fun x => by split <;> omega
  by_cases h0 : rest = 0
  · subst h0
    by_cases h1 : place < cells.length
    · have hc := atI_cells hp h1
      generalize cells.getD place.toNat 0 = z at hc
      have hz := ab z
      generalize hw : (if z < 0 then -z else z) = w at hz
      by_cases h2 : w < 1000000000000000000
      · apply ex_of
        · simp [bDraw, frame, tpO, h1, hc, hw, opMul_i, opMod_i, h2, m1, -gt_iff_lt]; rfl
        · exact ⟨_, ⟨cells, place + 1, 0, total⟩, rfl, ⟨by simp only; omega, by simp⟩, fin _⟩
      · apply ex_of
        · simp [bDraw, frame, tpO, h1, hc, hw, opMul_i, opMod_i, h2, m1, opFdiv_i m2, -gt_iff_lt]; rfl
        · exact ⟨_, ⟨cells, place + 1, _, total⟩, rfl, ⟨by simp only; omega, dv _ hz⟩, fin _⟩
    · have h2 : ((total * 48271 + place + 1) % 2147483647) < 1000000000000000000 := by omega
      apply ex_of
      · simp [bDraw, frame, tpO, h1, opMul_i, opMod_i, h2, m1, -gt_iff_lt]; rfl
      · exact ⟨_, ⟨cells, place + 1, 0, _⟩, rfl, ⟨by simp only; omega, by simp⟩, fin _⟩
  · apply ex_of
    · simp [bDraw, frame, tpO, h0, opMul_i, opMod_i, m1, opFdiv_i m2, -gt_iff_lt]; rfl
    · exact ⟨_, ⟨cells, place, _, total⟩, rfl, ⟨by simp only; omega, dv _ hr⟩, fin _⟩
end Pyx
end
section
set_option maxRecDepth 100000
namespace Pyx
open PySem PySem.Spec PyProof.Rows L2

/-! ### plain values of bounded depth -/
/-- no lists, no references -/
def sm : Nat → AV → Bool
  | _, .non => true
  | _, .bl _ => true
  | _, .int _ => true
  | _, .str z => PyData.strOk z
  | k + 1, .tup xs => decide (xs.length ≤ 10000) && xs.all (sm k)
  | _, _ => false
/-- numbers, texts and tuples of them: equal only where they are the same -/
def cn : Nat → AV → Bool
  | _, .int _ => true
  | _, .str z => PyData.strOk z
  | k + 1, .tup xs => decide (xs.length ≤ 10000) && xs.all (cn k)
  | _, _ => false
theorem sm_mk {k : Nat} {xs : List AV} (h : ∀ x ∈ xs, sm k x = true) (hl : xs.length ≤ 10000) : sm (k + 1) (.tup xs) = true := by
  show (decide (xs.length ≤ 10000) && xs.all (sm k)) = true
  rw [decide_eq_true hl, List.all_eq_true.mpr h]
  rfl
theorem cn_mk {k : Nat} {xs : List AV} (h : ∀ x ∈ xs, cn k x = true) (hl : xs.length ≤ 10000) : cn (k + 1) (.tup xs) = true := by
  show (decide (xs.length ≤ 10000) && xs.all (cn k)) = true
  rw [decide_eq_true hl, List.all_eq_true.mpr h]
  rfl
theorem sm_tup {k : Nat} {xs : List AV} (h : sm k (.tup xs) = true) : ∃ j, k = j + 1 ∧ (∀ x ∈ xs, sm j x = true) ∧ xs.length ≤ 10000 := by
  cases k with
  | zero => cases h
  | succ j =>
    have h' : (decide (xs.length ≤ 10000) && xs.all (sm j)) = true := h
    rw [Bool.and_eq_true] at h'
    exact ⟨j, rfl, fun x hx => List.all_eq_true.mp h'.2 x hx, of_decide_eq_true h'.1⟩
theorem cn_tup {k : Nat} {xs : List AV} (h : cn k (.tup xs) = true) : ∃ j, k = j + 1 ∧ (∀ x ∈ xs, cn j x = true) ∧ xs.length ≤ 10000 := by
  cases k with
  | zero => cases h
  | succ j =>
    have h' : (decide (xs.length ≤ 10000) && xs.all (cn j)) = true := h
    rw [Bool.and_eq_true] at h'
    exact ⟨j, rfl, fun x hx => List.all_eq_true.mp h'.2 x hx, of_decide_eq_true h'.1⟩
theorem cn_sm : ∀ (k : Nat) (v : AV), cn k v = true → sm k v = true
  | _, .int _, _ => by unfold sm; rfl
  | _, .str z, h => by unfold sm; unfold cn at h; exact h
  | k + 1, .tup xs, h => by
    obtain ⟨j, e, h', hl⟩ := cn_tup h
    cases e
    exact sm_mk (fun x hx => cn_sm k x (h' x hx)) hl
  | 0, .tup xs, h => by cases h
  | _, .non, h => by unfold cn at h; cases h
  | _, .bl _, h => by unfold cn at h; cases h
  | _, .lst _, h => by unfold cn at h; cases h
  | _, .ref _, h => by unfold cn at h; cases h
theorem okDs_all : ∀ {xs : List AV}, (∀ x ∈ xs, x.okD = true) → AV.okDs xs = true
  | [], _ => rfl
  | x :: xs, h => by
    show (x.okD && AV.okDs xs) = true
    rw [h x List.mem_cons_self, okDs_all fun y hy => h y (List.mem_cons_of_mem _ hy)]
    rfl
theorem nrs_all : ∀ {xs : List AV}, (∀ x ∈ xs, x.nr = true) → AV.nrs xs = true
  | [], _ => rfl
  | x :: xs, h => by
    show (x.nr && AV.nrs xs) = true
    rw [h x List.mem_cons_self, nrs_all fun y hy => h y (List.mem_cons_of_mem _ hy)]
    rfl
theorem deps_all {k : Nat} : ∀ {xs : List AV}, (∀ x ∈ xs, x.dep ≤ k) → PyData.depthAll (AV.pds xs) ≤ k
  | [], _ => Nat.zero_le _
  | x :: xs, h => by
    show max x.pd.depth (PyData.depthAll (AV.pds xs)) ≤ k
    have h1 : x.pd.depth ≤ k := h x List.mem_cons_self
    have h2 := deps_all (xs := xs) fun y hy => h y (List.mem_cons_of_mem _ hy)
    omega
theorem sm_okD : ∀ (k : Nat) (v : AV), sm k v = true → v.okD = true
  | _, .non, _ => rfl
  | _, .bl _, _ => rfl
  | _, .int _, _ => rfl
  | _, .str z, h => by unfold sm at h; exact h
  | k + 1, .tup xs, h => by
    obtain ⟨j, e, h', _⟩ := sm_tup h
    cases e
    exact okDs_all fun x hx => sm_okD k x (h' x hx)
  | 0, .tup xs, h => by cases h
  | _, .lst _, h => by unfold sm at h; cases h
  | _, .ref _, h => by unfold sm at h; cases h
theorem sm_nr : ∀ (k : Nat) (v : AV), sm k v = true → v.nr = true
  | _, .non, _ => rfl
  | _, .bl _, _ => rfl
  | _, .int _, _ => rfl
  | _, .str z, h => rfl
  | k + 1, .tup xs, h => by
    obtain ⟨j, e, h', _⟩ := sm_tup h
    cases e
    exact nrs_all fun x hx => sm_nr k x (h' x hx)
  | 0, .tup xs, h => by cases h
  | _, .lst _, h => by unfold sm at h; cases h
  | _, .ref _, h => by unfold sm at h; cases h
theorem sm_dep : ∀ (k : Nat) (v : AV), sm k v = true → v.dep ≤ k
  | _, .non, _ => Nat.zero_le _
  | _, .bl _, _ => Nat.zero_le _
  | _, .int _, _ => Nat.zero_le _
  | _, .str z, h => Nat.zero_le _
  | k + 1, .tup xs, h => by
    obtain ⟨j, e, h', _⟩ := sm_tup h
    cases e
    show PyData.depthAll (AV.pds xs) + 1 ≤ k + 1
    have := deps_all (k := k) (xs := xs) fun x hx => sm_dep k x (h' x hx)
    omega
  | 0, .tup xs, h => by cases h
  | _, .lst _, h => by unfold sm at h; cases h
  | _, .ref _, h => by unfold sm at h; cases h
mutual
theorem eqv_cn : ∀ (j k : Nat) (x y : AV), cn j x = true → cn k y = true → (PyData.eqv x.pd y.pd = true ↔ x = y)
  | j, k, .int i, .int i', _, _ => by simp [AV.pd, PyData.eqv]
  | j, k, .int i, .str z, _, _ => by simp [AV.pd, PyData.eqv]
  | j, k, .int i, .tup ys, _, _ => by simp [AV.pd, PyData.eqv]
  | j, k, .str z, .int i, _, _ => by simp [AV.pd, PyData.eqv]
  | j, k, .str z, .str z', _, _ => by simp [AV.pd, PyData.eqv]
  | j, k, .str z, .tup ys, _, _ => by simp [AV.pd, PyData.eqv]
  | j, k, .tup xs, .int i, _, _ => by simp [AV.pd, PyData.eqv]
  | j, k, .tup xs, .str z, _, _ => by simp [AV.pd, PyData.eqv]
  | j + 1, k + 1, .tup xs, .tup ys, h1, h2 => by
    obtain ⟨_, e1, h1', _⟩ := cn_tup h1
    obtain ⟨_, e2, h2', _⟩ := cn_tup h2
    cases e1; cases e2
    rw [show PyData.eqv (AV.tup xs).pd (AV.tup ys).pd = PyData.eqvAll (AV.pds xs) (AV.pds ys) by simp [AV.pd, PyData.eqv], eqvs_cn j k xs ys h1' h2']
    exact ⟨fun h => by rw [h], fun h => by cases h; rfl⟩
  | 0, _, .tup xs, _, h, _ => by cases h
  | _, 0, _, .tup xs, _, h => by cases h
  | _, _, .non, _, h, _ => by unfold cn at h; cases h
  | _, _, .bl _, _, h, _ => by unfold cn at h; cases h
  | _, _, .lst _, _, h, _ => by unfold cn at h; cases h
  | _, _, .ref _, _, h, _ => by unfold cn at h; cases h
  | _, _, _, .non, _, h => by unfold cn at h; cases h
  | _, _, _, .bl _, _, h => by unfold cn at h; cases h
  | _, _, _, .lst _, _, h => by unfold cn at h; cases h
  | _, _, _, .ref _, _, h => by unfold cn at h; cases h
theorem eqvs_cn : ∀ (j k : Nat) (xs ys : List AV), (∀ x ∈ xs, cn j x = true) → (∀ y ∈ ys, cn k y = true) → (PyData.eqvAll (AV.pds xs) (AV.pds ys) = true ↔ xs = ys)
  | j, k, [], [], _, _ => by simp [AV.pds, PyData.eqvAll]
  | j, k, [], _ :: _, _, _ => by simp [AV.pds, PyData.eqvAll]
  | j, k, _ :: _, [], _, _ => by simp [AV.pds, PyData.eqvAll]
  | j, k, x :: xs, y :: ys, h1, h2 => by
    rw [AV.pds, AV.pds, PyData.eqvAll, Bool.and_eq_true, eqv_cn j k x y (h1 _ List.mem_cons_self) (h2 _ List.mem_cons_self), eqvs_cn j k xs ys (fun z hz => h1 z (List.mem_cons_of_mem _ hz)) fun z hz => h2 z (List.mem_cons_of_mem _ hz), List.cons.injEq]
end
theorem eqb_cn {j k : Nat} {x y : AV} (h1 : cn j x = true) (h2 : cn k y = true) : x.eqb y = true ↔ x = y := eqv_cn j k x y h1 h2
theorem eqb_refl {k : Nat} {x : AV} (h : sm k x = true) : x.eqb x = true := PySem.SeqAt.eqv_refl _ (AV.okD_lay x (sm_okD k x h))
section
variable {S : List SObj} {x y : AV} {xs ys : List AV} {j k : Nat}
theorem opEq_sm (h1 : sm j x = true) (h2 : sm k y = true) (hk : j ≤ 64) : opEq S x y = some (.bl (x.eqb y)) := by
  unfold opEq
  rw [if_pos ⟨sm_okD j x h1, sm_okD k y h2, by have := sm_dep j x h1; omega⟩]
theorem opNe_sm (h1 : sm j x = true) (h2 : sm k y = true) (hk : j ≤ 64) : opNe S x y = some (.bl (!x.eqb y)) := by
  unfold opNe
  rw [if_pos ⟨sm_okD j x h1, sm_okD k y h2, by have := sm_dep j x h1; omega⟩]
theorem inSeq_sm (h1 : sm j x = true) (h2 : ∀ y ∈ ys, sm k y = true) (hk : j ≤ 64) : inSeq x ys = some (ys.any fun y => y.eqb x) := by
  unfold inSeq
  rw [if_pos ⟨sm_okD j x h1, okDs_all fun y hy => sm_okD k y (h2 y hy), by have := sm_dep j x h1; omega⟩]
theorem any_cn (h1 : cn j x = true) (h2 : ∀ y ∈ ys, cn k y = true) : (ys.any fun y => y.eqb x) = true ↔ x ∈ ys := by
  rw [List.any_eq_true]
  constructor
  · rintro ⟨y, hy, e⟩
    rw [← (eqb_cn (h2 y hy) h1).mp e]
    exact hy
  · intro h
    exact ⟨x, h, (eqb_cn h1 h1).mpr rfl⟩
/-- the place of a row -/
def pos (ys : List AV) (x : AV) : Option Nat := ys.findIdx? fun z => z.eqb x
theorem idxA_sm (h1 : sm j x = true) (h2 : ∀ y ∈ ys, sm k y = true) (hk : j ≤ 64) : idxA ys x = (pos ys x).map fun (n : Nat) => .int n := by
  unfold idxA pos
  rw [if_pos ⟨sm_okD j x h1, okDs_all fun y hy => sm_okD k y (h2 y hy), by have := sm_dep j x h1; omega⟩]
theorem pos_some {n : Nat} (h1 : cn j x = true) (h2 : ∀ y ∈ ys, cn k y = true) (h : pos ys x = some n) : ys[n]? = some x := by
  unfold pos at h
  rw [List.findIdx?_eq_some_iff_getElem] at h
  obtain ⟨hn, e, _⟩ := h
  rw [List.getElem?_eq_getElem hn, (eqb_cn (h2 _ (List.getElem_mem hn)) h1).mp e]
theorem pos_lt {n : Nat} (h : pos ys x = some n) : n < ys.length := by
  unfold pos at h
  rw [List.findIdx?_eq_some_iff_getElem] at h
  exact h.1
theorem pos_none (h1 : cn j x = true) (h2 : ∀ y ∈ ys, cn k y = true) : pos ys x = none ↔ x ∉ ys := by
  unfold pos
  rw [List.findIdx?_eq_none_iff]
  constructor
  · intro h hx
    have := h x hx
    rw [(eqb_cn h1 h1).mpr rfl] at this
    cases this
  · intro h z hz
    cases e : z.eqb x with
    | false => rfl
    | true => exact absurd ((eqb_cn (h2 z hz) h1).mp e ▸ hz) h
theorem any_pos : (ys.any fun y => y.eqb x) = (pos ys x).isSome := by
  unfold pos
  rw [List.findIdx?_isSome]
theorem pos_append_some {n : Nat} {zs : List AV} (h : pos ys x = some n) : pos (ys ++ zs) x = some n := by
  unfold pos at h ⊢
  rw [List.findIdx?_append, h]
  rfl
theorem pos_append_new (h1 : cn j x = true) (h : pos ys x = none) : pos (ys ++ [x]) x = some ys.length := by
  unfold pos at h ⊢
  rw [List.findIdx?_append, h]
  simp [List.findIdx?_cons, eqb_refl (cn_sm j x h1)]
end
/-! ### loops -/
theorem loopL_inv {tg : Tg} {body : AS → Option (Out × AS)} (I : Nat → AS → Prop) : ∀ {xs : List AV} {n : Nat} {a : AS},
    (∀ k x a, xs[k]? = some x → I (n + k) a → ∃ a1 o a2, asgT tg x a = some a1 ∧ body a1 = some (o, a2) ∧ (o = .nx ∨ o = .ct) ∧ I (n + k + 1) a2) → I n a → ∃ a', loopL tg body xs a = some (.nx, a') ∧ I (n + xs.length) a'
  | [], n, a, _, h0 => ⟨a, rfl, h0⟩
  | x :: xs, n, a, h, h0 => by
    obtain ⟨a1, o, a2, e1, e2, e3, e4⟩ := h 0 x a rfl h0
    obtain ⟨a', e5, e6⟩ := loopL_inv (tg := tg) (body := body) I (xs := xs) (n := n + 1) (a := a2) (fun k y b hk hI => by
      have := h (k + 1) y b (by simpa using hk) (by rw [show n + (k + 1) = n + 1 + k by omega]; exact hI)
      rw [show n + (k + 1) + 1 = n + 1 + k + 1 by omega] at this
      exact this) e4
    refine ⟨a', ?_, by rw [List.length_cons, show n + (xs.length + 1) = n + 1 + xs.length by omega]; exact e6⟩
    show ((asgT tg x a).bind fun a' => (body a').bind (turn (loopL tg body xs))) = _
    rw [e1]
    show (body a1).bind _ = _
    rw [e2]
    rcases e3 with rfl | rfl <;> exact e5
section
variable {G : Gm} {a : AS} {ρ : List (Option Slt)} {S : List SObj} {xs : List AV}
def kFo (tg : Tg) (b : MS) (G : Gm) : Option (AV × AS) → Option (Out × AS)
  | some (.lst xs, a) => loopL tg (b G) xs a
  | some (.tup xs, a) => loopL tg (b G) xs a
  | some (.ref n, a) => match a.S[n]? with
    | some (.lst xs) => loopR tg (b G) n xs.length xs.length a
    | _ => none
  | _ => none
@[simp] theorem sForV_ev {it : ME} {tg : Tg} {b : MS} : sForV it tg b G a = kFo tg b G (it G a) := by
  show (it G a).bind _ = _
  cases it G a with
  | none => rfl
  | some r => obtain ⟨v, a⟩ := r; cases v <;> rfl
@[simp] theorem kFo_l {tg : Tg} {b : MS} : kFo tg b G (some (.lst xs, a)) = loopL tg (b G) xs a := rfl
@[simp] theorem kFo_t {tg : Tg} {b : MS} : kFo tg b G (some (.tup xs, a)) = loopL tg (b G) xs a := rfl
def kFr (rg : List AV → Option (Int × Nat)) (tg : Tg) (b : MS) (G : Gm) : Option (List AV × AS) → Option (Out × AS)
  | some r => (rg r.1).bind fun p => loopL tg (b G) (rgA p.1 p.2) r.2
  | none => none
@[simp] theorem sForR_ev {rg : List AV → Option (Int × Nat)} {t : MAs} {tg : Tg} {b : MS} : sForR rg t tg b G a = kFr rg tg b G (t G a) := by show (t G a).bind _ = _; cases t G a <;> rfl
theorem asR1_nat {n : Nat} (h : n ≤ 1000000) : asR1 [.int (n : Int)] = some (0, n) := by
  have e : asR1 [.int (n : Int)] = if -(2 ^ 62) ≤ (n : Int) ∧ (n : Int) < 2 ^ 62 then some ((0 : Int), (n : Int).toNat) else none := rfl
  rw [e, if_pos ⟨by omega, by omega⟩, Int.toNat_natCast]
theorem kFr_1 {tg : Tg} {b : MS} {n : Nat} (h : n ≤ 1000000) : kFr asR1 tg b G (some ([.int (n : Int)], a)) = loopL tg (b G) (rgA 0 n) a := by
  show ((asR1 [.int (n : Int)]).bind fun p => loopL tg (b G) (rgA p.1 p.2) a) = loopL tg (b G) (rgA 0 n) a
  rw [asR1_nat h, Option.bind_some]
theorem rgA0_get {n i : Nat} (h : i < n) : (rgA 0 n)[i]? = some (.int (i : Int)) := by rw [rgA_get h]; simp
/-! ### comprehensions over one name, whose element changes nothing -/
theorem drop_put {i : Nat} {v : AV} : (AS.put ⟨ρ, S⟩ i v).drop i = AS.drop ⟨ρ, S⟩ i := by
  show (⟨(ρ.set i _).set i _, S⟩ : AS) = ⟨ρ.set i _, S⟩
  rw [List.set_set]
theorem put_drop {i : Nat} {v : AV} : (AS.drop ⟨ρ, S⟩ i).put i v = AS.put ⟨ρ, S⟩ i v := by
  show (⟨(ρ.set i _).set i _, S⟩ : AS) = ⟨ρ.set i _, S⟩
  rw [List.set_set]
theorem compL_pure {i : Nat} {tst : AS → Option (Bool × AS)} {elt : AS → Option (AV × AS)} {p : AV → Bool} {f : AV → AV} : ∀ {xs : List AV} {acc : List AV} {b : AS},
    b.drop i = AS.drop ⟨ρ, S⟩ i → (∀ x ∈ xs, tst (AS.put ⟨ρ, S⟩ i x) = some (p x, AS.put ⟨ρ, S⟩ i x)) → (∀ x ∈ xs, p x = true → elt (AS.put ⟨ρ, S⟩ i x) = some (f x, AS.put ⟨ρ, S⟩ i x)) → acc.length + xs.length ≤ 100000 →
    ∃ b', compL [i] (.one i) tst elt xs acc b = some (acc ++ (xs.filter p).map f, b') ∧ b'.drop i = AS.drop ⟨ρ, S⟩ i
  | [], acc, b, hb, _, _, _ => ⟨b, by simp [compL], hb⟩
  | x :: xs, acc, b, hb, h1, h2, hl => by
    have hl' : acc.length + xs.length + 1 ≤ 100000 := by simpa [Nat.add_assoc] using hl
    have e1 : compL [i] (.one i) tst elt (x :: xs) acc b = compT tst elt (compL [i] (.one i) tst elt xs) acc (AS.put ⟨ρ, S⟩ i x) := by
      show (asgT (.one i) x (clr b [i])).bind _ = _
      have : clr b [i] = AS.drop ⟨ρ, S⟩ i := hb
      rw [this]
      show compT tst elt (compL [i] (.one i) tst elt xs) acc ((AS.drop ⟨ρ, S⟩ i).put i x) = _
      rw [put_drop]
    rw [e1]
    unfold compT
    rw [h1 x List.mem_cons_self]
    cases hp : p x with
    | true =>
      obtain ⟨b', e2, e3⟩ := compL_pure (i := i) (tst := tst) (elt := elt) (p := p) (f := f) (xs := xs) (acc := acc ++ [f x]) (b := AS.put ⟨ρ, S⟩ i x) drop_put (fun y hy => h1 y (List.mem_cons_of_mem _ hy)) (fun y hy => h2 y (List.mem_cons_of_mem _ hy)) (by simp; omega)
      refine ⟨b', ?_, e3⟩
      show (if (true : Bool) = true then (if acc.length < sizeLine then (elt (AS.put ⟨ρ, S⟩ i x)).bind (fun q => compL [i] (.one i) tst elt xs (acc ++ [q.1]) q.2) else none) else compL [i] (.one i) tst elt xs acc (AS.put ⟨ρ, S⟩ i x)) = _
      rw [if_pos rfl, if_pos (Nat.lt_of_lt_of_le (by omega : acc.length < 100000) (by decide)), h2 x List.mem_cons_self hp]
      show compL [i] (.one i) tst elt xs (acc ++ [f x]) (AS.put ⟨ρ, S⟩ i x) = _
      rw [e2, List.filter_cons_of_pos hp]
      simp
    | false =>
      obtain ⟨b', e2, e3⟩ := compL_pure (i := i) (tst := tst) (elt := elt) (p := p) (f := f) (xs := xs) (acc := acc) (b := AS.put ⟨ρ, S⟩ i x) drop_put (fun y hy => h1 y (List.mem_cons_of_mem _ hy)) (fun y hy => h2 y (List.mem_cons_of_mem _ hy)) (by omega)
      refine ⟨b', ?_, e3⟩
      show (if (false : Bool) = true then (if acc.length < sizeLine then (elt (AS.put ⟨ρ, S⟩ i x)).bind (fun q => compL [i] (.one i) tst elt xs (acc ++ [q.1]) q.2) else none) else compL [i] (.one i) tst elt xs acc (AS.put ⟨ρ, S⟩ i x)) = _
      rw [if_neg (by decide), e2, List.filter_cons_of_neg (by rw [hp]; decide)]
def kFc (vs : List Nat) (tg : Tg) (tst : MT) (elt : ME) (G : Gm) : Option (AV × AS) → Option (List AV × AS)
  | some r => if noOwn r.2 vs = true then (compV vs tg (tst G) (elt G) r.2 r.1).map fun q => (q.1, rst r.2 (clr q.2 vs) vs) else none
  | none => none
@[simp] theorem fComp_ev {it : ME} {vs : List Nat} {tg : Tg} {tst : MT} {elt : ME} : fComp it vs tg tst elt G a = kFc vs tg tst elt G (it G a) := by show (it G a).bind _ = _; cases it G a <;> rfl
def kFcR (rg : List AV → Option (Int × Nat)) (vs : List Nat) (tg : Tg) (tst : MT) (elt : ME) (G : Gm) : Option (List AV × AS) → Option (List AV × AS)
  | some r => if noOwn r.2 vs = true then (rg r.1).bind fun p => (compL vs tg (tst G) (elt G) (rgA p.1 p.2) [] r.2).map fun q => (q.1, rst r.2 (clr q.2 vs) vs) else none
  | none => none
@[simp] theorem fCompR_ev {rg : List AV → Option (Int × Nat)} {t : MAs} {vs : List Nat} {tg : Tg} {tst : MT} {elt : ME} : fCompR rg t vs tg tst elt G a = kFcR rg vs tg tst elt G (t G a) := by show (t G a).bind _ = _; cases t G a <;> rfl
theorem rst_back {i : Nat} {b' : AS} (h : b'.drop i = AS.drop ⟨ρ, S⟩ i) : rst ⟨ρ, S⟩ (clr b' [i]) [i] = ⟨ρ, S⟩ := by
  have e : clr b' [i] = ⟨ρ.set i none, S⟩ := h
  rw [e]
  show (⟨(ρ.set i none).set i ((ρ[i]?).getD none), S⟩ : AS) = _
  rw [List.set_set]
  congr 1
  apply List.ext_getElem?
  intro j
  rw [List.getElem?_set]
  split
  · rename_i e; subst e
    split
    · rename_i hl; rw [List.getElem?_eq_getElem hl]; rfl
    · rename_i hl; rw [List.getElem?_eq_none (by omega)]
  · rfl
theorem comp_pure {i : Nat} {tst : MT} {elt : ME} {p : AV → Bool} {f : AV → AV} {v : AV} (hv : v = .lst xs ∨ v = .tup xs) (hn : noOwn ⟨ρ, S⟩ [i] = true) (h1 : ∀ x ∈ xs, tst G ⟨ρ.set i (some (.val x)), S⟩ = some (p x, ⟨ρ.set i (some (.val x)), S⟩))
    (h2 : ∀ x ∈ xs, p x = true → elt G ⟨ρ.set i (some (.val x)), S⟩ = some (f x, ⟨ρ.set i (some (.val x)), S⟩)) (hl : xs.length ≤ 100000) :
    kFc [i] (.one i) tst elt G (some (v, ⟨ρ, S⟩)) = some ((xs.filter p).map f, ⟨ρ, S⟩) := by
  obtain ⟨b', e1, e2⟩ := compL_pure (ρ := ρ) (S := S) (i := i) (tst := tst G) (elt := elt G) (p := p) (f := f) (xs := xs) (acc := []) (b := ⟨ρ, S⟩) rfl h1 h2 (by simpa using hl)
  show (if noOwn (⟨ρ, S⟩ : AS) [i] = true then (compV [i] (.one i) (tst G) (elt G) ⟨ρ, S⟩ v).map (fun q => (q.1, rst ⟨ρ, S⟩ (clr q.2 [i]) [i])) else none) = _
  rw [if_pos hn]
  have e3 : compV [i] (.one i) (tst G) (elt G) ⟨ρ, S⟩ v = compL [i] (.one i) (tst G) (elt G) xs [] ⟨ρ, S⟩ := by rcases hv with rfl | rfl <;> rfl
  rw [e3, e1]
  show some (_, rst ⟨ρ, S⟩ (clr b' [i]) [i]) = _
  rw [rst_back e2]
  rfl
theorem compR_pure {i n : Nat} {tst : MT} {elt : ME} {p : AV → Bool} {f : AV → AV} (hn : noOwn ⟨ρ, S⟩ [i] = true) (h1 : ∀ k : Nat, k < n → tst G ⟨ρ.set i (some (.val (.int (k : Int)))), S⟩ = some (p (.int k), ⟨ρ.set i (some (.val (.int (k : Int)))), S⟩))
    (h2 : ∀ k : Nat, k < n → p (.int k) = true → elt G ⟨ρ.set i (some (.val (.int (k : Int)))), S⟩ = some (f (.int k), ⟨ρ.set i (some (.val (.int (k : Int)))), S⟩)) (hl : n ≤ 100000) :
    kFcR asR1 [i] (.one i) tst elt G (some ([.int (n : Int)], ⟨ρ, S⟩)) = some (((rgA 0 n).filter p).map f, ⟨ρ, S⟩) := by
  have mem : ∀ x ∈ rgA 0 n, ∃ k : Nat, k < n ∧ x = .int (k : Int) := fun x hx => by
    obtain ⟨k, hk, e⟩ := List.mem_map.mp hx
    exact ⟨k, List.mem_range.mp hk, by rw [← e]; simp⟩
  obtain ⟨b', e1, e2⟩ := compL_pure (ρ := ρ) (S := S) (i := i) (tst := tst G) (elt := elt G) (p := p) (f := f) (xs := rgA 0 n) (acc := []) (b := ⟨ρ, S⟩) rfl
    (fun x hx => by obtain ⟨k, hk, rfl⟩ := mem x hx; exact h1 k hk) (fun x hx => by obtain ⟨k, hk, rfl⟩ := mem x hx; exact h2 k hk) (by simp [rgA_length]; exact hl)
  show (if noOwn (⟨ρ, S⟩ : AS) [i] = true then (asR1 [.int (n : Int)]).bind (fun p => (compL [i] (.one i) (tst G) (elt G) (rgA p.1 p.2) [] ⟨ρ, S⟩).map fun q => (q.1, rst ⟨ρ, S⟩ (clr q.2 [i]) [i])) else none) = _
  rw [if_pos hn, asR1_nat (by omega)]
  show (compL [i] (.one i) (tst G) (elt G) (rgA 0 n) [] ⟨ρ, S⟩).map _ = _
  rw [e1]
  show some (_, rst ⟨ρ, S⟩ (clr b' [i]) [i]) = _
  rw [rst_back e2]
  rfl
end
/-! ### _law_same of a thing with itself -/
theorem allT {n : Nat} : (((rgA 0 n).filter fun _ => true).map fun _ => AV.bl true) = List.replicate n (.bl true) := by
  rw [List.filter_eq_self.mpr fun _ _ => rfl]
  apply List.ext_getElem?
  intro j
  rw [List.getElem?_map, List.getElem?_replicate]
  split
  · rename_i h; rw [rgA_get h]; rfl
  · rename_i h; rw [List.getElem?_eq_none (by rw [rgA_length]; omega)]; rfl
theorem notIn_allT {S : List SObj} {n : Nat} : opNotIn S (.bl false) (.lst (List.replicate n (.bl true))) = some (.bl true) := by
  show (inSeq (.bl false) (List.replicate n (.bl true))).map _ = _
  rw [inSeq_sm (j := 0) (k := 0) (by unfold sm; rfl) (fun y hy => by rw [List.eq_of_mem_replicate hy]; unfold sm; rfl) (by omega)]
  have : ((List.replicate n (AV.bl true)).any fun y => y.eqb (.bl false)) = false := by
    rw [List.any_eq_false]
    intro y hy
    rw [List.eq_of_mem_replicate hy]
    decide
  rw [this]
  rfl
@[simp] theorem opNe_i {S : List SObj} {x y : Int} : opNe S (.int x) (.int y) = some (.bl (!decide (x = y))) := by
  rw [opNe_sm (j := 0) (k := 0) (by unfold sm; rfl) (by unfold sm; rfl) (by omega)]
  have : (AV.int x).eqb (.int y) = decide (x = y) := by simp [AV.eqb, AV.pd, PyData.eqv, BEq.beq]
  rw [this]
@[simp] theorem opNe_b {S : List SObj} {x y : Bool} : opNe S (.bl x) (.bl y) = some (.bl (x != y)) := by
  rw [opNe_sm (j := 0) (k := 0) (by unfold sm; rfl) (by unfold sm; rfl) (by omega)]
  have : (AV.bl x).eqb (.bl y) = (x == y) := by simp [AV.eqb, AV.pd, PyData.eqv]
  rw [this]; rfl
@[simp] theorem opEq_b {S : List SObj} {x y : Bool} : opEq S (.bl x) (.bl y) = some (.bl (x == y)) := by
  rw [opEq_sm (j := 0) (k := 0) (by unfold sm; rfl) (by unfold sm; rfl) (by omega)]
  have : (AV.bl x).eqb (.bl y) = (x == y) := by simp [AV.eqb, AV.pd, PyData.eqv]
  rw [this]
theorem opEq_refl {S : List SObj} {k : Nat} {x : AV} (h : sm k x = true) (hk : k ≤ 64) : opEq S x x = some (.bl true) := by rw [opEq_sm h h hk, eqb_refl h]
theorem same_ok {T : List (Str × DfE)} (hT : T.lookup ("_law_same" : Str) = some (⟨2, 3, bSame⟩ : DfE)) : ∀ (k d : Nat) (v : AV) (S : List SObj), sm k v = true → lvl T (d + k + 1) "_law_same" [v, v] S = some (.bl true, S) := by
  have step : ∀ (d : Nat) (args : List AV) (S : List SObj), lvl T (d + 1) "_law_same" args S = runD ⟨2, 3, bSame⟩ (lvl T d) args S := fun d args S => by
    show ((T.lookup ("_law_same" : Str)).bind fun e => runD e (lvl T d) args S) = _
    rw [hT]
    rfl
  intro k
  induction k with
  | zero =>
    intro d v S h
    rw [Nat.add_zero, step]
    cases v with
    | non => simp [bSame, frame]
    | bl b => cases b <;> simp [bSame, frame]
    | int i => simp [bSame, frame]
    | str z => simp [bSame, frame, opEq_refl h]
    | _ => cases h
  | succ k ih =>
    intro d v S h
    rw [show d + (k + 1) + 1 = (d + k + 1) + 1 by omega, step]
    cases v with
    | non => simp [bSame, frame]
    | bl b => cases b <;> simp [bSame, frame]
    | int i => simp [bSame, frame]
    | str z => simp [bSame, frame, opEq_refl (k := 0) (x := .str z) (by unfold sm; unfold sm at h; exact h)]
    | tup xs =>
      obtain ⟨j, e, h', hl⟩ := sm_tup h
      cases e
      have cp := compR_pure (G := lvl T (d + k + 1)) (ρ := [some (.val (.tup xs)), some (.val (.tup xs)), none]) (S := S) (i := 2) (n := xs.length) (tst := mTrue) (elt := eCall "_law_same" (aCons (eBin opIx (oVar 0) (oVar 2)) (aCons (eBin opIx (oVar 1) (oVar 2)) aNil))) (p := fun _ => true) (f := fun _ => .bl true) (by rfl)
        (fun i hi => rfl) (fun i hi _ => by
          have hx : xs[i]? = some xs[i] := List.getElem?_eq_getElem hi
          simp [atI_nat, hx, ih d xs[i] S (h' _ (List.getElem_mem hi))]) (by omega)
      rw [allT] at cp
      simp -implicitDefEqProofs [bSame, frame, cp, notIn_allT]
    | _ => cases h
end Pyx
end
section
set_option maxRecDepth 100000
namespace Pyx
open PySem L2
open PySem.Spec PyProof.Rows

/-! ### more stepping rules -/
section
variable {G : Gm} {a : AS} {ρ : List (Option Slt)} {S : List SObj} {i n : Nat} {v w : AV} {xs ys : List AV} {h h' : Hd} {oa ob : MO} {e e' : ME}
-- xs.pop()
def kPp4 (y : AV) : Option AS → Option (AV × AS)
  | some a => some (y, a)
  | none => none
@[simp] theorem kPp4_s {y : AV} : kPp4 y (some a) = some (y, a) := rfl
def kPp3 (a : AS) (h : Hd) : Option AV → Option (AV × AS)
  | some y => kPp4 y (mutL a (fun xs => some xs.dropLast) h)
  | none => none
@[simp] theorem kPp3_s {y : AV} : kPp3 a h (some y) = kPp4 y (mutL a (fun xs => some xs.dropLast) h) := rfl
def kPp2 (a : AS) (h : Hd) : Option AV → Option (AV × AS)
  | some (.lst xs) => kPp3 a h xs[xs.length - 1]?
  | _ => none
@[simp] theorem kPp2_s : kPp2 a h (some (.lst xs)) = kPp3 a h xs[xs.length - 1]? := rfl
def kPp1 : Option (Hd × AS) → Option (AV × AS)
  | some (h, a) => kPp2 a h (cont a h)
  | none => none
@[simp] theorem kPp1_s : kPp1 (some (h, ⟨ρ, S⟩)) = kPp2 ⟨ρ, S⟩ h (cont ⟨ρ, S⟩ h) := rfl
@[simp] theorem ePop_ev : ePop oa G a = kPp1 (oa G a) := by
  show (oa G a).bind _ = _
  cases oa G a with
  | none => rfl
  | some r =>
    obtain ⟨h, a⟩ := r
    show (cont a h).bind _ = kPp2 a h (cont a h)
    cases cont a h with
    | none => rfl
    | some c =>
      cases c with
      | lst xs =>
        show (xs[xs.length - 1]?).bind _ = kPp3 a h xs[xs.length - 1]?
        cases xs[xs.length - 1]? with
        | none => rfl
        | some y => show (mutL a (fun xs => some xs.dropLast) h).map _ = kPp4 y (mutL a (fun xs => some xs.dropLast) h); cases mutL a (fun xs => some xs.dropLast) h <;> rfl
      | _ => rfl
-- xs.pop(i)
def kPa3 (a : AS) (h : Hd) (k : Nat) : Option AV → Option (AV × AS)
  | some y => kPp4 y (mutL a (fun xs => some (xs.eraseIdx k)) h)
  | none => none
@[simp] theorem kPa3_s {k : Nat} {y : AV} : kPa3 a h k (some y) = kPp4 y (mutL a (fun xs => some (xs.eraseIdx k)) h) := rfl
def kPa2 (a : AS) (h : Hd) (iv : AV) : Option AV → Option (AV × AS)
  | some c => match c, iv with
    | .lst xs, .int i => if 0 ≤ i ∧ i < 2 ^ 63 then kPa3 a h i.toNat xs[i.toNat]? else none
    | _, _ => none
  | none => none
theorem kPa2_s {k : Nat} (hk : k < 1000000) : kPa2 a h (.int (k : Int)) (some (.lst xs)) = kPa3 a h k xs[k]? := by
  simp only [kPa2]
  rw [if_pos ⟨by omega, by omega⟩, Int.toNat_natCast]
def kPa1 (h : Hd) : Option (AV × AS) → Option (AV × AS)
  | some (v, a) => kPa2 a h v (cont a h)
  | none => none
@[simp] theorem kPa1_s : kPa1 h (some (v, ⟨ρ, S⟩)) = kPa2 ⟨ρ, S⟩ h v (cont ⟨ρ, S⟩ h) := rfl
def kPa0 (e : ME) (G : Gm) (h : Hd) (a : AS) : Option AV → Option (AV × AS)
  | some c0 => if isLst c0 = true then kPa1 h (e G a) else none
  | none => none
@[simp] theorem kPa0_s : kPa0 e G h a (some (.lst xs)) = kPa1 h (e G a) := rfl
def kPaO (e : ME) (G : Gm) : Option (Hd × AS) → Option (AV × AS)
  | some (h, a) => kPa0 e G h a (cont a h)
  | none => none
@[simp] theorem kPaO_s : kPaO e G (some (h, ⟨ρ, S⟩)) = kPa0 e G h ⟨ρ, S⟩ (cont ⟨ρ, S⟩ h) := rfl
@[simp] theorem ePopAt_ev : ePopAt oa e G a = kPaO e G (oa G a) := by
  show (oa G a).bind _ = _
  cases oa G a with
  | none => rfl
  | some r =>
    obtain ⟨h, a⟩ := r
    show (cont a h).bind _ = kPa0 e G h a (cont a h)
    cases cont a h with
    | none => rfl
    | some c0 =>
      show (if isLst c0 = true then _ else none) = (if isLst c0 = true then kPa1 h (e G a) else none)
      split
      · show (e G a).bind _ = kPa1 h (e G a)
        cases e G a with
        | none => rfl
        | some q =>
          obtain ⟨v, a⟩ := q
          show (cont a h).bind _ = kPa2 a h v (cont a h)
          cases cont a h with
          | none => rfl
          | some c =>
            cases c with
            | lst xs =>
              cases v with
              | int i =>
                show (if 0 ≤ i ∧ i < 2 ^ 63 then _ else none) = (if 0 ≤ i ∧ i < 2 ^ 63 then kPa3 a h i.toNat xs[i.toNat]? else none)
                split
                · show (xs[i.toNat]?).bind _ = _
                  cases xs[i.toNat]? with
                  | none => rfl
                  | some y => show (mutL a (fun xs => some (xs.eraseIdx i.toNat)) h).map _ = kPp4 y (mutL a (fun xs => some (xs.eraseIdx i.toNat)) h); cases mutL a (fun xs => some (xs.eraseIdx i.toNat)) h <;> rfl
                · rfl
              | _ => rfl
            | _ => cases v <;> rfl
      · rfl
-- a lent call
def kLd3 (a : AS) : Option (AV × List SObj) → Option (AV × AS)
  | some q => if isSc q.1 = true then some (q.1, a) else none
  | none => none
@[simp] theorem kLd3_s (hs : isSc v = true) : kLd3 a (some (v, S)) = some (v, a) := if_pos hs
def kLd2 (x : Str) (G : Gm) (a : AS) : Option (List AV) → Option (AV × AS)
  | some cs => if AV.nrs cs = true then kLd3 a (G x cs []) else none
  | none => none
theorem kLd2_s {x : Str} (hn : AV.nrs xs = true) : kLd2 x G a (some xs) = kLd3 a (G x xs []) := if_pos hn
def kLd1 (x : Str) (G : Gm) : Option (List Hd × AS) → Option (AV × AS)
  | some r => kLd2 x G r.2 (conts r.2 r.1)
  | none => none
@[simp] theorem kLd1_s {x : Str} {hs : List Hd} : kLd1 x G (some (hs, ⟨ρ, S⟩)) = kLd2 x G ⟨ρ, S⟩ (conts ⟨ρ, S⟩ hs) := rfl
@[simp] theorem eLend_ev {x : Str} {t : MOs} : eLend x t G a = kLd1 x G (t G a) := by
  show (t G a).bind _ = _
  cases t G a with
  | none => rfl
  | some r =>
    obtain ⟨hs, a⟩ := r
    show (conts a hs).bind _ = kLd2 x G a (conts a hs)
    cases conts a hs with
    | none => rfl
    | some cs =>
      show (if AV.nrs cs = true then _ else none) = (if AV.nrs cs = true then kLd3 a (G x cs []) else none)
      split
      · show (G x cs []).bind _ = kLd3 a (G x cs [])
        cases G x cs [] <;> rfl
      · rfl
-- a call behind which the store is cut
def kCt2 (ρ : List (Option Slt)) (n : Nat) : Option (AV × List SObj) → Option (AV × AS)
  | some q => if (q.1.rlt n && (q.2.take n).all (SObj.rlt n)) = true ∧ n ≤ q.2.length then some (q.1, ⟨ρ, q.2.take n⟩) else none
  | none => none
theorem kCt2_s {S' : List SObj} (h1 : v.rlt n = true) (h2 : ∀ o ∈ S', o.rlt n = true) (h3 : S'.length = n) {R : List SObj} : kCt2 ρ n (some (v, S' ++ R)) = some (v, ⟨ρ, S'⟩) := by
  have e : (S' ++ R).take n = S' := by rw [← h3]; simp
  show (if (v.rlt n && ((S' ++ R).take n).all (SObj.rlt n)) = true ∧ n ≤ (S' ++ R).length then some (v, (⟨ρ, (S' ++ R).take n⟩ : AS)) else none) = _
  rw [e, if_pos ⟨by rw [h1, List.all_eq_true.mpr h2]; rfl, by rw [List.length_append]; omega⟩]
def kCt1 (x : Str) (G : Gm) : Option (List AV × AS) → Option (AV × AS)
  | some r => kCt2 r.2.ρ r.2.S.length (G x r.1 r.2.S)
  | none => none
@[simp] theorem kCt1_s {x : Str} : kCt1 x G (some (xs, ⟨ρ, S⟩)) = kCt2 ρ S.length (G x xs S) := rfl
@[simp] theorem eCallT_ev {x : Str} {t : MAs} : eCallT x t G a = kCt1 x G (t G a) := by
  show (t G a).bind _ = _
  cases t G a with
  | none => rfl
  | some r => show (G x r.1 r.2.S).bind _ = kCt2 r.2.ρ r.2.S.length (G x r.1 r.2.S); cases G x r.1 r.2.S <;> rfl
-- sums and slices as fresh lists
def kCat3 (a : AS) : Option AV → Option AV → Option (List AV × AS)
  | some x, some y => kFV a (catL x y)
  | _, _ => none
@[simp] theorem kCat3_s : kCat3 a (some v) (some w) = kFV a (catL v w) := rfl
@[simp] theorem catL_s (hl : xs.length + ys.length ≤ 100000) : catL (.lst xs) (.lst ys) = some (xs ++ ys) := if_pos (le_sl hl)
def kCat2 (h : Hd) : Option (Hd × AS) → Option (List AV × AS)
  | some (h', a) => kCat3 a (cont a h) (cont a h')
  | none => none
@[simp] theorem kCat2_s : kCat2 h (some (h', ⟨ρ, S⟩)) = kCat3 ⟨ρ, S⟩ (cont ⟨ρ, S⟩ h) (cont ⟨ρ, S⟩ h') := rfl
def kCat1 (ob : MO) (G : Gm) : Option (Hd × AS) → Option (List AV × AS)
  | some (h, a) => kCat2 h (ob G a)
  | none => none
@[simp] theorem kCat1_s : kCat1 ob G (some (h, a)) = kCat2 h (ob G a) := rfl
@[simp] theorem fCat_ev : fCat oa ob G a = kCat1 ob G (oa G a) := by
  show (oa G a).bind _ = _
  cases oa G a with
  | none => rfl
  | some r =>
    obtain ⟨h, a⟩ := r
    show (ob G a).bind _ = kCat2 h (ob G a)
    cases ob G a with
    | none => rfl
    | some r2 =>
      obtain ⟨h', a⟩ := r2
      show (cont a h).bind _ = kCat3 a (cont a h) (cont a h')
      cases cont a h with
      | none => rfl
      | some x =>
        show (cont a h').bind _ = kCat3 a (some x) (cont a h')
        cases cont a h' with
        | none => rfl
        | some y => show (catL x y).map _ = kFV a (catL x y); cases catL x y <;> rfl
-- list(range(n))
def kRg : Option (AV × AS) → Option (List AV × AS)
  | some (.int j, a) => if rgOk j = true then some (rgA 0 j.toNat, a) else none
  | _ => none
theorem kRg_s {n : Nat} (hn : n ≤ 1000000) : kRg (some (.int (n : Int), a)) = some (rgA 0 n, a) := by
  show (if rgOk (n : Int) = true then some (rgA 0 (n : Int).toNat, a) else none) = _
  have ok : rgOk (n : Int) = true := decide_eq_true ⟨by omega, by omega⟩
  rw [if_pos ok, Int.toNat_natCast]
@[simp] theorem fRg_ev : fRg e G a = kRg (e G a) := by
  show (e G a).bind _ = _
  cases e G a with
  | none => rfl
  | some r => obtain ⟨v, a⟩ := r; cases v <;> rfl
-- t[::-1]
def kRv2 (a : AS) : Option AV → Option (AV × AS)
  | some (.tup xs) => some (.tup xs.reverse, a)
  | _ => none
@[simp] theorem kRv2_s : kRv2 a (some (.tup xs)) = some (.tup xs.reverse, a) := rfl
def kRv1 : Option (Hd × AS) → Option (AV × AS)
  | some (h, a) => kRv2 a (cont a h)
  | none => none
@[simp] theorem kRv1_s : kRv1 (some (h, ⟨ρ, S⟩)) = kRv2 ⟨ρ, S⟩ (cont ⟨ρ, S⟩ h) := rfl
@[simp] theorem eRevT_ev : eRevT oa G a = kRv1 (oa G a) := by
  show (oa G a).bind _ = _
  cases oa G a with
  | none => rfl
  | some r =>
    obtain ⟨h, a⟩ := r
    show (cont a h).bind _ = kRv2 a (cont a h)
    cases cont a h with
    | none => rfl
    | some c => cases c <;> rfl
-- sep.join(xs)
def kJn1 (z : Str) : Option (Hd × AS) → Option (AV × AS)
  | some (h, a) => kJn2 z a (cont a h)
  | none => none
where kJn2 (z : Str) (a : AS) : Option AV → Option (AV × AS)
  | some c => kV a (joinA z c)
  | none => none
@[simp] theorem kJn1_s {z : Str} : kJn1 z (some (h, ⟨ρ, S⟩)) = kJn1.kJn2 z ⟨ρ, S⟩ (cont ⟨ρ, S⟩ h) := rfl
@[simp] theorem kJn2_s {z : Str} : kJn1.kJn2 z a (some v) = kV a (joinA z v) := rfl
@[simp] theorem eJoin_ev {z : Str} : eJoin z oa G a = kJn1 z (oa G a) := by
  show (oa G a).bind _ = _
  cases oa G a with
  | none => rfl
  | some r =>
    obtain ⟨h, a⟩ := r
    show (cont a h).bind _ = kJn1.kJn2 z a (cont a h)
    cases cont a h with
    | none => rfl
    | some c => show (joinA z c).map _ = kV a (joinA z c); cases joinA z c <;> rfl
-- a dict's display
def kDi (ks : List Str) : Option (List AV × AS) → Option (AV × AS)
  | some r => if r.1.length = ks.length then some (.ref r.2.S.length, r.2.lay (.dic (ks.zip r.1))) else none
  | none => none
@[simp] theorem kDi_s {ks : List Str} (hl : xs.length = ks.length) : kDi ks (some (xs, ⟨ρ, S⟩)) = some (.ref S.length, ⟨ρ, S ++ [.dic (ks.zip xs)]⟩) := if_pos hl
@[simp] theorem eDic_ev {ks : List Str} {t : MAs} : eDic ks t G a = kDi ks (t G a) := by show (t G a).bind _ = _; cases t G a <;> rfl
-- enumerate
def kFoE (is : List Nat) (b : MS) (G : Gm) : Option (AV × AS) → Option (Out × AS)
  | some (.lst xs, a) => loopL (.many is) (b G) (enA xs) a
  | some (.tup xs, a) => loopL (.many is) (b G) (enA xs) a
  | some (.ref n, a) => match a.S[n]? with
    | some (.lst xs) => loopE (.many is) (b G) n xs.length xs.length a
    | _ => none
  | _ => none
@[simp] theorem kFoE_t {is : List Nat} {b : MS} : kFoE is b G (some (.tup xs, a)) = loopL (.many is) (b G) (enA xs) a := rfl
@[simp] theorem kFoE_l {is : List Nat} {b : MS} : kFoE is b G (some (.lst xs, a)) = loopL (.many is) (b G) (enA xs) a := rfl
@[simp] theorem sForE_ev {it : ME} {is : List Nat} {b : MS} : sForE it is b G a = kFoE is b G (it G a) := by
  show (it G a).bind _ = _
  cases it G a with
  | none => rfl
  | some r => obtain ⟨v, a⟩ := r; cases v <;> rfl
def kFcE (vs is : List Nat) (tst : MT) (elt : ME) (G : Gm) : Option (AV × AS) → Option (List AV × AS)
  | some r => if noOwn r.2 vs = true then (compVE vs (.many is) (tst G) (elt G) r.2 r.1).map fun q => (q.1, rst r.2 (clr q.2 vs) vs) else none
  | none => none
@[simp] theorem fCompE_ev {it : ME} {vs is : List Nat} {tst : MT} {elt : ME} : fCompE it vs is tst elt G a = kFcE vs is tst elt G (it G a) := by show (it G a).bind _ = _; cases it G a <;> rfl
-- a dict of the store
@[simp] theorem opIx_d {k : Str} : opIx S (.ref n) (.str k) = ixD k S[n]? := rfl
@[simp] theorem ixD_s {k : Str} {kvs : List (Str × AV)} : ixD k (some (.dic kvs)) = dGet kvs k := rfl
@[simp] theorem inD_s {k : Str} : opIn S (.str k) (.ref n) = (match S[n]? with | some (.dic kvs) => some (dHas kvs k) | _ => none).map AV.bl := rfl
def kSd (a : AS) (k : Str) (v : AV) : Option Nat → Option AS
  | some n => putD a n k v a.S[n]?
  | none => none
@[simp] theorem kSd_s {k : Str} : kSd ⟨ρ, S⟩ k v (some n) = putD ⟨ρ, S⟩ n k v S[n]? := rfl
@[simp] theorem storeI_str {k : Str} : storeI a h (.str k) v = kSd a k v (hdRef a h) := by
  show (hdRef a h).bind _ = _
  cases hdRef a h <;> rfl
@[simp] theorem hdRef_v : hdRef a (.val (.ref n)) = some n := rfl
def hdO : Option (Option Slt) → Option Nat
  | some (some (.val (.ref n))) => some n
  | _ => none
@[simp] theorem hdRef_s : hdRef ⟨ρ, S⟩ (.slot i) = hdO ρ[i]? := by
  show (match ρ[i]? with | some (some (.val (.ref n))) => some n | _ => none) = _
  unfold hdO
  split <;> rfl
@[simp] theorem hdO_s : hdO (some (some (.val (.ref n)))) = some n := rfl
@[simp] theorem putD_s {k : Str} {kvs : List (Str × AV)} (hl : kvs.length < 100000) : putD ⟨ρ, S⟩ n k v (some (.dic kvs)) = some ⟨ρ, S.set n (.dic (dPut kvs k v))⟩ := if_pos (Nat.lt_of_lt_of_le hl (by decide))
-- texts
@[simp] theorem opAdd_s {x y : Str} (hl : x.length + y.length ≤ 100000) : opAdd S (.str x) (.str y) = some (.str (x ++ y)) := if_pos (le_sl hl)
@[simp] theorem opIx_s {z : Str} {k : Int} : opIx S (.str z) (.int k) = ixS z k := rfl
theorem ixS_nat {z : Str} {k : Nat} {c : Nat} (hl : z.length ≤ 100000) (h : z.cps.toList[k]? = some c) : ixS z (k : Int) = some (.str ⟨#[c]⟩) := by
  unfold ixS
  rw [if_pos (le_sl hl), Pyx.atI_nat, h]
  rfl
@[simp] theorem biLen_s {z : Str} (hl : z.length ≤ 100000) : biLen S [.str z] = some (.int z.length) := if_pos (le_sl hl)
end
end Pyx
end
section
set_option maxRecDepth 100000
namespace Pyx
open PySem L2
open PySem.Spec PyProof.Rows

/-! ### comprehensions whose element changes the store -/
section
variable {G : Gm} {ρ : List (Option Slt)} {i : Nat} {elt : ME}
theorem compL_st (I : Nat → List SObj → Prop) (P : AV → Prop) : ∀ {xs acc : List AV} {b : AS} {k : Nat}, b.ρ.set i none = ρ.set i none → I k b.S → acc.length + xs.length ≤ 100000 →
    (∀ j x S, xs[j]? = some x → I (k + j) S → ∃ v S', elt G ⟨ρ.set i (some (.val x)), S⟩ = some (v, ⟨ρ.set i (some (.val x)), S'⟩) ∧ P v ∧ I (k + j + 1) S') →
    ∃ vs b', compL [i] (.one i) (mTrue G) (elt G) xs acc b = some (acc ++ vs, b') ∧ b'.ρ.set i none = ρ.set i none ∧ vs.length = xs.length ∧ (∀ v ∈ vs, P v) ∧ I (k + xs.length) b'.S
  | [], acc, b, k, hb, hI, _, _ => ⟨[], b, by simp [compL], hb, rfl, by simp, hI⟩
  | x :: xs, acc, b, k, hb, hI, hl, h => by
    have hl' : acc.length + xs.length + 1 ≤ 100000 := by simpa [Nat.add_assoc] using hl
    obtain ⟨v, S', e1, p1, i1⟩ := h 0 x b.S rfl hI
    have st : (b.ρ.set i none).set i (some (Slt.val x)) = ρ.set i (some (.val x)) := by rw [hb, List.set_set]
    obtain ⟨vs, b', e2, e3, e4, e5, e6⟩ := compL_st I P (xs := xs) (acc := acc ++ [v]) (b := ⟨ρ.set i (some (.val x)), S'⟩) (k := k + 1) (by simp [List.set_set]) i1 (by simp; omega) (fun j y S hy hI => by
      have := h (j + 1) y S (by simpa using hy) (by rw [show k + (j + 1) = k + 1 + j by omega]; exact hI)
      rw [show k + (j + 1) + 1 = k + 1 + j + 1 by omega] at this
      exact this)
    refine ⟨v :: vs, b', ?_, e3, by simp [e4], by simpa using ⟨p1, e5⟩, by rw [List.length_cons, show k + (xs.length + 1) = k + 1 + xs.length by omega]; exact e6⟩
    show compT (mTrue G) (elt G) (compL [i] (.one i) (mTrue G) (elt G) xs) acc ⟨(b.ρ.set i none).set i (some (.val x)), b.S⟩ = _
    rw [st]
    show (if (true : Bool) = true then (if acc.length < sizeLine then (elt G ⟨ρ.set i (some (.val x)), b.S⟩).bind (fun q => compL [i] (.one i) (mTrue G) (elt G) xs (acc ++ [q.1]) q.2) else none) else compL [i] (.one i) (mTrue G) (elt G) xs acc ⟨ρ.set i (some (.val x)), b.S⟩) = _
    rw [if_pos rfl, if_pos (Nat.lt_of_lt_of_le (by omega : acc.length < 100000) (by decide)), e1]
    show compL [i] (.one i) (mTrue G) (elt G) xs (acc ++ [v]) ⟨ρ.set i (some (.val x)), S'⟩ = _
    rw [e2]
    simp
theorem rst_st {S : List SObj} {b : AS} (h : b.ρ.set i none = ρ.set i none) : rst ⟨ρ, S⟩ (clr b [i]) [i] = ⟨ρ, b.S⟩ := by
  show (⟨(b.ρ.set i none).set i ((ρ[i]?).getD none), b.S⟩ : AS) = _
  rw [h, List.set_set]
  congr 1
  apply List.ext_getElem?
  intro j
  rw [List.getElem?_set]
  split
  · rename_i e; subst e
    split
    · rename_i hl; rw [List.getElem?_eq_getElem hl]; rfl
    · rename_i hl; rw [List.getElem?_eq_none (by omega)]
  · rfl
/-- over a range -/
theorem compR_st {S : List SObj} {n : Nat} (I : Nat → List SObj → Prop) (P : AV → Prop) (hn : noOwn ⟨ρ, S⟩ [i] = true) (h0 : I 0 S) (hl : n ≤ 100000)
    (h : ∀ (k : Nat) S, k < n → I k S → ∃ v S', elt G ⟨ρ.set i (some (.val (.int (k : Int)))), S⟩ = some (v, ⟨ρ.set i (some (.val (.int (k : Int)))), S'⟩) ∧ P v ∧ I (k + 1) S') :
    ∃ vs S', kFcR asR1 [i] (.one i) mTrue elt G (some ([.int (n : Int)], ⟨ρ, S⟩)) = some (vs, ⟨ρ, S'⟩) ∧ vs.length = n ∧ (∀ v ∈ vs, P v) ∧ I n S' := by
  obtain ⟨vs, b', e1, e2, e3, e4, e5⟩ := compL_st (G := G) (ρ := ρ) (i := i) (elt := elt) I P (xs := rgA 0 n) (acc := []) (b := ⟨ρ, S⟩) (k := 0) rfl h0 (by simp [rgA_length]; exact hl) (fun j x S hx hI => by
    have hj : j < n := by
      have := (List.getElem?_eq_some_iff.mp hx).1
      rwa [rgA_length] at this
    rw [rgA0_get hj] at hx
    cases hx
    rw [Nat.zero_add] at hI ⊢
    exact h j S hj hI)
  rw [rgA_length] at e3 e5
  rw [Nat.zero_add] at e5
  refine ⟨vs, b'.S, ?_, e3, e4, e5⟩
  show (if noOwn (⟨ρ, S⟩ : AS) [i] = true then (asR1 [.int (n : Int)]).bind (fun p => (compL [i] (.one i) (mTrue G) (elt G) (rgA p.1 p.2) [] ⟨ρ, S⟩).map fun q => (q.1, rst ⟨ρ, S⟩ (clr q.2 [i]) [i])) else none) = _
  rw [if_pos hn, asR1_nat (by omega)]
  show (compL [i] (.one i) (mTrue G) (elt G) (rgA 0 n) [] ⟨ρ, S⟩).map _ = _
  rw [e1]
  show some (_, rst ⟨ρ, S⟩ (clr b' [i]) [i]) = _
  rw [rst_st e2]
  simp
end
end Pyx
end
section
set_option maxRecDepth 100000
namespace Pyx
open PySem L2
open PySem.Spec PyProof.Rows
/-! a value that is run through: a list, a tuple, or a list of the store -/
def itS (S : List SObj) (v : AV) (xs : List AV) : Prop := v = .lst xs ∨ v = .tup xs ∨ ∃ n, v = .ref n ∧ S[n]? = some (.lst xs)
theorem itS_res {S : List SObj} {v : AV} {xs : List AV} (h : itS S v xs) : res S v = .lst xs ∨ res S v = .tup xs := by
  rcases h with rfl | rfl | ⟨n, rfl, h⟩
  · exact .inl rfl
  · exact .inr rfl
  · refine .inl ?_
    show resL n S[n]? = _
    rw [h]
    rfl
theorem itS_ix {S : List SObj} {v : AV} {xs : List AV} (h : itS S v xs) (i : Int) : opIx S (res S v) (.int i) = atI xs i := by
  rcases itS_res h with e | e <;> rw [e] <;> rfl
theorem itS_len {S : List SObj} {v : AV} {xs : List AV} (h : itS S v xs) : biLen S [res S v] = some (.int xs.length) := by
  rcases itS_res h with e | e <;> rw [e] <;> rfl
section
variable {G : Gm} {ρ : List (Option Slt)} {S : List SObj} {i : Nat}
theorem compR_pureS {n : Nat} {tst : AS → Option (Bool × AS)} {elt : AS → Option (AV × AS)} {p : AV → Bool} {f : AV → AV} {xs : List AV} (hS : S[n]? = some (.lst xs)) (h1 : ∀ x ∈ xs, tst ⟨ρ.set i (some (.val x)), S⟩ = some (p x, ⟨ρ.set i (some (.val x)), S⟩))
    (h2 : ∀ x ∈ xs, p x = true → elt ⟨ρ.set i (some (.val x)), S⟩ = some (f x, ⟨ρ.set i (some (.val x)), S⟩)) : ∀ (k : Nat) (acc : List AV) (b : AS), k ≤ xs.length → b.drop i = AS.drop ⟨ρ, S⟩ i → acc.length + k ≤ 100000 →
    ∃ b', compR [i] (.one i) tst elt n xs.length k acc b = some (acc ++ ((xs.drop (xs.length - k)).filter p).map f, b') ∧ b'.drop i = AS.drop ⟨ρ, S⟩ i := by
  intro k
  induction k with
  | zero =>
    intro acc b hk hb hl
    refine ⟨b, ?_, hb⟩
    have hbS : b.S = S := by
      have := congrArg AS.S hb
      exact this
    have hlen : lenIs b n xs.length = true := by
      unfold lenIs
      rw [hbS, hS]
      simp
    rw [show xs.drop (xs.length - 0) = [] by simp]
    show (if lenIs b n xs.length = true then some (acc, b) else none) = _
    rw [if_pos hlen]
    simp
  | succ k ih =>
    intro acc b hk hb hl
    have hbS : b.S = S := by
      have := congrArg AS.S hb
      exact this
    have hi : xs.length - (k + 1) < xs.length := by omega
    have hit : itemAt b n xs.length (xs.length - (k + 1)) = some xs[xs.length - (k + 1)] := by
      unfold itemAt
      rw [hbS, hS]
      simp [hi]
    have hd : xs.drop (xs.length - (k + 1)) = xs[xs.length - (k + 1)] :: xs.drop (xs.length - k) := by
      rw [List.drop_eq_getElem_cons hi, show xs.length - (k + 1) + 1 = xs.length - k by omega]
    have hm : xs[xs.length - (k + 1)] ∈ xs := List.getElem_mem hi
    generalize xs[xs.length - (k + 1)] = x at hit hd hm
    have hp : AS.put b i x = AS.put ⟨ρ, S⟩ i x := by
      have e1 : b.ρ.set i none = ρ.set i none := congrArg AS.ρ hb
      show (⟨b.ρ.set i _, b.S⟩ : AS) = ⟨ρ.set i _, S⟩
      rw [hbS]
      congr 1
      have := congrArg (fun r => r.set i (some (Slt.val x))) e1
      simpa [List.set_set] using this
    have hc : asgT (.one i) x (clr b [i]) = some (AS.put ⟨ρ, S⟩ i x) := by
      rw [← hp]
      show some (⟨(b.ρ.set i none).set i (some (.val x)), b.S⟩ : AS) = some ⟨b.ρ.set i (some (.val x)), b.S⟩
      rw [List.set_set]
    have ht : tst (AS.put ⟨ρ, S⟩ i x) = some (p x, AS.put ⟨ρ, S⟩ i x) := h1 x hm
    have st : compR [i] (.one i) tst elt n xs.length (k + 1) acc b = (if p x = true then (if acc.length < sizeLine then (elt (AS.put ⟨ρ, S⟩ i x)).bind (fun q => compR [i] (.one i) tst elt n xs.length k (acc ++ [q.1]) q.2) else none) else compR [i] (.one i) tst elt n xs.length k acc (AS.put ⟨ρ, S⟩ i x)) := by
      show (itemAt b n xs.length (xs.length - (k + 1))).bind _ = _
      rw [hit, Option.bind_some, hc, Option.bind_some]
      unfold compT
      rw [ht]
      rfl
    rw [hd, st]
    cases hpx : p x with
    | true =>
      obtain ⟨b', e2, e3⟩ := ih (acc ++ [f x]) (AS.put ⟨ρ, S⟩ i x) (by omega) drop_put (by simp; omega)
      refine ⟨b', ?_, e3⟩
      rw [if_pos rfl, if_pos (Nat.lt_of_lt_of_le (by omega : acc.length < 100000) (by decide)), show elt (AS.put ⟨ρ, S⟩ i x) = some (f x, AS.put ⟨ρ, S⟩ i x) from h2 x hm hpx]
      show compR [i] (.one i) tst elt n xs.length k (acc ++ [f x]) (AS.put ⟨ρ, S⟩ i x) = _
      rw [e2, List.filter_cons_of_pos hpx]
      simp
    | false =>
      obtain ⟨b', e2, e3⟩ := ih acc (AS.put ⟨ρ, S⟩ i x) (by omega) drop_put (by omega)
      refine ⟨b', ?_, e3⟩
      rw [if_neg (by decide), e2, List.filter_cons_of_neg (by rw [hpx]; decide)]
theorem comp_it {tst : MT} {elt : ME} {p : AV → Bool} {f : AV → AV} {v : AV} {xs : List AV} (hv : itS S v xs) (hn : noOwn ⟨ρ, S⟩ [i] = true) (h1 : ∀ x ∈ xs, tst G ⟨ρ.set i (some (.val x)), S⟩ = some (p x, ⟨ρ.set i (some (.val x)), S⟩))
    (h2 : ∀ x ∈ xs, p x = true → elt G ⟨ρ.set i (some (.val x)), S⟩ = some (f x, ⟨ρ.set i (some (.val x)), S⟩)) (hl : xs.length ≤ 100000) :
    kFc [i] (.one i) tst elt G (some (v, ⟨ρ, S⟩)) = some ((xs.filter p).map f, ⟨ρ, S⟩) := by
  rcases hv with rfl | rfl | ⟨n, rfl, hS⟩
  · exact comp_pure (.inl rfl) hn h1 h2 hl
  · exact comp_pure (.inr rfl) hn h1 h2 hl
  · obtain ⟨b', e1, e2⟩ := compR_pureS (ρ := ρ) (S := S) (i := i) (tst := tst G) (elt := elt G) (p := p) (f := f) hS h1 h2 xs.length [] ⟨ρ, S⟩ (Nat.le_refl _) rfl (by simpa using hl)
    show (if noOwn (⟨ρ, S⟩ : AS) [i] = true then (compV [i] (.one i) (tst G) (elt G) ⟨ρ, S⟩ (.ref n)).map (fun q => (q.1, rst ⟨ρ, S⟩ (clr q.2 [i]) [i])) else none) = _
    rw [if_pos hn]
    have e3 : compV [i] (.one i) (tst G) (elt G) ⟨ρ, S⟩ (.ref n) = compR [i] (.one i) (tst G) (elt G) n xs.length xs.length [] ⟨ρ, S⟩ := by
      show (match S[n]? with | some (.lst xs) => compR [i] (.one i) (tst G) (elt G) n xs.length xs.length [] ⟨ρ, S⟩ | _ => none) = _
      rw [hS]
    rw [e3, e1]
    show some (_, rst ⟨ρ, S⟩ (clr b' [i]) [i]) = _
    rw [rst_back e2]
    simp
end
/-! a loop that returns at the first turn at which something holds -/
section
variable {tg : Tg} {body : AS → Option (Out × AS)} {S : List SObj} {w : AV}
theorem loopL_any (I : AS → Prop) {p : AV → Bool} : ∀ {xs : List AV} {a : AS}, (∀ a, I a → a.S = S) → (∀ x ∈ xs, ∀ a, I a → ∃ a1, asgT tg x a = some a1 ∧ (p x = true → ∃ a2, body a1 = some (.rt w, a2) ∧ a2.S = S) ∧ (p x = false → ∃ a2, body a1 = some (.nx, a2) ∧ I a2)) → I a →
    (xs.any p = true → ∃ a', loopL tg body xs a = some (.rt w, a') ∧ a'.S = S) ∧ (xs.any p = false → ∃ a', loopL tg body xs a = some (.nx, a') ∧ I a')
  | [], a, _, _, h0 => ⟨fun h => (by cases h), fun _ => ⟨a, rfl, h0⟩⟩
  | x :: xs, a, hI, h, h0 => by
    obtain ⟨a1, e1, t1, t2⟩ := h x List.mem_cons_self a h0
    cases hp : p x with
    | true =>
      obtain ⟨a2, e2, e3⟩ := t1 hp
      refine ⟨fun _ => ⟨a2, ?_, e3⟩, fun hf => ?_⟩
      · show ((asgT tg x a).bind fun a' => (body a').bind (turn (loopL tg body xs))) = _
        rw [e1]
        show (body a1).bind _ = _
        rw [e2]
        rfl
      · rw [List.any_cons, hp] at hf; cases hf
    | false =>
      obtain ⟨a2, e2, i2⟩ := t2 hp
      have ih := loopL_any I (p := p) (xs := xs) hI (fun y hy => h y (List.mem_cons_of_mem _ hy)) i2
      have st : loopL tg body (x :: xs) a = loopL tg body xs a2 := by
        show ((asgT tg x a).bind fun a' => (body a').bind (turn (loopL tg body xs))) = _
        rw [e1]
        show (body a1).bind _ = _
        rw [e2]
        rfl
      rw [st, List.any_cons, hp, Bool.false_or]
      exact ih
theorem loopR_any {n : Nat} {xs : List AV} (hS : S[n]? = some (.lst xs)) (I : AS → Prop) {p : AV → Bool} (hI : ∀ a, I a → a.S = S) (h : ∀ x ∈ xs, ∀ a, I a → ∃ a1, asgT tg x a = some a1 ∧ (p x = true → ∃ a2, body a1 = some (.rt w, a2) ∧ a2.S = S) ∧ (p x = false → ∃ a2, body a1 = some (.nx, a2) ∧ I a2)) : ∀ (k : Nat) (a : AS), k ≤ xs.length → I a →
    ((xs.drop (xs.length - k)).any p = true → ∃ a', loopR tg body n xs.length k a = some (.rt w, a') ∧ a'.S = S) ∧ ((xs.drop (xs.length - k)).any p = false → ∃ a', loopR tg body n xs.length k a = some (.nx, a') ∧ I a') := by
  intro k
  induction k with
  | zero =>
    intro a _ h0
    have hlen : lenIs a n xs.length = true := by
      unfold lenIs
      rw [hI a h0, hS]
      simp
    rw [show xs.drop (xs.length - 0) = [] by simp]
    refine ⟨fun h => (by cases h), fun _ => ⟨a, ?_, h0⟩⟩
    show (if lenIs a n xs.length = true then some (Out.nx, a) else none) = _
    rw [if_pos hlen]
  | succ k ih =>
    intro a hk h0
    have hi : xs.length - (k + 1) < xs.length := by omega
    have hit : itemAt a n xs.length (xs.length - (k + 1)) = some xs[xs.length - (k + 1)] := by
      unfold itemAt
      rw [hI a h0, hS]
      simp [hi]
    have hd : xs.drop (xs.length - (k + 1)) = xs[xs.length - (k + 1)] :: xs.drop (xs.length - k) := by
      rw [List.drop_eq_getElem_cons hi, show xs.length - (k + 1) + 1 = xs.length - k by omega]
    obtain ⟨a1, e1, t1, t2⟩ := h _ (List.getElem_mem hi) a h0
    generalize xs[xs.length - (k + 1)] = x at hit hd e1 t1 t2
    have st : loopR tg body n xs.length (k + 1) a = (body a1).bind (turn (loopR tg body n xs.length k)) := by
      show (itemAt a n xs.length (xs.length - (k + 1))).bind _ = _
      rw [hit, Option.bind_some, e1, Option.bind_some]
    rw [hd, List.any_cons, st]
    cases hp : p x with
    | true =>
      obtain ⟨a2, e2, e3⟩ := t1 hp
      rw [e2]
      exact ⟨fun _ => ⟨a2, rfl, e3⟩, fun hf => (by cases hf)⟩
    | false =>
      obtain ⟨a2, e2, i2⟩ := t2 hp
      rw [e2, Bool.false_or]
      exact ih a2 (by omega) i2
theorem fo_any {G : Gm} {b : MS} {v : AV} {xs : List AV} {a : AS} (hv : itS S v xs) (I : AS → Prop) {p : AV → Bool} (hI : ∀ a, I a → a.S = S) (h : ∀ x ∈ xs, ∀ a, I a → ∃ a1, asgT tg x a = some a1 ∧ (p x = true → ∃ a2, b G a1 = some (.rt w, a2) ∧ a2.S = S) ∧ (p x = false → ∃ a2, b G a1 = some (.nx, a2) ∧ I a2)) (h0 : I a) :
    (xs.any p = true → ∃ a', kFo tg b G (some (v, a)) = some (.rt w, a') ∧ a'.S = S) ∧ (xs.any p = false → ∃ a', kFo tg b G (some (v, a)) = some (.nx, a') ∧ I a') := by
  rcases hv with rfl | rfl | ⟨n, rfl, hS⟩
  · exact loopL_any I hI h h0
  · exact loopL_any I hI h h0
  · have := loopR_any hS I hI h xs.length a (Nat.le_refl _) h0
    rw [show xs.drop (xs.length - xs.length) = xs by simp] at this
    have e : kFo tg b G (some (.ref n, a)) = loopR tg (b G) n xs.length xs.length a := by
      show (match a.S[n]? with | some (.lst xs) => loopR tg (b G) n xs.length xs.length a | _ => none) = _
      rw [hI a h0, hS]
    rw [e]
    exact this
end
end Pyx
end
section
set_option maxRecDepth 100000
namespace K17
open PySem PySem.Spec PyProof.Rows L2 Pyx
def top (i : Nat) : Stmt := PySem.Challenge.pw_sealedlink_k17_whole_others_reveal_nothi.main.body.getD i (.Pass ⟨0, 0, 0, 0⟩)
abbrev D_size_of : DD := ⟨"size_of", ["datum"], ["datum", "part"], defArgs (top 1), defBody (top 1), defScope (top 1), []⟩
abbrev D_with_secret : DD := ⟨"with_secret", ["vault", "row"], ["vault", "row", "secrets", "entries"], defArgs (top 3), defBody (top 3), defScope (top 3), []⟩
abbrev D_with_entry : DD := ⟨"with_entry", ["vault", "row"], ["vault", "row", "secrets", "entries"], defArgs (top 4), defBody (top 4), defScope (top 4), []⟩
abbrev D_row_of : DD := ⟨"row_of", ["vault", "entry", "word"], ["vault", "entry", "word", "entries"], defArgs (top 5), defBody (top 5), defScope (top 5), []⟩
abbrev D_pair_of : DD := ⟨"pair_of", ["vault", "public"], ["vault", "public", "row"], defArgs (top 6), defBody (top 6), defScope (top 6), []⟩
abbrev D_generate : DD := ⟨"generate", ["vault"], ["vault", "secrets", "entries", "pair"], defArgs (top 7), defBody (top 7), defScope (top 7), []⟩
abbrev D_plain : DD := ⟨"plain", ["vault", "datum"], ["vault", "datum"], defArgs (top 8), defBody (top 8), defScope (top 8), []⟩
abbrev D_agree : DD := ⟨"agree", ["vault", "pair", "public"], ["vault", "pair", "public", "other"], defArgs (top 9), defBody (top 9), defScope (top 9), []⟩
abbrev D_derive : DD := ⟨"derive", ["vault", "secret", "label", "context"], ["vault", "secret", "label", "context"], defArgs (top 10), defBody (top 10), defScope (top 10), []⟩
abbrev D_mix : DD := ⟨"mix", ["vault", "first", "second"], ["vault", "first", "second"], defArgs (top 11), defBody (top 11), defScope (top 11), []⟩
abbrev D_draw : DD := ⟨"draw", ["vault"], ["vault"], defArgs (top 12), defBody (top 12), defScope (top 12), []⟩
abbrev D_sign : DD := ⟨"sign", ["vault", "pair", "datum"], ["vault", "pair", "datum"], defArgs (top 13), defBody (top 13), defScope (top 13), []⟩
abbrev D_tag : DD := ⟨"tag", ["vault", "secret", "datum"], ["vault", "secret", "datum"], defArgs (top 14), defBody (top 14), defScope (top 14), []⟩
abbrev D_seal : DD := ⟨"seal", ["vault", "secret", "number", "header", "content"], ["vault", "secret", "number", "header", "content", "grown", "entry"], defArgs (top 15), defBody (top 15), defScope (top 15), []⟩
abbrev D_wrap : DD := ⟨"wrap", ["vault", "secret", "header", "inner", "content"], ["vault", "secret", "header", "inner", "content"], defArgs (top 16), defBody (top 16), defScope (top 16), []⟩
abbrev D_follows : DD := ⟨"follows", ["row", "there"], ["row", "there", "word"], defArgs (top 18), defBody (top 18), defScope (top 18), []⟩
abbrev D_wraps_of : DD := ⟨"wraps_of", ["vault"], ["vault", "row"], defArgs (top 19), defBody (top 19), defScope (top 19), []⟩
abbrev D_known_flags : DD := ⟨"known_flags", ["vault", "held"], ["vault", "held", "secrets", "wraps", "there", "more", "secret", "row", "inner"], defArgs (top 20), defBody (top 20), defScope (top 20), [((64, 12), 1), ((68, 45), 3)]⟩
abbrev D_known : DD := ⟨"known", ["vault", "held"], ["vault", "held", "secret", "there"], defArgs (top 21), defBody (top 21), defScope (top 21), []⟩
abbrev D_is_shield : DD := ⟨"is_shield", ["vault", "held", "secrets"], ["vault", "held", "secrets", "rows", "outside", "secret", "row"], defArgs (top 22), defBody (top 22), defScope (top 22), []⟩
abbrev D_signed_part : DD := ⟨"signed_part", ["certificate"], ["certificate"], defArgs (top 24), defBody (top 24), defScope (top 24), []⟩
abbrev D_issue : DD := ⟨"issue", ["vault", "pair", "issuer", "subject", "public", "first", "last", "authority"], ["vault", "pair", "issuer", "subject", "public", "first", "last", "authority", "fields", "signature"], defArgs (top 25), defBody (top 25), defScope (top 25), []⟩
abbrev D_rotate : DD := ⟨"rotate", ["vault", "ring"], ["vault", "ring", "pair", "secrets", "keep"], defArgs (top 28), defBody (top 28), defScope (top 28), []⟩
abbrev D_new_ring : DD := ⟨"new_ring", ["vault", "keep"], ["vault", "keep"], defArgs (top 29), defBody (top 29), defScope (top 29), []⟩
abbrev D_make_ticket : DD := ⟨"make_ticket", ["vault", "ring", "secret", "content"], ["vault", "ring", "secret", "content"], defArgs (top 30), defBody (top 30), defScope (top 30), []⟩
abbrev D__law_tape : DD := ⟨"_law_tape", ["script"], ["script", "total", "cell"], defArgs (top 32), defBody (top 32), defScope (top 32), [((105, 11), 2)]⟩
abbrev D__law_draw : DD := ⟨"_law_draw", ["tape", "many"], ["tape", "many", "place", "number"], defArgs (top 33), defBody (top 33), defScope (top 33), []⟩
abbrev D__law_pick : DD := ⟨"_law_pick", ["tape", "rows"], ["tape", "rows"], defArgs (top 34), defBody (top 34), defScope (top 34), []⟩
abbrev D__law_turns : DD := ⟨"_law_turns", ["tape", "many"], ["tape", "many", "left", "turns", "k"], defArgs (top 35), defBody (top 35), defScope (top 35), [((127, 11), 1), ((128, 12), 1)]⟩
abbrev D__law_same : DD := ⟨"_law_same", ["told", "wanted"], ["told", "wanted", "k"], defArgs (top 36), defBody (top 36), defScope (top 36), []⟩
abbrev D__law_number : DD := ⟨"_law_number", ["tape"], ["tape", "choice"], defArgs (top 37), defBody (top 37), defScope (top 37), []⟩
abbrev D__law_text : DD := ⟨"_law_text", ["tape", "most"], ["tape", "most", "signs", "k"], defArgs (top 38), defBody (top 38), defScope (top 38), []⟩
abbrev D__law_leaf : DD := ⟨"_law_leaf", ["tape"], ["tape", "choice"], defArgs (top 39), defBody (top 39), defScope (top 39), []⟩
abbrev D__law_datum : DD := ⟨"_law_datum", ["tape", "leaves", "levels"], ["tape", "leaves", "levels", "row", "deep", "k", "low", "high", "more"], defArgs (top 40), defBody (top 40), defScope (top 40), []⟩
abbrev D__law_size : DD := ⟨"_law_size", ["datum"], ["datum", "part"], defArgs (top 41), defBody (top 41), defScope (top 41), []⟩
abbrev D__law_place : DD := ⟨"_law_place", ["rows", "row"], ["rows", "row"], defArgs (top 42), defBody (top 42), defScope (top 42), []⟩
abbrev D__law_is_key : DD := ⟨"_law_is_key", ["model", "public"], ["model", "public"], defArgs (top 43), defBody (top 43), defScope (top 43), []⟩
abbrev D__law_deed : DD := ⟨"_law_deed", ["model", "deed"], ["model", "deed", "word", "other", "kinds"], defArgs (top 44), defBody (top 44), defScope (top 44), []⟩
abbrev D__law_vault_of : DD := ⟨"_law_vault_of", ["model"], ["model"], defArgs (top 45), defBody (top 45), defScope (top 45), []⟩
abbrev D__law_gives : DD := ⟨"_law_gives", ["told", "vault", "due"], ["told", "vault", "due"], defArgs (top 46), defBody (top 46), defScope (top 46), []⟩
abbrev D__law_label : DD := ⟨"_law_label", ["tape"], ["tape"], defArgs (top 47), defBody (top 47), defScope (top 47), []⟩
abbrev D__law_some_datum : DD := ⟨"_law_some_datum", ["tape"], ["tape"], defArgs (top 48), defBody (top 48), defScope (top 48), []⟩
abbrev D__law_some_secret : DD := ⟨"_law_some_secret", ["tape", "model"], ["tape", "model", "many"], defArgs (top 49), defBody (top 49), defScope (top 49), []⟩
abbrev D__law_some_pair : DD := ⟨"_law_some_pair", ["tape", "model"], ["tape", "model", "k"], defArgs (top 50), defBody (top 50), defScope (top 50), []⟩
abbrev D__law_some_public : DD := ⟨"_law_some_public", ["tape", "model"], ["tape", "model"], defArgs (top 51), defBody (top 51), defScope (top 51), []⟩
abbrev D__law_some_deed : DD := ⟨"_law_some_deed", ["tape", "model", "word"], ["tape", "model", "word", "header"], defArgs (top 52), defBody (top 52), defScope (top 52), []⟩
abbrev D__law_model : DD := ⟨"_law_model", ["tape", "many"], ["tape", "many", "model", "k", "words"], defArgs (top 53), defBody (top 53), defScope (top 53), [((250, 12), 2), ((250, 13), 2), ((250, 17), 2), ((250, 21), 2), ((252, 8), 4), ((256, 8), 4)]⟩
abbrev D__law_held : DD := ⟨"_law_held", ["tape", "many", "most"], ["tape", "many", "most", "left", "held", "k"], defArgs (top 54), defBody (top 54), defScope (top 54), [((259, 11), 1), ((260, 11), 1)]⟩
abbrev D__law_fires : DD := ⟨"_law_fires", ["row", "levels"], ["row", "levels"], defArgs (top 55), defBody (top 55), defScope (top 55), []⟩
abbrev D__law_levels : DD := ⟨"_law_levels", ["vault", "held"], ["vault", "held", "levels", "one", "wraps", "k", "fresh", "i", "row"], defArgs (top 56), defBody (top 56), defScope (top 56), [((273, 13), 1), ((278, 72), 3)]⟩
abbrev D__law_bars : DD := ⟨"_law_bars", ["vault", "held", "secrets"], ["vault", "held", "secrets", "one", "row"], defArgs (top 57), defBody (top 57), defScope (top 57), []⟩
abbrev D__law_ladder : DD := ⟨"_law_ladder", ["tape", "many"], ["tape", "many", "model", "start", "last", "wraps", "k", "choice", "parts", "other", "inner"], defArgs (top 58), defBody (top 58), defScope (top 58), [((304, 12), 1), ((309, 19), 4), ((311, 20), 4), ((312, 19), 4), ((314, 20), 4), ((318, 19), 4), ((320, 8), 4)]⟩
abbrev D__law_web : DD := ⟨"_law_web", ["tape"], ["tape", "model"], defArgs (top 59), defBody (top 59), defScope (top 59), []⟩
abbrev D__law_holders : DD := ⟨"_law_holders", ["tape", "many", "start"], ["tape", "many", "start", "held", "k", "left", "more", "one"], defArgs (top 60), defBody (top 60), defScope (top 60), []⟩
abbrev D__law_needs : DD := ⟨"_law_needs", ["tape", "vault", "one"], ["tape", "vault", "one", "row", "needs", "entry"], defArgs (top 61), defBody (top 61), defScope (top 61), []⟩
abbrev D__law_grown : DD := ⟨"_law_grown", ["tape", "vault", "one"], ["tape", "vault", "one", "left", "members", "k", "now", "need"], defArgs (top 62), defBody (top 62), defScope (top 62), [((348, 11), 1), ((349, 14), 1), ((355, 15), 1)]⟩
abbrev D__law_made : DD := ⟨"_law_made", ["vault", "deed"], ["vault", "deed"], defArgs (top 63), defBody (top 63), defScope (top 63), []⟩
abbrev D__law_noted : DD := ⟨"_law_noted", ["model", "held", "notes", "deed"], ["model", "held", "notes", "deed", "levels", "k"], defArgs (top 64), defBody (top 64), defScope (top 64), [((385, 11), 4)]⟩
abbrev D__law_plain_deed : DD := ⟨"_law_plain_deed", ["tape", "model", "vault", "notes", "word"], ["tape", "model", "vault", "notes", "word", "deed", "due"], defArgs (top 65), defBody (top 65), defScope (top 65), []⟩
abbrev D__law_issued : DD := ⟨"_law_issued", ["tape", "model", "vault"], ["tape", "model", "vault", "pair", "fields", "signature", "told"], defArgs (top 66), defBody (top 66), defScope (top 66), [((393, 16), 4)]⟩
abbrev D__law_ring_deed : DD := ⟨"_law_ring_deed", ["tape", "model", "vault", "notes"], ["tape", "model", "vault", "notes", "choice", "keep", "made", "old", "secret", "content", "due"], defArgs (top 67), defBody (top 67), defScope (top 67), [((400, 17), 4), ((405, 18), 4)]⟩
abbrev D__law_asked : DD := ⟨"_law_asked", ["tape", "model", "notes", "parts"], ["tape", "model", "notes", "parts", "vault", "held", "one", "more", "k", "told", "levels", "due", "members", "stays", "i"], defArgs (top 68), defBody (top 68), defScope (top 68), []⟩
abbrev D_law : DD := ⟨"law", ["script"], ["script", "tape", "model", "start", "held", "levels", "unknown", "few", "notes", "first", "vault", "words", "moment", "k", "choice", "right"], defArgs (top 69), defBody (top 69), defScope (top 69), [((449, 77), 2), ((449, 102), 2)]⟩
abbrev Ds : List DD := [D_size_of, D_with_secret, D_with_entry, D_row_of, D_pair_of, D_generate, D_plain, D_agree, D_derive, D_mix, D_draw, D_sign, D_tag, D_seal, D_wrap, D_follows, D_wraps_of, D_known_flags, D_known, D_is_shield, D_signed_part, D_issue, D_rotate, D_new_ring, D_make_ticket, D__law_tape, D__law_draw, D__law_pick, D__law_turns, D__law_same, D__law_number, D__law_text, D__law_leaf, D__law_datum, D__law_size, D__law_place, D__law_is_key, D__law_deed, D__law_vault_of, D__law_gives, D__law_label, D__law_some_datum, D__law_some_secret, D__law_some_pair, D__law_some_public, D__law_some_deed, D__law_model, D__law_held, D__law_fires, D__law_levels, D__law_bars, D__law_ladder, D__law_web, D__law_holders, D__law_needs, D__law_grown, D__law_made, D__law_noted, D__law_plain_deed, D__law_issued, D__law_ring_deed, D__law_asked, D_law]
abbrev defs : List (Str × Nat) := [(("size_of" : Str), 1), (("with_secret" : Str), 2), (("with_entry" : Str), 2), (("row_of" : Str), 3), (("pair_of" : Str), 2), (("generate" : Str), 1), (("plain" : Str), 2), (("agree" : Str), 3), (("derive" : Str), 4), (("mix" : Str), 3), (("draw" : Str), 1), (("sign" : Str), 3), (("tag" : Str), 3), (("seal" : Str), 5), (("wrap" : Str), 5), (("follows" : Str), 2), (("wraps_of" : Str), 1), (("known_flags" : Str), 2), (("known" : Str), 2), (("is_shield" : Str), 3), (("signed_part" : Str), 1), (("issue" : Str), 8), (("rotate" : Str), 2), (("new_ring" : Str), 2), (("make_ticket" : Str), 4), (("_law_tape" : Str), 1), (("_law_draw" : Str), 2), (("_law_pick" : Str), 2), (("_law_turns" : Str), 2), (("_law_same" : Str), 2), (("_law_number" : Str), 1), (("_law_text" : Str), 2), (("_law_leaf" : Str), 1), (("_law_datum" : Str), 3), (("_law_size" : Str), 1), (("_law_place" : Str), 2), (("_law_is_key" : Str), 2), (("_law_deed" : Str), 2), (("_law_vault_of" : Str), 1), (("_law_gives" : Str), 3), (("_law_label" : Str), 1), (("_law_some_datum" : Str), 1), (("_law_some_secret" : Str), 2), (("_law_some_pair" : Str), 2), (("_law_some_public" : Str), 2), (("_law_some_deed" : Str), 3), (("_law_model" : Str), 2), (("_law_held" : Str), 3), (("_law_fires" : Str), 2), (("_law_levels" : Str), 2), (("_law_bars" : Str), 3), (("_law_ladder" : Str), 2), (("_law_web" : Str), 1), (("_law_holders" : Str), 3), (("_law_needs" : Str), 3), (("_law_grown" : Str), 3), (("_law_made" : Str), 2), (("_law_noted" : Str), 4), (("_law_plain_deed" : Str), 5), (("_law_issued" : Str), 3), (("_law_ring_deed" : Str), 4), (("_law_asked" : Str), 4), (("law" : Str), 1)]
abbrev consts : List (Str × AV) := [(("HEADER" : Str), (.tup [.str "ticket"]))]
abbrev W : Nat := 1000
def b_size_of : MS := (sSeq (sIf (mTru (oE (eIsi "tuple" (oVar 0)))) (sSeq (sRet (eBi biSum (osCons (oE (eFrz (fComp (eVar 0) [1] (.one 1) mTrue (eCall "size_of" (aCons (eVar 1) aNil))))) osNil))) sSkip) sSkip) (sSeq (sRet (eCon (.int 1))) sSkip))
def b_with_secret : MS := (sSeq (sUnp [2, 3] (eVar 0)) (sSeq (sIf (mBool (eBin opIn (oVar 1) (oVar 2))) (sSeq (sRet (eTup (aCons (eVar 0) (aCons (eSeqM idxA [1, 2] (oVar 2) (oVar 1)) aNil)))) sSkip) sSkip) (sSeq (sRet (eTup (aCons (eTup (aCons (eBin opAdd (oVar 2) (oE (eTup (aCons (eVar 1) aNil)))) (aCons (eVar 3) aNil))) (aCons (eBi biLen (osCons (oVar 2) osNil)) aNil)))) sSkip)))
def b_with_entry : MS := (sSeq (sUnp [2, 3] (eVar 0)) (sSeq (sRet (eTup (aCons (eTup (aCons (eVar 2) (aCons (eBin opAdd (oVar 3) (oE (eTup (aCons (eVar 1) aNil)))) aNil))) (aCons (eBi biLen (osCons (oVar 3) osNil)) aNil)))) sSkip))
def b_row_of : MS := (sSeq (sAsg 3 (eBin opIx (oVar 0) (oE (eCon (.int 1))))) (sSeq (sIf (mAnd (mBool (eBin opLt (oVar 1) (oE (eBi biLen (osCons (oVar 3) osNil))))) (mBool (eBin opEq (oE (eBin opIx (oE (eBin opIx (oVar 3) (oVar 1))) (oE (eCon (.int 0))))) (oVar 2)))) (sSeq (sRet (eBin opIx (oVar 3) (oVar 1))) sSkip) sSkip) (sSeq (sRet (eCon .non)) sSkip)))
def b_pair_of : MS := (sSeq (sAsg 2 (eCall "row_of" (aCons (eVar 0) (aCons (eVar 1) (aCons (eCon (.str "public")) aNil))))) (sSeq (sRet (eIte (mBool (eBin opIs (oVar 2) (oE (eCon .non)))) (eCon .non) (eBin opIx (oVar 2) (oE (eCon (.int 1)))))) sSkip))
def b_generate : MS := (sSeq (sUnp [1, 2] (eVar 0)) (sSeq (sAsg 3 (eBi biLen (osCons (oVar 1) osNil))) (sSeq (sRet (eTup (aCons (eTup (aCons (eBin opAdd (oVar 1) (oE (eTup (aCons (eTup (aCons (eCon (.str "pair")) (aCons (eBi biLen (osCons (oVar 2) osNil)) aNil))) aNil)))) (aCons (eBin opAdd (oVar 2) (oE (eTup (aCons (eTup (aCons (eCon (.str "public")) (aCons (eVar 3) aNil))) aNil)))) aNil))) (aCons (eVar 3) aNil)))) sSkip)))
def b_plain : MS := (sSeq (sRet (eCall "with_secret" (aCons (eVar 0) (aCons (eTup (aCons (eCon (.str "plain")) (aCons (eVar 1) aNil))) aNil)))) sSkip)
def b_agree : MS := (sSeq (sAsg 3 (eCall "pair_of" (aCons (eVar 0) (aCons (eVar 2) aNil)))) (sSeq (sIf (mBool (eBin opIs (oVar 3) (oE (eCon .non)))) (sSeq (sRet (eTup (aCons (eVar 0) (aCons (eCon .non) aNil)))) sSkip) sSkip) (sSeq (sRet (eCall "with_secret" (aCons (eVar 0) (aCons (eTup (aCons (eCon (.str "agreed")) (aCons (eBi biMin (osCons (oVar 1) (osCons (oVar 3) osNil))) (aCons (eBi biMax (osCons (oVar 1) (osCons (oVar 3) osNil))) aNil)))) aNil)))) sSkip)))
def b_derive : MS := (sSeq (sRet (eCall "with_secret" (aCons (eVar 0) (aCons (eTup (aCons (eCon (.str "derived")) (aCons (eVar 1) (aCons (eVar 2) (aCons (eVar 3) aNil))))) aNil)))) sSkip)
def b_mix : MS := (sSeq (sRet (eCall "with_secret" (aCons (eVar 0) (aCons (eTup (aCons (eCon (.str "mixed")) (aCons (eVar 1) (aCons (eVar 2) aNil)))) aNil)))) sSkip)
def b_draw : MS := (sSeq (sRet (eCall "with_entry" (aCons (eVar 0) (aCons (eTup (aCons (eCon (.str "drawn")) aNil)) aNil)))) sSkip)
def b_sign : MS := (sSeq (sRet (eCall "with_entry" (aCons (eVar 0) (aCons (eTup (aCons (eCon (.str "signature")) (aCons (eVar 1) (aCons (eVar 2) aNil)))) aNil)))) sSkip)
def b_tag : MS := (sSeq (sRet (eCall "with_entry" (aCons (eVar 0) (aCons (eTup (aCons (eCon (.str "tag")) (aCons (eVar 1) (aCons (eVar 2) aNil)))) aNil)))) sSkip)
def b_seal : MS := (sSeq (sUnp [5, 6] (eCall "with_entry" (aCons (eVar 0) (aCons (eTup (aCons (eCon (.str "box")) (aCons (eVar 1) (aCons (eVar 2) (aCons (eVar 3) (aCons (eVar 4) aNil)))))) aNil)))) (sSeq (sRet (eTup (aCons (eVar 5) (aCons (eTup (aCons (eVar 6) (aCons (eBin opAdd (oE (eCall "size_of" (aCons (eVar 4) aNil))) (oE (eCon (.int 2)))) aNil))) aNil)))) sSkip))
def b_wrap : MS := (sSeq (sRet (eCall "with_entry" (aCons (eVar 0) (aCons (eTup (aCons (eCon (.str "wrapped")) (aCons (eVar 1) (aCons (eVar 2) (aCons (eVar 3) (aCons (eVar 4) aNil)))))) aNil)))) sSkip)
def b_follows : MS := (sSeq (sAsg 2 (eBin opIx (oVar 0) (oE (eCon (.int 0))))) (sSeq (sIf (mBool (eBin opEq (oVar 2) (oE (eCon (.str "plain"))))) (sSeq (sRet (eCon (.bl true))) sSkip) sSkip) (sSeq (sIf (mBool (eBin opEq (oVar 2) (oE (eCon (.str "agreed"))))) (sSeq (sRet (eOr (eBin opIx (oVar 1) (oE (eBin opIx (oVar 0) (oE (eCon (.int 1)))))) (eBin opIx (oVar 1) (oE (eBin opIx (oVar 0) (oE (eCon (.int 2)))))))) sSkip) sSkip) (sSeq (sIf (mBool (eBin opEq (oVar 2) (oE (eCon (.str "derived"))))) (sSeq (sRet (eBin opIx (oVar 1) (oE (eBin opIx (oVar 0) (oE (eCon (.int 1))))))) sSkip) sSkip) (sSeq (sRet (eAnd (eBin opEq (oVar 2) (oE (eCon (.str "mixed")))) (eAnd (eBin opIx (oVar 1) (oE (eBin opIx (oVar 0) (oE (eCon (.int 1)))))) (eBin opIx (oVar 1) (oE (eBin opIx (oVar 0) (oE (eCon (.int 2))))))))) sSkip)))))
def b_wraps_of : MS := (sSeq (sRet (eFrz (fComp (eBin opIx (oVar 0) (oE (eCon (.int 1)))) [1] (.one 1) (mBool (eBin opEq (oE (eBin opIx (oVar 1) (oE (eCon (.int 0))))) (oE (eCon (.str "wrapped"))))) (eVar 1)))) sSkip)
def b_known_flags : MS := (sSeq (sAsg 2 (eBin opIx (oVar 0) (oE (eCon (.int 0))))) (sSeq (sAsg 3 (eCall "wraps_of" (aCons (eVar 0) aNil))) (sSeq (sOwn 4 (fCompR asR1 (aCons (eBi biLen (osCons (oVar 2) osNil)) aNil) [6] (.one 6) mTrue (eBin opIn (oVar 6) (oVar 1)))) (sSeq (sAsg 5 (eCon (.bl true))) (sSeq (sWhile W (mTru (oVar 5)) (sSeq (sForE (eVar 2)  [6, 7] (sSeq (sSet (oVar 4) (eVar 6) (eOr (eBin opIx (oVar 4) (oVar 6)) (eLend "follows" (osCons (oVar 7) (osCons (oVar 4) osNil))))) sSkip)) (sSeq (sAsg 8 (eFrz (fComp (eVar 3) [7] (.one 7) (mAnd (mTru (oE (eBin opIx (oVar 4) (oE (eBin opIx (oVar 7) (oE (eCon (.int 1)))))))) (mNot (mTru (oE (eBin opIx (oVar 4) (oE (eBin opIx (oVar 7) (oE (eCon (.int 3)))))))))) (eBin opIx (oVar 7) (oE (eCon (.int 3))))))) (sSeq (sForV (eVar 8) (.one 6) (sSeq (sSet (oVar 4) (eVar 6) (eCon (.bl true))) sSkip)) (sSeq (sAsg 5 (eBin opGt (oE (eBi biLen (osCons (oVar 8) osNil))) (oE (eCon (.int 0))))) sSkip))))) (sSeq (sRet (eVar 4)) sSkip))))))
def b_known : MS := (sSeq (sRet (eBi biTuple (osCons (oE (eFrz (fCompE (eCall "known_flags" (aCons (eVar 0) (aCons (eVar 1) aNil))) [2, 3]  [2, 3] (mTru (oVar 3)) (eVar 2)))) osNil))) sSkip)
def b_is_shield : MS := (sSeq (sAsg 3 (eBin opIx (oVar 0) (oE (eCon (.int 0))))) (sSeq (sAsg 4 (eFrz (fCompR asR1 (aCons (eBi biLen (osCons (oVar 3) osNil)) aNil) [5] (.one 5) mTrue (eBin opNotIn (oVar 5) (oVar 2))))) (sSeq (sForV (eVar 2) (.one 5) (sSeq (sIf (mOr (mBool (eBin opIn (oVar 5) (oVar 1))) (mTru (oE (eCall "follows" (aCons (eBin opIx (oVar 3) (oVar 5)) (aCons (eVar 4) aNil)))))) (sSeq (sRet (eCon (.bl false))) sSkip) sSkip) sSkip)) (sSeq (sRet (eNot (eBi biAny (osCons (oE (eFrz (fComp (eCall "wraps_of" (aCons (eVar 0) aNil)) [6] (.one 6) mTrue (eAnd (eBin opIx (oVar 4) (oE (eBin opIx (oVar 6) (oE (eCon (.int 1)))))) (eNot (eBin opIx (oVar 4) (oE (eBin opIx (oVar 6) (oE (eCon (.int 3))))))))))) osNil)))) sSkip))))
def b_signed_part : MS := (sSeq (sRet (eBin opAdd (oE (eTup (aCons (eCon (.str "certificate")) aNil))) (oE (eSl (oVar 0) pNone (pSome (eCon (.int 6))))))) sSkip)
def b_issue : MS := (sSeq (sAsg 8 (eTup (aCons (eVar 3) (aCons (eVar 4) (aCons (eVar 2) (aCons (eVar 5) (aCons (eVar 6) (aCons (eVar 7) aNil)))))))) (sSeq (sUnp [0, 9] (eCall "sign" (aCons (eVar 0) (aCons (eVar 1) (aCons (eCall "signed_part" (aCons (eVar 8) aNil)) aNil))))) (sSeq (sRet (eTup (aCons (eVar 0) (aCons (eBin opAdd (oVar 8) (oE (eTup (aCons (eVar 9) aNil)))) aNil)))) sSkip)))
def b_rotate : MS := (sSeq (sUnp [0, 2] (eCall "generate" (aCons (eVar 0) aNil))) (sSeq (sUnp [3, 4] (eVar 1)) (sSeq (sRet (eTup (aCons (eVar 0) (aCons (eTup (aCons (eSl (oE (eBin opAdd (oE (eTup (aCons (eVar 2) aNil))) (oVar 3))) pNone (pSome (eVar 4))) (aCons (eVar 4) aNil))) aNil)))) sSkip)))
def b_new_ring : MS := (sSeq (sRet (eCall "rotate" (aCons (eVar 0) (aCons (eTup (aCons (eTup aNil) (aCons (eVar 1) aNil))) aNil)))) sSkip)
def b_make_ticket : MS := (sSeq (sRet (eCall "wrap" (aCons (eVar 0) (aCons (eBin opIx (oE (eBin opIx (oVar 1) (oE (eCon (.int 0))))) (oE (eCon (.int 0)))) (aCons (eCon (.tup [.str "ticket"])) (aCons (eVar 2) (aCons (eVar 3) aNil))))))) sSkip)
def b__law_tape : MS := (sSeq (sAsg 1 (eCon (.int 7))) (sSeq (sForV (eVar 0) (.one 2) (sSeq (sAsg 1 (eBin opMod (oE (eBi biInt (osCons (oE (eBin opAdd (oE (eBin opMul (oVar 1) (oE (eCon (.int 31))))) (oE (eBi biAbs (osCons (oE (eBi biInt (osCons (oVar 2) osNil))) osNil))))) osNil))) (oE (eCon (.int 2147483647))))) sSkip)) (sSeq (sRet (eLay (fLst (aCons (eFrz (fBi bfList (osCons (oVar 0) osNil))) (aCons (eCon (.int 0)) (aCons (eCon (.int 0)) (aCons (eVar 1) aNil))))))) sSkip)))
def b__law_draw : MS := (sSeq (sIf (mBool (eBin opEq (oE (eBin opIx (oVar 0) (oE (eCon (.int 2))))) (oE (eCon (.int 0))))) (sSeq (sAsg 2 (eBin opIx (oVar 0) (oE (eCon (.int 1))))) (sSeq (sAsg 3 (eCon (.int 0))) (sSeq (sIf (mBool (eBin opLt (oVar 2) (oE (eBi biLen (osCons (oE (eBin opIx (oVar 0) (oE (eCon (.int 0))))) osNil))))) (sSeq (sAsg 3 (eBi biAbs (osCons (oE (eBi biInt (osCons (oE (eBin opIx (oE (eBin opIx (oVar 0) (oE (eCon (.int 0))))) (oVar 2))) osNil))) osNil))) sSkip) (sSeq (sSet (oVar 0) (eCon (.int 3)) (eBin opMod (oE (eBi biInt (osCons (oE (eBin opAdd (oE (eBin opAdd (oE (eBin opMul (oE (eBin opIx (oVar 0) (oE (eCon (.int 3))))) (oE (eCon (.int 48271))))) (oVar 2))) (oE (eCon (.int 1))))) osNil))) (oE (eCon (.int 2147483647))))) (sSeq (sAsg 3 (eBin opIx (oVar 0) (oE (eCon (.int 3))))) sSkip))) (sSeq (sSet (oVar 0) (eCon (.int 1)) (eBin opAdd (oVar 2) (oE (eCon (.int 1))))) (sSeq (sIf (mBool (eBin opLt (oVar 3) (oE (eBin opPow (oE (eCon (.int 10))) (oE (eCon (.int 18))))))) (sSeq (sAsg 3 (eBin opMod (oE (eBi biInt (osCons (oE (eBin opAdd (oE (eBin opAdd (oE (eBin opMul (oVar 3) (oE (eCon (.int 48271))))) (oE (eBin opMul (oVar 2) (oE (eCon (.int 69621))))))) (oE (eCon (.int 5))))) osNil))) (oE (eCon (.int 2147483647))))) (sSeq (sAsg 3 (eBin opMod (oE (eBi biInt (osCons (oE (eBin opMul (oVar 3) (oE (eCon (.int 69621))))) osNil))) (oE (eCon (.int 2147483629))))) (sSeq (sRet (eBin opMod (oE (eBi biInt (osCons (oVar 3) osNil))) (oE (eBi biMax (osCons (oVar 1) (osCons (oE (eCon (.int 1))) osNil)))))) sSkip))) sSkip) (sSeq (sSet (oVar 0) (eCon (.int 2)) (eVar 3)) sSkip)))))) sSkip) (sSeq (sAsg 3 (eBin opIx (oVar 0) (oE (eCon (.int 2))))) (sSeq (sSet (oVar 0) (eCon (.int 2)) (eBin opFdiv (oVar 3) (oE (eBi biMax (osCons (oVar 1) (osCons (oE (eCon (.int 2))) osNil)))))) (sSeq (sRet (eBin opMod (oE (eBi biInt (osCons (oVar 3) osNil))) (oE (eBi biMax (osCons (oVar 1) (osCons (oE (eCon (.int 1))) osNil)))))) sSkip))))
def b__law_pick : MS := (sSeq (sRet (eBin opIx (oVar 1) (oE (eCall "_law_draw" (aCons (eVar 0) (aCons (eBi biLen (osCons (oVar 1) osNil)) aNil)))))) sSkip)
def b__law_turns : MS := (sSeq (sOwn 2 (fRg (eVar 1))) (sSeq (sOwn 3 (fLst aNil)) (sSeq (sForR asR1 (aCons (eVar 1) aNil) (.one 4) (sSeq (sExpr (eApp (oVar 3) (ePopAt (oVar 2) (eCall "_law_draw" (aCons (eVar 0) (aCons (eBi biLen (osCons (oVar 2) osNil)) aNil)))))) sSkip)) (sSeq (sRet (eSl (oVar 3) pNone (pSome (eBin opIx (oE (eFrz (fLst (aCons (eVar 1) (aCons (eVar 1) (aCons (eCon (.int 1)) aNil)))))) (oE (eCall "_law_draw" (aCons (eVar 0) (aCons (eCon (.int 3)) aNil)))))))) sSkip))))
def b__law_same : MS := (sSeq (sIf (mTru (oE (eIsi "tuple" (oVar 1)))) (sSeq (sIf (mOr (mNot (mTru (oE (eIsi "tuple" (oVar 0))))) (mBool (eBin opNe (oE (eBi biLen (osCons (oVar 0) osNil))) (oE (eBi biLen (osCons (oVar 1) osNil)))))) (sSeq (sRet (eCon (.bl false))) sSkip) sSkip) (sSeq (sRet (eBin opNotIn (oE (eCon (.bl false))) (oE (eFrz (fCompR asR1 (aCons (eBi biLen (osCons (oVar 1) osNil)) aNil) [2] (.one 2) mTrue (eCall "_law_same" (aCons (eBin opIx (oVar 0) (oVar 2)) (aCons (eBin opIx (oVar 1) (oVar 2)) aNil)))))))) sSkip)) sSkip) (sSeq (sIf (mOr (mBool (eBin opIs (oVar 1) (oE (eCon .non)))) (mBool (eBin opIs (oVar 0) (oE (eCon .non))))) (sSeq (sRet (eAnd (eBin opIs (oVar 1) (oE (eCon .non))) (eBin opIs (oVar 0) (oE (eCon .non))))) sSkip) sSkip) (sSeq (sIf (mOr (mBool (eBin opNe (oE (eIsi "bool" (oVar 0))) (oE (eIsi "bool" (oVar 1))))) (mBool (eBin opNe (oE (eIsi "str" (oVar 0))) (oE (eIsi "str" (oVar 1)))))) (sSeq (sRet (eCon (.bl false))) sSkip) sSkip) (sSeq (sRet (eAnd (eBin opEq (oE (eIsi "int" (oVar 0))) (oE (eIsi "int" (oVar 1)))) (eBin opEq (oVar 0) (oVar 1)))) sSkip))))
def b__law_number : MS := (sSeq (sAsg 1 (eCall "_law_draw" (aCons (eVar 0) (aCons (eCon (.int 5)) aNil)))) (sSeq (sIf (mBool (eBin opLt (oVar 1) (oE (eCon (.int 3))))) (sSeq (sRet (eCall "_law_draw" (aCons (eVar 0) (aCons (eBin opIx (oE (eFrz (fLst (aCons (eCon (.int 3)) (aCons (eCon (.int 12)) (aCons (eCon (.int 300)) aNil)))))) (oVar 1)) aNil)))) sSkip) sSkip) (sSeq (sIf (mBool (eBin opEq (oVar 1) (oE (eCon (.int 3))))) (sSeq (sRet (eCall "_law_pick" (aCons (eVar 0) (aCons (eFrz (fLst (aCons (eCon (.int 255)) (aCons (eCon (.int 256)) (aCons (eCon (.int 65536)) (aCons (eCon (.int 999999998)) (aCons (eCon (.int 999999999)) aNil))))))) aNil)))) sSkip) sSkip) (sSeq (sRet (eCall "_law_draw" (aCons (eVar 0) (aCons (eCon (.int 1000000000)) aNil)))) sSkip))))
def b__law_text : MS := (sSeq (sAsg 2 (eCon (.str " !\"#$&'()*+,-./0123456789:;<=>?@ABCDEFGHIJKLMNOPQRSTUVWXYZ[\\]^_`abcdefghijklmnopqrstuvwxyz{|}~"))) (sSeq (sRet (eJoin "" (oE (eFrz (fCompR asR1 (aCons (eCall "_law_draw" (aCons (eVar 0) (aCons (eBin opAdd (oVar 1) (oE (eCon (.int 1)))) aNil))) aNil) [3] (.one 3) mTrue (eBin opIx (oVar 2) (oE (eCall "_law_draw" (aCons (eVar 0) (aCons (eCon (.int 94)) aNil)))))))))) sSkip))
def b__law_leaf : MS := (sSeq (sAsg 1 (eCall "_law_draw" (aCons (eVar 0) (aCons (eCon (.int 8)) aNil)))) (sSeq (sIf (mBool (eBin opLt (oVar 1) (oE (eCon (.int 4))))) (sSeq (sRet (eCall "_law_draw" (aCons (eVar 0) (aCons (eCon (.int 4)) aNil)))) sSkip) sSkip) (sSeq (sIf (mBool (eBin opLt (oVar 1) (oE (eCon (.int 6))))) (sSeq (sRet (eCall "_law_number" (aCons (eVar 0) aNil))) sSkip) sSkip) (sSeq (sIf (mBool (eBin opEq (oVar 1) (oE (eCon (.int 6))))) (sSeq (sRet (eCall "_law_pick" (aCons (eVar 0) (aCons (eFrz (fLst (aCons (eCon (.str "")) (aCons (eCon (.str "0")) (aCons (eCon (.str "1")) (aCons (eCon (.str "ticket")) (aCons (eCon (.str "route")) (aCons (eCon (.str "ping")) (aCons (eCon (.str "app")) (aCons (eCon (.str "()")) aNil)))))))))) aNil)))) sSkip) sSkip) (sSeq (sRet (eCall "_law_text" (aCons (eVar 0) (aCons (eCon (.int 16)) aNil)))) sSkip)))))
def b__law_datum : MS := (sSeq (sAsg 3 (eFrz (fCompR asR1 (aCons (eVar 1) aNil) [5] (.one 5) mTrue (eCall "_law_leaf" (aCons (eVar 0) aNil))))) (sSeq (sAsg 4 (eFrz (fCompR asR1 (aCons (eVar 1) aNil) [5] (.one 5) mTrue (eCon (.int 0))))) (sSeq (sForR asR1 (aCons (eCall "_law_draw" (aCons (eVar 0) (aCons (eBin opMul (oE (eCon (.int 2))) (oVar 2)) aNil))) aNil) (.one 5) (sSeq (sAsg 6 (eCall "_law_draw" (aCons (eVar 0) (aCons (eBin opAdd (oE (eBi biLen (osCons (oVar 3) osNil))) (oE (eCon (.int 1)))) aNil)))) (sSeq (sAsg 7 (eBin opAdd (oVar 6) (oE (eCall "_law_draw" (aCons (eVar 0) (aCons (eBin opSub (oE (eBin opAdd (oE (eBi biLen (osCons (oVar 3) osNil))) (oE (eCon (.int 1))))) (oVar 6)) aNil)))))) (sSeq (sAsg 8 (eBin opAdd (oE (eCon (.int 1))) (oE (eBi biMax (osCons (oE (eBin opAdd (oE (eFrz (fLst (aCons (eCon (.int 0)) aNil)))) (oE (eSl (oVar 4) (pSome (eVar 6)) (pSome (eVar 7)))))) osNil))))) (sSeq (sIf (mBool (eBin opLt (oVar 8) (oVar 2))) (sSeq (sAsg 3 (eBin opAdd (oE (eBin opAdd (oE (eSl (oVar 3) pNone (pSome (eVar 6)))) (oE (eFrz (fLst (aCons (eBi biTuple (osCons (oE (eSl (oVar 3) (pSome (eVar 6)) (pSome (eVar 7)))) osNil)) aNil)))))) (oE (eSl (oVar 3) (pSome (eVar 7)) pNone)))) (sSeq (sAsg 4 (eBin opAdd (oE (eBin opAdd (oE (eSl (oVar 4) pNone (pSome (eVar 6)))) (oE (eFrz (fLst (aCons (eVar 8) aNil)))))) (oE (eSl (oVar 4) (pSome (eVar 7)) pNone)))) sSkip)) sSkip) sSkip))))) (sSeq (sIf (mAnd (mBool (eBin opEq (oE (eBi biLen (osCons (oVar 3) osNil))) (oE (eCon (.int 1))))) (mBool (eBin opEq (oE (eCall "_law_draw" (aCons (eVar 0) (aCons (eCon (.int 2)) aNil)))) (oE (eCon (.int 0)))))) (sSeq (sRet (eBin opIx (oVar 3) (oE (eCon (.int 0))))) sSkip) sSkip) (sSeq (sRet (eBi biTuple (osCons (oVar 3) osNil))) sSkip)))))
def b__law_size : MS := (sSeq (sIf (mTru (oE (eIsi "tuple" (oVar 0)))) (sSeq (sRet (eBi biSum (osCons (oE (eFrz (fComp (eVar 0) [1] (.one 1) mTrue (eCall "_law_size" (aCons (eVar 1) aNil))))) osNil))) sSkip) sSkip) (sSeq (sRet (eCon (.int 1))) sSkip))
def b__law_place : MS := (sSeq (sIf (mBool (eBin opNotIn (oVar 1) (oVar 0))) (sSeq (sExpr (eApp (oVar 0) (eVar 1))) sSkip) sSkip) (sSeq (sRet (eSeqM idxA [1, 2] (oVar 0) (oVar 1))) sSkip))
def b__law_is_key : MS := (sSeq (sRet (eAnd (eBin opLt (oVar 1) (oE (eBi biLen (osCons (oE (eBin opIx (oVar 0) (oE (eCon (.int 1))))) osNil)))) (eBin opEq (oE (eBin opIx (oE (eBin opIx (oE (eBin opIx (oVar 0) (oE (eCon (.int 1))))) (oVar 1))) (oE (eCon (.int 0))))) (oE (eCon (.str "public")))))) sSkip)
def b__law_deed : MS := (sSeq (sAsg 2 (eBin opIx (oVar 1) (oE (eCon (.int 0))))) (sSeq (sIf (mBool (eBin opGt (oE (eBi biLen (osCons (oVar 0) osNil))) (oE (eCon (.int 2))))) (sSeq (sExpr (eApp (oE (eBin opIx (oVar 0) (oE (eCon (.int 2))))) (eVar 1))) sSkip) sSkip) (sSeq (sIf (mBool (eBin opEq (oVar 2) (oE (eCon (.str "generate"))))) (sSeq (sExpr (eApp (oE (eBin opIx (oVar 0) (oE (eCon (.int 0))))) (eTup (aCons (eCon (.str "pair")) (aCons (eBi biLen (osCons (oE (eBin opIx (oVar 0) (oE (eCon (.int 1))))) osNil)) aNil))))) (sSeq (sExpr (eApp (oE (eBin opIx (oVar 0) (oE (eCon (.int 1))))) (eTup (aCons (eCon (.str "public")) (aCons (eBin opSub (oE (eBi biLen (osCons (oE (eBin opIx (oVar 0) (oE (eCon (.int 0))))) osNil))) (oE (eCon (.int 1)))) aNil))))) (sSeq (sRet (eBin opSub (oE (eBi biLen (osCons (oE (eBin opIx (oVar 0) (oE (eCon (.int 0))))) osNil))) (oE (eCon (.int 1))))) sSkip))) sSkip) (sSeq (sIf (mBool (eBin opEq (oVar 2) (oE (eCon (.str "agree"))))) (sSeq (sIf (mNot (mTru (oE (eCall "_law_is_key" (aCons (eVar 0) (aCons (eBin opIx (oVar 1) (oE (eCon (.int 2)))) aNil)))))) (sSeq (sRet (eCon .non)) sSkip) sSkip) (sSeq (sAsg 3 (eBin opIx (oE (eBin opIx (oE (eBin opIx (oVar 0) (oE (eCon (.int 1))))) (oE (eBin opIx (oVar 1) (oE (eCon (.int 2))))))) (oE (eCon (.int 1))))) (sSeq (sRet (eCall "_law_place" (aCons (eBin opIx (oVar 0) (oE (eCon (.int 0)))) (aCons (eTup (aCons (eCon (.str "agreed")) (aCons (eBi biMin (osCons (oE (eBin opIx (oVar 1) (oE (eCon (.int 1))))) (osCons (oVar 3) osNil))) (aCons (eBi biMax (osCons (oE (eBin opIx (oVar 1) (oE (eCon (.int 1))))) (osCons (oVar 3) osNil))) aNil)))) aNil)))) sSkip))) sSkip) (sSeq (sAsg 4 (eDic ["plain", "derive", "mix"] (aCons (eCon (.str "plain")) (aCons (eCon (.str "derived")) (aCons (eCon (.str "mixed")) aNil))))) (sSeq (sIf (mBool (eBin opIn (oVar 2) (oVar 4))) (sSeq (sRet (eCall "_law_place" (aCons (eBin opIx (oVar 0) (oE (eCon (.int 0)))) (aCons (eBin opAdd (oE (eTup (aCons (eBin opIx (oVar 4) (oVar 2)) aNil))) (oE (eSl (oVar 1) (pSome (eCon (.int 1))) pNone))) aNil)))) sSkip) sSkip) (sSeq (sAsg 4 (eDic ["draw", "sign", "tag", "seal", "wrap"] (aCons (eCon (.str "drawn")) (aCons (eCon (.str "signature")) (aCons (eCon (.str "tag")) (aCons (eCon (.str "box")) (aCons (eCon (.str "wrapped")) aNil))))))) (sSeq (sExpr (eApp (oE (eBin opIx (oVar 0) (oE (eCon (.int 1))))) (eBin opAdd (oE (eTup (aCons (eBin opIx (oVar 4) (oVar 2)) aNil))) (oE (eSl (oVar 1) (pSome (eCon (.int 1))) pNone))))) (sSeq (sIf (mBool (eBin opEq (oVar 2) (oE (eCon (.str "seal"))))) (sSeq (sRet (eTup (aCons (eBin opSub (oE (eBi biLen (osCons (oE (eBin opIx (oVar 0) (oE (eCon (.int 1))))) osNil))) (oE (eCon (.int 1)))) (aCons (eBin opAdd (oE (eCall "_law_size" (aCons (eBin opIx (oVar 1) (oE (eCon (.int 4)))) aNil))) (oE (eCon (.int 2)))) aNil)))) sSkip) sSkip) (sSeq (sRet (eBin opSub (oE (eBi biLen (osCons (oE (eBin opIx (oVar 0) (oE (eCon (.int 1))))) osNil))) (oE (eCon (.int 1))))) sSkip))))))))))
def b__law_vault_of : MS := (sSeq (sRet (eTup (aCons (eBi biTuple (osCons (oE (eBin opIx (oVar 0) (oE (eCon (.int 0))))) osNil)) (aCons (eBi biTuple (osCons (oE (eBin opIx (oVar 0) (oE (eCon (.int 1))))) osNil)) aNil)))) sSkip)
def b__law_gives : MS := (sSeq (sRet (eAnd (eIsi "tuple" (oVar 0)) (eAnd (eBin opEq (oVar 0) (oE (eTup (aCons (eVar 1) (aCons (eVar 2) aNil))))) (eCall "_law_same" (aCons (eBin opIx (oVar 0) (oE (eCon (.int 1)))) (aCons (eVar 2) aNil)))))) sSkip)
def b__law_label : MS := (sSeq (sIf (mBool (eBin opGt (oE (eCall "_law_draw" (aCons (eVar 0) (aCons (eCon (.int 3)) aNil)))) (oE (eCon (.int 0))))) (sSeq (sRet (eCall "_law_pick" (aCons (eVar 0) (aCons (eFrz (fLst (aCons (eCon (.str "ticket")) (aCons (eCon (.str "update")) (aCons (eCon (.str "core")) (aCons (eCon (.str "client")) (aCons (eCon (.str "server")) (aCons (eCon (.str "early")) (aCons (eCon (.str "t")) (aCons (eCon (.str "ticket2")) aNil)))))))))) aNil)))) sSkip) sSkip) (sSeq (sRet (eBin opAdd (oE (eCall "_law_text" (aCons (eVar 0) (aCons (eCon (.int 15)) aNil)))) (oE (eCall "_law_pick" (aCons (eVar 0) (aCons (eCon (.str "tk e")) aNil)))))) sSkip))
def b__law_some_datum : MS := (sSeq (sIf (mBool (eBin opEq (oE (eCall "_law_draw" (aCons (eVar 0) (aCons (eCon (.int 12)) aNil)))) (oE (eCon (.int 0))))) (sSeq (sRet (eCall "_law_datum" (aCons (eVar 0) (aCons (eBin opIx (oE (eFrz (fLst (aCons (eCon (.int 10)) (aCons (eCon (.int 30)) (aCons (eCon (.int 59)) aNil)))))) (oE (eCall "_law_draw" (aCons (eVar 0) (aCons (eCon (.int 3)) aNil))))) (aCons (eCon (.int 4)) aNil))))) sSkip) sSkip) (sSeq (sRet (eCall "_law_datum" (aCons (eVar 0) (aCons (eBin opIx (oE (eFrz (fLst (aCons (eCon (.int 0)) (aCons (eCon (.int 1)) (aCons (eCon (.int 1)) (aCons (eCon (.int 2)) (aCons (eCon (.int 2)) (aCons (eCon (.int 3)) (aCons (eCon (.int 4)) aNil)))))))))) (oE (eCall "_law_draw" (aCons (eVar 0) (aCons (eCon (.int 7)) aNil))))) (aCons (eBin opAdd (oE (eCon (.int 1))) (oE (eCall "_law_draw" (aCons (eVar 0) (aCons (eCon (.int 3)) aNil))))) aNil))))) sSkip))
def b__law_some_secret : MS := (sSeq (sAsg 2 (eBi biLen (osCons (oE (eBin opIx (oVar 1) (oE (eCon (.int 0))))) osNil))) (sSeq (sIf (mBool (eBin opEq (oE (eCall "_law_draw" (aCons (eVar 0) (aCons (eCon (.int 2)) aNil)))) (oE (eCon (.int 0))))) (sSeq (sRet (eBin opSub (oE (eBin opSub (oVar 2) (oE (eCon (.int 1))))) (oE (eCall "_law_draw" (aCons (eVar 0) (aCons (eBi biMin (osCons (oVar 2) (osCons (oE (eCon (.int 4))) osNil))) aNil)))))) sSkip) sSkip) (sSeq (sRet (eCall "_law_draw" (aCons (eVar 0) (aCons (eVar 2) aNil)))) sSkip)))
def b__law_some_pair : MS := (sSeq (sRet (eCall "_law_pick" (aCons (eVar 0) (aCons (eFrz (fCompR asR1 (aCons (eBi biLen (osCons (oE (eBin opIx (oVar 1) (oE (eCon (.int 0))))) osNil)) aNil) [2] (.one 2) (mBool (eBin opEq (oE (eBin opIx (oE (eBin opIx (oE (eBin opIx (oVar 1) (oE (eCon (.int 0))))) (oVar 2))) (oE (eCon (.int 0))))) (oE (eCon (.str "pair"))))) (eVar 2))) aNil)))) sSkip)
def b__law_some_public : MS := (sSeq (sIf (mBool (eBin opGt (oE (eCall "_law_draw" (aCons (eVar 0) (aCons (eCon (.int 4)) aNil)))) (oE (eCon (.int 0))))) (sSeq (sRet (eBin opIx (oE (eBin opIx (oE (eBin opIx (oVar 1) (oE (eCon (.int 0))))) (oE (eCall "_law_some_pair" (aCons (eVar 0) (aCons (eVar 1) aNil)))))) (oE (eCon (.int 1))))) sSkip) sSkip) (sSeq (sIf (mBool (eBin opGt (oE (eCall "_law_draw" (aCons (eVar 0) (aCons (eCon (.int 3)) aNil)))) (oE (eCon (.int 0))))) (sSeq (sRet (eCall "_law_draw" (aCons (eVar 0) (aCons (eBin opAdd (oE (eBi biLen (osCons (oE (eBin opIx (oVar 1) (oE (eCon (.int 1))))) osNil))) (oE (eCon (.int 1)))) aNil)))) sSkip) sSkip) (sSeq (sRet (eCall "_law_number" (aCons (eVar 0) aNil))) sSkip)))
def b__law_some_deed : MS := (sSeq (sIf (mBool (eBin opEq (oVar 2) (oE (eCon (.str "plain"))))) (sSeq (sRet (eTup (aCons (eVar 2) (aCons (eCall "_law_some_datum" (aCons (eVar 0) aNil)) aNil)))) sSkip) sSkip) (sSeq (sIf (mBool (eBin opEq (oVar 2) (oE (eCon (.str "agree"))))) (sSeq (sRet (eTup (aCons (eVar 2) (aCons (eCall "_law_some_pair" (aCons (eVar 0) (aCons (eVar 1) aNil))) (aCons (eCall "_law_some_public" (aCons (eVar 0) (aCons (eVar 1) aNil))) aNil))))) sSkip) sSkip) (sSeq (sIf (mBool (eBin opEq (oVar 2) (oE (eCon (.str "derive"))))) (sSeq (sRet (eTup (aCons (eVar 2) (aCons (eCall "_law_some_secret" (aCons (eVar 0) (aCons (eVar 1) aNil))) (aCons (eCall "_law_label" (aCons (eVar 0) aNil)) (aCons (eCall "_law_some_datum" (aCons (eVar 0) aNil)) aNil)))))) sSkip) sSkip) (sSeq (sIf (mBool (eBin opEq (oVar 2) (oE (eCon (.str "mix"))))) (sSeq (sRet (eTup (aCons (eVar 2) (aCons (eCall "_law_some_secret" (aCons (eVar 0) (aCons (eVar 1) aNil))) (aCons (eCall "_law_some_secret" (aCons (eVar 0) (aCons (eVar 1) aNil))) aNil))))) sSkip) sSkip) (sSeq (sIf (mBool (eBin opEq (oVar 2) (oE (eCon (.str "sign"))))) (sSeq (sRet (eTup (aCons (eVar 2) (aCons (eCall "_law_some_pair" (aCons (eVar 0) (aCons (eVar 1) aNil))) (aCons (eCall "_law_some_datum" (aCons (eVar 0) aNil)) aNil))))) sSkip) sSkip) (sSeq (sIf (mBool (eBin opEq (oVar 2) (oE (eCon (.str "tag"))))) (sSeq (sRet (eTup (aCons (eVar 2) (aCons (eCall "_law_some_secret" (aCons (eVar 0) (aCons (eVar 1) aNil))) (aCons (eCall "_law_some_datum" (aCons (eVar 0) aNil)) aNil))))) sSkip) sSkip) (sSeq (sIf (mBool (eBin opEq (oVar 2) (oE (eCon (.str "seal"))))) (sSeq (sRet (eTup (aCons (eVar 2) (aCons (eCall "_law_some_secret" (aCons (eVar 0) (aCons (eVar 1) aNil))) (aCons (eCall "_law_number" (aCons (eVar 0) aNil)) (aCons (eCall "_law_some_datum" (aCons (eVar 0) aNil)) (aCons (eCall "_law_some_datum" (aCons (eVar 0) aNil)) aNil))))))) sSkip) sSkip) (sSeq (sIf (mBool (eBin opEq (oVar 2) (oE (eCon (.str "wrap"))))) (sSeq (sAsg 3 (eCall "_law_some_datum" (aCons (eVar 0) aNil))) (sSeq (sRet (eTup (aCons (eVar 2) (aCons (eCall "_law_some_secret" (aCons (eVar 0) (aCons (eVar 1) aNil))) (aCons (eVar 3) (aCons (eCall "_law_some_secret" (aCons (eVar 0) (aCons (eVar 1) aNil))) (aCons (eCall "_law_some_datum" (aCons (eVar 0) aNil)) aNil))))))) sSkip)) sSkip) (sSeq (sRet (eTup (aCons (eVar 2) aNil))) sSkip)))))))))
def b__law_model : MS := (sSeq (sAsg 2 (eLay (fLst (aCons (eLay (fLst aNil)) (aCons (eLay (fLst aNil)) (aCons (eLay (fLst aNil)) aNil)))))) (sSeq (sForR asR1 (aCons (eBin opAdd (oE (eCon (.int 1))) (oE (eCall "_law_draw" (aCons (eVar 0) (aCons (eCon (.int 3)) aNil))))) aNil) (.one 3) (sSeq (sExpr (eCallT "_law_deed" (aCons (eVar 2) (aCons (eTup (aCons (eCon (.str "generate")) aNil)) aNil)))) sSkip)) (sSeq (sAsg 4 (eFrz (fLst (aCons (eCon (.str "generate")) (aCons (eCon (.str "plain")) (aCons (eCon (.str "agree")) (aCons (eCon (.str "agree")) (aCons (eCon (.str "derive")) (aCons (eCon (.str "derive")) (aCons (eCon (.str "derive")) (aCons (eCon (.str "mix")) (aCons (eCon (.str "mix")) (aCons (eCon (.str "wrap")) (aCons (eCon (.str "wrap")) (aCons (eCon (.str "seal")) aNil))))))))))))))) (sSeq (sAsg 4 (eBin opAdd (oVar 4) (oE (eFrz (fLst (aCons (eCon (.str "sign")) (aCons (eCon (.str "tag")) (aCons (eCon (.str "draw")) (aCons (eCon (.str "wrap")) aNil))))))))) (sSeq (sForR asR1 (aCons (eVar 1) aNil) (.one 3) (sSeq (sExpr (eCallT "_law_deed" (aCons (eVar 2) (aCons (eCall "_law_some_deed" (aCons (eVar 0) (aCons (eVar 2) (aCons (eCall "_law_pick" (aCons (eVar 0) (aCons (eVar 4) aNil))) aNil)))) aNil)))) sSkip)) (sSeq (sRet (eVar 2)) sSkip))))))
def b__law_held : MS := (sSeq (sOwn 3 (fRg (eVar 1))) (sSeq (sOwn 4 (fLst aNil)) (sSeq (sForR asR1 (aCons (eBi biMin (osCons (oVar 1) (osCons (oE (eCall "_law_draw" (aCons (eVar 0) (aCons (eBin opAdd (oVar 2) (oE (eCon (.int 1)))) aNil)))) osNil))) aNil) (.one 5) (sSeq (sExpr (eApp (oVar 4) (ePopAt (oVar 3) (eCall "_law_draw" (aCons (eVar 0) (aCons (eBi biLen (osCons (oVar 3) osNil)) aNil)))))) sSkip)) (sSeq (sRet (eBi biTuple (osCons (oVar 4) osNil))) sSkip))))
def b__law_fires : MS := (sSeq (sIf (mBool (eBin opEq (oE (eBin opIx (oVar 0) (oE (eCon (.int 0))))) (oE (eCon (.str "agreed"))))) (sSeq (sRet (eOr (eBin opIsN (oE (eBin opIx (oVar 1) (oE (eBin opIx (oVar 0) (oE (eCon (.int 1))))))) (oE (eCon .non))) (eBin opIsN (oE (eBin opIx (oVar 1) (oE (eBin opIx (oVar 0) (oE (eCon (.int 2))))))) (oE (eCon .non))))) sSkip) sSkip) (sSeq (sIf (mBool (eBin opEq (oE (eBin opIx (oVar 0) (oE (eCon (.int 0))))) (oE (eCon (.str "derived"))))) (sSeq (sRet (eBin opIsN (oE (eBin opIx (oVar 1) (oE (eBin opIx (oVar 0) (oE (eCon (.int 1))))))) (oE (eCon .non)))) sSkip) sSkip) (sSeq (sIf (mBool (eBin opEq (oE (eBin opIx (oVar 0) (oE (eCon (.int 0))))) (oE (eCon (.str "mixed"))))) (sSeq (sRet (eAnd (eBin opIsN (oE (eBin opIx (oVar 1) (oE (eBin opIx (oVar 0) (oE (eCon (.int 1))))))) (oE (eCon .non))) (eBin opIsN (oE (eBin opIx (oVar 1) (oE (eBin opIx (oVar 0) (oE (eCon (.int 2))))))) (oE (eCon .non))))) sSkip) sSkip) (sSeq (sRet (eBin opEq (oE (eBin opIx (oVar 0) (oE (eCon (.int 0))))) (oE (eCon (.str "plain"))))) sSkip))))
def b__law_levels : MS := (sSeq (sOwn 2 (fComp (eBin opIx (oVar 0) (oE (eCon (.int 0)))) [8] (.one 8) mTrue (eCon .non))) (sSeq (sForV (eVar 1) (.one 3) (sSeq (sSet (oVar 2) (eVar 3) (eCon (.int 0))) sSkip)) (sSeq (sAsg 4 (eFrz (fComp (eBin opIx (oVar 0) (oE (eCon (.int 1)))) [8] (.one 8) (mBool (eBin opEq (oE (eBin opIx (oVar 8) (oE (eCon (.int 0))))) (oE (eCon (.str "wrapped"))))) (eVar 8)))) (sSeq (sForR asR1 (aCons (eBi biLen (osCons (oVar 2) osNil)) aNil) (.one 5) (sSeq (sAsg 6 (eFrz (fCompR asR1 (aCons (eBi biLen (osCons (oVar 2) osNil)) aNil) [7] (.one 7) (mAnd (mBool (eBin opIs (oE (eBin opIx (oVar 2) (oVar 7))) (oE (eCon .non)))) (mTru (oE (eLend "_law_fires" (osCons (oE (eBin opIx (oE (eBin opIx (oVar 0) (oE (eCon (.int 0))))) (oVar 7))) (osCons (oVar 2) osNil)))))) (eVar 7)))) (sSeq (sAsg 6 (eBin opAdd (oVar 6) (oE (eFrz (fComp (eVar 4) [8] (.one 8) (mAnd (mBool (eBin opIsN (oE (eBin opIx (oVar 2) (oE (eBin opIx (oVar 8) (oE (eCon (.int 1))))))) (oE (eCon .non)))) (mBool (eBin opIs (oE (eBin opIx (oVar 2) (oE (eBin opIx (oVar 8) (oE (eCon (.int 3))))))) (oE (eCon .non))))) (eBin opIx (oVar 8) (oE (eCon (.int 3))))))))) (sSeq (sIf (mBool (eBin opEq (oE (eBi biLen (osCons (oVar 6) osNil))) (oE (eCon (.int 0))))) (sSeq sBreak sSkip) sSkip) (sSeq (sForV (eVar 6) (.one 7) (sSeq (sSet (oVar 2) (eVar 7) (eBin opAdd (oVar 5) (oE (eCon (.int 1))))) sSkip)) sSkip))))) (sSeq (sRet (eVar 2)) sSkip)))))
def b__law_bars : MS := (sSeq (sForV (eVar 2) (.one 3) (sSeq (sAsg 4 (eBin opIx (oE (eBin opIx (oVar 0) (oE (eCon (.int 0))))) (oVar 3))) (sSeq (sIf (mOr (mBool (eBin opIn (oVar 3) (oVar 1))) (mBool (eBin opEq (oE (eBin opIx (oVar 4) (oE (eCon (.int 0))))) (oE (eCon (.str "plain")))))) (sSeq (sRet (eCon (.bl false))) sSkip) sSkip) (sSeq (sIf (mAnd (mBool (eBin opEq (oE (eBin opIx (oVar 4) (oE (eCon (.int 0))))) (oE (eCon (.str "agreed"))))) (mOr (mBool (eBin opNotIn (oE (eBin opIx (oVar 4) (oE (eCon (.int 1))))) (oVar 2))) (mBool (eBin opNotIn (oE (eBin opIx (oVar 4) (oE (eCon (.int 2))))) (oVar 2))))) (sSeq (sRet (eCon (.bl false))) sSkip) sSkip) (sSeq (sIf (mAnd (mBool (eBin opEq (oE (eBin opIx (oVar 4) (oE (eCon (.int 0))))) (oE (eCon (.str "derived"))))) (mBool (eBin opNotIn (oE (eBin opIx (oVar 4) (oE (eCon (.int 1))))) (oVar 2)))) (sSeq (sRet (eCon (.bl false))) sSkip) sSkip) (sSeq (sIf (mAnd (mBool (eBin opEq (oE (eBin opIx (oVar 4) (oE (eCon (.int 0))))) (oE (eCon (.str "mixed"))))) (mAnd (mBool (eBin opNotIn (oE (eBin opIx (oVar 4) (oE (eCon (.int 1))))) (oVar 2))) (mBool (eBin opNotIn (oE (eBin opIx (oVar 4) (oE (eCon (.int 2))))) (oVar 2))))) (sSeq (sRet (eCon (.bl false))) sSkip) sSkip) sSkip)))))) (sSeq (sForV (eBin opIx (oVar 0) (oE (eCon (.int 1)))) (.one 4) (sSeq (sIf (mAnd (mBool (eBin opEq (oE (eBin opIx (oVar 4) (oE (eCon (.int 0))))) (oE (eCon (.str "wrapped"))))) (mAnd (mBool (eBin opIn (oE (eBin opIx (oVar 4) (oE (eCon (.int 3))))) (oVar 2))) (mBool (eBin opNotIn (oE (eBin opIx (oVar 4) (oE (eCon (.int 1))))) (oVar 2))))) (sSeq (sRet (eCon (.bl false))) sSkip) sSkip) sSkip)) (sSeq (sRet (eCon (.bl true))) sSkip)))
def b__law_ladder : MS := (sSeq (sAsg 2 (eCall "_law_model" (aCons (eVar 0) (aCons (eCall "_law_draw" (aCons (eVar 0) (aCons (eCon (.int 3)) aNil))) aNil)))) (sSeq (sAsg 3 (eCall "_law_some_secret" (aCons (eVar 0) (aCons (eVar 2) aNil)))) (sSeq (sAsg 4 (eVar 3)) (sSeq (sOwn 5 (fLst aNil)) (sSeq (sForR asR1 (aCons (eVar 1) aNil) (.one 6) (sSeq (sAsg 7 (eCall "_law_draw" (aCons (eVar 0) (aCons (eCon (.int 6)) aNil)))) (sSeq (sIf (mBool (eBin opEq (oVar 7) (oE (eCon (.int 0))))) (sSeq (sAsg 8 (eCall "_law_pick" (aCons (eVar 0) (aCons (eFrz (fLst (aCons (eTup (aCons (eVar 4) (aCons (eVar 3) aNil))) (aCons (eTup (aCons (eVar 3) (aCons (eVar 4) aNil))) (aCons (eTup (aCons (eVar 4) (aCons (eCall "_law_draw" (aCons (eVar 0) (aCons (eBi biLen (osCons (oE (eBin opIx (oVar 2) (oE (eCon (.int 0))))) osNil)) aNil))) aNil))) aNil))))) aNil)))) (sSeq (sAsg 4 (eCallT "_law_deed" (aCons (eVar 2) (aCons (eBin opAdd (oE (eTup (aCons (eCon (.str "mix")) aNil))) (oVar 8)) aNil)))) sSkip)) (sSeq (sIf (mAnd (mBool (eBin opLt (oVar 7) (oE (eCon (.int 3))))) (mBool (eBin opEq (oE (eBin opIx (oE (eBin opIx (oE (eBin opIx (oVar 2) (oE (eCon (.int 0))))) (oVar 4))) (oE (eCon (.int 0))))) (oE (eCon (.str "pair")))))) (sSeq (sAsg 9 (eCallT "_law_deed" (aCons (eVar 2) (aCons (eTup (aCons (eCon (.str "generate")) aNil)) aNil)))) (sSeq (sAsg 4 (eCallT "_law_deed" (aCons (eVar 2) (aCons (eTup (aCons (eCon (.str "agree")) (aCons (eVar 4) (aCons (eBin opIx (oE (eBin opIx (oE (eBin opIx (oVar 2) (oE (eCon (.int 0))))) (oVar 9))) (oE (eCon (.int 1)))) aNil)))) aNil)))) sSkip)) (sSeq (sIf (mBool (eBin opLt (oVar 7) (oE (eCon (.int 5))))) (sSeq (sAsg 10 (eCallT "_law_deed" (aCons (eVar 2) (aCons (eTup (aCons (eCon (.str "generate")) aNil)) aNil)))) (sSeq (sExpr (eApp (oVar 5) (eTup (aCons (eCon (.str "wrap")) (aCons (eVar 4) (aCons (eCall "_law_some_datum" (aCons (eVar 0) aNil)) (aCons (eVar 10) (aCons (eCall "_law_some_datum" (aCons (eVar 0) aNil)) aNil)))))))) (sSeq (sAsg 4 (eVar 10)) sSkip))) (sSeq (sAsg 4 (eCallT "_law_deed" (aCons (eVar 2) (aCons (eTup (aCons (eCon (.str "derive")) (aCons (eVar 4) (aCons (eCall "_law_label" (aCons (eVar 0) aNil)) (aCons (eCall "_law_some_datum" (aCons (eVar 0) aNil)) aNil))))) aNil)))) sSkip)) sSkip)) sSkip)) sSkip))) (sSeq (sForR asR1 (aCons (eBi biLen (osCons (oVar 5) osNil)) aNil) (.one 6) (sSeq (sExpr (eCallT "_law_deed" (aCons (eVar 2) (aCons (ePopAt (oVar 5) (eCall "_law_draw" (aCons (eVar 0) (aCons (eBi biLen (osCons (oVar 5) osNil)) aNil)))) aNil)))) sSkip)) (sSeq (sRet (eFrz (fLst (aCons (eVar 2) (aCons (eVar 3) aNil))))) sSkip)))))))
def b__law_web : MS := (sSeq (sIf (mBool (eBin opEq (oE (eCall "_law_draw" (aCons (eVar 0) (aCons (eCon (.int 2)) aNil)))) (oE (eCon (.int 0))))) (sSeq (sRet (eCall "_law_ladder" (aCons (eVar 0) (aCons (eBin opAdd (oE (eCon (.int 3))) (oE (eCall "_law_draw" (aCons (eVar 0) (aCons (eCon (.int 8)) aNil))))) aNil)))) sSkip) sSkip) (sSeq (sAsg 1 (eCall "_law_model" (aCons (eVar 0) (aCons (eBin opAdd (oE (eCon (.int 3))) (oE (eCall "_law_draw" (aCons (eVar 0) (aCons (eCon (.int 10)) aNil))))) aNil)))) (sSeq (sRet (eFrz (fLst (aCons (eVar 1) (aCons (eCall "_law_some_secret" (aCons (eVar 0) (aCons (eVar 1) aNil))) aNil))))) sSkip)))
def b__law_holders : MS := (sSeq (sAsg 3 (eCall "_law_held" (aCons (eVar 0) (aCons (eVar 1) (aCons (eCon (.int 3)) aNil))))) (sSeq (sIf (mAnd (mBool (eBin opNotIn (oVar 2) (oVar 3))) (mBool (eBin opGt (oE (eCall "_law_draw" (aCons (eVar 0) (aCons (eCon (.int 4)) aNil)))) (oE (eCon (.int 0)))))) (sSeq (sAsg 3 (eBin opAdd (oVar 3) (oE (eTup (aCons (eVar 2) aNil))))) sSkip) sSkip) (sSeq (sAsg 4 (eCall "_law_draw" (aCons (eVar 0) (aCons (eBin opAdd (oE (eBi biLen (osCons (oVar 3) osNil))) (oE (eCon (.int 1)))) aNil)))) (sSeq (sAsg 5 (eFrz (fCompR asR1 (aCons (eVar 1) aNil) [7] (.one 7) (mBool (eBin opNotIn (oVar 7) (oVar 3))) (eVar 7)))) (sSeq (sAsg 6 (eVar 3)) (sSeq (sIf (mBool (eBin opGt (oE (eBi biLen (osCons (oVar 5) osNil))) (oE (eCon (.int 0))))) (sSeq (sAsg 6 (eBin opAdd (oE (eBin opAdd (oE (eSl (oVar 3) pNone (pSome (eVar 4)))) (oE (eTup (aCons (eCall "_law_pick" (aCons (eVar 0) (aCons (eVar 5) aNil))) aNil))))) (oE (eSl (oVar 3) (pSome (eVar 4)) pNone)))) sSkip) sSkip) (sSeq (sRet (eFrz (fLst (aCons (eVar 3) (aCons (eBin opAdd (oE (eSl (oVar 3) pNone (pSome (eVar 4)))) (oE (eSl (oVar 3) (pSome (eBin opAdd (oVar 4) (oE (eCon (.int 1))))) pNone))) (aCons (eVar 6) (aCons (eRevT (oVar 3)) (aCons (eVar 3) aNil)))))))) sSkip)))))))
def b__law_needs : MS := (sSeq (sAsg 3 (eBin opIx (oE (eBin opIx (oVar 1) (oE (eCon (.int 0))))) (oVar 2))) (sSeq (sAsg 4 (eFrz (fComp (eBin opIx (oVar 1) (oE (eCon (.int 1)))) [5] (.one 5) (mAnd (mBool (eBin opEq (oE (eBin opIx (oVar 5) (oE (eCon (.int 0))))) (oE (eCon (.str "wrapped"))))) (mBool (eBin opEq (oE (eBin opIx (oVar 5) (oE (eCon (.int 3))))) (oVar 2)))) (eBin opIx (oVar 5) (oE (eCon (.int 1))))))) (sSeq (sIf (mBool (eBin opEq (oE (eBin opIx (oVar 3) (oE (eCon (.int 0))))) (oE (eCon (.str "agreed"))))) (sSeq (sRet (eBin opAdd (oVar 4) (oE (eFrz (fLst (aCons (eBin opIx (oVar 3) (oE (eCon (.int 1)))) (aCons (eBin opIx (oVar 3) (oE (eCon (.int 2)))) aNil))))))) sSkip) sSkip) (sSeq (sIf (mBool (eBin opEq (oE (eBin opIx (oVar 3) (oE (eCon (.int 0))))) (oE (eCon (.str "derived"))))) (sSeq (sRet (eBin opAdd (oVar 4) (oE (eFrz (fLst (aCons (eBin opIx (oVar 3) (oE (eCon (.int 1)))) aNil)))))) sSkip) sSkip) (sSeq (sIf (mBool (eBin opEq (oE (eBin opIx (oVar 3) (oE (eCon (.int 0))))) (oE (eCon (.str "mixed"))))) (sSeq (sRet (eBin opAdd (oVar 4) (oE (eFrz (fLst (aCons (eBin opIx (oVar 3) (oE (eBin opAdd (oE (eCon (.int 1))) (oE (eCall "_law_draw" (aCons (eVar 0) (aCons (eCon (.int 2)) aNil))))))) aNil)))))) sSkip) sSkip) (sSeq (sRet (eVar 4)) sSkip))))))
def b__law_grown : MS := (sSeq (sOwn 3 (fLst (aCons (eVar 2) aNil))) (sSeq (sOwn 4 (fLst aNil)) (sSeq (sForR asR1 (aCons (eBi biLen (osCons (oE (eBin opIx (oVar 1) (oE (eCon (.int 0))))) osNil)) aNil) (.one 5) (sSeq (sIf (mBool (eBin opEq (oE (eBi biLen (osCons (oVar 3) osNil))) (oE (eCon (.int 0))))) (sSeq sBreak sSkip) sSkip) (sSeq (sAsg 6 (ePop (oVar 3))) (sSeq (sExpr (eApp (oVar 4) (eVar 6))) (sSeq (sOwn 3 (fCat (oVar 3) (oE (eFrz (fComp (eCall "_law_needs" (aCons (eVar 0) (aCons (eVar 1) (aCons (eVar 6) aNil)))) [7] (.one 7) (mAnd (mBool (eBin opNotIn (oVar 7) (oVar 4))) (mBool (eBin opNotIn (oVar 7) (oVar 3)))) (eVar 7)))))) sSkip))))) (sSeq (sRet (eVar 4)) sSkip))))
def b__law_made : MS := (sSeq (sIf (mBool (eBin opEq (oE (eBin opIx (oVar 1) (oE (eCon (.int 0))))) (oE (eCon (.str "generate"))))) (sSeq (sRet (eCall "generate" (aCons (eVar 0) aNil))) sSkip) sSkip) (sSeq (sIf (mBool (eBin opEq (oE (eBin opIx (oVar 1) (oE (eCon (.int 0))))) (oE (eCon (.str "plain"))))) (sSeq (sRet (eCall "plain" (aCons (eVar 0) (aCons (eBin opIx (oVar 1) (oE (eCon (.int 1)))) aNil)))) sSkip) sSkip) (sSeq (sIf (mBool (eBin opEq (oE (eBin opIx (oVar 1) (oE (eCon (.int 0))))) (oE (eCon (.str "agree"))))) (sSeq (sRet (eCall "agree" (aCons (eVar 0) (aCons (eBin opIx (oVar 1) (oE (eCon (.int 1)))) (aCons (eBin opIx (oVar 1) (oE (eCon (.int 2)))) aNil))))) sSkip) sSkip) (sSeq (sIf (mBool (eBin opEq (oE (eBin opIx (oVar 1) (oE (eCon (.int 0))))) (oE (eCon (.str "derive"))))) (sSeq (sRet (eCall "derive" (aCons (eVar 0) (aCons (eBin opIx (oVar 1) (oE (eCon (.int 1)))) (aCons (eBin opIx (oVar 1) (oE (eCon (.int 2)))) (aCons (eBin opIx (oVar 1) (oE (eCon (.int 3)))) aNil)))))) sSkip) sSkip) (sSeq (sIf (mBool (eBin opEq (oE (eBin opIx (oVar 1) (oE (eCon (.int 0))))) (oE (eCon (.str "mix"))))) (sSeq (sRet (eCall "mix" (aCons (eVar 0) (aCons (eBin opIx (oVar 1) (oE (eCon (.int 1)))) (aCons (eBin opIx (oVar 1) (oE (eCon (.int 2)))) aNil))))) sSkip) sSkip) (sSeq (sIf (mBool (eBin opEq (oE (eBin opIx (oVar 1) (oE (eCon (.int 0))))) (oE (eCon (.str "draw"))))) (sSeq (sRet (eCall "draw" (aCons (eVar 0) aNil))) sSkip) sSkip) (sSeq (sIf (mBool (eBin opEq (oE (eBin opIx (oVar 1) (oE (eCon (.int 0))))) (oE (eCon (.str "sign"))))) (sSeq (sRet (eCall "sign" (aCons (eVar 0) (aCons (eBin opIx (oVar 1) (oE (eCon (.int 1)))) (aCons (eBin opIx (oVar 1) (oE (eCon (.int 2)))) aNil))))) sSkip) sSkip) (sSeq (sIf (mBool (eBin opEq (oE (eBin opIx (oVar 1) (oE (eCon (.int 0))))) (oE (eCon (.str "tag"))))) (sSeq (sRet (eCall "tag" (aCons (eVar 0) (aCons (eBin opIx (oVar 1) (oE (eCon (.int 1)))) (aCons (eBin opIx (oVar 1) (oE (eCon (.int 2)))) aNil))))) sSkip) sSkip) (sSeq (sIf (mBool (eBin opEq (oE (eBin opIx (oVar 1) (oE (eCon (.int 0))))) (oE (eCon (.str "seal"))))) (sSeq (sRet (eCall "seal" (aCons (eVar 0) (aCons (eBin opIx (oVar 1) (oE (eCon (.int 1)))) (aCons (eBin opIx (oVar 1) (oE (eCon (.int 2)))) (aCons (eBin opIx (oVar 1) (oE (eCon (.int 3)))) (aCons (eBin opIx (oVar 1) (oE (eCon (.int 4)))) aNil))))))) sSkip) sSkip) (sSeq (sRet (eCall "wrap" (aCons (eVar 0) (aCons (eBin opIx (oVar 1) (oE (eCon (.int 1)))) (aCons (eBin opIx (oVar 1) (oE (eCon (.int 2)))) (aCons (eBin opIx (oVar 1) (oE (eCon (.int 3)))) (aCons (eBin opIx (oVar 1) (oE (eCon (.int 4)))) aNil))))))) sSkip))))))))))
def b__law_noted : MS := (sSeq (sIf (mBool (eBin opEq (oE (eBin opIx (oVar 3) (oE (eCon (.int 0))))) (oE (eCon (.str "wrap"))))) (sSeq (sAsg 4 (eCall "_law_levels" (aCons (eVar 0) (aCons (eVar 1) aNil)))) (sSeq (sIf (mAnd (mBool (eBin opIsN (oE (eBin opIx (oVar 4) (oE (eBin opIx (oVar 3) (oE (eCon (.int 1))))))) (oE (eCon .non)))) (mBool (eBin opIs (oE (eBin opIx (oVar 4) (oE (eBin opIx (oVar 3) (oE (eCon (.int 3))))))) (oE (eCon .non))))) (sSeq (sSet (oVar 2) (eCon (.str "revealed")) (eCon (.bl true))) sSkip) sSkip) (sSeq (sForR asR1 (aCons (eCon (.int 2)) aNil) (.one 5) (sSeq (sIf (mAnd (mBool (eBin opIn (oE (eBin opIx (oVar 3) (oE (eCon (.int 3))))) (oE (eBin opIx (oE (eBin opIx (oVar 2) (oE (eCon (.str "shields"))))) (oVar 5))))) (mBool (eBin opNotIn (oE (eBin opIx (oVar 3) (oE (eCon (.int 1))))) (oE (eBin opIx (oE (eBin opIx (oVar 2) (oE (eCon (.str "shields"))))) (oVar 5)))))) (sSeq (sSet (oE (eBin opIx (oVar 2) (oE (eCon (.str "broken"))))) (eVar 5) (eCon (.bl true))) sSkip) sSkip) sSkip)) sSkip))) sSkip) (sSeq (sRet (eCallT "_law_deed" (aCons (eVar 0) (aCons (eVar 3) aNil)))) sSkip))
def b__law_plain_deed : MS := (sSeq (sAsg 5 (eCall "_law_some_deed" (aCons (eVar 0) (aCons (eVar 1) (aCons (eVar 4) aNil))))) (sSeq (sAsg 6 (eCall "_law_noted" (aCons (eVar 1) (aCons (eBin opIx (oVar 3) (oE (eCon (.str "held")))) (aCons (eVar 3) (aCons (eVar 5) aNil)))))) (sSeq (sRet (eCall "_law_gives" (aCons (eCall "_law_made" (aCons (eVar 2) (aCons (eVar 5) aNil))) (aCons (eCall "_law_vault_of" (aCons (eVar 1) aNil)) (aCons (eVar 6) aNil))))) sSkip)))
def b__law_issued : MS := (sSeq (sAsg 3 (eCall "_law_some_pair" (aCons (eVar 0) (aCons (eVar 1) aNil)))) (sSeq (sAsg 4 (eTup (aCons (eCon (.str "shop")) (aCons (eCall "_law_some_public" (aCons (eVar 0) (aCons (eVar 1) aNil))) (aCons (eCon (.str "ca")) (aCons (eCall "_law_draw" (aCons (eVar 0) (aCons (eCon (.int 9)) aNil))) (aCons (eCall "_law_draw" (aCons (eVar 0) (aCons (eCon (.int 1000001)) aNil))) (aCons (eCall "_law_draw" (aCons (eVar 0) (aCons (eCon (.int 2)) aNil))) aNil)))))))) (sSeq (sAsg 5 (eCallT "_law_deed" (aCons (eVar 1) (aCons (eTup (aCons (eCon (.str "sign")) (aCons (eVar 3) (aCons (eBin opAdd (oE (eTup (aCons (eCon (.str "certificate")) aNil))) (oVar 4)) aNil)))) aNil)))) (sSeq (sAsg 6 (eCall "issue" (aCons (eVar 2) (aCons (eVar 3) (aCons (eBin opIx (oVar 4) (oE (eCon (.int 2)))) (aCons (eBin opIx (oVar 4) (oE (eCon (.int 0)))) (aCons (eBin opIx (oVar 4) (oE (eCon (.int 1)))) (aCons (eBin opIx (oVar 4) (oE (eCon (.int 3)))) (aCons (eBin opIx (oVar 4) (oE (eCon (.int 4)))) (aCons (eBin opIx (oVar 4) (oE (eCon (.int 5)))) aNil)))))))))) (sSeq (sRet (eCall "_law_gives" (aCons (eVar 6) (aCons (eCall "_law_vault_of" (aCons (eVar 1) aNil)) (aCons (eBin opAdd (oVar 4) (oE (eTup (aCons (eVar 5) aNil)))) aNil))))) sSkip)))))
def b__law_ring_deed : MS := (sSeq (sAsg 4 (eCall "_law_draw" (aCons (eVar 0) (aCons (eCon (.int 3)) aNil)))) (sSeq (sIf (mBool (eBin opEq (oE (eBi biLen (osCons (oE (eBin opIx (oVar 3) (oE (eCon (.str "rings"))))) osNil))) (oE (eCon (.int 0))))) (sSeq (sAsg 5 (eBin opAdd (oE (eCon (.int 1))) (oE (eCall "_law_draw" (aCons (eVar 0) (aCons (eCon (.int 4)) aNil)))))) (sSeq (sAsg 6 (eTup (aCons (eTup (aCons (eCallT "_law_deed" (aCons (eVar 1) (aCons (eTup (aCons (eCon (.str "generate")) aNil)) aNil))) aNil)) (aCons (eVar 5) aNil)))) (sSeq (sExpr (eApp (oE (eBin opIx (oVar 3) (oE (eCon (.str "rings"))))) (eVar 6))) (sSeq (sRet (eCall "_law_gives" (aCons (eCall "new_ring" (aCons (eVar 2) (aCons (eVar 5) aNil))) (aCons (eCall "_law_vault_of" (aCons (eVar 1) aNil)) (aCons (eVar 6) aNil))))) sSkip)))) sSkip) (sSeq (sAsg 7 (eBin opIx (oE (eBin opIx (oVar 3) (oE (eCon (.str "rings"))))) (oE (eNeg (oE (eCon (.int 1))))))) (sSeq (sIf (mBool (eBin opEq (oVar 4) (oE (eCon (.int 0))))) (sSeq (sAsg 6 (eTup (aCons (eSl (oE (eBin opAdd (oE (eTup (aCons (eCallT "_law_deed" (aCons (eVar 1) (aCons (eTup (aCons (eCon (.str "generate")) aNil)) aNil))) aNil))) (oE (eBin opIx (oVar 7) (oE (eCon (.int 0))))))) pNone (pSome (eBin opIx (oVar 7) (oE (eCon (.int 1)))))) (aCons (eBin opIx (oVar 7) (oE (eCon (.int 1)))) aNil)))) (sSeq (sExpr (eApp (oE (eBin opIx (oVar 3) (oE (eCon (.str "rings"))))) (eVar 6))) (sSeq (sRet (eCall "_law_gives" (aCons (eCall "rotate" (aCons (eVar 2) (aCons (eVar 7) aNil))) (aCons (eCall "_law_vault_of" (aCons (eVar 1) aNil)) (aCons (eVar 6) aNil))))) sSkip))) sSkip) (sSeq (sAsg 8 (eCall "_law_some_secret" (aCons (eVar 0) (aCons (eVar 1) aNil)))) (sSeq (sAsg 9 (eTup (aCons (eCon (.str "shop")) (aCons (eCall "_law_draw" (aCons (eVar 0) (aCons (eCon (.int 1000001)) aNil))) (aCons (eCon (.int 7)) (aCons (eCall "_law_draw" (aCons (eVar 0) (aCons (eCon (.int 2)) aNil))) (aCons (eTup aNil) aNil))))))) (sSeq (sAsg 10 (eCall "_law_noted" (aCons (eVar 1) (aCons (eBin opIx (oVar 3) (oE (eCon (.str "held")))) (aCons (eVar 3) (aCons (eTup (aCons (eCon (.str "wrap")) (aCons (eBin opIx (oE (eBin opIx (oVar 7) (oE (eCon (.int 0))))) (oE (eCon (.int 0)))) (aCons (eTup (aCons (eCon (.str "ticket")) aNil)) (aCons (eVar 8) (aCons (eVar 9) aNil)))))) aNil)))))) (sSeq (sRet (eCall "_law_gives" (aCons (eCall "make_ticket" (aCons (eVar 2) (aCons (eVar 7) (aCons (eVar 8) (aCons (eVar 9) aNil))))) (aCons (eCall "_law_vault_of" (aCons (eVar 1) aNil)) (aCons (eVar 10) aNil))))) sSkip))))))))
def b__law_asked : MS := (sSeq (sAsg 4 (eCall "_law_vault_of" (aCons (eVar 1) aNil))) (sSeq (sAsg 5 (eBin opIx (oVar 2) (oE (eCon (.str "held"))))) (sSeq (sAsg 6 (eCall "_law_draw" (aCons (eVar 0) (aCons (eBi biLen (osCons (oE (eBin opIx (oVar 1) (oE (eCon (.int 0))))) osNil)) aNil)))) (sSeq (sAsg 7 (eBin opAdd (oVar 5) (oE (eBi biTuple (osCons (oE (eFrz (fCompR asR1 (aCons (eBi biInt (osCons (oE (eBin opNotIn (oVar 6) (oVar 5))) osNil)) aNil) [8] (.one 8) mTrue (eVar 6)))) osNil))))) (sSeq (sForV (eVar 3) (.one 8) (sSeq (sIf (mBool (eBin opEq (oVar 8) (oE (eCon (.int 0))))) (sSeq (sAsg 9 (eCall "known" (aCons (eVar 4) (aCons (eVar 5) aNil)))) (sSeq (sAsg 10 (eCall "_law_levels" (aCons (eVar 4) (aCons (eVar 5) aNil)))) (sSeq (sIf (mNot (mTru (oE (eCall "_law_same" (aCons (eVar 9) (aCons (eBi biTuple (osCons (oE (eFrz (fCompR asR1 (aCons (eBi biLen (osCons (oVar 10) osNil)) aNil) [14] (.one 14) (mBool (eBin opIsN (oE (eBin opIx (oVar 10) (oVar 14))) (oE (eCon .non)))) (eVar 14)))) osNil)) aNil)))))) (sSeq (sRet (eCon (.bl false))) sSkip) sSkip) (sSeq (sIf (mAnd (mNot (mTru (oE (eBin opIx (oVar 2) (oE (eCon (.str "revealed"))))))) (mBool (eBin opNe (oE (eFrz (fComp (eVar 9) [14] (.one 14) (mBool (eBin opLt (oVar 14) (oE (eBin opIx (oVar 2) (oE (eCon (.str "many"))))))) (eVar 14)))) (oE (eBin opIx (oVar 2) (oE (eCon (.str "old")))))))) (sSeq (sRet (eCon (.bl false))) sSkip) sSkip) sSkip)))) sSkip) (sSeq (sIf (mBool (eBin opEq (oVar 8) (oE (eCon (.int 1))))) (sSeq (sAsg 10 (eCall "_law_levels" (aCons (eVar 4) (aCons (eVar 7) aNil)))) (sSeq (sAsg 11 (eBi biTuple (osCons (oE (eFrz (fCompR asR1 (aCons (eBi biLen (osCons (oVar 10) osNil)) aNil) [14] (.one 14) (mBool (eBin opIsN (oE (eBin opIx (oVar 10) (oVar 14))) (oE (eCon .non)))) (eVar 14)))) osNil))) (sSeq (sIf (mNot (mTru (oE (eCall "_law_same" (aCons (eCall "known" (aCons (eVar 4) (aCons (eVar 7) aNil))) (aCons (eVar 11) aNil)))))) (sSeq (sRet (eCon (.bl false))) sSkip) sSkip) sSkip))) sSkip) (sSeq (sIf (mBool (eBin opGt (oVar 8) (oE (eCon (.int 1))))) (sSeq (sAsg 12 (eBin opIx (oE (eBin opIx (oVar 2) (oE (eCon (.str "shields"))))) (oE (eBin opSub (oVar 8) (oE (eCon (.int 2))))))) (sSeq (sAsg 13 (eNot (eBin opIx (oE (eBin opIx (oVar 2) (oE (eCon (.str "broken"))))) (oE (eBin opSub (oVar 8) (oE (eCon (.int 2)))))))) (sSeq (sIf (mNot (mTru (oE (eCall "_law_same" (aCons (eCall "is_shield" (aCons (eVar 4) (aCons (eVar 5) (aCons (eVar 12) aNil)))) (aCons (eVar 13) aNil)))))) (sSeq (sRet (eCon (.bl false))) sSkip) sSkip) (sSeq (sIf (mNot (mTru (oE (eCall "_law_same" (aCons (eCall "is_shield" (aCons (eVar 4) (aCons (eVar 7) (aCons (eVar 12) aNil)))) (aCons (eAnd (eVar 13) (eBin opNotIn (oVar 6) (oVar 12))) aNil)))))) (sSeq (sRet (eCon (.bl false))) sSkip) sSkip) sSkip)))) sSkip) sSkip)))) (sSeq (sRet (eCon (.bl true))) sSkip))))))
def b_law : MS := (sSeq (sAsg 1 (eCall "_law_tape" (aCons (eVar 0) aNil))) (sSeq (sUnp [2, 3] (eCall "_law_web" (aCons (eVar 1) aNil))) (sSeq (sAsg 4 (eBin opIx (oE (eCall "_law_holders" (aCons (eVar 1) (aCons (eBi biLen (osCons (oE (eBin opIx (oVar 2) (oE (eCon (.int 0))))) osNil)) (aCons (eVar 3) aNil))))) (oE (eCon (.int 0))))) (sSeq (sAsg 5 (eCall "_law_levels" (aCons (eVar 2) (aCons (eVar 4) aNil)))) (sSeq (sAsg 6 (eFrz (fCompR asR1 (aCons (eBi biLen (osCons (oVar 5) osNil)) aNil) [13] (.one 13) (mBool (eBin opIs (oE (eBin opIx (oVar 5) (oVar 13))) (oE (eCon .non)))) (eVar 13)))) (sSeq (sAsg 7 (eTup aNil)) (sSeq (sIf (mBool (eBin opGt (oE (eBi biLen (osCons (oVar 6) osNil))) (oE (eCon (.int 0))))) (sSeq (sAsg 7 (eBi biTuple (osCons (oE (eFrz (fSS (oE (eCall "_law_grown" (aCons (eVar 1) (aCons (eVar 2) (aCons (eCall "_law_pick" (aCons (eVar 1) (aCons (eVar 6) aNil))) aNil)))))))) osNil))) (sSeq (sIf (mNot (mTru (oE (eCall "_law_bars" (aCons (eVar 2) (aCons (eVar 4) (aCons (eVar 7) aNil))))))) (sSeq (sAsg 7 (eTup aNil)) sSkip) sSkip) sSkip)) sSkip) (sSeq (sAsg 8 (eDic ["held", "many", "revealed", "broken", "rings"] (aCons (eVar 4) (aCons (eBi biLen (osCons (oVar 5) osNil)) (aCons (eCon (.bl false)) (aCons (eLay (fLst (aCons (eCon (.bl false)) (aCons (eCon (.bl false)) aNil)))) (aCons (eLay (fLst aNil)) aNil))))))) (sSeq (sSet (oVar 8) (eCon (.str "old")) (eFrz (fCompR asR1 (aCons (eBi biLen (osCons (oVar 5) osNil)) aNil) [13] (.one 13) (mBool (eBin opIsN (oE (eBin opIx (oVar 5) (oVar 13))) (oE (eCon .non)))) (eVar 13)))) (sSeq (sSet (oVar 8) (eCon (.str "shields")) (eFrz (fLst (aCons (eBi biTuple (osCons (oVar 6) osNil)) (aCons (eVar 7) aNil))))) (sSeq (sAsg 9 (eCall "_law_vault_of" (aCons (eVar 2) aNil))) (sSeq (sAsg 10 (eVar 9)) (sSeq (sAsg 11 (eFrz (fLst (aCons (eCon (.str "generate")) (aCons (eCon (.str "plain")) (aCons (eCon (.str "agree")) (aCons (eCon (.str "derive")) (aCons (eCon (.str "mix")) (aCons (eCon (.str "draw")) (aCons (eCon (.str "sign")) (aCons (eCon (.str "tag")) (aCons (eCon (.str "seal")) aNil)))))))))))) (sSeq (sAsg 12 (eCall "_law_draw" (aCons (eVar 1) (aCons (eCon (.int 18)) aNil)))) (sSeq (sForR asR1 (aCons (eBin opAdd (oE (eCon (.int 6))) (oE (eCall "_law_draw" (aCons (eVar 1) (aCons (eCon (.int 7)) aNil))))) aNil) (.one 13) (sSeq (sAsg 14 (eCall "_law_draw" (aCons (eVar 1) (aCons (eCon (.int 6)) aNil)))) (sSeq (sIf (mBool (eBin opLt (oVar 14) (oE (eCon (.int 2))))) (sSeq (sAsg 15 (eCall "_law_plain_deed" (aCons (eVar 1) (aCons (eVar 2) (aCons (eVar 10) (aCons (eVar 8) (aCons (eCon (.str "wrap")) aNil))))))) sSkip) (sSeq (sIf (mBool (eBin opEq (oVar 14) (oE (eCon (.int 2))))) (sSeq (sAsg 15 (eCall "_law_issued" (aCons (eVar 1) (aCons (eVar 2) (aCons (eVar 10) aNil))))) sSkip) (sSeq (sIf (mBool (eBin opEq (oVar 14) (oE (eCon (.int 3))))) (sSeq (sAsg 15 (eCall "_law_ring_deed" (aCons (eVar 1) (aCons (eVar 2) (aCons (eVar 10) (aCons (eVar 8) aNil)))))) sSkip) (sSeq (sAsg 15 (eCall "_law_plain_deed" (aCons (eVar 1) (aCons (eVar 2) (aCons (eVar 10) (aCons (eVar 8) (aCons (eCall "_law_pick" (aCons (eVar 1) (aCons (eVar 11) aNil))) aNil))))))) sSkip)) sSkip)) sSkip)) (sSeq (sIf (mOr (mNot (mTru (oVar 15))) (mAnd (mBool (eBin opEq (oVar 13) (oVar 12))) (mNot (mTru (oE (eCall "_law_asked" (aCons (eVar 1) (aCons (eVar 2) (aCons (eVar 8) (aCons (eCall "_law_turns" (aCons (eVar 1) (aCons (eCon (.int 4)) aNil))) aNil)))))))))) (sSeq (sRet (eCon (.bl false))) sSkip) sSkip) (sSeq (sAsg 10 (eCall "_law_vault_of" (aCons (eVar 2) aNil))) sSkip))))) (sSeq (sIf (mNot (mTru (oE (eCall "_law_asked" (aCons (eVar 1) (aCons (eVar 2) (aCons (eVar 8) (aCons (eCall "_law_turns" (aCons (eVar 1) (aCons (eCon (.int 4)) aNil))) aNil)))))))) (sSeq (sRet (eCon (.bl false))) sSkip) sSkip) (sSeq (sRet (eAnd (eCall "_law_same" (aCons (eCall "known" (aCons (eVar 9) (aCons (eVar 4) aNil))) (aCons (eBi biTuple (osCons (oE (eBin opIx (oVar 8) (oE (eCon (.str "old"))))) osNil)) aNil))) (eCall "_law_same" (aCons (eCall "is_shield" (aCons (eVar 9) (aCons (eVar 4) (aCons (eBin opIx (oE (eBin opIx (oVar 8) (oE (eCon (.str "shields"))))) (oE (eCon (.int 0)))) aNil)))) (aCons (eCon (.bl true)) aNil))))) sSkip)))))))))))))))))
theorem c_size_of : cB W 60 (D_size_of.cc defs consts) D_size_of.body = some b_size_of := by kernel_rfl
theorem c_with_secret : cB W 60 (D_with_secret.cc defs consts) D_with_secret.body = some b_with_secret := by kernel_rfl
theorem c_with_entry : cB W 60 (D_with_entry.cc defs consts) D_with_entry.body = some b_with_entry := by kernel_rfl
theorem c_row_of : cB W 60 (D_row_of.cc defs consts) D_row_of.body = some b_row_of := by kernel_rfl
theorem c_pair_of : cB W 60 (D_pair_of.cc defs consts) D_pair_of.body = some b_pair_of := by kernel_rfl
theorem c_generate : cB W 60 (D_generate.cc defs consts) D_generate.body = some b_generate := by kernel_rfl
theorem c_plain : cB W 60 (D_plain.cc defs consts) D_plain.body = some b_plain := by kernel_rfl
theorem c_agree : cB W 60 (D_agree.cc defs consts) D_agree.body = some b_agree := by kernel_rfl
theorem c_derive : cB W 60 (D_derive.cc defs consts) D_derive.body = some b_derive := by kernel_rfl
theorem c_mix : cB W 60 (D_mix.cc defs consts) D_mix.body = some b_mix := by kernel_rfl
theorem c_draw : cB W 60 (D_draw.cc defs consts) D_draw.body = some b_draw := by kernel_rfl
theorem c_sign : cB W 60 (D_sign.cc defs consts) D_sign.body = some b_sign := by kernel_rfl
theorem c_tag : cB W 60 (D_tag.cc defs consts) D_tag.body = some b_tag := by kernel_rfl
theorem c_seal : cB W 60 (D_seal.cc defs consts) D_seal.body = some b_seal := by kernel_rfl
theorem c_wrap : cB W 60 (D_wrap.cc defs consts) D_wrap.body = some b_wrap := by kernel_rfl
theorem c_follows : cB W 60 (D_follows.cc defs consts) D_follows.body = some b_follows := by kernel_rfl
theorem c_wraps_of : cB W 60 (D_wraps_of.cc defs consts) D_wraps_of.body = some b_wraps_of := by kernel_rfl
theorem c_known_flags : cB W 60 (D_known_flags.cc defs consts) D_known_flags.body = some b_known_flags := by kernel_rfl
theorem c_known : cB W 60 (D_known.cc defs consts) D_known.body = some b_known := by kernel_rfl
theorem c_is_shield : cB W 60 (D_is_shield.cc defs consts) D_is_shield.body = some b_is_shield := by kernel_rfl
theorem c_signed_part : cB W 60 (D_signed_part.cc defs consts) D_signed_part.body = some b_signed_part := by kernel_rfl
theorem c_issue : cB W 60 (D_issue.cc defs consts) D_issue.body = some b_issue := by kernel_rfl
theorem c_rotate : cB W 60 (D_rotate.cc defs consts) D_rotate.body = some b_rotate := by kernel_rfl
theorem c_new_ring : cB W 60 (D_new_ring.cc defs consts) D_new_ring.body = some b_new_ring := by kernel_rfl
theorem c_make_ticket : cB W 60 (D_make_ticket.cc defs consts) D_make_ticket.body = some b_make_ticket := by kernel_rfl
theorem c__law_tape : cB W 60 (D__law_tape.cc defs consts) D__law_tape.body = some b__law_tape := by kernel_rfl
theorem c__law_draw : cB W 60 (D__law_draw.cc defs consts) D__law_draw.body = some b__law_draw := by kernel_rfl
theorem c__law_pick : cB W 60 (D__law_pick.cc defs consts) D__law_pick.body = some b__law_pick := by kernel_rfl
theorem c__law_turns : cB W 60 (D__law_turns.cc defs consts) D__law_turns.body = some b__law_turns := by kernel_rfl
theorem c__law_same : cB W 60 (D__law_same.cc defs consts) D__law_same.body = some b__law_same := by kernel_rfl
theorem c__law_number : cB W 60 (D__law_number.cc defs consts) D__law_number.body = some b__law_number := by kernel_rfl
theorem c__law_text : cB W 60 (D__law_text.cc defs consts) D__law_text.body = some b__law_text := by kernel_rfl
theorem c__law_leaf : cB W 60 (D__law_leaf.cc defs consts) D__law_leaf.body = some b__law_leaf := by kernel_rfl
theorem c__law_datum : cB W 60 (D__law_datum.cc defs consts) D__law_datum.body = some b__law_datum := by kernel_rfl
theorem c__law_size : cB W 60 (D__law_size.cc defs consts) D__law_size.body = some b__law_size := by kernel_rfl
theorem c__law_place : cB W 60 (D__law_place.cc defs consts) D__law_place.body = some b__law_place := by kernel_rfl
theorem c__law_is_key : cB W 60 (D__law_is_key.cc defs consts) D__law_is_key.body = some b__law_is_key := by kernel_rfl
theorem c__law_deed : cB W 60 (D__law_deed.cc defs consts) D__law_deed.body = some b__law_deed := by kernel_rfl
theorem c__law_vault_of : cB W 60 (D__law_vault_of.cc defs consts) D__law_vault_of.body = some b__law_vault_of := by kernel_rfl
theorem c__law_gives : cB W 60 (D__law_gives.cc defs consts) D__law_gives.body = some b__law_gives := by kernel_rfl
theorem c__law_label : cB W 60 (D__law_label.cc defs consts) D__law_label.body = some b__law_label := by kernel_rfl
theorem c__law_some_datum : cB W 60 (D__law_some_datum.cc defs consts) D__law_some_datum.body = some b__law_some_datum := by kernel_rfl
theorem c__law_some_secret : cB W 60 (D__law_some_secret.cc defs consts) D__law_some_secret.body = some b__law_some_secret := by kernel_rfl
theorem c__law_some_pair : cB W 60 (D__law_some_pair.cc defs consts) D__law_some_pair.body = some b__law_some_pair := by kernel_rfl
theorem c__law_some_public : cB W 60 (D__law_some_public.cc defs consts) D__law_some_public.body = some b__law_some_public := by kernel_rfl
theorem c__law_some_deed : cB W 60 (D__law_some_deed.cc defs consts) D__law_some_deed.body = some b__law_some_deed := by kernel_rfl
theorem c__law_model : cB W 60 (D__law_model.cc defs consts) D__law_model.body = some b__law_model := by kernel_rfl
theorem c__law_held : cB W 60 (D__law_held.cc defs consts) D__law_held.body = some b__law_held := by kernel_rfl
theorem c__law_fires : cB W 60 (D__law_fires.cc defs consts) D__law_fires.body = some b__law_fires := by kernel_rfl
theorem c__law_levels : cB W 60 (D__law_levels.cc defs consts) D__law_levels.body = some b__law_levels := by kernel_rfl
theorem c__law_bars : cB W 60 (D__law_bars.cc defs consts) D__law_bars.body = some b__law_bars := by kernel_rfl
theorem c__law_ladder : cB W 60 (D__law_ladder.cc defs consts) D__law_ladder.body = some b__law_ladder := by kernel_rfl
theorem c__law_web : cB W 60 (D__law_web.cc defs consts) D__law_web.body = some b__law_web := by kernel_rfl
theorem c__law_holders : cB W 60 (D__law_holders.cc defs consts) D__law_holders.body = some b__law_holders := by kernel_rfl
theorem c__law_needs : cB W 60 (D__law_needs.cc defs consts) D__law_needs.body = some b__law_needs := by kernel_rfl
theorem c__law_grown : cB W 60 (D__law_grown.cc defs consts) D__law_grown.body = some b__law_grown := by kernel_rfl
theorem c__law_made : cB W 60 (D__law_made.cc defs consts) D__law_made.body = some b__law_made := by kernel_rfl
theorem c__law_noted : cB W 60 (D__law_noted.cc defs consts) D__law_noted.body = some b__law_noted := by kernel_rfl
theorem c__law_plain_deed : cB W 60 (D__law_plain_deed.cc defs consts) D__law_plain_deed.body = some b__law_plain_deed := by kernel_rfl
theorem c__law_issued : cB W 60 (D__law_issued.cc defs consts) D__law_issued.body = some b__law_issued := by kernel_rfl
theorem c__law_ring_deed : cB W 60 (D__law_ring_deed.cc defs consts) D__law_ring_deed.body = some b__law_ring_deed := by kernel_rfl
theorem c__law_asked : cB W 60 (D__law_asked.cc defs consts) D__law_asked.body = some b__law_asked := by kernel_rfl
theorem c_law : cB W 60 (D_law.cc defs consts) D_law.body = some b_law := by kernel_rfl
abbrev T : List (Str × DfE) := [(("size_of" : Str), ⟨1, 2, b_size_of⟩), (("with_secret" : Str), ⟨2, 4, b_with_secret⟩), (("with_entry" : Str), ⟨2, 4, b_with_entry⟩), (("row_of" : Str), ⟨3, 4, b_row_of⟩), (("pair_of" : Str), ⟨2, 3, b_pair_of⟩), (("generate" : Str), ⟨1, 4, b_generate⟩), (("plain" : Str), ⟨2, 2, b_plain⟩), (("agree" : Str), ⟨3, 4, b_agree⟩), (("derive" : Str), ⟨4, 4, b_derive⟩), (("mix" : Str), ⟨3, 3, b_mix⟩), (("draw" : Str), ⟨1, 1, b_draw⟩), (("sign" : Str), ⟨3, 3, b_sign⟩), (("tag" : Str), ⟨3, 3, b_tag⟩), (("seal" : Str), ⟨5, 7, b_seal⟩), (("wrap" : Str), ⟨5, 5, b_wrap⟩), (("follows" : Str), ⟨2, 3, b_follows⟩), (("wraps_of" : Str), ⟨1, 2, b_wraps_of⟩), (("known_flags" : Str), ⟨2, 9, b_known_flags⟩), (("known" : Str), ⟨2, 4, b_known⟩), (("is_shield" : Str), ⟨3, 7, b_is_shield⟩), (("signed_part" : Str), ⟨1, 1, b_signed_part⟩), (("issue" : Str), ⟨8, 10, b_issue⟩), (("rotate" : Str), ⟨2, 5, b_rotate⟩), (("new_ring" : Str), ⟨2, 2, b_new_ring⟩), (("make_ticket" : Str), ⟨4, 4, b_make_ticket⟩), (("_law_tape" : Str), ⟨1, 3, b__law_tape⟩), (("_law_draw" : Str), ⟨2, 4, b__law_draw⟩), (("_law_pick" : Str), ⟨2, 2, b__law_pick⟩), (("_law_turns" : Str), ⟨2, 5, b__law_turns⟩), (("_law_same" : Str), ⟨2, 3, b__law_same⟩), (("_law_number" : Str), ⟨1, 2, b__law_number⟩), (("_law_text" : Str), ⟨2, 4, b__law_text⟩), (("_law_leaf" : Str), ⟨1, 2, b__law_leaf⟩), (("_law_datum" : Str), ⟨3, 9, b__law_datum⟩), (("_law_size" : Str), ⟨1, 2, b__law_size⟩), (("_law_place" : Str), ⟨2, 2, b__law_place⟩), (("_law_is_key" : Str), ⟨2, 2, b__law_is_key⟩), (("_law_deed" : Str), ⟨2, 5, b__law_deed⟩), (("_law_vault_of" : Str), ⟨1, 1, b__law_vault_of⟩), (("_law_gives" : Str), ⟨3, 3, b__law_gives⟩), (("_law_label" : Str), ⟨1, 1, b__law_label⟩), (("_law_some_datum" : Str), ⟨1, 1, b__law_some_datum⟩), (("_law_some_secret" : Str), ⟨2, 3, b__law_some_secret⟩), (("_law_some_pair" : Str), ⟨2, 3, b__law_some_pair⟩), (("_law_some_public" : Str), ⟨2, 2, b__law_some_public⟩), (("_law_some_deed" : Str), ⟨3, 4, b__law_some_deed⟩), (("_law_model" : Str), ⟨2, 5, b__law_model⟩), (("_law_held" : Str), ⟨3, 6, b__law_held⟩), (("_law_fires" : Str), ⟨2, 2, b__law_fires⟩), (("_law_levels" : Str), ⟨2, 9, b__law_levels⟩), (("_law_bars" : Str), ⟨3, 5, b__law_bars⟩), (("_law_ladder" : Str), ⟨2, 11, b__law_ladder⟩), (("_law_web" : Str), ⟨1, 2, b__law_web⟩), (("_law_holders" : Str), ⟨3, 8, b__law_holders⟩), (("_law_needs" : Str), ⟨3, 6, b__law_needs⟩), (("_law_grown" : Str), ⟨3, 8, b__law_grown⟩), (("_law_made" : Str), ⟨2, 2, b__law_made⟩), (("_law_noted" : Str), ⟨4, 6, b__law_noted⟩), (("_law_plain_deed" : Str), ⟨5, 7, b__law_plain_deed⟩), (("_law_issued" : Str), ⟨3, 7, b__law_issued⟩), (("_law_ring_deed" : Str), ⟨4, 11, b__law_ring_deed⟩), (("_law_asked" : Str), ⟨4, 15, b__law_asked⟩), (("law" : Str), ⟨1, 16, b_law⟩)]
theorem l_size_of (d : Nat) (args : List AV) (S : List SObj) : lvl T (d + 1) "size_of" args S = runD ⟨1, 2, b_size_of⟩ (lvl T d) args S := by rfl
theorem l_with_secret (d : Nat) (args : List AV) (S : List SObj) : lvl T (d + 1) "with_secret" args S = runD ⟨2, 4, b_with_secret⟩ (lvl T d) args S := by rfl
theorem l_with_entry (d : Nat) (args : List AV) (S : List SObj) : lvl T (d + 1) "with_entry" args S = runD ⟨2, 4, b_with_entry⟩ (lvl T d) args S := by rfl
theorem l_row_of (d : Nat) (args : List AV) (S : List SObj) : lvl T (d + 1) "row_of" args S = runD ⟨3, 4, b_row_of⟩ (lvl T d) args S := by rfl
theorem l_pair_of (d : Nat) (args : List AV) (S : List SObj) : lvl T (d + 1) "pair_of" args S = runD ⟨2, 3, b_pair_of⟩ (lvl T d) args S := by rfl
theorem l_generate (d : Nat) (args : List AV) (S : List SObj) : lvl T (d + 1) "generate" args S = runD ⟨1, 4, b_generate⟩ (lvl T d) args S := by rfl
theorem l_plain (d : Nat) (args : List AV) (S : List SObj) : lvl T (d + 1) "plain" args S = runD ⟨2, 2, b_plain⟩ (lvl T d) args S := by rfl
theorem l_agree (d : Nat) (args : List AV) (S : List SObj) : lvl T (d + 1) "agree" args S = runD ⟨3, 4, b_agree⟩ (lvl T d) args S := by rfl
theorem l_derive (d : Nat) (args : List AV) (S : List SObj) : lvl T (d + 1) "derive" args S = runD ⟨4, 4, b_derive⟩ (lvl T d) args S := by rfl
theorem l_mix (d : Nat) (args : List AV) (S : List SObj) : lvl T (d + 1) "mix" args S = runD ⟨3, 3, b_mix⟩ (lvl T d) args S := by rfl
theorem l_draw (d : Nat) (args : List AV) (S : List SObj) : lvl T (d + 1) "draw" args S = runD ⟨1, 1, b_draw⟩ (lvl T d) args S := by rfl
theorem l_sign (d : Nat) (args : List AV) (S : List SObj) : lvl T (d + 1) "sign" args S = runD ⟨3, 3, b_sign⟩ (lvl T d) args S := by rfl
theorem l_tag (d : Nat) (args : List AV) (S : List SObj) : lvl T (d + 1) "tag" args S = runD ⟨3, 3, b_tag⟩ (lvl T d) args S := by rfl
theorem l_seal (d : Nat) (args : List AV) (S : List SObj) : lvl T (d + 1) "seal" args S = runD ⟨5, 7, b_seal⟩ (lvl T d) args S := by rfl
theorem l_wrap (d : Nat) (args : List AV) (S : List SObj) : lvl T (d + 1) "wrap" args S = runD ⟨5, 5, b_wrap⟩ (lvl T d) args S := by rfl
theorem l_follows (d : Nat) (args : List AV) (S : List SObj) : lvl T (d + 1) "follows" args S = runD ⟨2, 3, b_follows⟩ (lvl T d) args S := by rfl
theorem l_wraps_of (d : Nat) (args : List AV) (S : List SObj) : lvl T (d + 1) "wraps_of" args S = runD ⟨1, 2, b_wraps_of⟩ (lvl T d) args S := by rfl
theorem l_known_flags (d : Nat) (args : List AV) (S : List SObj) : lvl T (d + 1) "known_flags" args S = runD ⟨2, 9, b_known_flags⟩ (lvl T d) args S := by rfl
theorem l_known (d : Nat) (args : List AV) (S : List SObj) : lvl T (d + 1) "known" args S = runD ⟨2, 4, b_known⟩ (lvl T d) args S := by rfl
theorem l_is_shield (d : Nat) (args : List AV) (S : List SObj) : lvl T (d + 1) "is_shield" args S = runD ⟨3, 7, b_is_shield⟩ (lvl T d) args S := by rfl
theorem l_signed_part (d : Nat) (args : List AV) (S : List SObj) : lvl T (d + 1) "signed_part" args S = runD ⟨1, 1, b_signed_part⟩ (lvl T d) args S := by rfl
theorem l_issue (d : Nat) (args : List AV) (S : List SObj) : lvl T (d + 1) "issue" args S = runD ⟨8, 10, b_issue⟩ (lvl T d) args S := by rfl
theorem l_rotate (d : Nat) (args : List AV) (S : List SObj) : lvl T (d + 1) "rotate" args S = runD ⟨2, 5, b_rotate⟩ (lvl T d) args S := by rfl
theorem l_new_ring (d : Nat) (args : List AV) (S : List SObj) : lvl T (d + 1) "new_ring" args S = runD ⟨2, 2, b_new_ring⟩ (lvl T d) args S := by rfl
theorem l_make_ticket (d : Nat) (args : List AV) (S : List SObj) : lvl T (d + 1) "make_ticket" args S = runD ⟨4, 4, b_make_ticket⟩ (lvl T d) args S := by rfl
theorem l__law_tape (d : Nat) (args : List AV) (S : List SObj) : lvl T (d + 1) "_law_tape" args S = runD ⟨1, 3, b__law_tape⟩ (lvl T d) args S := by rfl
theorem l__law_draw (d : Nat) (args : List AV) (S : List SObj) : lvl T (d + 1) "_law_draw" args S = runD ⟨2, 4, b__law_draw⟩ (lvl T d) args S := by rfl
theorem l__law_pick (d : Nat) (args : List AV) (S : List SObj) : lvl T (d + 1) "_law_pick" args S = runD ⟨2, 2, b__law_pick⟩ (lvl T d) args S := by rfl
theorem l__law_turns (d : Nat) (args : List AV) (S : List SObj) : lvl T (d + 1) "_law_turns" args S = runD ⟨2, 5, b__law_turns⟩ (lvl T d) args S := by rfl
theorem l__law_same (d : Nat) (args : List AV) (S : List SObj) : lvl T (d + 1) "_law_same" args S = runD ⟨2, 3, b__law_same⟩ (lvl T d) args S := by rfl
theorem l__law_number (d : Nat) (args : List AV) (S : List SObj) : lvl T (d + 1) "_law_number" args S = runD ⟨1, 2, b__law_number⟩ (lvl T d) args S := by rfl
theorem l__law_text (d : Nat) (args : List AV) (S : List SObj) : lvl T (d + 1) "_law_text" args S = runD ⟨2, 4, b__law_text⟩ (lvl T d) args S := by rfl
theorem l__law_leaf (d : Nat) (args : List AV) (S : List SObj) : lvl T (d + 1) "_law_leaf" args S = runD ⟨1, 2, b__law_leaf⟩ (lvl T d) args S := by rfl
theorem l__law_datum (d : Nat) (args : List AV) (S : List SObj) : lvl T (d + 1) "_law_datum" args S = runD ⟨3, 9, b__law_datum⟩ (lvl T d) args S := by rfl
theorem l__law_size (d : Nat) (args : List AV) (S : List SObj) : lvl T (d + 1) "_law_size" args S = runD ⟨1, 2, b__law_size⟩ (lvl T d) args S := by rfl
theorem l__law_place (d : Nat) (args : List AV) (S : List SObj) : lvl T (d + 1) "_law_place" args S = runD ⟨2, 2, b__law_place⟩ (lvl T d) args S := by rfl
theorem l__law_is_key (d : Nat) (args : List AV) (S : List SObj) : lvl T (d + 1) "_law_is_key" args S = runD ⟨2, 2, b__law_is_key⟩ (lvl T d) args S := by rfl
theorem l__law_deed (d : Nat) (args : List AV) (S : List SObj) : lvl T (d + 1) "_law_deed" args S = runD ⟨2, 5, b__law_deed⟩ (lvl T d) args S := by rfl
theorem l__law_vault_of (d : Nat) (args : List AV) (S : List SObj) : lvl T (d + 1) "_law_vault_of" args S = runD ⟨1, 1, b__law_vault_of⟩ (lvl T d) args S := by rfl
theorem l__law_gives (d : Nat) (args : List AV) (S : List SObj) : lvl T (d + 1) "_law_gives" args S = runD ⟨3, 3, b__law_gives⟩ (lvl T d) args S := by rfl
theorem l__law_label (d : Nat) (args : List AV) (S : List SObj) : lvl T (d + 1) "_law_label" args S = runD ⟨1, 1, b__law_label⟩ (lvl T d) args S := by rfl
theorem l__law_some_datum (d : Nat) (args : List AV) (S : List SObj) : lvl T (d + 1) "_law_some_datum" args S = runD ⟨1, 1, b__law_some_datum⟩ (lvl T d) args S := by rfl
theorem l__law_some_secret (d : Nat) (args : List AV) (S : List SObj) : lvl T (d + 1) "_law_some_secret" args S = runD ⟨2, 3, b__law_some_secret⟩ (lvl T d) args S := by rfl
theorem l__law_some_pair (d : Nat) (args : List AV) (S : List SObj) : lvl T (d + 1) "_law_some_pair" args S = runD ⟨2, 3, b__law_some_pair⟩ (lvl T d) args S := by rfl
theorem l__law_some_public (d : Nat) (args : List AV) (S : List SObj) : lvl T (d + 1) "_law_some_public" args S = runD ⟨2, 2, b__law_some_public⟩ (lvl T d) args S := by rfl
theorem l__law_some_deed (d : Nat) (args : List AV) (S : List SObj) : lvl T (d + 1) "_law_some_deed" args S = runD ⟨3, 4, b__law_some_deed⟩ (lvl T d) args S := by rfl
theorem l__law_model (d : Nat) (args : List AV) (S : List SObj) : lvl T (d + 1) "_law_model" args S = runD ⟨2, 5, b__law_model⟩ (lvl T d) args S := by rfl
theorem l__law_held (d : Nat) (args : List AV) (S : List SObj) : lvl T (d + 1) "_law_held" args S = runD ⟨3, 6, b__law_held⟩ (lvl T d) args S := by rfl
theorem l__law_fires (d : Nat) (args : List AV) (S : List SObj) : lvl T (d + 1) "_law_fires" args S = runD ⟨2, 2, b__law_fires⟩ (lvl T d) args S := by rfl
theorem l__law_levels (d : Nat) (args : List AV) (S : List SObj) : lvl T (d + 1) "_law_levels" args S = runD ⟨2, 9, b__law_levels⟩ (lvl T d) args S := by rfl
theorem l__law_bars (d : Nat) (args : List AV) (S : List SObj) : lvl T (d + 1) "_law_bars" args S = runD ⟨3, 5, b__law_bars⟩ (lvl T d) args S := by rfl
theorem l__law_ladder (d : Nat) (args : List AV) (S : List SObj) : lvl T (d + 1) "_law_ladder" args S = runD ⟨2, 11, b__law_ladder⟩ (lvl T d) args S := by rfl
theorem l__law_web (d : Nat) (args : List AV) (S : List SObj) : lvl T (d + 1) "_law_web" args S = runD ⟨1, 2, b__law_web⟩ (lvl T d) args S := by rfl
theorem l__law_holders (d : Nat) (args : List AV) (S : List SObj) : lvl T (d + 1) "_law_holders" args S = runD ⟨3, 8, b__law_holders⟩ (lvl T d) args S := by rfl
theorem l__law_needs (d : Nat) (args : List AV) (S : List SObj) : lvl T (d + 1) "_law_needs" args S = runD ⟨3, 6, b__law_needs⟩ (lvl T d) args S := by rfl
theorem l__law_grown (d : Nat) (args : List AV) (S : List SObj) : lvl T (d + 1) "_law_grown" args S = runD ⟨3, 8, b__law_grown⟩ (lvl T d) args S := by rfl
theorem l__law_made (d : Nat) (args : List AV) (S : List SObj) : lvl T (d + 1) "_law_made" args S = runD ⟨2, 2, b__law_made⟩ (lvl T d) args S := by rfl
theorem l__law_noted (d : Nat) (args : List AV) (S : List SObj) : lvl T (d + 1) "_law_noted" args S = runD ⟨4, 6, b__law_noted⟩ (lvl T d) args S := by rfl
theorem l__law_plain_deed (d : Nat) (args : List AV) (S : List SObj) : lvl T (d + 1) "_law_plain_deed" args S = runD ⟨5, 7, b__law_plain_deed⟩ (lvl T d) args S := by rfl
theorem l__law_issued (d : Nat) (args : List AV) (S : List SObj) : lvl T (d + 1) "_law_issued" args S = runD ⟨3, 7, b__law_issued⟩ (lvl T d) args S := by rfl
theorem l__law_ring_deed (d : Nat) (args : List AV) (S : List SObj) : lvl T (d + 1) "_law_ring_deed" args S = runD ⟨4, 11, b__law_ring_deed⟩ (lvl T d) args S := by rfl
theorem l__law_asked (d : Nat) (args : List AV) (S : List SObj) : lvl T (d + 1) "_law_asked" args S = runD ⟨4, 15, b__law_asked⟩ (lvl T d) args S := by rfl
theorem l_law (d : Nat) (args : List AV) (S : List SObj) : lvl T (d + 1) "law" args S = runD ⟨1, 16, b_law⟩ (lvl T d) args S := by rfl
end K17
end
section
set_option maxRecDepth 100000
namespace K17
open PySem L2 Pyx
open PySem.Spec PyProof.Rows
theorem opEq_st {S : List SObj} {x y : Str} (hx : PyData.strOk x = true) (hy : PyData.strOk y = true) : opEq S (.str x) (.str y) = some (.bl (decide (x = y))) := by
  rw [opEq_sm (j := 0) (k := 0) (by unfold sm; exact hx) (by unfold sm; exact hy) (by omega)]
  have : (AV.str x).eqb (.str y) = decide (x = y) := by simp [AV.eqb, AV.pd, PyData.eqv, BEq.beq]
  rw [this]
theorem eq_no {S : List SObj} {x y : Str} (hx : PyData.strOk x = true) (hy : PyData.strOk y = true) (h : ¬ x = y) : opEq S (.str x) (.str y) = some (.bl false) := by rw [opEq_st hx hy, decide_eq_false h]
theorem eq_yes {S : List SObj} {x : Str} (hx : PyData.strOk x = true) : opEq S (.str x) (.str x) = some (.bl true) := by rw [opEq_st hx hx, decide_eq_true rfl]
theorem ok_agree : PyData.strOk ("agree" : Str) = true := by decide +kernel
theorem ok_agreed : PyData.strOk ("agreed" : Str) = true := by decide +kernel
theorem ok_box : PyData.strOk ("box" : Str) = true := by decide +kernel
theorem ok_derive : PyData.strOk ("derive" : Str) = true := by decide +kernel
theorem ok_derived : PyData.strOk ("derived" : Str) = true := by decide +kernel
theorem ok_draw : PyData.strOk ("draw" : Str) = true := by decide +kernel
theorem ok_drawn : PyData.strOk ("drawn" : Str) = true := by decide +kernel
theorem ok_generate : PyData.strOk ("generate" : Str) = true := by decide +kernel
theorem ok_mix : PyData.strOk ("mix" : Str) = true := by decide +kernel
theorem ok_mixed : PyData.strOk ("mixed" : Str) = true := by decide +kernel
theorem ok_pair : PyData.strOk ("pair" : Str) = true := by decide +kernel
theorem ok_plain : PyData.strOk ("plain" : Str) = true := by decide +kernel
theorem ok_public : PyData.strOk ("public" : Str) = true := by decide +kernel
theorem ok_seal : PyData.strOk ("seal" : Str) = true := by decide +kernel
theorem ok_sign : PyData.strOk ("sign" : Str) = true := by decide +kernel
theorem ok_signature : PyData.strOk ("signature" : Str) = true := by decide +kernel
theorem ok_tag : PyData.strOk ("tag" : Str) = true := by decide +kernel
theorem ok_wrap : PyData.strOk ("wrap" : Str) = true := by decide +kernel
theorem ok_wrapped : PyData.strOk ("wrapped" : Str) = true := by decide +kernel
@[simp] theorem q_agree_agree {S : List SObj} : opEq S (.str "agree") (.str "agree") = some (.bl true) := eq_yes ok_agree
@[simp] theorem q_agree_derive {S : List SObj} : opEq S (.str "agree") (.str "derive") = some (.bl false) := eq_no ok_agree ok_derive (by decide +kernel)
@[simp] theorem q_agree_draw {S : List SObj} : opEq S (.str "agree") (.str "draw") = some (.bl false) := eq_no ok_agree ok_draw (by decide +kernel)
@[simp] theorem q_agree_generate {S : List SObj} : opEq S (.str "agree") (.str "generate") = some (.bl false) := eq_no ok_agree ok_generate (by decide +kernel)
@[simp] theorem q_agree_mix {S : List SObj} : opEq S (.str "agree") (.str "mix") = some (.bl false) := eq_no ok_agree ok_mix (by decide +kernel)
@[simp] theorem q_agree_plain {S : List SObj} : opEq S (.str "agree") (.str "plain") = some (.bl false) := eq_no ok_agree ok_plain (by decide +kernel)
@[simp] theorem q_agree_seal {S : List SObj} : opEq S (.str "agree") (.str "seal") = some (.bl false) := eq_no ok_agree ok_seal (by decide +kernel)
@[simp] theorem q_agree_sign {S : List SObj} : opEq S (.str "agree") (.str "sign") = some (.bl false) := eq_no ok_agree ok_sign (by decide +kernel)
@[simp] theorem q_agree_tag {S : List SObj} : opEq S (.str "agree") (.str "tag") = some (.bl false) := eq_no ok_agree ok_tag (by decide +kernel)
@[simp] theorem q_agree_wrap {S : List SObj} : opEq S (.str "agree") (.str "wrap") = some (.bl false) := eq_no ok_agree ok_wrap (by decide +kernel)
@[simp] theorem q_agreed_agreed {S : List SObj} : opEq S (.str "agreed") (.str "agreed") = some (.bl true) := eq_yes ok_agreed
@[simp] theorem q_agreed_derived {S : List SObj} : opEq S (.str "agreed") (.str "derived") = some (.bl false) := eq_no ok_agreed ok_derived (by decide +kernel)
@[simp] theorem q_agreed_mixed {S : List SObj} : opEq S (.str "agreed") (.str "mixed") = some (.bl false) := eq_no ok_agreed ok_mixed (by decide +kernel)
@[simp] theorem q_agreed_pair {S : List SObj} : opEq S (.str "agreed") (.str "pair") = some (.bl false) := eq_no ok_agreed ok_pair (by decide +kernel)
@[simp] theorem q_agreed_plain {S : List SObj} : opEq S (.str "agreed") (.str "plain") = some (.bl false) := eq_no ok_agreed ok_plain (by decide +kernel)
@[simp] theorem q_box_box {S : List SObj} : opEq S (.str "box") (.str "box") = some (.bl true) := eq_yes ok_box
@[simp] theorem q_box_drawn {S : List SObj} : opEq S (.str "box") (.str "drawn") = some (.bl false) := eq_no ok_box ok_drawn (by decide +kernel)
@[simp] theorem q_box_public {S : List SObj} : opEq S (.str "box") (.str "public") = some (.bl false) := eq_no ok_box ok_public (by decide +kernel)
@[simp] theorem q_box_signature {S : List SObj} : opEq S (.str "box") (.str "signature") = some (.bl false) := eq_no ok_box ok_signature (by decide +kernel)
@[simp] theorem q_box_tag {S : List SObj} : opEq S (.str "box") (.str "tag") = some (.bl false) := eq_no ok_box ok_tag (by decide +kernel)
@[simp] theorem q_box_wrapped {S : List SObj} : opEq S (.str "box") (.str "wrapped") = some (.bl false) := eq_no ok_box ok_wrapped (by decide +kernel)
@[simp] theorem q_derive_agree {S : List SObj} : opEq S (.str "derive") (.str "agree") = some (.bl false) := eq_no ok_derive ok_agree (by decide +kernel)
@[simp] theorem q_derive_derive {S : List SObj} : opEq S (.str "derive") (.str "derive") = some (.bl true) := eq_yes ok_derive
@[simp] theorem q_derive_draw {S : List SObj} : opEq S (.str "derive") (.str "draw") = some (.bl false) := eq_no ok_derive ok_draw (by decide +kernel)
@[simp] theorem q_derive_generate {S : List SObj} : opEq S (.str "derive") (.str "generate") = some (.bl false) := eq_no ok_derive ok_generate (by decide +kernel)
@[simp] theorem q_derive_mix {S : List SObj} : opEq S (.str "derive") (.str "mix") = some (.bl false) := eq_no ok_derive ok_mix (by decide +kernel)
@[simp] theorem q_derive_plain {S : List SObj} : opEq S (.str "derive") (.str "plain") = some (.bl false) := eq_no ok_derive ok_plain (by decide +kernel)
@[simp] theorem q_derive_seal {S : List SObj} : opEq S (.str "derive") (.str "seal") = some (.bl false) := eq_no ok_derive ok_seal (by decide +kernel)
@[simp] theorem q_derive_sign {S : List SObj} : opEq S (.str "derive") (.str "sign") = some (.bl false) := eq_no ok_derive ok_sign (by decide +kernel)
@[simp] theorem q_derive_tag {S : List SObj} : opEq S (.str "derive") (.str "tag") = some (.bl false) := eq_no ok_derive ok_tag (by decide +kernel)
@[simp] theorem q_derive_wrap {S : List SObj} : opEq S (.str "derive") (.str "wrap") = some (.bl false) := eq_no ok_derive ok_wrap (by decide +kernel)
@[simp] theorem q_derived_agreed {S : List SObj} : opEq S (.str "derived") (.str "agreed") = some (.bl false) := eq_no ok_derived ok_agreed (by decide +kernel)
@[simp] theorem q_derived_derived {S : List SObj} : opEq S (.str "derived") (.str "derived") = some (.bl true) := eq_yes ok_derived
@[simp] theorem q_derived_mixed {S : List SObj} : opEq S (.str "derived") (.str "mixed") = some (.bl false) := eq_no ok_derived ok_mixed (by decide +kernel)
@[simp] theorem q_derived_pair {S : List SObj} : opEq S (.str "derived") (.str "pair") = some (.bl false) := eq_no ok_derived ok_pair (by decide +kernel)
@[simp] theorem q_derived_plain {S : List SObj} : opEq S (.str "derived") (.str "plain") = some (.bl false) := eq_no ok_derived ok_plain (by decide +kernel)
@[simp] theorem q_draw_agree {S : List SObj} : opEq S (.str "draw") (.str "agree") = some (.bl false) := eq_no ok_draw ok_agree (by decide +kernel)
@[simp] theorem q_draw_derive {S : List SObj} : opEq S (.str "draw") (.str "derive") = some (.bl false) := eq_no ok_draw ok_derive (by decide +kernel)
@[simp] theorem q_draw_draw {S : List SObj} : opEq S (.str "draw") (.str "draw") = some (.bl true) := eq_yes ok_draw
@[simp] theorem q_draw_generate {S : List SObj} : opEq S (.str "draw") (.str "generate") = some (.bl false) := eq_no ok_draw ok_generate (by decide +kernel)
@[simp] theorem q_draw_mix {S : List SObj} : opEq S (.str "draw") (.str "mix") = some (.bl false) := eq_no ok_draw ok_mix (by decide +kernel)
@[simp] theorem q_draw_plain {S : List SObj} : opEq S (.str "draw") (.str "plain") = some (.bl false) := eq_no ok_draw ok_plain (by decide +kernel)
@[simp] theorem q_draw_seal {S : List SObj} : opEq S (.str "draw") (.str "seal") = some (.bl false) := eq_no ok_draw ok_seal (by decide +kernel)
@[simp] theorem q_draw_sign {S : List SObj} : opEq S (.str "draw") (.str "sign") = some (.bl false) := eq_no ok_draw ok_sign (by decide +kernel)
@[simp] theorem q_draw_tag {S : List SObj} : opEq S (.str "draw") (.str "tag") = some (.bl false) := eq_no ok_draw ok_tag (by decide +kernel)
@[simp] theorem q_draw_wrap {S : List SObj} : opEq S (.str "draw") (.str "wrap") = some (.bl false) := eq_no ok_draw ok_wrap (by decide +kernel)
@[simp] theorem q_drawn_box {S : List SObj} : opEq S (.str "drawn") (.str "box") = some (.bl false) := eq_no ok_drawn ok_box (by decide +kernel)
@[simp] theorem q_drawn_drawn {S : List SObj} : opEq S (.str "drawn") (.str "drawn") = some (.bl true) := eq_yes ok_drawn
@[simp] theorem q_drawn_public {S : List SObj} : opEq S (.str "drawn") (.str "public") = some (.bl false) := eq_no ok_drawn ok_public (by decide +kernel)
@[simp] theorem q_drawn_signature {S : List SObj} : opEq S (.str "drawn") (.str "signature") = some (.bl false) := eq_no ok_drawn ok_signature (by decide +kernel)
@[simp] theorem q_drawn_tag {S : List SObj} : opEq S (.str "drawn") (.str "tag") = some (.bl false) := eq_no ok_drawn ok_tag (by decide +kernel)
@[simp] theorem q_drawn_wrapped {S : List SObj} : opEq S (.str "drawn") (.str "wrapped") = some (.bl false) := eq_no ok_drawn ok_wrapped (by decide +kernel)
@[simp] theorem q_generate_agree {S : List SObj} : opEq S (.str "generate") (.str "agree") = some (.bl false) := eq_no ok_generate ok_agree (by decide +kernel)
@[simp] theorem q_generate_derive {S : List SObj} : opEq S (.str "generate") (.str "derive") = some (.bl false) := eq_no ok_generate ok_derive (by decide +kernel)
@[simp] theorem q_generate_draw {S : List SObj} : opEq S (.str "generate") (.str "draw") = some (.bl false) := eq_no ok_generate ok_draw (by decide +kernel)
@[simp] theorem q_generate_generate {S : List SObj} : opEq S (.str "generate") (.str "generate") = some (.bl true) := eq_yes ok_generate
@[simp] theorem q_generate_mix {S : List SObj} : opEq S (.str "generate") (.str "mix") = some (.bl false) := eq_no ok_generate ok_mix (by decide +kernel)
@[simp] theorem q_generate_plain {S : List SObj} : opEq S (.str "generate") (.str "plain") = some (.bl false) := eq_no ok_generate ok_plain (by decide +kernel)
@[simp] theorem q_generate_seal {S : List SObj} : opEq S (.str "generate") (.str "seal") = some (.bl false) := eq_no ok_generate ok_seal (by decide +kernel)
@[simp] theorem q_generate_sign {S : List SObj} : opEq S (.str "generate") (.str "sign") = some (.bl false) := eq_no ok_generate ok_sign (by decide +kernel)
@[simp] theorem q_generate_tag {S : List SObj} : opEq S (.str "generate") (.str "tag") = some (.bl false) := eq_no ok_generate ok_tag (by decide +kernel)
@[simp] theorem q_generate_wrap {S : List SObj} : opEq S (.str "generate") (.str "wrap") = some (.bl false) := eq_no ok_generate ok_wrap (by decide +kernel)
@[simp] theorem q_mix_agree {S : List SObj} : opEq S (.str "mix") (.str "agree") = some (.bl false) := eq_no ok_mix ok_agree (by decide +kernel)
@[simp] theorem q_mix_derive {S : List SObj} : opEq S (.str "mix") (.str "derive") = some (.bl false) := eq_no ok_mix ok_derive (by decide +kernel)
@[simp] theorem q_mix_draw {S : List SObj} : opEq S (.str "mix") (.str "draw") = some (.bl false) := eq_no ok_mix ok_draw (by decide +kernel)
@[simp] theorem q_mix_generate {S : List SObj} : opEq S (.str "mix") (.str "generate") = some (.bl false) := eq_no ok_mix ok_generate (by decide +kernel)
@[simp] theorem q_mix_mix {S : List SObj} : opEq S (.str "mix") (.str "mix") = some (.bl true) := eq_yes ok_mix
@[simp] theorem q_mix_plain {S : List SObj} : opEq S (.str "mix") (.str "plain") = some (.bl false) := eq_no ok_mix ok_plain (by decide +kernel)
@[simp] theorem q_mix_seal {S : List SObj} : opEq S (.str "mix") (.str "seal") = some (.bl false) := eq_no ok_mix ok_seal (by decide +kernel)
@[simp] theorem q_mix_sign {S : List SObj} : opEq S (.str "mix") (.str "sign") = some (.bl false) := eq_no ok_mix ok_sign (by decide +kernel)
@[simp] theorem q_mix_tag {S : List SObj} : opEq S (.str "mix") (.str "tag") = some (.bl false) := eq_no ok_mix ok_tag (by decide +kernel)
@[simp] theorem q_mix_wrap {S : List SObj} : opEq S (.str "mix") (.str "wrap") = some (.bl false) := eq_no ok_mix ok_wrap (by decide +kernel)
@[simp] theorem q_mixed_agreed {S : List SObj} : opEq S (.str "mixed") (.str "agreed") = some (.bl false) := eq_no ok_mixed ok_agreed (by decide +kernel)
@[simp] theorem q_mixed_derived {S : List SObj} : opEq S (.str "mixed") (.str "derived") = some (.bl false) := eq_no ok_mixed ok_derived (by decide +kernel)
@[simp] theorem q_mixed_mixed {S : List SObj} : opEq S (.str "mixed") (.str "mixed") = some (.bl true) := eq_yes ok_mixed
@[simp] theorem q_mixed_pair {S : List SObj} : opEq S (.str "mixed") (.str "pair") = some (.bl false) := eq_no ok_mixed ok_pair (by decide +kernel)
@[simp] theorem q_mixed_plain {S : List SObj} : opEq S (.str "mixed") (.str "plain") = some (.bl false) := eq_no ok_mixed ok_plain (by decide +kernel)
@[simp] theorem q_pair_agreed {S : List SObj} : opEq S (.str "pair") (.str "agreed") = some (.bl false) := eq_no ok_pair ok_agreed (by decide +kernel)
@[simp] theorem q_pair_derived {S : List SObj} : opEq S (.str "pair") (.str "derived") = some (.bl false) := eq_no ok_pair ok_derived (by decide +kernel)
@[simp] theorem q_pair_mixed {S : List SObj} : opEq S (.str "pair") (.str "mixed") = some (.bl false) := eq_no ok_pair ok_mixed (by decide +kernel)
@[simp] theorem q_pair_pair {S : List SObj} : opEq S (.str "pair") (.str "pair") = some (.bl true) := eq_yes ok_pair
@[simp] theorem q_pair_plain {S : List SObj} : opEq S (.str "pair") (.str "plain") = some (.bl false) := eq_no ok_pair ok_plain (by decide +kernel)
@[simp] theorem q_plain_agree {S : List SObj} : opEq S (.str "plain") (.str "agree") = some (.bl false) := eq_no ok_plain ok_agree (by decide +kernel)
@[simp] theorem q_plain_agreed {S : List SObj} : opEq S (.str "plain") (.str "agreed") = some (.bl false) := eq_no ok_plain ok_agreed (by decide +kernel)
@[simp] theorem q_plain_derive {S : List SObj} : opEq S (.str "plain") (.str "derive") = some (.bl false) := eq_no ok_plain ok_derive (by decide +kernel)
@[simp] theorem q_plain_derived {S : List SObj} : opEq S (.str "plain") (.str "derived") = some (.bl false) := eq_no ok_plain ok_derived (by decide +kernel)
@[simp] theorem q_plain_draw {S : List SObj} : opEq S (.str "plain") (.str "draw") = some (.bl false) := eq_no ok_plain ok_draw (by decide +kernel)
@[simp] theorem q_plain_generate {S : List SObj} : opEq S (.str "plain") (.str "generate") = some (.bl false) := eq_no ok_plain ok_generate (by decide +kernel)
@[simp] theorem q_plain_mix {S : List SObj} : opEq S (.str "plain") (.str "mix") = some (.bl false) := eq_no ok_plain ok_mix (by decide +kernel)
@[simp] theorem q_plain_mixed {S : List SObj} : opEq S (.str "plain") (.str "mixed") = some (.bl false) := eq_no ok_plain ok_mixed (by decide +kernel)
@[simp] theorem q_plain_pair {S : List SObj} : opEq S (.str "plain") (.str "pair") = some (.bl false) := eq_no ok_plain ok_pair (by decide +kernel)
@[simp] theorem q_plain_plain {S : List SObj} : opEq S (.str "plain") (.str "plain") = some (.bl true) := eq_yes ok_plain
@[simp] theorem q_plain_seal {S : List SObj} : opEq S (.str "plain") (.str "seal") = some (.bl false) := eq_no ok_plain ok_seal (by decide +kernel)
@[simp] theorem q_plain_sign {S : List SObj} : opEq S (.str "plain") (.str "sign") = some (.bl false) := eq_no ok_plain ok_sign (by decide +kernel)
@[simp] theorem q_plain_tag {S : List SObj} : opEq S (.str "plain") (.str "tag") = some (.bl false) := eq_no ok_plain ok_tag (by decide +kernel)
@[simp] theorem q_plain_wrap {S : List SObj} : opEq S (.str "plain") (.str "wrap") = some (.bl false) := eq_no ok_plain ok_wrap (by decide +kernel)
@[simp] theorem q_public_box {S : List SObj} : opEq S (.str "public") (.str "box") = some (.bl false) := eq_no ok_public ok_box (by decide +kernel)
@[simp] theorem q_public_drawn {S : List SObj} : opEq S (.str "public") (.str "drawn") = some (.bl false) := eq_no ok_public ok_drawn (by decide +kernel)
@[simp] theorem q_public_public {S : List SObj} : opEq S (.str "public") (.str "public") = some (.bl true) := eq_yes ok_public
@[simp] theorem q_public_signature {S : List SObj} : opEq S (.str "public") (.str "signature") = some (.bl false) := eq_no ok_public ok_signature (by decide +kernel)
@[simp] theorem q_public_tag {S : List SObj} : opEq S (.str "public") (.str "tag") = some (.bl false) := eq_no ok_public ok_tag (by decide +kernel)
@[simp] theorem q_public_wrapped {S : List SObj} : opEq S (.str "public") (.str "wrapped") = some (.bl false) := eq_no ok_public ok_wrapped (by decide +kernel)
@[simp] theorem q_seal_agree {S : List SObj} : opEq S (.str "seal") (.str "agree") = some (.bl false) := eq_no ok_seal ok_agree (by decide +kernel)
@[simp] theorem q_seal_derive {S : List SObj} : opEq S (.str "seal") (.str "derive") = some (.bl false) := eq_no ok_seal ok_derive (by decide +kernel)
@[simp] theorem q_seal_draw {S : List SObj} : opEq S (.str "seal") (.str "draw") = some (.bl false) := eq_no ok_seal ok_draw (by decide +kernel)
@[simp] theorem q_seal_generate {S : List SObj} : opEq S (.str "seal") (.str "generate") = some (.bl false) := eq_no ok_seal ok_generate (by decide +kernel)
@[simp] theorem q_seal_mix {S : List SObj} : opEq S (.str "seal") (.str "mix") = some (.bl false) := eq_no ok_seal ok_mix (by decide +kernel)
@[simp] theorem q_seal_plain {S : List SObj} : opEq S (.str "seal") (.str "plain") = some (.bl false) := eq_no ok_seal ok_plain (by decide +kernel)
@[simp] theorem q_seal_seal {S : List SObj} : opEq S (.str "seal") (.str "seal") = some (.bl true) := eq_yes ok_seal
@[simp] theorem q_seal_sign {S : List SObj} : opEq S (.str "seal") (.str "sign") = some (.bl false) := eq_no ok_seal ok_sign (by decide +kernel)
@[simp] theorem q_seal_tag {S : List SObj} : opEq S (.str "seal") (.str "tag") = some (.bl false) := eq_no ok_seal ok_tag (by decide +kernel)
@[simp] theorem q_seal_wrap {S : List SObj} : opEq S (.str "seal") (.str "wrap") = some (.bl false) := eq_no ok_seal ok_wrap (by decide +kernel)
@[simp] theorem q_sign_agree {S : List SObj} : opEq S (.str "sign") (.str "agree") = some (.bl false) := eq_no ok_sign ok_agree (by decide +kernel)
@[simp] theorem q_sign_derive {S : List SObj} : opEq S (.str "sign") (.str "derive") = some (.bl false) := eq_no ok_sign ok_derive (by decide +kernel)
@[simp] theorem q_sign_draw {S : List SObj} : opEq S (.str "sign") (.str "draw") = some (.bl false) := eq_no ok_sign ok_draw (by decide +kernel)
@[simp] theorem q_sign_generate {S : List SObj} : opEq S (.str "sign") (.str "generate") = some (.bl false) := eq_no ok_sign ok_generate (by decide +kernel)
@[simp] theorem q_sign_mix {S : List SObj} : opEq S (.str "sign") (.str "mix") = some (.bl false) := eq_no ok_sign ok_mix (by decide +kernel)
@[simp] theorem q_sign_plain {S : List SObj} : opEq S (.str "sign") (.str "plain") = some (.bl false) := eq_no ok_sign ok_plain (by decide +kernel)
@[simp] theorem q_sign_seal {S : List SObj} : opEq S (.str "sign") (.str "seal") = some (.bl false) := eq_no ok_sign ok_seal (by decide +kernel)
@[simp] theorem q_sign_sign {S : List SObj} : opEq S (.str "sign") (.str "sign") = some (.bl true) := eq_yes ok_sign
@[simp] theorem q_sign_tag {S : List SObj} : opEq S (.str "sign") (.str "tag") = some (.bl false) := eq_no ok_sign ok_tag (by decide +kernel)
@[simp] theorem q_sign_wrap {S : List SObj} : opEq S (.str "sign") (.str "wrap") = some (.bl false) := eq_no ok_sign ok_wrap (by decide +kernel)
@[simp] theorem q_signature_box {S : List SObj} : opEq S (.str "signature") (.str "box") = some (.bl false) := eq_no ok_signature ok_box (by decide +kernel)
@[simp] theorem q_signature_drawn {S : List SObj} : opEq S (.str "signature") (.str "drawn") = some (.bl false) := eq_no ok_signature ok_drawn (by decide +kernel)
@[simp] theorem q_signature_public {S : List SObj} : opEq S (.str "signature") (.str "public") = some (.bl false) := eq_no ok_signature ok_public (by decide +kernel)
@[simp] theorem q_signature_signature {S : List SObj} : opEq S (.str "signature") (.str "signature") = some (.bl true) := eq_yes ok_signature
@[simp] theorem q_signature_tag {S : List SObj} : opEq S (.str "signature") (.str "tag") = some (.bl false) := eq_no ok_signature ok_tag (by decide +kernel)
@[simp] theorem q_signature_wrapped {S : List SObj} : opEq S (.str "signature") (.str "wrapped") = some (.bl false) := eq_no ok_signature ok_wrapped (by decide +kernel)
@[simp] theorem q_tag_agree {S : List SObj} : opEq S (.str "tag") (.str "agree") = some (.bl false) := eq_no ok_tag ok_agree (by decide +kernel)
@[simp] theorem q_tag_box {S : List SObj} : opEq S (.str "tag") (.str "box") = some (.bl false) := eq_no ok_tag ok_box (by decide +kernel)
@[simp] theorem q_tag_derive {S : List SObj} : opEq S (.str "tag") (.str "derive") = some (.bl false) := eq_no ok_tag ok_derive (by decide +kernel)
@[simp] theorem q_tag_draw {S : List SObj} : opEq S (.str "tag") (.str "draw") = some (.bl false) := eq_no ok_tag ok_draw (by decide +kernel)
@[simp] theorem q_tag_drawn {S : List SObj} : opEq S (.str "tag") (.str "drawn") = some (.bl false) := eq_no ok_tag ok_drawn (by decide +kernel)
@[simp] theorem q_tag_generate {S : List SObj} : opEq S (.str "tag") (.str "generate") = some (.bl false) := eq_no ok_tag ok_generate (by decide +kernel)
@[simp] theorem q_tag_mix {S : List SObj} : opEq S (.str "tag") (.str "mix") = some (.bl false) := eq_no ok_tag ok_mix (by decide +kernel)
@[simp] theorem q_tag_plain {S : List SObj} : opEq S (.str "tag") (.str "plain") = some (.bl false) := eq_no ok_tag ok_plain (by decide +kernel)
@[simp] theorem q_tag_public {S : List SObj} : opEq S (.str "tag") (.str "public") = some (.bl false) := eq_no ok_tag ok_public (by decide +kernel)
@[simp] theorem q_tag_seal {S : List SObj} : opEq S (.str "tag") (.str "seal") = some (.bl false) := eq_no ok_tag ok_seal (by decide +kernel)
@[simp] theorem q_tag_sign {S : List SObj} : opEq S (.str "tag") (.str "sign") = some (.bl false) := eq_no ok_tag ok_sign (by decide +kernel)
@[simp] theorem q_tag_signature {S : List SObj} : opEq S (.str "tag") (.str "signature") = some (.bl false) := eq_no ok_tag ok_signature (by decide +kernel)
@[simp] theorem q_tag_tag {S : List SObj} : opEq S (.str "tag") (.str "tag") = some (.bl true) := eq_yes ok_tag
@[simp] theorem q_tag_wrap {S : List SObj} : opEq S (.str "tag") (.str "wrap") = some (.bl false) := eq_no ok_tag ok_wrap (by decide +kernel)
@[simp] theorem q_tag_wrapped {S : List SObj} : opEq S (.str "tag") (.str "wrapped") = some (.bl false) := eq_no ok_tag ok_wrapped (by decide +kernel)
@[simp] theorem q_wrap_agree {S : List SObj} : opEq S (.str "wrap") (.str "agree") = some (.bl false) := eq_no ok_wrap ok_agree (by decide +kernel)
@[simp] theorem q_wrap_derive {S : List SObj} : opEq S (.str "wrap") (.str "derive") = some (.bl false) := eq_no ok_wrap ok_derive (by decide +kernel)
@[simp] theorem q_wrap_draw {S : List SObj} : opEq S (.str "wrap") (.str "draw") = some (.bl false) := eq_no ok_wrap ok_draw (by decide +kernel)
@[simp] theorem q_wrap_generate {S : List SObj} : opEq S (.str "wrap") (.str "generate") = some (.bl false) := eq_no ok_wrap ok_generate (by decide +kernel)
@[simp] theorem q_wrap_mix {S : List SObj} : opEq S (.str "wrap") (.str "mix") = some (.bl false) := eq_no ok_wrap ok_mix (by decide +kernel)
@[simp] theorem q_wrap_plain {S : List SObj} : opEq S (.str "wrap") (.str "plain") = some (.bl false) := eq_no ok_wrap ok_plain (by decide +kernel)
@[simp] theorem q_wrap_seal {S : List SObj} : opEq S (.str "wrap") (.str "seal") = some (.bl false) := eq_no ok_wrap ok_seal (by decide +kernel)
@[simp] theorem q_wrap_sign {S : List SObj} : opEq S (.str "wrap") (.str "sign") = some (.bl false) := eq_no ok_wrap ok_sign (by decide +kernel)
@[simp] theorem q_wrap_tag {S : List SObj} : opEq S (.str "wrap") (.str "tag") = some (.bl false) := eq_no ok_wrap ok_tag (by decide +kernel)
@[simp] theorem q_wrap_wrap {S : List SObj} : opEq S (.str "wrap") (.str "wrap") = some (.bl true) := eq_yes ok_wrap
@[simp] theorem q_wrapped_box {S : List SObj} : opEq S (.str "wrapped") (.str "box") = some (.bl false) := eq_no ok_wrapped ok_box (by decide +kernel)
@[simp] theorem q_wrapped_drawn {S : List SObj} : opEq S (.str "wrapped") (.str "drawn") = some (.bl false) := eq_no ok_wrapped ok_drawn (by decide +kernel)
@[simp] theorem q_wrapped_public {S : List SObj} : opEq S (.str "wrapped") (.str "public") = some (.bl false) := eq_no ok_wrapped ok_public (by decide +kernel)
@[simp] theorem q_wrapped_signature {S : List SObj} : opEq S (.str "wrapped") (.str "signature") = some (.bl false) := eq_no ok_wrapped ok_signature (by decide +kernel)
@[simp] theorem q_wrapped_tag {S : List SObj} : opEq S (.str "wrapped") (.str "tag") = some (.bl false) := eq_no ok_wrapped ok_tag (by decide +kernel)
@[simp] theorem q_wrapped_wrapped {S : List SObj} : opEq S (.str "wrapped") (.str "wrapped") = some (.bl true) := eq_yes ok_wrapped
@[simp] theorem dh_generate : dHas [(("plain" : Str), AV.str "plain"), (("derive" : Str), AV.str "derived"), (("mix" : Str), AV.str "mixed")] "generate" = false := by decide +kernel
@[simp] theorem dh_plain : dHas [(("plain" : Str), AV.str "plain"), (("derive" : Str), AV.str "derived"), (("mix" : Str), AV.str "mixed")] "plain" = true := by decide +kernel
@[simp] theorem dh_agree : dHas [(("plain" : Str), AV.str "plain"), (("derive" : Str), AV.str "derived"), (("mix" : Str), AV.str "mixed")] "agree" = false := by decide +kernel
@[simp] theorem dh_derive : dHas [(("plain" : Str), AV.str "plain"), (("derive" : Str), AV.str "derived"), (("mix" : Str), AV.str "mixed")] "derive" = true := by decide +kernel
@[simp] theorem dh_mix : dHas [(("plain" : Str), AV.str "plain"), (("derive" : Str), AV.str "derived"), (("mix" : Str), AV.str "mixed")] "mix" = true := by decide +kernel
@[simp] theorem dh_draw : dHas [(("plain" : Str), AV.str "plain"), (("derive" : Str), AV.str "derived"), (("mix" : Str), AV.str "mixed")] "draw" = false := by decide +kernel
@[simp] theorem dh_sign : dHas [(("plain" : Str), AV.str "plain"), (("derive" : Str), AV.str "derived"), (("mix" : Str), AV.str "mixed")] "sign" = false := by decide +kernel
@[simp] theorem dh_tag : dHas [(("plain" : Str), AV.str "plain"), (("derive" : Str), AV.str "derived"), (("mix" : Str), AV.str "mixed")] "tag" = false := by decide +kernel
@[simp] theorem dh_seal : dHas [(("plain" : Str), AV.str "plain"), (("derive" : Str), AV.str "derived"), (("mix" : Str), AV.str "mixed")] "seal" = false := by decide +kernel
@[simp] theorem dh_wrap : dHas [(("plain" : Str), AV.str "plain"), (("derive" : Str), AV.str "derived"), (("mix" : Str), AV.str "mixed")] "wrap" = false := by decide +kernel
@[simp] theorem dg_plain : dGet [(("plain" : Str), AV.str "plain"), (("derive" : Str), AV.str "derived"), (("mix" : Str), AV.str "mixed")] "plain" = some (.str "plain") := by
  have h : ([(("plain" : Str), AV.str "plain"), (("derive" : Str), AV.str "derived"), (("mix" : Str), AV.str "mixed")].find? fun kv => decide (kv.1 = ("plain" : Str))) = some (("plain" : Str), AV.str "plain") := by rfl
  unfold dGet
  rw [h]
  rfl
@[simp] theorem dg_derive : dGet [(("plain" : Str), AV.str "plain"), (("derive" : Str), AV.str "derived"), (("mix" : Str), AV.str "mixed")] "derive" = some (.str "derived") := by
  have h : ([(("plain" : Str), AV.str "plain"), (("derive" : Str), AV.str "derived"), (("mix" : Str), AV.str "mixed")].find? fun kv => decide (kv.1 = ("derive" : Str))) = some (("derive" : Str), AV.str "derived") := by rfl
  unfold dGet
  rw [h]
  rfl
@[simp] theorem dg_mix : dGet [(("plain" : Str), AV.str "plain"), (("derive" : Str), AV.str "derived"), (("mix" : Str), AV.str "mixed")] "mix" = some (.str "mixed") := by
  have h : ([(("plain" : Str), AV.str "plain"), (("derive" : Str), AV.str "derived"), (("mix" : Str), AV.str "mixed")].find? fun kv => decide (kv.1 = ("mix" : Str))) = some (("mix" : Str), AV.str "mixed") := by rfl
  unfold dGet
  rw [h]
  rfl
@[simp] theorem dg_draw : dGet [(("draw" : Str), AV.str "drawn"), (("sign" : Str), AV.str "signature"), (("tag" : Str), AV.str "tag"), (("seal" : Str), AV.str "box"), (("wrap" : Str), AV.str "wrapped")] "draw" = some (.str "drawn") := by
  have h : ([(("draw" : Str), AV.str "drawn"), (("sign" : Str), AV.str "signature"), (("tag" : Str), AV.str "tag"), (("seal" : Str), AV.str "box"), (("wrap" : Str), AV.str "wrapped")].find? fun kv => decide (kv.1 = ("draw" : Str))) = some (("draw" : Str), AV.str "drawn") := by rfl
  unfold dGet
  rw [h]
  rfl
@[simp] theorem dg_sign : dGet [(("draw" : Str), AV.str "drawn"), (("sign" : Str), AV.str "signature"), (("tag" : Str), AV.str "tag"), (("seal" : Str), AV.str "box"), (("wrap" : Str), AV.str "wrapped")] "sign" = some (.str "signature") := by
  have h : ([(("draw" : Str), AV.str "drawn"), (("sign" : Str), AV.str "signature"), (("tag" : Str), AV.str "tag"), (("seal" : Str), AV.str "box"), (("wrap" : Str), AV.str "wrapped")].find? fun kv => decide (kv.1 = ("sign" : Str))) = some (("sign" : Str), AV.str "signature") := by rfl
  unfold dGet
  rw [h]
  rfl
@[simp] theorem dg_tag : dGet [(("draw" : Str), AV.str "drawn"), (("sign" : Str), AV.str "signature"), (("tag" : Str), AV.str "tag"), (("seal" : Str), AV.str "box"), (("wrap" : Str), AV.str "wrapped")] "tag" = some (.str "tag") := by
  have h : ([(("draw" : Str), AV.str "drawn"), (("sign" : Str), AV.str "signature"), (("tag" : Str), AV.str "tag"), (("seal" : Str), AV.str "box"), (("wrap" : Str), AV.str "wrapped")].find? fun kv => decide (kv.1 = ("tag" : Str))) = some (("tag" : Str), AV.str "tag") := by rfl
  unfold dGet
  rw [h]
  rfl
@[simp] theorem dg_seal : dGet [(("draw" : Str), AV.str "drawn"), (("sign" : Str), AV.str "signature"), (("tag" : Str), AV.str "tag"), (("seal" : Str), AV.str "box"), (("wrap" : Str), AV.str "wrapped")] "seal" = some (.str "box") := by
  have h : ([(("draw" : Str), AV.str "drawn"), (("sign" : Str), AV.str "signature"), (("tag" : Str), AV.str "tag"), (("seal" : Str), AV.str "box"), (("wrap" : Str), AV.str "wrapped")].find? fun kv => decide (kv.1 = ("seal" : Str))) = some (("seal" : Str), AV.str "box") := by rfl
  unfold dGet
  rw [h]
  rfl
@[simp] theorem dg_wrap : dGet [(("draw" : Str), AV.str "drawn"), (("sign" : Str), AV.str "signature"), (("tag" : Str), AV.str "tag"), (("seal" : Str), AV.str "box"), (("wrap" : Str), AV.str "wrapped")] "wrap" = some (.str "wrapped") := by
  have h : ([(("draw" : Str), AV.str "drawn"), (("sign" : Str), AV.str "signature"), (("tag" : Str), AV.str "tag"), (("seal" : Str), AV.str "box"), (("wrap" : Str), AV.str "wrapped")].find? fun kv => decide (kv.1 = ("wrap" : Str))) = some (("wrap" : Str), AV.str "wrapped") := by rfl
  unfold dGet
  rw [h]
  rfl
end K17
end
section
set_option maxRecDepth 100000
set_option maxHeartbeats 3000000
namespace K17
open PySem L2 Pyx
open PySem.Spec PyProof.Rows

/-! ### sizes of data -/
mutual
def sz : AV → Int
  | .tup xs => szs xs
  | _ => 1
def szs : List AV → Int
  | [] => 0
  | x :: xs => sz x + szs xs
end
theorem szs_sum : ∀ xs : List AV, szs xs = (xs.map sz).sum
  | [] => rfl
  | x :: xs => by rw [szs, szs_sum xs]; rfl
theorem sum_map {S : List SObj} (xs : List AV) : biSum S [.lst ((xs.filter fun _ => true).map fun x => AV.int (sz x))] = some (.int (szs xs)) := by
  rw [List.filter_eq_self.mpr fun _ _ => rfl]
  show (asInts (xs.map fun x => AV.int (sz x))).map _ = _
  have : (xs.map fun x => AV.int (sz x)) = (xs.map sz).map AV.int := by rw [List.map_map]; rfl
  rw [this, asInts_map, szs_sum]
  rfl
theorem s_size_of : ∀ (k d : Nat) (v : AV) (S : List SObj), sm k v = true → lvl T (d + k + 1) "size_of" [v] S = some (.int (sz v), S) := by
  intro k
  induction k with
  | zero =>
    intro d v S h
    rw [Nat.add_zero, l_size_of]
    cases v <;> first | (cases h; done) | (simp -implicitDefEqProofs [b_size_of, frame, sz])
  | succ k ih =>
    intro d v S h
    rw [show d + (k + 1) + 1 = (d + k + 1) + 1 by omega, l_size_of]
    cases v with
    | tup xs =>
      obtain ⟨j, e, h', hl⟩ := sm_tup h
      cases e
      have cp := comp_pure (G := lvl T (d + k + 1)) (ρ := [some (.val (.tup xs)), none]) (S := S) (i := 1) (xs := xs) (v := .tup xs) (tst := mTrue) (elt := eCall "size_of" (aCons (eVar 1) aNil)) (p := fun _ => true) (f := fun x => .int (sz x)) (.inr rfl) (by rfl)
        (fun x hx => rfl) (fun x hx _ => by simp -implicitDefEqProofs [ih d x S (h' x hx)]) (by omega)
      simp -implicitDefEqProofs [b_size_of, frame, sz, cp, sum_map]
    | lst _ => unfold sm at h; cases h
    | ref _ => unfold sm at h; cases h
    | _ => simp -implicitDefEqProofs [b_size_of, frame, sz]
theorem s_law_size : ∀ (k d : Nat) (v : AV) (S : List SObj), sm k v = true → lvl T (d + k + 1) "_law_size" [v] S = some (.int (sz v), S) := by
  intro k
  induction k with
  | zero =>
    intro d v S h
    rw [Nat.add_zero, l__law_size]
    cases v <;> first | (cases h; done) | (simp -implicitDefEqProofs [b__law_size, frame, sz])
  | succ k ih =>
    intro d v S h
    rw [show d + (k + 1) + 1 = (d + k + 1) + 1 by omega, l__law_size]
    cases v with
    | tup xs =>
      obtain ⟨j, e, h', hl⟩ := sm_tup h
      cases e
      have cp := comp_pure (G := lvl T (d + k + 1)) (ρ := [some (.val (.tup xs)), none]) (S := S) (i := 1) (xs := xs) (v := .tup xs) (tst := mTrue) (elt := eCall "_law_size" (aCons (eVar 1) aNil)) (p := fun _ => true) (f := fun x => .int (sz x)) (.inr rfl) (by rfl)
        (fun x hx => rfl) (fun x hx _ => by simp -implicitDefEqProofs [ih d x S (h' x hx)]) (by omega)
      simp -implicitDefEqProofs [b__law_size, frame, sz, cp, sum_map]
    | lst _ => unfold sm at h; cases h
    | ref _ => unfold sm at h; cases h
    | _ => simp -implicitDefEqProofs [b__law_size, frame, sz]

/-! ### rows -/
/-- a datum: numbers, texts, tuples, at most nine deep -/
abbrev dat (v : AV) : Prop := cn 9 v = true
inductive SRow where
  | pair (e : Nat) | plain (d : AV) | agreed (a b : Nat) | derived (s : Nat) (l d : AV) | mixed (a b : Nat)
inductive ERow where
  | pub (p : Nat) | drawn | sig (p : Nat) (d : AV) | tag (s : Nat) (d : AV) | box (s n : Nat) (h c : AV) | wrapped (s : Nat) (h : AV) (i : Nat) (c : AV)
@[reducible] def sA : SRow → AV
  | .pair e => .tup [.str "pair", .int (e : Nat)]
  | .plain d => .tup [.str "plain", d]
  | .agreed a b => .tup [.str "agreed", .int (a : Nat), .int (b : Nat)]
  | .derived s l d => .tup [.str "derived", .int (s : Nat), l, d]
  | .mixed a b => .tup [.str "mixed", .int (a : Nat), .int (b : Nat)]
@[reducible] def eA : ERow → AV
  | .pub p => .tup [.str "public", .int (p : Nat)]
  | .drawn => .tup [.str "drawn"]
  | .sig p d => .tup [.str "signature", .int (p : Nat), d]
  | .tag s d => .tup [.str "tag", .int (s : Nat), d]
  | .box s n h c => .tup [.str "box", .int (s : Nat), .int (n : Nat), h, c]
  | .wrapped s h i c => .tup [.str "wrapped", .int (s : Nat), h, .int (i : Nat), c]
def SRow.ok : SRow → Prop
  | .plain d => dat d
  | .derived _ l d => dat l ∧ dat d
  | _ => True
def ERow.ok : ERow → Prop
  | .sig _ d => dat d
  | .tag _ d => dat d
  | .box _ _ h c => dat h ∧ dat c
  | .wrapped _ h _ c => dat h ∧ dat c
  | _ => True
theorem cn_st {k : Nat} {z : Str} (h : PyData.strOk z = true) : cn k (.str z) = true := by unfold cn; cases k <;> exact h
theorem cn_in {k : Nat} {i : Int} : cn k (.int i) = true := by unfold cn; cases k <;> rfl
theorem sA_cn {r : SRow} (h : r.ok) : cn 10 (sA r) = true := by
  cases r with
  | pair e => exact cn_mk (by intro x hx; simp only [List.mem_cons, List.not_mem_nil, or_false] at hx; rcases hx with rfl | rfl; exact cn_st ok_pair; exact cn_in) (by simp)
  | plain d => exact cn_mk (by intro x hx; simp only [List.mem_cons, List.not_mem_nil, or_false] at hx; rcases hx with rfl | rfl; exact cn_st ok_plain; exact h) (by simp)
  | agreed a b => exact cn_mk (by intro x hx; simp only [List.mem_cons, List.not_mem_nil, or_false] at hx; rcases hx with rfl | rfl | rfl; exact cn_st ok_agreed; exact cn_in; exact cn_in) (by simp)
  | derived s l d => exact cn_mk (by intro x hx; simp only [List.mem_cons, List.not_mem_nil, or_false] at hx; rcases hx with rfl | rfl | rfl | rfl; exact cn_st ok_derived; exact cn_in; exact h.1; exact h.2) (by simp)
  | mixed a b => exact cn_mk (by intro x hx; simp only [List.mem_cons, List.not_mem_nil, or_false] at hx; rcases hx with rfl | rfl | rfl; exact cn_st ok_mixed; exact cn_in; exact cn_in) (by simp)
theorem eA_cn {r : ERow} (h : r.ok) : cn 10 (eA r) = true := by
  cases r with
  | pub p => exact cn_mk (by intro x hx; simp only [List.mem_cons, List.not_mem_nil, or_false] at hx; rcases hx with rfl | rfl; exact cn_st ok_public; exact cn_in) (by simp)
  | drawn => exact cn_mk (by intro x hx; simp only [List.mem_cons, List.not_mem_nil, or_false] at hx; rcases hx with rfl; exact cn_st ok_drawn) (by simp)
  | sig p d => exact cn_mk (by intro x hx; simp only [List.mem_cons, List.not_mem_nil, or_false] at hx; rcases hx with rfl | rfl | rfl; exact cn_st ok_signature; exact cn_in; exact h) (by simp)
  | tag p d => exact cn_mk (by intro x hx; simp only [List.mem_cons, List.not_mem_nil, or_false] at hx; rcases hx with rfl | rfl | rfl; exact cn_st ok_tag; exact cn_in; exact h) (by simp)
  | box s n g c => exact cn_mk (by intro x hx; simp only [List.mem_cons, List.not_mem_nil, or_false] at hx; rcases hx with rfl | rfl | rfl | rfl | rfl; exact cn_st ok_box; exact cn_in; exact cn_in; exact h.1; exact h.2) (by simp)
  | wrapped s g i c => exact cn_mk (by intro x hx; simp only [List.mem_cons, List.not_mem_nil, or_false] at hx; rcases hx with rfl | rfl | rfl | rfl | rfl; exact cn_st ok_wrapped; exact cn_in; exact h.1; exact cn_in; exact h.2) (by simp)

/-! ### the vault -/
structure Vt where
  sec : List SRow
  ent : List ERow
def Vt.A (v : Vt) : AV := .tup [.tup (v.sec.map sA), .tup (v.ent.map eA)]
/-- it is well made, and not too long -/
structure Vt.Ok (v : Vt) (n : Nat) : Prop where
  s : ∀ r ∈ v.sec, r.ok
  e : ∀ r ∈ v.ent, r.ok
  ls : v.sec.length ≤ n
  le : v.ent.length ≤ n
theorem Vt.Ok.rs {v : Vt} {n : Nat} (h : v.Ok n) : ∀ y ∈ v.sec.map sA, cn 10 y = true := fun y hy => by
  obtain ⟨r, hr, rfl⟩ := List.mem_map.mp hy
  exact sA_cn (h.s r hr)
theorem Vt.Ok.re {v : Vt} {n : Nat} (h : v.Ok n) : ∀ y ∈ v.ent.map eA, cn 10 y = true := fun y hy => by
  obtain ⟨r, hr, rfl⟩ := List.mem_map.mp hy
  exact eA_cn (h.e r hr)
/-- a secret is put in, if it is not there; its place -/
def Vt.put (v : Vt) (r : SRow) : Vt × Nat := match pos (v.sec.map sA) (sA r) with
  | some k => (v, k)
  | none => (⟨v.sec ++ [r], v.ent⟩, v.sec.length)
def Vt.add (v : Vt) (r : ERow) : Vt := ⟨v.sec, v.ent ++ [r]⟩
inductive Deed where
  | gen | plain (d : AV) | agree (p q : Nat) | derive (s : Nat) (l d : AV) | mix (a b : Nat) | draw | sign (p : Nat) (d : AV) | tag (s : Nat) (d : AV) | bx (s n : Nat) (h c : AV) | wrap (s : Nat) (h : AV) (i : Nat) (c : AV)
def Deed.A : Deed → AV
  | .gen => .tup [.str "generate"]
  | .plain d => .tup [.str "plain", d]
  | .agree p q => .tup [.str "agree", .int (p : Nat), .int (q : Nat)]
  | .derive s l d => .tup [.str "derive", .int (s : Nat), l, d]
  | .mix a b => .tup [.str "mix", .int (a : Nat), .int (b : Nat)]
  | .draw => .tup [.str "draw"]
  | .sign p d => .tup [.str "sign", .int (p : Nat), d]
  | .tag s d => .tup [.str "tag", .int (s : Nat), d]
  | .bx s n h c => .tup [.str "seal", .int (s : Nat), .int (n : Nat), h, c]
  | .wrap s h i c => .tup [.str "wrap", .int (s : Nat), h, .int (i : Nat), c]
def Deed.ok : Deed → Prop
  | .plain d => dat d
  | .derive _ l d => dat l ∧ dat d
  | .sign _ d => dat d
  | .tag _ d => dat d
  | .bx _ _ h c => dat h ∧ dat c
  | .wrap _ h _ c => dat h ∧ dat c
  | _ => True
/-- what a deed gives -/
def Vt.doO (v : Vt) : Option Nat → Nat → Vt × AV
  | some o, p => ((v.put (.agreed (min p o) (max p o))).1, .int ((v.put (.agreed (min p o) (max p o))).2 : Nat))
  | none, _ => (v, .non)
def pubOf : Option ERow → Option Nat
  | some (.pub p) => some p
  | _ => none
def Vt.act (v : Vt) : Deed → Vt × AV
  | .gen => (⟨v.sec ++ [.pair v.ent.length], v.ent ++ [.pub v.sec.length]⟩, .int (v.sec.length : Nat))
  | .plain d => ((v.put (.plain d)).1, .int ((v.put (.plain d)).2 : Nat))
  | .agree p q => v.doO (pubOf v.ent[q]?) p
  | .derive s l d => ((v.put (.derived s l d)).1, .int ((v.put (.derived s l d)).2 : Nat))
  | .mix a b => ((v.put (.mixed a b)).1, .int ((v.put (.mixed a b)).2 : Nat))
  | .draw => (v.add .drawn, .int (v.ent.length : Nat))
  | .sign p d => (v.add (.sig p d), .int (v.ent.length : Nat))
  | .tag s d => (v.add (.tag s d), .int (v.ent.length : Nat))
  | .bx s n h c => (v.add (.box s n h c), .tup [.int (v.ent.length : Nat), .int (sz c + 2)])
  | .wrap s h i c => (v.add (.wrapped s h i c), .int (v.ent.length : Nat))
section
variable {d : Nat} {S : List SObj} {v : Vt}
theorem s_with_secret {r : SRow} (h1 : r.ok) (hv : v.Ok 9000) : lvl T (d + 1) "with_secret" [v.A, sA r] S = some (.tup [(v.put r).1.A, .int ((v.put r).2 : Nat)], S) := by
  rw [l_with_secret]
  have hc := sA_cn h1
  have hi : inSeq (sA r) (v.sec.map sA) = some (pos (v.sec.map sA) (sA r)).isSome := by
    rw [inSeq_sm (cn_sm 10 _ hc) (fun y hy => cn_sm 10 y (hv.rs y hy)) (by omega), any_pos]
  have hx := idxA_sm (ys := v.sec.map sA) (cn_sm 10 _ hc) (fun y hy => cn_sm 10 y (hv.rs y hy)) (by omega)
  have hin : opIn S (sA r) (.tup (v.sec.map sA)) = some (.bl (pos (v.sec.map sA) (sA r)).isSome) := by
    show (inSeq (sA r) (v.sec.map sA)).map _ = _
    rw [hi]; rfl
  have hr := res_nr (S := S) (sm_nr 10 _ (cn_sm 10 _ hc))
  have hl := hv.ls
  have hn : (v.sec.map sA).length ≤ 9000 := by rw [List.length_map]; exact hl
  unfold Vt.put Vt.A
  cases hp : pos (v.sec.map sA) (sA r) with
  | some k =>
    rw [hp] at hin hx
    simp -implicitDefEqProofs [b_with_secret, frame, hin, hr, hx]
  | none =>
    rw [hp] at hin
    simp -implicitDefEqProofs [b_with_secret, frame, hin, hr, show v.sec.length + 1 ≤ 100000 by omega]
theorem s_with_entry {r : ERow} (hv : v.Ok 9000) : lvl T (d + 1) "with_entry" [v.A, eA r] S = some (.tup [(v.add r).A, .int (v.ent.length : Nat)], S) := by
  rw [l_with_entry]
  have hl := hv.le
  unfold Vt.add Vt.A
  simp -implicitDefEqProofs [b_with_entry, frame, show v.ent.length + 1 ≤ 100000 by omega]
theorem s_generate (hv : v.Ok 9000) : lvl T (d + 1) "generate" [v.A] S = some (.tup [(v.act .gen).1.A, (v.act .gen).2], S) := by
  rw [l_generate]
  have h1 := hv.le
  have h2 := hv.ls
  simp -implicitDefEqProofs [b_generate, frame, Vt.A, Vt.act, show v.ent.length + 1 ≤ 100000 by omega, show v.sec.length + 1 ≤ 100000 by omega]
theorem s_plain {x : AV} (h : dat x) (hv : v.Ok 9000) : lvl T (d + 2) "plain" [v.A, x] S = some (.tup [(v.act (.plain x)).1.A, (v.act (.plain x)).2], S) := by
  have := s_with_secret (d := d) (S := S) (r := .plain x) h hv
  rw [l_plain]
  simp -implicitDefEqProofs [b_plain, frame, this, Vt.act]
theorem s_derive {x l : AV} {s : Nat} (h : dat x) (h2 : dat l) (hv : v.Ok 9000) : lvl T (d + 2) "derive" [v.A, .int (s : Nat), l, x] S = some (.tup [(v.act (.derive s l x)).1.A, (v.act (.derive s l x)).2], S) := by
  have := s_with_secret (d := d) (S := S) (r := .derived s l x) ⟨h2, h⟩ hv
  rw [l_derive]
  simp -implicitDefEqProofs [b_derive, frame, this, Vt.act]
theorem s_mix {a b : Nat} (hv : v.Ok 9000) : lvl T (d + 2) "mix" [v.A, .int (a : Nat), .int (b : Nat)] S = some (.tup [(v.act (.mix a b)).1.A, (v.act (.mix a b)).2], S) := by
  have := s_with_secret (d := d) (S := S) (r := .mixed a b) trivial hv
  rw [l_mix]
  simp -implicitDefEqProofs [b_mix, frame, this, Vt.act]
theorem s_draw_op (hv : v.Ok 9000) : lvl T (d + 2) "draw" [v.A] S = some (.tup [(v.act .draw).1.A, (v.act .draw).2], S) := by
  have := s_with_entry (d := d) (S := S) (r := .drawn) hv
  rw [l_draw]
  simp -implicitDefEqProofs [b_draw, frame, this, Vt.act]
theorem s_sign {p : Nat} {x : AV} (hv : v.Ok 9000) : lvl T (d + 2) "sign" [v.A, .int (p : Nat), x] S = some (.tup [(v.act (.sign p x)).1.A, (v.act (.sign p x)).2], S) := by
  have := s_with_entry (d := d) (S := S) (r := .sig p x) hv
  rw [l_sign]
  simp -implicitDefEqProofs [b_sign, frame, this, Vt.act]
theorem s_tag {p : Nat} {x : AV} (hv : v.Ok 9000) : lvl T (d + 2) "tag" [v.A, .int (p : Nat), x] S = some (.tup [(v.act (.tag p x)).1.A, (v.act (.tag p x)).2], S) := by
  have := s_with_entry (d := d) (S := S) (r := .tag p x) hv
  rw [l_tag]
  simp -implicitDefEqProofs [b_tag, frame, this, Vt.act]
theorem s_wrap {s i : Nat} {h c : AV} (hv : v.Ok 9000) : lvl T (d + 2) "wrap" [v.A, .int (s : Nat), h, .int (i : Nat), c] S = some (.tup [(v.act (.wrap s h i c)).1.A, (v.act (.wrap s h i c)).2], S) := by
  have := s_with_entry (d := d) (S := S) (r := .wrapped s h i c) hv
  rw [l_wrap]
  simp -implicitDefEqProofs [b_wrap, frame, this, Vt.act]
theorem s_seal {s n : Nat} {h c : AV} (hc : dat c) (hv : v.Ok 9000) : lvl T (d + 11) "seal" [v.A, .int (s : Nat), .int (n : Nat), h, c] S = some (.tup [(v.act (.bx s n h c)).1.A, (v.act (.bx s n h c)).2], S) := by
  have h1 := s_with_entry (d := d + 9) (S := S) (r := .box s n h c) hv
  have h2 := s_size_of 9 d c S (cn_sm 9 c hc)
  rw [l_seal]
  simp -implicitDefEqProofs [b_seal, frame, h1, h2, Vt.act]
/-- the first word of an entry -/
def hdE : ERow → Str
  | .pub _ => "public" | .drawn => "drawn" | .sig _ _ => "signature" | .tag _ _ => "tag" | .box _ _ _ _ => "box" | .wrapped _ _ _ _ => "wrapped"
theorem s_pair_of {q : Nat} : lvl T (d + 2) "pair_of" [v.A, .int (q : Nat)] S = some (match pubOf v.ent[q]? with | some p => .int (p : Nat) | none => .non, S) := by
  have h1 : lvl T (d + 1) "row_of" [v.A, .int (q : Nat), .str "public"] S = some (match pubOf v.ent[q]? with | some p => .tup [.str "public", .int (p : Nat)] | none => .non, S) := by
    rw [l_row_of]
    unfold Vt.A
    by_cases hq : q < v.ent.length
    · have hg : (v.ent.map eA)[q]? = some (eA v.ent[q]) := by rw [List.getElem?_map, List.getElem?_eq_getElem hq]; rfl
      have hq' : q < (v.ent.map eA).length := by rw [List.length_map]; exact hq
      rw [List.getElem?_eq_getElem hq]
      generalize v.ent[q] = r at hg
      generalize v.ent.map eA = L at hg hq'
      obtain ⟨_, hg⟩ := List.getElem?_eq_some_iff.mp hg
      cases r <;> simp -implicitDefEqProofs [b_row_of, frame, hq', Pyx.atI_nat, hg, pubOf]
    · rw [List.getElem?_eq_none (by omega)]
      have hq' : ¬ q < (v.ent.map eA).length := by rw [List.length_map]; exact hq
      generalize v.ent.map eA = L at hq'
      simp -implicitDefEqProofs [b_row_of, frame, hq', pubOf]
  rw [l_pair_of]
  cases h : pubOf v.ent[q]? with
  | none => rw [h] at h1; simp -implicitDefEqProofs [b_pair_of, frame, h1]
  | some p => rw [h] at h1; simp -implicitDefEqProofs [b_pair_of, frame, h1]
theorem s_agree {p q : Nat} (hv : v.Ok 9000) : lvl T (d + 3) "agree" [v.A, .int (p : Nat), .int (q : Nat)] S = some (.tup [(v.act (.agree p q)).1.A, (v.act (.agree p q)).2], S) := by
  have h1 := s_pair_of (d := d) (S := S) (v := v) (q := q)
  rw [l_agree]
  cases h : pubOf v.ent[q]? with
  | none =>
    rw [h] at h1
    simp -implicitDefEqProofs [b_agree, frame, h1, Vt.act, h, Vt.doO]
  | some o =>
    rw [h] at h1
    have e1 : (if (o : Int) < (p : Int) then (o : Int) else (p : Int)) = ((min p o : Nat) : Int) := by split <;> omega
    have e2 : (if (o : Int) > (p : Int) then (o : Int) else (p : Int)) = ((max p o : Nat) : Int) := by split <;> omega
    have m1 : ∀ S, biMin S [.int (p : Int), .int (o : Int)] = some (.int ((min p o : Nat) : Int)) := fun S => by rw [← e1]; rfl
    have m2 : ∀ S, biMax S [.int (p : Int), .int (o : Int)] = some (.int ((max p o : Nat) : Int)) := fun S => by rw [← e2]; rfl
    have h2 := s_with_secret (d := d + 1) (S := S) (r := .agreed (min p o) (max p o)) trivial hv
    simp only [sA] at h2
    generalize ((min p o : Nat) : Int) = mi at m1 h2
    generalize ((max p o : Nat) : Int) = ma at m2 h2
    simp -implicitDefEqProofs [b_agree, frame, h1, m1, m2, h2, Vt.act, h, Vt.doO, -biMax_i]
end
end K17
end
section
set_option maxRecDepth 100000
set_option maxHeartbeats 3000000
namespace K17
open PySem L2 Pyx
open PySem.Spec PyProof.Rows

/-! ### draws -/
section
variable {t : Tp} {R : List SObj}
theorem s_draw (d : Nat) (ht : t.Ok) (many : Int) (hm : many < 1073741824) (R : List SObj) :
    ∃ (r : Nat) (t' : Tp), lvl T (d + 1) "_law_draw" [.ref 0, .int many] (tpO t :: R) = some (.int (r : Nat), tpO t' :: R) ∧ t'.Ok ∧ ((r : Int) < many ∨ (r : Int) < 1) := by
  obtain ⟨q, h1, r, t', rfl, h2, h3, h4⟩ := draw_ok (lvl T d) t ht many hm R
  obtain ⟨n, rfl⟩ := Int.eq_ofNat_of_zero_le h3
  exact ⟨n, t', h1, h2, h4⟩
/-- below a number that is there -/
theorem s_drawN (d : Nat) (ht : t.Ok) (many : Nat) (h0 : 0 < many) (hm : many < 1000000001) (R : List SObj) :
    ∃ (r : Nat) (t' : Tp), lvl T (d + 1) "_law_draw" [.ref 0, .int (many : Nat)] (tpO t :: R) = some (.int (r : Nat), tpO t' :: R) ∧ t'.Ok ∧ r < many := by
  obtain ⟨r, t', h1, h2, h3⟩ := s_draw d ht (many : Int) (by omega) R
  exact ⟨r, t', h1, h2, by omega⟩
theorem s_pick (d : Nat) (ht : t.Ok) {xs : List AV} (h0 : xs ≠ []) (hl : xs.length < 1000000) (R : List SObj) :
    ∃ (x : AV) (t' : Tp), lvl T (d + 2) "_law_pick" [.ref 0, .lst xs] (tpO t :: R) = some (x, tpO t' :: R) ∧ t'.Ok ∧ x ∈ xs := by
  have hp : 0 < xs.length := List.length_pos_iff.mpr h0
  obtain ⟨k, t', h1, h2, hk⟩ := s_drawN d ht xs.length hp (by omega) R
  refine ⟨xs[k], t', ?_, h2, List.getElem_mem hk⟩
  rw [l__law_pick]
  simp only [tpO] at h1
  simp -implicitDefEqProofs [b__law_pick, frame, tpO, h1, Pyx.atI_nat, List.getElem?_eq_getElem hk]
theorem s_pickT (d : Nat) (ht : t.Ok) {z : Str} (h0 : 0 < z.length) (hl : z.length < 100000) (R : List SObj) :
    ∃ (c : Nat) (t' : Tp), lvl T (d + 2) "_law_pick" [.ref 0, .str z] (tpO t :: R) = some (.str ⟨#[c]⟩, tpO t' :: R) ∧ t'.Ok ∧ c ∈ z.cps.toList := by
  obtain ⟨k, t', h1, h2, hk⟩ := s_drawN d ht z.length h0 (by omega) R
  have hk' : k < z.cps.toList.length := by simpa [Str.length] using hk
  refine ⟨z.cps.toList[k], t', ?_, h2, List.getElem_mem hk'⟩
  have hx := ixS_nat (z := z) (k := k) (by omega) (List.getElem?_eq_getElem hk')
  rw [l__law_pick]
  simp only [tpO] at h1
  simp -implicitDefEqProofs [b__law_pick, frame, tpO, h1, hx, show z.length ≤ 100000 by omega]
theorem s_number (d : Nat) (ht : t.Ok) (R : List SObj) :
    ∃ (r : Nat) (t' : Tp), lvl T (d + 3) "_law_number" [.ref 0] (tpO t :: R) = some (.int (r : Nat), tpO t' :: R) ∧ t'.Ok ∧ r ≤ 1000000000 := by
  obtain ⟨c, t1, h1, k1, b1⟩ := s_drawN (d + 1) ht 5 (by omega) (by omega) R
  have h1 : lvl T (d + 2) "_law_draw" [.ref 0, .int 5] (tpO t :: R) = some (.int (c : Nat), tpO t1 :: R) := h1
  rw [l__law_number]
  have c5 : c = 0 ∨ c = 1 ∨ c = 2 ∨ c = 3 ∨ c = 4 := by omega
  rcases c5 with rfl | rfl | rfl | rfl | rfl
  · obtain ⟨r, t2, h2, k2, b2⟩ := s_drawN (d + 1) k1 3 (by omega) (by omega) R
    have h2 : lvl T (d + 2) "_law_draw" [.ref 0, .int 3] (tpO t1 :: R) = some (.int (r : Nat), tpO t2 :: R) := h2
    exact ⟨r, t2, by simp -implicitDefEqProofs [b__law_number, frame, h1, h2], k2, by omega⟩
  · obtain ⟨r, t2, h2, k2, b2⟩ := s_drawN (d + 1) k1 12 (by omega) (by omega) R
    have h2 : lvl T (d + 2) "_law_draw" [.ref 0, .int 12] (tpO t1 :: R) = some (.int (r : Nat), tpO t2 :: R) := h2
    exact ⟨r, t2, by simp -implicitDefEqProofs [b__law_number, frame, h1, h2], k2, by omega⟩
  · obtain ⟨r, t2, h2, k2, b2⟩ := s_drawN (d + 1) k1 300 (by omega) (by omega) R
    have h2 : lvl T (d + 2) "_law_draw" [.ref 0, .int 300] (tpO t1 :: R) = some (.int (r : Nat), tpO t2 :: R) := h2
    exact ⟨r, t2, by simp -implicitDefEqProofs [b__law_number, frame, h1, h2], k2, by omega⟩
  · obtain ⟨x, t2, h2, k2, b2⟩ := s_pick d k1 (xs := [.int 255, .int 256, .int 65536, .int 999999998, .int 999999999]) (by simp) (by simp) R
    simp only [List.mem_cons, List.not_mem_nil, or_false] at b2
    have : ∃ r : Nat, x = .int (r : Nat) ∧ r ≤ 1000000000 := by
      rcases b2 with rfl | rfl | rfl | rfl | rfl
      · exact ⟨255, rfl, by omega⟩
      · exact ⟨256, rfl, by omega⟩
      · exact ⟨65536, rfl, by omega⟩
      · exact ⟨999999998, rfl, by omega⟩
      · exact ⟨999999999, rfl, by omega⟩
    obtain ⟨r, rfl, hr⟩ := this
    exact ⟨r, t2, by simp -implicitDefEqProofs [b__law_number, frame, h1, h2], k2, hr⟩
  · obtain ⟨r, t2, h2, k2, b2⟩ := s_drawN (d + 1) k1 1000000000 (by omega) (by omega) R
    have h2 : lvl T (d + 2) "_law_draw" [.ref 0, .int 1000000000] (tpO t1 :: R) = some (.int (r : Nat), tpO t2 :: R) := h2
    exact ⟨r, t2, by simp -implicitDefEqProofs [b__law_number, frame, h1, h2], k2, by omega⟩

/-! ### texts -/
def okC (c : Nat) : Prop := c < 0x110000
theorem strOk_iff {z : Str} : PyData.strOk z = true ↔ ∀ c ∈ z.cps.toList, c < 0x110000 := by
  show z.cps.all (fun c => decide (c < 0x110000)) = true ↔ _
  rw [Array.all_eq_true_iff_forall_mem]
  simp
theorem join_chars : ∀ {ys : List Str}, (∀ y ∈ ys, ∃ c, y = ⟨#[c]⟩ ∧ c < 0x110000) → PyData.strOk (Str.join "" ys) = true ∧ (Str.join "" ys).length = ys.length
  | [], _ => ⟨by decide +kernel, rfl⟩
  | [y], h => by
    obtain ⟨c, rfl, hc⟩ := h y List.mem_cons_self
    refine ⟨strOk_iff.mpr fun x hx => ?_, rfl⟩
    have e : x = c := by simpa [Str.join] using hx
    rw [e]
    exact hc
  | y :: z :: r, h => by
    obtain ⟨c, rfl, hc⟩ := h y List.mem_cons_self
    obtain ⟨h1, h2⟩ := join_chars (ys := z :: r) fun w hw => h w (List.mem_cons_of_mem _ hw)
    have e : Str.join "" (⟨#[c]⟩ :: z :: r) = (⟨#[c]⟩ ++ ("" : Str)) ++ Str.join "" (z :: r) := rfl
    rw [e]
    have e2 : ((⟨#[c]⟩ ++ ("" : Str)) ++ Str.join "" (z :: r)).cps = (#[c] ++ ("" : Str).cps) ++ (Str.join "" (z :: r)).cps := rfl
    have e3 : ("" : Str).cps = #[] := by decide +kernel
    refine ⟨strOk_iff.mpr fun x hx => ?_, ?_⟩
    · rw [e2, e3] at hx
      simp at hx
      rcases hx with rfl | hx
      · exact hc
      · exact strOk_iff.mp h1 x (by simpa using hx)
    · show ((⟨#[c]⟩ ++ ("" : Str)) ++ Str.join "" (z :: r)).cps.size = _
      rw [e2, e3]
      have : (Str.join "" (z :: r)).cps.size = (z :: r).length := h2
      simp [this]
      omega
def signs : Str := " !\"#$&'()*+,-./0123456789:;<=>?@ABCDEFGHIJKLMNOPQRSTUVWXYZ[\\]^_`abcdefghijklmnopqrstuvwxyz{|}~"
theorem signs_ok : 94 ≤ signs.cps.toList.length ∧ signs.length ≤ 100000 ∧ ∀ c ∈ signs.cps.toList, c < 0x110000 := by decide +kernel
theorem asStrs_map : ∀ ys : List Str, asStrs (ys.map AV.str) = some ys
  | [] => rfl
  | y :: ys => by show (asStrs (ys.map AV.str)).map (y :: ·) = _; rw [asStrs_map ys]; rfl
theorem strs_of : ∀ {vs : List AV}, (∀ v ∈ vs, ∃ c, v = .str ⟨#[c]⟩ ∧ c < 0x110000) → ∃ ys : List Str, vs = ys.map AV.str ∧ ∀ y ∈ ys, ∃ c, y = ⟨#[c]⟩ ∧ c < 0x110000
  | [], _ => ⟨[], rfl, fun _ h => by cases h⟩
  | v :: vs, h => by
    obtain ⟨c, rfl, hc⟩ := h v List.mem_cons_self
    obtain ⟨ys, e, k⟩ := strs_of (vs := vs) fun w hw => h w (List.mem_cons_of_mem _ hw)
    exact ⟨⟨#[c]⟩ :: ys, by rw [e]; rfl, fun y hy => (List.mem_cons.mp hy).elim (fun e => ⟨c, e, hc⟩) (k y)⟩
theorem s_text (d : Nat) (ht : t.Ok) (most : Nat) (hm : most ≤ 16) (R : List SObj) :
    ∃ (z : Str) (t' : Tp), lvl T (d + 2) "_law_text" [.ref 0, .int (most : Nat)] (tpO t :: R) = some (.str z, tpO t' :: R) ∧ t'.Ok ∧ PyData.strOk z = true ∧ z.length ≤ 16 := by
  obtain ⟨n, t1, h1, k1, b1⟩ := s_drawN d ht (most + 1) (by omega) (by omega) R
  have h1 : lvl T (d + 1) "_law_draw" [.ref 0, .int ((most : Int) + 1)] (tpO t :: R) = some (.int (n : Nat), tpO t1 :: R) := h1
  obtain ⟨g1, g2, g3⟩ := signs_ok
  obtain ⟨vs, S', e1, e2, e3, t2, rfl, k2⟩ := compR_st (G := lvl T (d + 1)) (ρ := [some (.val (.ref 0)), some (.val (.int (most : Nat))), some (.val (.str signs)), none]) (i := 3) (elt := eBin opIx (oVar 2) (oE (eCall "_law_draw" (aCons (eVar 0) (aCons (eCon (.int 94)) aNil)))))
    (S := tpO t1 :: R) (n := n) (fun _ S => ∃ t' : Tp, S = tpO t' :: R ∧ t'.Ok) (fun v => ∃ c, v = .str ⟨#[c]⟩ ∧ c < 0x110000) rfl ⟨t1, rfl, k1⟩ (by omega) (fun k S hk ⟨t', e, ok⟩ => by
      subst e
      obtain ⟨j, t2, h2, k2, b2⟩ := s_drawN d ok 94 (by omega) (by omega) R
      have h2 : lvl T (d + 1) "_law_draw" [.ref 0, .int 94] (tpO t' :: R) = some (.int (j : Nat), tpO t2 :: R) := h2
      have hj : j < signs.cps.toList.length := by omega
      have hx := ixS_nat (z := signs) (k := j) g2 (List.getElem?_eq_getElem hj)
      have hc := g3 _ (List.getElem_mem hj)
      refine ⟨.str ⟨#[signs.cps.toList[j]]⟩, tpO t2 :: R, ?_, ⟨_, rfl, hc⟩, t2, rfl, k2⟩
      generalize signs.cps.toList[j] = c at hx ⊢
      generalize signs = z at hx ⊢
      simp -implicitDefEqProofs [h2, hx])
  obtain ⟨ys, rfl, hy⟩ := strs_of e3
  obtain ⟨q1, q2⟩ := join_chars hy
  have hl : ys.length = n := by simpa using e2
  have hj : joinA "" (.lst (ys.map AV.str)) = some (.str (Str.join "" ys)) := by
    show ((asStrs (ys.map AV.str)).bind fun ys => if (ys.map (·.length)).sum + ys.length * ("" : Str).length ≤ 16777216 then some (AV.str (Txt.join "" ys)) else none) = _
    rw [asStrs_map]
    have e0 : ("" : Str).length = 0 := by decide +kernel
    have sm : (ys.map (·.length)).sum = ys.length := by
      clear hl e2 e3 e1 q1 q2
      induction ys with
      | nil => rfl
      | cons y ys ih =>
        obtain ⟨c, rfl, _⟩ := hy y List.mem_cons_self
        rw [List.map_cons, List.sum_cons, ih fun w hw => hy w (List.mem_cons_of_mem _ hw), List.length_cons]
        show 1 + ys.length = _
        omega
    show (if (ys.map (·.length)).sum + ys.length * ("" : Str).length ≤ 16777216 then some (AV.str (Txt.join "" ys)) else none) = _
    rw [e0, sm, if_pos (by omega), TL.join_eq]
  refine ⟨Str.join "" ys, t2, ?_, k2, q1, by omega⟩
  rw [l__law_text]
  have hs : (" !\"#$&'()*+,-./0123456789:;<=>?@ABCDEFGHIJKLMNOPQRSTUVWXYZ[\\]^_`abcdefghijklmnopqrstuvwxyz{|}~" : Str) = signs := rfl
  unfold b__law_text
  rw [hs]
  generalize signs = z at e1 ⊢
  simp -implicitDefEqProofs [frame, h1, e1, hj]
end
end K17
end
section
set_option maxRecDepth 100000
set_option maxHeartbeats 3000000
namespace K17
open PySem L2 Pyx
open PySem.Spec PyProof.Rows

theorem cn_mono : ∀ (k : Nat) (v : AV), cn k v = true → cn (k + 1) v = true
  | _, .int _, _ => cn_in
  | _, .str z, h => by unfold cn at h; exact cn_st h
  | k + 1, .tup xs, h => by
    obtain ⟨j, e, h', hl⟩ := cn_tup h
    cases e
    exact cn_mk (fun x hx => cn_mono k x (h' x hx)) hl
  | 0, .tup _, h => by cases h
  | _, .non, h => by unfold cn at h; cases h
  | _, .bl _, h => by unfold cn at h; cases h
  | _, .lst _, h => by unfold cn at h; cases h
  | _, .ref _, h => by unfold cn at h; cases h
theorem cn_le {k j : Nat} {v : AV} (h : cn k v = true) (hk : k ≤ j) : cn j v = true := by
  induction hk with
  | refl => exact h
  | step _ ih => exact cn_mono _ _ ih
section
variable {t : Tp} {R : List SObj}
theorem leafs_ok : ∀ x ∈ ([.str "", .str "0", .str "1", .str "ticket", .str "route", .str "ping", .str "app", .str "()"] : List AV), cn 0 x = true := by
  intro x hx
  simp only [List.mem_cons, List.not_mem_nil, or_false] at hx
  rcases hx with rfl | rfl | rfl | rfl | rfl | rfl | rfl | rfl <;> exact cn_st (by decide +kernel)
theorem s_leaf (d : Nat) (ht : t.Ok) (R : List SObj) :
    ∃ (v : AV) (t' : Tp), lvl T (d + 4) "_law_leaf" [.ref 0] (tpO t :: R) = some (v, tpO t' :: R) ∧ t'.Ok ∧ cn 0 v = true := by
  obtain ⟨c, t1, h1, k1, b1⟩ := s_drawN (d + 2) ht 8 (by omega) (by omega) R
  have h1 : lvl T (d + 3) "_law_draw" [.ref 0, .int 8] (tpO t :: R) = some (.int (c : Nat), tpO t1 :: R) := h1
  rw [l__law_leaf]
  by_cases c4 : c < 4
  · obtain ⟨r, t2, h2, k2, b2⟩ := s_drawN (d + 2) k1 4 (by omega) (by omega) R
    have h2 : lvl T (d + 3) "_law_draw" [.ref 0, .int 4] (tpO t1 :: R) = some (.int (r : Nat), tpO t2 :: R) := h2
    exact ⟨_, t2, by simp -implicitDefEqProofs [b__law_leaf, frame, h1, h2, show (c : Int) < 4 by omega]; rfl, k2, cn_in⟩
  · by_cases c6 : c < 6
    · obtain ⟨r, t2, h2, k2, _⟩ := s_number d k1 R
      exact ⟨_, t2, by simp -implicitDefEqProofs [b__law_leaf, frame, h1, h2, show ¬ (c : Int) < 4 by omega, show (c : Int) < 6 by omega]; rfl, k2, cn_in⟩
    · by_cases c7 : c = 6
      · subst c7
        obtain ⟨x, t2, h2, k2, b2⟩ := s_pick (d + 1) k1 (xs := [.str "", .str "0", .str "1", .str "ticket", .str "route", .str "ping", .str "app", .str "()"]) (by simp) (by simp) R
        exact ⟨x, t2, by simp -implicitDefEqProofs [b__law_leaf, frame, h1, h2], k2, leafs_ok x b2⟩
      · obtain ⟨z, t2, h2, k2, b2, _⟩ := s_text (d + 1) k1 16 (by omega) R
        have h2 : lvl T (d + 3) "_law_text" [.ref 0, .int 16] (tpO t1 :: R) = some (.str z, tpO t2 :: R) := h2
        exact ⟨_, t2, by simp -implicitDefEqProofs [b__law_leaf, frame, h1, h2, show ¬ (c : Int) < 4 by omega, show ¬ (c : Int) < 6 by omega, show ¬ (c : Int) = 6 by omega], k2, cn_st b2⟩
/-! ### slices -/
theorem sIx_nat' (n d k : Nat) : HT.sIx n d (some (k : Int)) = min k n := HT.sIx_nat n d k
theorem cut_to {xs : List AV} (k : Nat) : cutA xs none (some (k : Int)) = xs.take k := by
  unfold cutA
  rw [HT.sIx_none, sIx_nat', List.drop_zero, Nat.sub_zero, List.take_eq_take_iff]
  omega
theorem cut_from {xs : List AV} (k : Nat) : cutA xs (some (k : Int)) none = xs.drop k := by
  unfold cutA
  rw [HT.sIx_none, sIx_nat']
  by_cases h : k ≤ xs.length
  · rw [Nat.min_eq_left h]
    exact List.take_of_length_le (by simp)
  · rw [Nat.min_eq_right (by omega)]
    simp
    omega
theorem cut_len {xs : List AV} (a b : Option Int) : (cutA xs a b).length ≤ xs.length := by
  unfold cutA
  rw [List.length_take, List.length_drop]
  omega
theorem cut_mem {xs : List AV} {a b : Option Int} {x : AV} (h : x ∈ cutA xs a b) : x ∈ xs := List.mem_of_mem_drop (List.mem_of_mem_take h)
theorem cut_ints {ns : List Int} (a b : Option Int) : ∃ ms : List Int, cutA (ns.map AV.int) a b = ms.map AV.int ∧ ms.length ≤ ns.length := by
  unfold cutA
  rw [← List.map_drop, ← List.map_take]
  exact ⟨_, rfl, by rw [List.length_take, List.length_drop]; omega⟩
theorem max_ints {S : List SObj} (ms : List Int) : ∃ m : Int, biMax S [.lst (.int 0 :: ms.map AV.int)] = some (.int m) := by
  refine ⟨maxI (0 :: ms), ?_⟩
  show pickI maxI ((0 :: ms).map AV.int) = _
  unfold pickI
  rw [asInts_map]
  rfl
def DI (k : Nat) (row : List AV) : Prop := (∀ x ∈ row, cn k x = true) ∧ row.length ≤ 60 + k
def BD : MS := (sSeq (sAsg 6 (eCall "_law_draw" (aCons (eVar 0) (aCons (eBin opAdd (oE (eBi biLen (osCons (oVar 3) osNil))) (oE (eCon (.int 1)))) aNil)))) (sSeq (sAsg 7 (eBin opAdd (oVar 6) (oE (eCall "_law_draw" (aCons (eVar 0) (aCons (eBin opSub (oE (eBin opAdd (oE (eBi biLen (osCons (oVar 3) osNil))) (oE (eCon (.int 1))))) (oVar 6)) aNil)))))) (sSeq (sAsg 8 (eBin opAdd (oE (eCon (.int 1))) (oE (eBi biMax (osCons (oE (eBin opAdd (oE (eFrz (fLst (aCons (eCon (.int 0)) aNil)))) (oE (eSl (oVar 4) (pSome (eVar 6)) (pSome (eVar 7)))))) osNil))))) (sSeq (sIf (mBool (eBin opLt (oVar 8) (oVar 2))) (sSeq (sAsg 3 (eBin opAdd (oE (eBin opAdd (oE (eSl (oVar 3) pNone (pSome (eVar 6)))) (oE (eFrz (fLst (aCons (eBi biTuple (osCons (oE (eSl (oVar 3) (pSome (eVar 6)) (pSome (eVar 7)))) osNil)) aNil)))))) (oE (eSl (oVar 3) (pSome (eVar 7)) pNone)))) (sSeq (sAsg 4 (eBin opAdd (oE (eBin opAdd (oE (eSl (oVar 4) pNone (pSome (eVar 6)))) (oE (eFrz (fLst (aCons (eVar 8) aNil)))))) (oE (eSl (oVar 4) (pSome (eVar 7)) pNone)))) sSkip)) sSkip) sSkip))))
/-- a turn that puts a part of the row into a tuple -/
theorem turnD (d : Nat) (ht : t.Ok) {row : List AV} {ns : List Int} {k : Nat} (hr : DI k row) (hn : ns.length ≤ 60 + k) (hk : k < 9) (lv L j : Int) (x6 x7 x8 : Option Slt) (R : List SObj) :
    ∃ (t' : Tp) (row' : List AV) (ns' : List Int) (y6 y7 y8 : Option Slt), BD (lvl T (d + 1)) ⟨[some (.val (.ref 0)), some (.val (.int lv)), some (.val (.int L)), some (.val (.lst row)), some (.val (.lst (ns.map .int))), some (.val (.int j)), x6, x7, x8], tpO t :: R⟩ =
      some (.nx, ⟨[some (.val (.ref 0)), some (.val (.int lv)), some (.val (.int L)), some (.val (.lst row')), some (.val (.lst (ns'.map .int))), some (.val (.int j)), y6, y7, y8], tpO t' :: R⟩) ∧ t'.Ok ∧ DI (k + 1) row' ∧ ns'.length ≤ 60 + (k + 1) := by
  obtain ⟨hr1, hr2⟩ := hr
  obtain ⟨lo, t1, h1, k1, b1⟩ := s_drawN d ht (row.length + 1) (by omega) (by omega) R
  have h1 : lvl T (d + 1) "_law_draw" [.ref 0, .int ((row.length : Int) + 1)] (tpO t :: R) = some (.int (lo : Nat), tpO t1 :: R) := h1
  obtain ⟨w, t2, h2, k2, b2⟩ := s_drawN d k1 (row.length + 1 - lo) (by omega) (by omega) R
  have e2 : ((row.length + 1 - lo : Nat) : Int) = (row.length : Int) + 1 - (lo : Int) := by omega
  rw [e2] at h2
  obtain ⟨ms, hms, hml⟩ := cut_ints (ns := ns) (some (lo : Int)) (some ((lo : Int) + (w : Int)))
  obtain ⟨mx, hmx⟩ := max_ints (S := tpO t2 :: R) ms
  have c1 := cut_to (xs := row) lo
  have c2 := cut_from (xs := row) (lo + w)
  have c2 : cutA row (some ((lo : Int) + (w : Int))) none = row.drop (lo + w) := by rw [← c2]; congr 2
  have c3 := cut_to (xs := ns.map AV.int) lo
  have c4 : cutA (ns.map AV.int) (some ((lo : Int) + (w : Int))) none = (ns.map AV.int).drop (lo + w) := by rw [← cut_from (xs := ns.map AV.int) (lo + w)]; congr 2
  have cm := fun x => cut_mem (xs := row) (a := some (lo : Int)) (b := some ((lo : Int) + (w : Int))) (x := x)
  have cl := cut_len (xs := row) (some (lo : Int)) (some ((lo : Int) + (w : Int)))
  generalize hmid : cutA row (some (lo : Int)) (some ((lo : Int) + (w : Int))) = mid at cm cl
  have hA : (row.take lo).length ≤ row.length := by rw [List.length_take]; omega
  have hB : (row.drop (lo + w)).length ≤ row.length := by rw [List.length_drop]; omega
  have hAB : (row.take lo).length + (row.drop (lo + w)).length ≤ row.length := by rw [List.length_take, List.length_drop]; omega
  have hA2 : (ns.take lo).length + (ns.drop (lo + w)).length ≤ ns.length := by rw [List.length_take, List.length_drop]; omega
  rw [← List.map_take] at c3
  rw [← List.map_drop] at c4
  have mA : ∀ x ∈ row.take lo, cn k x = true := fun x hx => hr1 x (List.mem_of_mem_take hx)
  have mB : ∀ x ∈ row.drop (lo + w), cn k x = true := fun x hx => hr1 x (List.mem_of_mem_drop hx)
  generalize row.take lo = A at hA hAB mA c1
  generalize row.drop (lo + w) = B at hB hAB mB c2
  generalize ns.take lo = C at hA2 c3
  generalize ns.drop (lo + w) = D at hA2 c4
  by_cases hL : 1 + mx < L
  · refine ⟨t2, A ++ [.tup mid] ++ B, C ++ [1 + mx] ++ D, some (.val (.int (lo : Int))), some (.val (.int ((lo : Int) + (w : Int)))), some (.val (.int (1 + mx))), ?_, k2, ⟨fun x hx => ?_, ?_⟩, ?_⟩
    · have q3 : ((C ++ [1 + mx] ++ D).map AV.int) = C.map AV.int ++ [.int (1 + mx)] ++ D.map AV.int := by simp
      rw [q3]
      have l1 : (C.map AV.int).length = C.length := by simp
      have l2 : (D.map AV.int).length = D.length := by simp
      have l3 : (ns.map AV.int).length = ns.length := by simp
      have l4 : (ms.map AV.int).length = ms.length := by simp
      generalize C.map AV.int = C' at *
      generalize D.map AV.int = D' at *
      generalize ns.map AV.int = N' at *
      generalize ms.map AV.int = M' at *
      unfold BD
      simp -implicitDefEqProofs [h1, h2, hms, hmx, hmid, c1, c2, c3, c4, hL, show ms.length + 1 ≤ 100000 by omega, show 1 + M'.length ≤ 100000 by omega, show A.length + 1 ≤ 100000 by omega, show A.length + 1 + B.length ≤ 100000 by omega, show C'.length + 1 ≤ 100000 by omega, show C'.length + 1 + D'.length ≤ 100000 by omega]
    · rcases List.mem_append.mp hx with hx | hx
      · rcases List.mem_append.mp hx with hx | hx
        · exact cn_mono k x (mA x hx)
        · rw [List.mem_singleton.mp hx]
          exact cn_mk (fun y hy => hr1 y (cm y hy)) (by omega)
      · exact cn_mono k x (mB x hx)
    · simp only [List.length_append, List.length_cons, List.length_nil]; omega
    · simp only [List.length_append, List.length_cons, List.length_nil]; omega
  · refine ⟨t2, row, ns, some (.val (.int (lo : Int))), some (.val (.int ((lo : Int) + (w : Int)))), some (.val (.int (1 + mx))), ?_, k2, ⟨fun x hx => cn_mono k x (hr1 x hx), by omega⟩, by omega⟩
    have l3 : (ns.map AV.int).length = ns.length := by simp
    have l4 : (ms.map AV.int).length = ms.length := by simp
    generalize ns.map AV.int = N' at *
    generalize ms.map AV.int = M' at *
    unfold BD
    simp -implicitDefEqProofs [h1, h2, hms, hmx, hL, show 1 + M'.length ≤ 100000 by omega]
def ED : MS := (sSeq (sIf (mAnd (mBool (eBin opEq (oE (eBi biLen (osCons (oVar 3) osNil))) (oE (eCon (.int 1))))) (mBool (eBin opEq (oE (eCall "_law_draw" (aCons (eVar 0) (aCons (eCon (.int 2)) aNil)))) (oE (eCon (.int 0)))))) (sSeq (sRet (eBin opIx (oVar 3) (oE (eCon (.int 0))))) sSkip) sSkip) (sSeq (sRet (eBi biTuple (osCons (oVar 3) osNil))) sSkip))
theorem u_datum : b__law_datum = (sSeq (sAsg 3 (eFrz (fCompR asR1 (aCons (eVar 1) aNil) [5] (.one 5) mTrue (eCall "_law_leaf" (aCons (eVar 0) aNil))))) (sSeq (sAsg 4 (eFrz (fCompR asR1 (aCons (eVar 1) aNil) [5] (.one 5) mTrue (eCon (.int 0))))) (sSeq (sForR asR1 (aCons (eCall "_law_draw" (aCons (eVar 0) (aCons (eBin opMul (oE (eCon (.int 2))) (oVar 2)) aNil))) aNil) (.one 5) BD) ED))) := rfl
theorem ints0 (n : Nat) : ∃ ns : List Int, (((rgA 0 n).filter fun _ => true).map fun _ => AV.int 0) = ns.map AV.int ∧ ns.length = n := by
  refine ⟨List.replicate n 0, ?_, by simp⟩
  rw [List.filter_eq_self.mpr fun _ _ => rfl]
  apply List.ext_getElem?
  intro j
  rw [List.getElem?_map, List.getElem?_map, List.getElem?_replicate]
  split
  · rename_i h; rw [rgA_get h]; rfl
  · rename_i h; rw [List.getElem?_eq_none (by rw [rgA_length]; omega)]; rfl
/-- a drawn datum -/
theorem s_datum (d : Nat) (ht : t.Ok) (lv L : Nat) (h1 : lv ≤ 59) (h2 : L ≤ 4) (R : List SObj) :
    ∃ (v : AV) (t' : Tp), lvl T (d + 5) "_law_datum" [.ref 0, .int (lv : Nat), .int (L : Nat)] (tpO t :: R) = some (v, tpO t' :: R) ∧ t'.Ok ∧ dat v := by
  let base : List (Option Slt) := [some (.val (.ref 0)), some (.val (.int (lv : Nat))), some (.val (.int (L : Nat))), none, none, none, none, none, none]
  obtain ⟨row, S', e1, e2, e3, t1, rfl, k1⟩ := compR_st (G := lvl T (d + 4)) (ρ := base) (i := 5) (elt := eCall "_law_leaf" (aCons (eVar 0) aNil)) (S := tpO t :: R) (n := lv) (fun _ S => ∃ t' : Tp, S = tpO t' :: R ∧ t'.Ok) (fun v => cn 0 v = true) rfl ⟨t, rfl, ht⟩ (by omega) (fun k S hk ⟨t', e, ok⟩ => by
    subst e
    obtain ⟨v, t2, g1, g2, g3⟩ := s_leaf d ok R
    exact ⟨v, tpO t2 :: R, by simp -implicitDefEqProofs [base, g1], g3, t2, rfl, g2⟩)
  have cp := compR_pure (G := lvl T (d + 4)) (ρ := [some (.val (.ref 0)), some (.val (.int (lv : Nat))), some (.val (.int (L : Nat))), some (.val (.lst row)), none, none, none, none, none]) (S := tpO t1 :: R) (i := 5) (n := lv) (tst := mTrue) (elt := eCon (.int 0)) (p := fun _ => true) (f := fun _ => .int 0) rfl (fun k hk => rfl) (fun k hk _ => rfl) (by omega)
  obtain ⟨ns, e4, e5⟩ := ints0 lv
  rw [e4] at cp
  obtain ⟨n, t2, g1, g2, g3⟩ := s_draw (d + 3) k1 (2 * (L : Int)) (by omega) R
  have hn : n ≤ 7 := by omega
  obtain ⟨a', e6, t3, row', ns', y5, y6, y7, y8, rfl, k3, hD, _⟩ := loopL_inv (tg := .one 5) (body := BD (lvl T (d + 4))) (fun k a => ∃ (t' : Tp) (row : List AV) (ns : List Int) (y5 y6 y7 y8 : Option Slt), a = ⟨[some (.val (.ref 0)), some (.val (.int (lv : Nat))), some (.val (.int (L : Nat))), some (.val (.lst row)), some (.val (.lst (ns.map .int))), y5, y6, y7, y8], tpO t' :: R⟩ ∧ t'.Ok ∧ DI k row ∧ ns.length ≤ 60 + k)
    (xs := rgA 0 n) (n := 0) (a := ⟨[some (.val (.ref 0)), some (.val (.int (lv : Nat))), some (.val (.int (L : Nat))), some (.val (.lst row)), some (.val (.lst (ns.map .int))), none, none, none, none], tpO t2 :: R⟩)
    (fun k x a hk ⟨t', row, ns, y5, y6, y7, y8, ea, ok, hD, hl⟩ => by
      have hk' : k < n := by
        have := (List.getElem?_eq_some_iff.mp hk).1
        rwa [rgA_length] at this
      rw [rgA0_get hk'] at hk
      cases hk
      subst ea
      rw [Nat.zero_add] at hD hl ⊢
      obtain ⟨t4, row4, ns4, z6, z7, z8, f1, f2, f3, f4⟩ := turnD (d + 3) ok hD hl (by omega) lv L k y6 y7 y8 R
      exact ⟨_, .nx, _, rfl, f1, .inl rfl, ⟨t4, row4, ns4, _, z6, z7, z8, rfl, f2, f3, f4⟩⟩)
    ⟨t2, row, ns, none, none, none, none, rfl, g2, ⟨e3, by omega⟩, by omega⟩
  rw [rgA_length, Nat.zero_add] at hD
  obtain ⟨hD1, hD2⟩ := hD
  have fr : kFr asR1 (.one 5) BD (lvl T (d + 4)) (some ([.int (n : Int)], ⟨[some (.val (.ref 0)), some (.val (.int (lv : Nat))), some (.val (.int (L : Nat))), some (.val (.lst row)), some (.val (.lst (ns.map .int))), none, none, none, none], tpO t2 :: R⟩)) = some (.nx, ⟨[some (.val (.ref 0)), some (.val (.int (lv : Nat))), some (.val (.int (L : Nat))), some (.val (.lst row')), some (.val (.lst (ns'.map .int))), y5, y6, y7, y8], tpO t3 :: R⟩) := by
    rw [kFr_1 (by omega)]; exact e6
  have m2 : opMul (tpO t1 :: R) (.int 2) (.int (L : Int)) = some (.int (2 * (L : Int))) := opMul_i (.inl (by omega))
  have q2 : (ns'.map AV.int).length = ns'.length := by simp
  generalize ns'.map AV.int = N' at fr q2
  rw [l__law_datum, u_datum]
  simp only [base] at e1
  generalize ns.map AV.int = N0 at fr cp
  by_cases h1 : row'.length = 1
  · obtain ⟨x, rfl⟩ := List.length_eq_one_iff.mp h1
    obtain ⟨w, t4, g4, g5, g6⟩ := s_drawN (d + 3) k3 2 (by omega) (by omega) R
    have g4 : lvl T (d + 4) "_law_draw" [.ref 0, .int 2] (tpO t3 :: R) = some (.int (w : Nat), tpO t4 :: R) := g4
    by_cases hw : w = 0
    · subst hw
      refine ⟨x, t4, ?_, g5, cn_le (hD1 x List.mem_cons_self) (by omega)⟩
      generalize BD = B at fr
      simp -implicitDefEqProofs [frame, e1, cp, g1, m2, fr, ED, g4]
    · refine ⟨.tup [x], t4, ?_, g5, cn_le (cn_mk hD1 (by simp)) (show n + 1 ≤ 9 by omega)⟩
      generalize BD = B at fr
      simp -implicitDefEqProofs [frame, e1, cp, g1, m2, fr, ED, g4, hw]
  · refine ⟨.tup row', t3, ?_, k3, cn_le (cn_mk hD1 (by omega)) (show n + 1 ≤ 9 by omega)⟩
    have h1' : ¬ (row'.length : Int) = 1 := by omega
    generalize BD = B at fr
    simp -implicitDefEqProofs [frame, e1, cp, g1, m2, fr, ED, h1']
end
end K17
end
section
set_option maxRecDepth 100000
set_option maxHeartbeats 3000000
namespace K17
open PySem L2 Pyx
open PySem.Spec PyProof.Rows
section
variable {t : Tp} {R : List SObj}
theorem labs_ok : ∀ x ∈ ([.str "ticket", .str "update", .str "core", .str "client", .str "server", .str "early", .str "t", .str "ticket2"] : List AV), ∃ z, x = .str z ∧ PyData.strOk z = true := by
  intro x hx
  simp only [List.mem_cons, List.not_mem_nil, or_false] at hx
  rcases hx with rfl | rfl | rfl | rfl | rfl | rfl | rfl | rfl <;> exact ⟨_, rfl, by decide +kernel⟩
theorem strOk_app {x y : Str} (h1 : PyData.strOk x = true) (h2 : PyData.strOk y = true) : PyData.strOk (x ++ y) = true := by
  refine strOk_iff.mpr fun c hc => ?_
  have e : (x ++ y).cps = x.cps ++ y.cps := rfl
  rw [e] at hc
  simp at hc
  rcases hc with hc | hc
  · exact strOk_iff.mp h1 c (by simpa using hc)
  · exact strOk_iff.mp h2 c (by simpa using hc)
theorem tke_ok : 0 < ("tk e" : Str).length ∧ ("tk e" : Str).length < 100000 ∧ ∀ c ∈ ("tk e" : Str).cps.toList, c < 0x110000 := by decide +kernel
/-- a drawn label is a text -/
theorem s_label (d : Nat) (ht : t.Ok) (R : List SObj) :
    ∃ (v : AV) (t' : Tp), lvl T (d + 4) "_law_label" [.ref 0] (tpO t :: R) = some (v, tpO t' :: R) ∧ t'.Ok ∧ dat v := by
  obtain ⟨c, t1, h1, k1, b1⟩ := s_drawN (d + 2) ht 3 (by omega) (by omega) R
  have h1 : lvl T (d + 3) "_law_draw" [.ref 0, .int 3] (tpO t :: R) = some (.int (c : Nat), tpO t1 :: R) := h1
  rw [l__law_label]
  by_cases c0 : 0 < c
  · obtain ⟨x, t2, h2, k2, b2⟩ := s_pick (d + 1) k1 (xs := [.str "ticket", .str "update", .str "core", .str "client", .str "server", .str "early", .str "t", .str "ticket2"]) (by simp) (by simp) R
    obtain ⟨z, rfl, hz⟩ := labs_ok x b2
    exact ⟨.str z, t2, by simp -implicitDefEqProofs [b__law_label, frame, h1, h2, c0], k2, cn_st hz⟩
  · have c0 : c = 0 := by omega
    subst c0
    obtain ⟨z, t2, h2, k2, b2, l2⟩ := s_text (d + 1) k1 15 (by omega) R
    have h2 : lvl T (d + 3) "_law_text" [.ref 0, .int 15] (tpO t1 :: R) = some (.str z, tpO t2 :: R) := h2
    obtain ⟨q1, q2, q3⟩ := tke_ok
    obtain ⟨e, t3, h3, k3, b3⟩ := s_pickT (d + 1) k2 q1 q2 R
    have hz : PyData.strOk (⟨#[e]⟩ : Str) = true := strOk_iff.mpr fun x hx => by
      have : x = e := by simpa using hx
      rw [this]; exact q3 e b3
    have hl : z.length + (⟨#[e]⟩ : Str).length ≤ 100000 := by
      show z.length + 1 ≤ 100000
      omega
    have ha := fun S => opAdd_s (S := S) hl
    generalize (⟨#[e]⟩ : Str) = y at h3 ha hz
    exact ⟨.str (z ++ y), t3, by simp -implicitDefEqProofs [b__law_label, frame, h1, h2, h3, ha, -opAdd_s], k3, cn_st (strOk_app b2 hz)⟩
theorem s_some_datum (d : Nat) (ht : t.Ok) (R : List SObj) :
    ∃ (v : AV) (t' : Tp), lvl T (d + 6) "_law_some_datum" [.ref 0] (tpO t :: R) = some (v, tpO t' :: R) ∧ t'.Ok ∧ dat v := by
  obtain ⟨c, t1, h1, k1, b1⟩ := s_drawN (d + 4) ht 12 (by omega) (by omega) R
  have h1 : lvl T (d + 5) "_law_draw" [.ref 0, .int 12] (tpO t :: R) = some (.int (c : Nat), tpO t1 :: R) := h1
  rw [l__law_some_datum]
  by_cases c0 : c = 0
  · subst c0
    obtain ⟨w, t2, h2, k2, b2⟩ := s_drawN (d + 4) k1 3 (by omega) (by omega) R
    have h2 : lvl T (d + 5) "_law_draw" [.ref 0, .int 3] (tpO t1 :: R) = some (.int (w : Nat), tpO t2 :: R) := h2
    have hw : ∃ lv : Nat, ([AV.int 10, .int 30, .int 59])[w]? = some (.int (lv : Nat)) ∧ lv ≤ 59 := by
      have : w = 0 ∨ w = 1 ∨ w = 2 := by omega
      rcases this with rfl | rfl | rfl
      · exact ⟨10, rfl, by omega⟩
      · exact ⟨30, rfl, by omega⟩
      · exact ⟨59, rfl, by omega⟩
    obtain ⟨lv, hx, hl⟩ := hw
    obtain ⟨v, t3, h3, k3, b3⟩ := s_datum d k2 lv 4 hl (by omega) R
    have h3 : lvl T (d + 5) "_law_datum" [.ref 0, .int (lv : Nat), .int 4] (tpO t2 :: R) = some (v, tpO t3 :: R) := h3
    generalize hL : ([AV.int 10, .int 30, .int 59]) = L at hx
    have hn : L.length ≤ 100000 := by rw [← hL]; simp
    refine ⟨v, t3, ?_, k3, b3⟩
    simp -implicitDefEqProofs [b__law_some_datum, frame, h1, h2, hL, hn, Pyx.atI_nat, hx, h3]
  · obtain ⟨w, t2, h2, k2, b2⟩ := s_drawN (d + 4) k1 7 (by omega) (by omega) R
    have h2 : lvl T (d + 5) "_law_draw" [.ref 0, .int 7] (tpO t1 :: R) = some (.int (w : Nat), tpO t2 :: R) := h2
    have hw : ∃ lv : Nat, ([AV.int 0, .int 1, .int 1, .int 2, .int 2, .int 3, .int 4])[w]? = some (.int (lv : Nat)) ∧ lv ≤ 59 := by
      have : w = 0 ∨ w = 1 ∨ w = 2 ∨ w = 3 ∨ w = 4 ∨ w = 5 ∨ w = 6 := by omega
      rcases this with rfl | rfl | rfl | rfl | rfl | rfl | rfl
      · exact ⟨0, rfl, by omega⟩
      · exact ⟨1, rfl, by omega⟩
      · exact ⟨1, rfl, by omega⟩
      · exact ⟨2, rfl, by omega⟩
      · exact ⟨2, rfl, by omega⟩
      · exact ⟨3, rfl, by omega⟩
      · exact ⟨4, rfl, by omega⟩
    obtain ⟨lv, hx, hl⟩ := hw
    obtain ⟨u, t3, h3, k3, b3⟩ := s_drawN (d + 4) k2 3 (by omega) (by omega) R
    have h3 : lvl T (d + 5) "_law_draw" [.ref 0, .int 3] (tpO t2 :: R) = some (.int (u : Nat), tpO t3 :: R) := h3
    obtain ⟨v, t4, h4, k4, b4⟩ := s_datum d k3 lv (1 + u) hl (by omega) R
    have h4 : lvl T (d + 5) "_law_datum" [.ref 0, .int (lv : Nat), .int (1 + (u : Int))] (tpO t3 :: R) = some (v, tpO t4 :: R) := by
      rw [← h4, Int.natCast_add]; rfl
    generalize hL : ([AV.int 0, .int 1, .int 1, .int 2, .int 2, .int 3, .int 4]) = L at hx
    have hn : L.length ≤ 100000 := by rw [← hL]; simp
    refine ⟨v, t4, ?_, k4, b4⟩
    simp -implicitDefEqProofs [b__law_some_datum, frame, h1, h2, hL, hn, Pyx.atI_nat, hx, h3, h4, c0]
end
end K17
end
section
set_option maxRecDepth 100000
set_option maxHeartbeats 4000000
namespace K17
open PySem L2 Pyx
open PySem.Spec PyProof.Rows

/-! ### the model in the store -/
def mS (t : Tp) (v : Vt) (ds : List AV) (R : List SObj) : List SObj := tpO t :: .lst (v.sec.map sA) :: .lst (v.ent.map eA) :: .lst ds :: .lst [.ref 1, .ref 2, .ref 3] :: R
mutual
theorem nr_rlt (n : Nat) : ∀ v : AV, v.nr = true → v.rlt n = true
  | .non, _ => rfl
  | .bl _, _ => rfl
  | .int _, _ => rfl
  | .str _, _ => rfl
  | .tup xs, h => nrs_rlts n xs h
  | .lst xs, h => nrs_rlts n xs h
  | .ref _, h => by cases h
theorem nrs_rlts (n : Nat) : ∀ xs : List AV, AV.nrs xs = true → AV.rlts n xs = true
  | [], _ => rfl
  | x :: xs, h => by
    have h' : (x.nr && AV.nrs xs) = true := h
    rw [Bool.and_eq_true] at h'
    show (x.rlt n && AV.rlts n xs) = true
    rw [nr_rlt n x h'.1, nrs_rlts n xs h'.2]
    rfl
end
theorem nrs_map {ns : List Int} : AV.nrs (ns.map AV.int) = true := nrs_all fun x hx => by obtain ⟨i, _, rfl⟩ := List.mem_map.mp hx; rfl
theorem tpO_rlt (t : Tp) (n : Nat) : (tpO t).rlt n = true := nrs_rlts n _ (by
  show (AV.nrs (t.cells.map .int) && true) = true
  rw [nrs_map]
  rfl)
/-- what stands behind the model holds no younger references -/
def RF (R : List SObj) : Prop := ∀ o ∈ R, o.rlt (R.length + 5) = true
theorem mS_rlt {t : Tp} {v : Vt} {ds : List AV} {R : List SObj} {n : Nat} (hv : v.Ok n) (hd : ∀ x ∈ ds, cn 10 x = true) (hR : RF R) : ∀ o ∈ mS t v ds R, o.rlt (mS t v ds R).length = true := by
  intro o ho
  have hn : (mS t v ds R).length = R.length + 5 := rfl
  rw [hn]
  unfold mS at ho
  simp only [List.mem_cons] at ho
  rcases ho with rfl | rfl | rfl | rfl | rfl | ho
  · exact tpO_rlt t _
  · exact nrs_rlts _ _ (nrs_all fun x hx => sm_nr 10 x (cn_sm 10 x (hv.rs x hx)))
  · exact nrs_rlts _ _ (nrs_all fun x hx => sm_nr 10 x (cn_sm 10 x (hv.re x hx)))
  · exact nrs_rlts _ _ (nrs_all fun x hx => sm_nr 10 x (cn_sm 10 x (hd x hx)))
  · show (decide (1 < R.length + 5) && (decide (2 < R.length + 5) && (decide (3 < R.length + 5) && true))) = true
    simp
  · exact hR o ho
theorem Deed.cn {x : Deed} (h : x.ok) : cn 10 x.A = true := by
  cases x <;> refine cn_mk (fun y hy => ?_) (by simp) <;> simp only [List.mem_cons, List.not_mem_nil, or_false] at hy
  · subst hy; exact cn_st ok_generate
  · rcases hy with rfl | rfl; exact cn_st ok_plain; exact h
  · rcases hy with rfl | rfl | rfl; exact cn_st ok_agree; exact cn_in; exact cn_in
  · rcases hy with rfl | rfl | rfl | rfl; exact cn_st ok_derive; exact cn_in; exact h.1; exact h.2
  · rcases hy with rfl | rfl | rfl; exact cn_st ok_mix; exact cn_in; exact cn_in
  · subst hy; exact cn_st ok_draw
  · rcases hy with rfl | rfl | rfl; exact cn_st ok_sign; exact cn_in; exact h
  · rcases hy with rfl | rfl | rfl; exact cn_st ok_tag; exact cn_in; exact h
  · rcases hy with rfl | rfl | rfl | rfl | rfl; exact cn_st ok_seal; exact cn_in; exact cn_in; exact h.1; exact h.2
  · rcases hy with rfl | rfl | rfl | rfl | rfl; exact cn_st ok_wrap; exact cn_in; exact h.1; exact cn_in; exact h.2
section
variable {d : Nat} {t : Tp} {v : Vt} {ds : List AV} {R : List SObj}
theorem s_place {r : SRow} (h1 : r.ok) (hv : v.Ok 9000) :
    lvl T (d + 1) "_law_place" [.ref 1, sA r] (mS t v ds R) = some (.int ((v.put r).2 : Nat), mS t (v.put r).1 ds R) := by
  rw [l__law_place]
  have hc := sA_cn h1
  have hs := cn_sm 10 _ hc
  have hi : ∀ S, opNotIn S (sA r) (.lst (v.sec.map sA)) = some (.bl (!(pos (v.sec.map sA) (sA r)).isSome)) := fun S => by
    show (inSeq (sA r) (v.sec.map sA)).map _ = _
    rw [inSeq_sm hs (fun y hy => cn_sm 10 y (hv.rs y hy)) (by omega), any_pos]
    rfl
  have hx := idxA_sm (ys := v.sec.map sA) hs (fun y hy => cn_sm 10 y (hv.rs y hy)) (by omega)
  have hr := fun S => res_nr (S := S) (sm_nr 10 _ hs)
  have hl := hv.ls
  unfold Vt.put
  cases hp : pos (v.sec.map sA) (sA r) with
  | some k =>
    rw [hp] at hi hx
    simp -implicitDefEqProofs [b__law_place, frame, mS, hi, hr, hx]
  | none =>
    rw [hp] at hi
    have hx' := idxA_sm (ys := v.sec.map sA ++ [sA r]) (k := 10) hs (fun y hy => by
      rcases List.mem_append.mp hy with h | h
      · exact cn_sm 10 y (hv.rs y h)
      · rw [List.mem_singleton.mp h]; exact hs) (by omega)
    rw [pos_append_new hc hp] at hx'
    simp -implicitDefEqProofs [b__law_place, frame, mS, hi, hr, hx', show v.sec.length < 100000 by omega]
theorem s_is_key {q : Nat} : lvl T (d + 1) "_law_is_key" [.ref 4, .int (q : Nat)] (mS t v ds R) = some (.bl (pubOf v.ent[q]?).isSome, mS t v ds R) := by
  rw [l__law_is_key]
  by_cases hq : q < v.ent.length
  · have hg : (v.ent.map eA)[q]? = some (eA v.ent[q]) := by rw [List.getElem?_map, List.getElem?_eq_getElem hq]; rfl
    have hq' : q < (v.ent.map eA).length := by rw [List.length_map]; exact hq
    rw [List.getElem?_eq_getElem hq]
    generalize v.ent[q] = r at hg
    unfold mS
    generalize v.ent.map eA = L at hg hq' ⊢
    obtain ⟨_, hg⟩ := List.getElem?_eq_some_iff.mp hg
    cases r <;> simp -implicitDefEqProofs [b__law_is_key, frame, hq', Pyx.atI_nat, hg, pubOf]
  · rw [List.getElem?_eq_none (by omega)]
    have hq' : ¬ q < (v.ent.map eA).length := by rw [List.length_map]; exact hq
    unfold mS
    generalize v.ent.map eA = L at hq' ⊢
    simp -implicitDefEqProofs [b__law_is_key, frame, hq', pubOf]
theorem s_vault_of : lvl T (d + 1) "_law_vault_of" [.ref 4] (mS t v ds R) = some (v.A, mS t v ds R) := by
  rw [l__law_vault_of]
  simp -implicitDefEqProofs [b__law_vault_of, frame, mS, Vt.A]
end
end K17
end
section
set_option maxRecDepth 100000
set_option maxHeartbeats 4000000
namespace K17
open PySem L2 Pyx
open PySem.Spec PyProof.Rows
@[simp] theorem cut_f1 {x : AV} {xs : List AV} : cutA (x :: xs) (some 1) none = xs := cut_from (xs := x :: xs) 1
def k1 : SObj := .dic [(("plain" : Str), AV.str "plain"), (("derive" : Str), AV.str "derived"), (("mix" : Str), AV.str "mixed")]
def k2 : SObj := .dic [(("draw" : Str), AV.str "drawn"), (("sign" : Str), AV.str "signature"), (("tag" : Str), AV.str "tag"), (("seal" : Str), AV.str "box"), (("wrap" : Str), AV.str "wrapped")]
section
variable {d : Nat} {t : Tp} {v : Vt} {ds : List AV} {R : List SObj}
theorem s_deed {x : Deed} (hx : x.ok) (hv : v.Ok 8000) (hl : ds.length < 9000) :
    ∃ G, lvl T (d + 11) "_law_deed" [.ref 4, x.A] (mS t v ds R) = some ((v.act x).2, mS t (v.act x).1 (ds ++ [x.A]) R ++ G) := by
  have l1 := hv.ls
  have l2 := hv.le
  have hv9 : v.Ok 9000 := ⟨hv.s, hv.e, by omega, by omega⟩
  have hd : ds.length < 100000 := by omega
  have hle : v.ent.length < 100000 := by omega
  have hls : v.sec.length < 100000 := by omega
  rw [l__law_deed]
  cases x with
  | gen =>
    refine ⟨[], ?_⟩
    simp -implicitDefEqProofs [b__law_deed, frame, mS, Deed.A, Vt.act, hd, hle, hls]
  | plain x =>
    have hp := s_place (d := d + 9) (t := t) (ds := ds ++ [(Deed.plain x).A]) (R := R ++ [k1]) (r := .plain x) hx hv9
    have hr := fun S => res_nr (S := S) (sm_nr 9 x (cn_sm 9 x hx))
    refine ⟨[k1], ?_⟩
    simp only [mS, Deed.A, k1] at hp ⊢
    simp -implicitDefEqProofs [b__law_deed, frame, Vt.act, hd, hle, hls, hp, hr]
  | derive s l x =>
    have hp := s_place (d := d + 9) (t := t) (ds := ds ++ [(Deed.derive s l x).A]) (R := R ++ [k1]) (r := .derived s l x) hx hv9
    refine ⟨[k1], ?_⟩
    simp only [mS, Deed.A, k1] at hp ⊢
    simp -implicitDefEqProofs [b__law_deed, frame, Vt.act, hd, hle, hls, hp]
  | mix a b =>
    have hp := s_place (d := d + 9) (t := t) (ds := ds ++ [(Deed.mix a b).A]) (R := R ++ [k1]) (r := .mixed a b) trivial hv9
    refine ⟨[k1], ?_⟩
    simp only [mS, Deed.A, k1] at hp ⊢
    simp -implicitDefEqProofs [b__law_deed, frame, Vt.act, hd, hle, hls, hp]
  | draw =>
    refine ⟨[k1, k2], ?_⟩
    simp only [mS, Deed.A, k1, k2]
    simp -implicitDefEqProofs [b__law_deed, frame, Vt.act, Vt.add, hd, hle, hls]
  | sign p x =>
    refine ⟨[k1, k2], ?_⟩
    simp only [mS, Deed.A, k1, k2]
    simp -implicitDefEqProofs [b__law_deed, frame, Vt.act, Vt.add, hd, hle, hls]
  | tag p x =>
    refine ⟨[k1, k2], ?_⟩
    simp only [mS, Deed.A, k1, k2]
    simp -implicitDefEqProofs [b__law_deed, frame, Vt.act, Vt.add, hd, hle, hls]
  | wrap s h i c =>
    refine ⟨[k1, k2], ?_⟩
    simp only [mS, Deed.A, k1, k2]
    simp -implicitDefEqProofs [b__law_deed, frame, Vt.act, Vt.add, hd, hle, hls]
  | bx s n h c =>
    have hz := fun S => s_law_size 9 d c S (cn_sm 9 c hx.2)
    refine ⟨[k1, k2], ?_⟩
    simp only [mS, Deed.A, k1, k2]
    simp -implicitDefEqProofs [b__law_deed, frame, Vt.act, Vt.add, hd, hle, hls, hz]
  | agree p q =>
    have hk := s_is_key (d := d + 9) (t := t) (v := v) (ds := ds ++ [(Deed.agree p q).A]) (R := R) (q := q)
    refine ⟨[], ?_⟩
    simp only [mS, Deed.A] at hk ⊢
    by_cases hq : q < v.ent.length
    · have hg : (v.ent.map eA)[q]? = some (eA v.ent[q]) := by rw [List.getElem?_map, List.getElem?_eq_getElem hq]; rfl
      have hq' : q < (v.ent.map eA).length := by rw [List.length_map]; exact hq
      have hpq := List.getElem?_eq_getElem hq
      generalize hr : v.ent[q] = r at hg hpq
      cases r with
      | pub o =>
        have e1 : (if (o : Int) < (p : Int) then (o : Int) else (p : Int)) = ((min p o : Nat) : Int) := by split <;> omega
        have e2 : (if (o : Int) > (p : Int) then (o : Int) else (p : Int)) = ((max p o : Nat) : Int) := by split <;> omega
        have m1 : ∀ S, biMin S [.int (p : Int), .int (o : Int)] = some (.int ((min p o : Nat) : Int)) := fun S => by rw [← e1]; rfl
        have m2 : ∀ S, biMax S [.int (p : Int), .int (o : Int)] = some (.int ((max p o : Nat) : Int)) := fun S => by rw [← e2]; rfl
        have hp := s_place (d := d + 9) (t := t) (ds := ds ++ [(Deed.agree p q).A]) (R := R) (r := .agreed (min p o) (max p o)) trivial hv9
        simp only [mS, Deed.A, sA] at hp
        have ha : v.act (.agree p q) = ((v.put (.agreed (min p o) (max p o))).1, .int ((v.put (.agreed (min p o) (max p o))).2 : Nat)) := by
          show v.doO (pubOf v.ent[q]?) p = _
          rw [hpq]
          rfl
        rw [ha]
        rw [hpq] at hk
        generalize ((min p o : Nat) : Int) = mi at m1 hp
        generalize ((max p o : Nat) : Int) = ma at m2 hp
        generalize v.ent.map eA = L at hg hq' hk hp ⊢
        obtain ⟨_, hg⟩ := List.getElem?_eq_some_iff.mp hg
        simp -implicitDefEqProofs [b__law_deed, frame, hd, hle, hls, hk, pubOf, Pyx.atI_nat, hq', hg, m1, m2, hp, -biMax_i]
      | _ =>
        have ha : v.act (.agree p q) = (v, .non) := by show v.doO (pubOf v.ent[q]?) p = _; rw [hpq]; rfl
        rw [ha]
        rw [hpq] at hk
        simp -implicitDefEqProofs [b__law_deed, frame, hd, hle, hls, hk, pubOf]
    · have hpq : v.ent[q]? = none := List.getElem?_eq_none (by omega)
      have ha : v.act (.agree p q) = (v, .non) := by show v.doO (pubOf v.ent[q]?) p = _; rw [hpq]; rfl
      rw [ha]
      rw [hpq] at hk
      simp -implicitDefEqProofs [b__law_deed, frame, hd, hle, hls, hk, pubOf]
end
end K17
end
section
set_option maxRecDepth 100000
set_option maxHeartbeats 4000000
namespace K17
open PySem L2 Pyx
open PySem.Spec PyProof.Rows
theorem sm_mono : ∀ (k : Nat) (v : AV), sm k v = true → sm (k + 1) v = true
  | _, .non, _ => by unfold sm; rfl
  | _, .bl _, _ => by unfold sm; rfl
  | _, .int _, _ => by unfold sm; rfl
  | _, .str z, h => by unfold sm at h ⊢; exact h
  | k + 1, .tup xs, h => by
    obtain ⟨j, e, h', hl⟩ := sm_tup h
    cases e
    exact sm_mk (fun x hx => sm_mono k x (h' x hx)) hl
  | 0, .tup _, h => by cases h
  | _, .lst _, h => by unfold sm at h; cases h
  | _, .ref _, h => by unfold sm at h; cases h
theorem sm_le {k j : Nat} {v : AV} (h : sm k v = true) (hk : k ≤ j) : sm j v = true := by
  induction hk with
  | refl => exact h
  | step _ ih => exact sm_mono _ _ ih
theorem sm_int {k : Nat} {i : Int} : sm k (.int i) = true := by unfold sm; rfl
theorem doO_sm {v : Vt} {o : Option Nat} {p : Nat} : sm 1 (v.doO o p).2 = true := by
  cases o
  · unfold sm; rfl
  · exact sm_int
theorem act_sm (v : Vt) (x : Deed) : sm 1 (v.act x).2 = true := by
  cases x with
  | agree p q => exact doO_sm
  | bx s n h c => exact sm_mk (fun y hy => by simp only [List.mem_cons, List.not_mem_nil, or_false] at hy; rcases hy with rfl | rfl <;> exact sm_int) (by simp)
  | _ => exact sm_int
theorem Vt.Ok.sm {v : Vt} {n : Nat} (h : v.Ok n) (hn : n ≤ 10000) : Pyx.sm 12 v.A = true := by
  have h1 := h.ls
  have h2 := h.le
  refine sm_mk (fun y hy => ?_) (by simp)
  simp only [List.mem_cons, List.not_mem_nil, or_false] at hy
  rcases hy with rfl | rfl
  · exact sm_mk (fun x hx => cn_sm 10 x (h.rs x hx)) (by rw [List.length_map]; omega)
  · exact sm_mk (fun x hx => cn_sm 10 x (h.re x hx)) (by rw [List.length_map]; omega)
theorem hSame : T.lookup ("_law_same" : Str) = some (⟨2, 3, bSame⟩ : DfE) := by rfl
theorem s_same (d : Nat) {k : Nat} {v : AV} (S : List SObj) (h : sm k v = true) : lvl T (d + k + 1) "_law_same" [v, v] S = some (.bl true, S) := same_ok hSame k d v S h
section
variable {d : Nat} {S : List SObj} {v : Vt}
theorem s_gives {x : AV} (hx : sm 3 x = true) (hv : v.Ok 9000) : lvl T (d + 5) "_law_gives" [.tup [v.A, x], v.A, x] S = some (.bl true, S) := by
  have h1 := hv.sm (by omega)
  have hs := s_same d S hx
  have ht : sm 13 (.tup [v.A, x]) = true := sm_mk (fun y hy => by
    simp only [List.mem_cons, List.not_mem_nil, or_false] at hy
    rcases hy with rfl | rfl
    · exact h1
    · exact sm_le hx (by omega)) (by simp)
  have he := opEq_refl (S := S) ht (by omega)
  have hr := res_nr (S := S) (sm_nr 3 x hx)
  rw [l__law_gives]
  generalize v.A = A at *
  simp -implicitDefEqProofs [b__law_gives, frame, he, hr, hs]
theorem s_made {x : Deed} (hx : x.ok) (hv : v.Ok 9000) : lvl T (d + 12) "_law_made" [v.A, x.A] S = some (.tup [(v.act x).1.A, (v.act x).2], S) := by
  rw [l__law_made]
  cases x with
  | gen =>
    have h := s_generate (d := d + 10) (S := S) hv
    simp -implicitDefEqProofs [b__law_made, frame, Deed.A, h]
  | plain x =>
    have h := s_plain (d := d + 9) (S := S) hx hv
    have hr := fun S => res_nr (S := S) (sm_nr 9 x (cn_sm 9 x hx))
    simp -implicitDefEqProofs [b__law_made, frame, Deed.A, h, hr]
  | agree p q =>
    have h := s_agree (d := d + 8) (S := S) (p := p) (q := q) hv
    simp -implicitDefEqProofs [b__law_made, frame, Deed.A, h]
  | derive s l x =>
    have h := s_derive (d := d + 9) (S := S) (s := s) hx.2 hx.1 hv
    simp -implicitDefEqProofs [b__law_made, frame, Deed.A, h]
  | mix a b =>
    have h := s_mix (d := d + 9) (S := S) (a := a) (b := b) hv
    simp -implicitDefEqProofs [b__law_made, frame, Deed.A, h]
  | draw =>
    have h := s_draw_op (d := d + 9) (S := S) hv
    simp -implicitDefEqProofs [b__law_made, frame, Deed.A, h]
  | sign p x =>
    have h := s_sign (d := d + 9) (S := S) (p := p) (x := x) hv
    simp -implicitDefEqProofs [b__law_made, frame, Deed.A, h]
  | tag p x =>
    have h := s_tag (d := d + 9) (S := S) (p := p) (x := x) hv
    simp -implicitDefEqProofs [b__law_made, frame, Deed.A, h]
  | bx s n h c =>
    have h := s_seal (d := d) (S := S) (s := s) (n := n) (h := h) hx.2 hv
    simp -implicitDefEqProofs [b__law_made, frame, Deed.A, h]
  | wrap s h i c =>
    have h := s_wrap (d := d + 9) (S := S) (s := s) (h := h) (i := i) (c := c) hv
    simp -implicitDefEqProofs [b__law_made, frame, Deed.A, h]
end
end K17
end
section
set_option maxRecDepth 100000
set_option maxHeartbeats 4000000
namespace K17
open PySem L2 Pyx
open PySem.Spec PyProof.Rows

/-! ### well made vaults -/
def SRow.below (k : Nat) : SRow → Prop
  | .agreed a b => a < k ∧ b < k
  | .derived s _ _ => s < k
  | .mixed a b => a < k ∧ b < k
  | _ => True
def ERow.below (k : Nat) : ERow → Prop
  | .pub p => p < k
  | .wrapped s _ i _ => s < k ∧ i < k
  | _ => True
structure WF (v : Vt) (n : Nat) : Prop where
  ok : v.Ok n
  s : ∀ (k : Nat) (r : SRow), v.sec[k]? = some r → r.below k
  e : ∀ r ∈ v.ent, r.below v.sec.length
def Deed.wf (k : Nat) : Deed → Prop
  | .agree p _ => p < k
  | .derive s _ _ => s < k
  | .mix a b => a < k ∧ b < k
  | .wrap s _ i _ => s < k ∧ i < k
  | _ => True
theorem ERow.below_mono {r : ERow} {k j : Nat} (h : r.below k) (hk : k ≤ j) : r.below j := by
  cases r <;> simp only [ERow.below] at * <;> omega
theorem WF.mono {v : Vt} {n m : Nat} (h : WF v n) (hm : n ≤ m) : WF v m := ⟨⟨h.ok.s, h.ok.e, Nat.le_trans h.ok.ls hm, Nat.le_trans h.ok.le hm⟩, h.s, h.e⟩
theorem WF.put {v : Vt} {n : Nat} (h : WF v n) {r : SRow} (hr : r.ok) (hb : r.below v.sec.length) : WF (v.put r).1 (n + 1) ∧ (v.put r).2 < (v.put r).1.sec.length ∧ v.sec.length ≤ (v.put r).1.sec.length ∧ (v.put r).1.ent = v.ent ∧ (∀ (k : Nat) (r' : SRow), v.sec[k]? = some r' → (v.put r).1.sec[k]? = some r') := by
  unfold Vt.put
  have l1 := h.ok.ls
  have l2 := h.ok.le
  cases hp : pos (v.sec.map sA) (sA r) with
  | some k =>
    have := pos_lt hp
    rw [List.length_map] at this
    exact ⟨h.mono (by omega), this, Nat.le_refl _, rfl, fun _ _ e => e⟩
  | none =>
    refine ⟨⟨⟨fun x hx => ?_, h.ok.e, by simp; omega, by show v.ent.length ≤ _; omega⟩, fun k x hx => ?_, fun x hx => ERow.below_mono (h.e x hx) (by simp)⟩, by simp, by simp, rfl, fun k x hx => ?_⟩
    · rcases List.mem_append.mp hx with hx | hx
      · exact h.ok.s x hx
      · rw [List.mem_singleton.mp hx]; exact hr
    · by_cases hk : k < v.sec.length
      · rw [List.getElem?_append_left hk] at hx
        exact h.s k x hx
      · rw [List.getElem?_append_right (by omega)] at hx
        have hk2 : k - v.sec.length = 0 := by
          have := (List.getElem?_eq_some_iff.mp hx).1
          simpa using this
        rw [hk2] at hx
        cases hx
        rw [show k = v.sec.length by omega]
        exact hb
    · show (v.sec ++ [r])[k]? = _
      rw [List.getElem?_append_left (List.getElem?_eq_some_iff.mp hx).1]
      exact hx
theorem WF.add {v : Vt} {n : Nat} (h : WF v n) {r : ERow} (hr : r.ok) (hb : r.below v.sec.length) : WF (v.add r) (n + 1) := by
  have l1 := h.ok.ls
  have l2 := h.ok.le
  refine ⟨⟨h.ok.s, fun x hx => ?_, by show v.sec.length ≤ _; omega, by show (v.ent ++ [r]).length ≤ _; simp; omega⟩, h.s, fun x hx => ?_⟩
  · rcases List.mem_append.mp hx with hx | hx
    · exact h.ok.e x hx
    · rw [List.mem_singleton.mp hx]; exact hr
  · rcases List.mem_append.mp hx with hx | hx
    · exact h.e x hx
    · rw [List.mem_singleton.mp hx]; exact hb
theorem WF.act {v : Vt} {n : Nat} (h : WF v n) {x : Deed} (hx : x.ok) (hw : x.wf v.sec.length) : WF (v.act x).1 (n + 1) := by
  have l1 := h.ok.ls
  have l2 := h.ok.le
  cases x with
  | gen =>
    have := (h.add (r := .drawn) trivial trivial)
    refine ⟨⟨fun x hx => ?_, fun x hx => ?_, by show (v.sec ++ [_]).length ≤ _; simp; omega, by show (v.ent ++ [_]).length ≤ _; simp; omega⟩, fun k x hx => ?_, fun x hx => ?_⟩
    · rcases List.mem_append.mp hx with hx | hx
      · exact h.ok.s x hx
      · rw [List.mem_singleton.mp hx]; trivial
    · rcases List.mem_append.mp hx with hx | hx
      · exact h.ok.e x hx
      · rw [List.mem_singleton.mp hx]; trivial
    · have hx : (v.sec ++ [SRow.pair v.ent.length])[k]? = some x := hx
      by_cases hk : k < v.sec.length
      · rw [List.getElem?_append_left hk] at hx
        exact h.s k x hx
      · rw [List.getElem?_append_right (by omega)] at hx
        have hk2 : k - v.sec.length = 0 := by
          have := (List.getElem?_eq_some_iff.mp hx).1
          simpa using this
        rw [hk2] at hx
        cases hx
        trivial
    · have hl : (v.act .gen).1.sec.length = v.sec.length + 1 := by show (v.sec ++ [_]).length = _; simp
      rw [hl]
      rcases List.mem_append.mp hx with hx | hx
      · exact ERow.below_mono (h.e x hx) (by omega)
      · rw [List.mem_singleton.mp hx]; show v.sec.length < _; omega
  | plain x => exact (h.put (r := .plain x) hx trivial).1
  | agree p q =>
    show WF (v.doO (pubOf v.ent[q]?) p).1 (n + 1)
    cases hq : v.ent[q]? with
    | none => exact h.mono (by omega)
    | some r =>
      cases r with
      | pub o =>
        have ho : o < v.sec.length := h.e _ (List.mem_of_getElem? hq)
        have hp : p < v.sec.length := hw
        exact (h.put (r := .agreed (min p o) (max p o)) trivial ⟨by omega, by omega⟩).1
      | _ => exact h.mono (by omega)
  | derive s l x => exact (h.put (r := .derived s l x) hx hw).1
  | mix a b => exact (h.put (r := .mixed a b) trivial hw).1
  | draw => exact h.add (r := .drawn) trivial trivial
  | sign p x => exact h.add (r := .sig p x) hx trivial
  | tag p x => exact h.add (r := .tag p x) hx trivial
  | bx s m hh c => exact h.add (r := .box s m hh c) hx trivial
  | wrap s hh i c => exact h.add (r := .wrapped s hh i c) hx hw
/-- secrets stay -/
theorem act_keep {v : Vt} {n : Nat} (h : WF v n) {x : Deed} (hx : x.ok) (hw : x.wf v.sec.length) : v.sec.length ≤ (v.act x).1.sec.length ∧ ∀ (k : Nat) (r : SRow), v.sec[k]? = some r → (v.act x).1.sec[k]? = some r := by
  cases x with
  | gen =>
    refine ⟨by show _ ≤ (v.sec ++ [_]).length; simp, fun k r e => ?_⟩
    show (v.sec ++ [_])[k]? = _
    rw [List.getElem?_append_left (List.getElem?_eq_some_iff.mp e).1]; exact e
  | plain x => have := h.put (r := .plain x) hx trivial; exact ⟨this.2.2.1, this.2.2.2.2⟩
  | agree p q =>
    show v.sec.length ≤ (v.doO (pubOf v.ent[q]?) p).1.sec.length ∧ ∀ (k : Nat) (r : SRow), v.sec[k]? = some r → (v.doO (pubOf v.ent[q]?) p).1.sec[k]? = some r
    cases hq : v.ent[q]? with
    | none => exact ⟨Nat.le_refl _, fun _ _ e => e⟩
    | some r =>
      cases r with
      | pub o =>
        have ho : o < v.sec.length := h.e _ (List.mem_of_getElem? hq)
        have hp : p < v.sec.length := hw
        have := h.put (r := .agreed (min p o) (max p o)) trivial ⟨by omega, by omega⟩
        exact ⟨this.2.2.1, this.2.2.2.2⟩
      | _ => exact ⟨Nat.le_refl _, fun _ _ e => e⟩
  | derive s l x => have := h.put (r := .derived s l x) hx hw; exact ⟨this.2.2.1, this.2.2.2.2⟩
  | mix a b => have := h.put (r := .mixed a b) trivial hw; exact ⟨this.2.2.1, this.2.2.2.2⟩
  | _ => exact ⟨Nat.le_refl _, fun _ _ e => e⟩
/-- there is a pair -/
def HasP (v : Vt) : Prop := ∃ (k e : Nat), v.sec[k]? = some (SRow.pair e)
theorem HasP.act {v : Vt} {n : Nat} (hp : HasP v) (h : WF v n) {x : Deed} (hx : x.ok) (hw : x.wf v.sec.length) : HasP (v.act x).1 := by
  obtain ⟨k, e, hk⟩ := hp
  exact ⟨k, e, (act_keep h hx hw).2 k _ hk⟩
theorem HasP.pos {v : Vt} (h : HasP v) : 0 < v.sec.length := by
  obtain ⟨k, e, hk⟩ := h
  have := (List.getElem?_eq_some_iff.mp hk).1
  omega

/-! ### drawn secrets -/
def mR (v : Vt) (ds : List AV) (R : List SObj) : List SObj := .lst (v.sec.map sA) :: .lst (v.ent.map eA) :: .lst ds :: .lst [.ref 1, .ref 2, .ref 3] :: R
section
variable {t : Tp} {v : Vt} {ds : List AV} {R : List SObj} {n : Nat}
theorem s_some_secret (d : Nat) (ht : t.Ok) (h0 : 0 < v.sec.length) (hn : v.sec.length ≤ 8000) :
    ∃ (s : Nat) (t' : Tp), lvl T (d + 2) "_law_some_secret" [.ref 0, .ref 4] (mS t v ds R) = some (.int (s : Nat), mS t' v ds R) ∧ t'.Ok ∧ s < v.sec.length := by
  have hl : (v.sec.map sA).length = v.sec.length := by simp
  rw [← hl] at h0 hn ⊢
  rw [l__law_some_secret]
  unfold mS
  generalize v.sec.map sA = L at h0 hn ⊢
  obtain ⟨c, t1, h1, k1, b1⟩ := s_drawN d ht 2 (by omega) (by omega) (.lst L :: .lst (v.ent.map eA) :: .lst ds :: .lst [.ref 1, .ref 2, .ref 3] :: R)
  have h1 : lvl T (d + 1) "_law_draw" [.ref 0, .int 2] (tpO t :: .lst L :: .lst (v.ent.map eA) :: .lst ds :: .lst [.ref 1, .ref 2, .ref 3] :: R) = some (.int (c : Nat), tpO t1 :: .lst L :: .lst (v.ent.map eA) :: .lst ds :: .lst [.ref 1, .ref 2, .ref 3] :: R) := h1
  by_cases c0 : c = 0
  · subst c0
    obtain ⟨w, t2, h2, k2, b2⟩ := s_drawN d k1 (min L.length 4) (by omega) (by omega) (.lst L :: .lst (v.ent.map eA) :: .lst ds :: .lst [.ref 1, .ref 2, .ref 3] :: R)
    have e1 : (if (4 : Int) < (L.length : Int) then (4 : Int) else (L.length : Int)) = ((min L.length 4 : Nat) : Int) := by split <;> omega
    have m1 : ∀ S, biMin S [.int (L.length : Int), .int 4] = some (.int ((min L.length 4 : Nat) : Int)) := fun S => by rw [← e1]; rfl
    refine ⟨L.length - 1 - w, t2, ?_, k2, by omega⟩
    have e2 : ((L.length - 1 - w : Nat) : Int) = (L.length : Int) - 1 - (w : Int) := by omega
    rw [e2]
    generalize ((min L.length 4 : Nat) : Int) = mi at m1 h2
    simp -implicitDefEqProofs [b__law_some_secret, frame, h1, h2, m1]
  · obtain ⟨w, t2, h2, k2, b2⟩ := s_drawN d k1 L.length (by omega) (by omega) (.lst L :: .lst (v.ent.map eA) :: .lst ds :: .lst [.ref 1, .ref 2, .ref 3] :: R)
    refine ⟨w, t2, ?_, k2, b2⟩
    simp -implicitDefEqProofs [b__law_some_secret, frame, h1, h2, c0]
/-- the word pair ahead of a row -/
def isPr : SRow → Bool
  | .pair _ => true
  | _ => false
theorem pr_eq {S : List SObj} (r : SRow) : ∃ w z, sA r = .tup (.str w :: z) ∧ opEq S (.str w) (.str "pair") = some (.bl (isPr r)) := by
  cases r with
  | pair e => exact ⟨_, _, rfl, q_pair_pair⟩
  | plain e => exact ⟨_, _, rfl, q_plain_pair⟩
  | agreed a b => exact ⟨_, _, rfl, q_agreed_pair⟩
  | derived a b c => exact ⟨_, _, rfl, q_derived_pair⟩
  | mixed a b => exact ⟨_, _, rfl, q_mixed_pair⟩
theorem s_some_pair (d : Nat) (ht : t.Ok) (hp : HasP v) (hn : v.sec.length ≤ 8000) :
    ∃ (p e : Nat) (t' : Tp), lvl T (d + 3) "_law_some_pair" [.ref 0, .ref 4] (mS t v ds R) = some (.int (p : Nat), mS t' v ds R) ∧ t'.Ok ∧ v.sec[p]? = some (.pair e) := by
  let f : AV → Bool := fun x => match x with
    | .int k => (v.sec[k.toNat]?.map isPr).getD false
    | _ => false
  have hl : (v.sec.map sA).length = v.sec.length := by simp
  have cp := compR_pure (G := lvl T (d + 2)) (ρ := [some (.val (.ref 0)), some (.val (.ref 4)), none]) (S := mS t v ds R) (i := 2) (n := v.sec.length) (tst := (mBool (eBin opEq (oE (eBin opIx (oE (eBin opIx (oE (eBin opIx (oVar 1) (oE (eCon (.int 0))))) (oVar 2))) (oE (eCon (.int 0))))) (oE (eCon (.str "pair")))))) (elt := eVar 2) (p := f) (f := id) rfl
    (fun k hk => by
      have hg : (v.sec.map sA)[k]? = some (sA v.sec[k]) := by rw [List.getElem?_map, List.getElem?_eq_getElem hk]; rfl
      have hf : f (.int (k : Int)) = isPr v.sec[k] := by
        show (v.sec[(k : Int).toNat]?.map isPr).getD false = _
        rw [Int.toNat_natCast, List.getElem?_eq_getElem hk]
        rfl
      rw [hf]
      have hk' : k < (v.sec.map sA).length := by rw [hl]; exact hk
      obtain ⟨w, z, e1, e2⟩ := pr_eq (S := mS t v ds R) v.sec[k]
      rw [e1] at hg
      unfold mS at e2 ⊢
      generalize isPr v.sec[k] = b at e2 ⊢
      generalize v.sec.map sA = L at hg hk' e2 ⊢
      obtain ⟨_, hg⟩ := List.getElem?_eq_some_iff.mp hg
      simp -implicitDefEqProofs [Pyx.atI_nat, hk', hg, e2])
    (fun k hk _ => by simp) (by omega)
  simp only [List.map_id_fun, id_eq] at cp
  have hne : (rgA 0 v.sec.length).filter f ≠ [] := by
    obtain ⟨k, e, hk⟩ := hp
    have hkl := (List.getElem?_eq_some_iff.mp hk).1
    have : AV.int (k : Int) ∈ (rgA 0 v.sec.length).filter f := List.mem_filter.mpr ⟨List.mem_of_getElem? (rgA0_get hkl), by
      show (v.sec[(k : Int).toNat]?.map isPr).getD false = true
      rw [Int.toNat_natCast, hk]
      rfl⟩
    intro h
    rw [h] at this
    cases this
  have hlen : ((rgA 0 v.sec.length).filter f).length < 1000000 := by
    have := List.length_filter_le f (rgA 0 v.sec.length)
    rw [rgA_length] at this
    omega
  obtain ⟨x, t', h1, k1, hx⟩ := s_pick d ht hne hlen (mR v ds R)
  obtain ⟨hx1, hx2⟩ := List.mem_filter.mp hx
  obtain ⟨p, hp2, rfl⟩ : ∃ p : Nat, p < v.sec.length ∧ x = .int (p : Int) := by
    obtain ⟨k, hk, e⟩ := List.mem_map.mp hx1
    exact ⟨k, List.mem_range.mp hk, by rw [← e]; simp⟩
  have hb : isPr v.sec[p] = true := by
    have hx2 : (v.sec[(p : Int).toNat]?.map isPr).getD false = true := hx2
    rw [Int.toNat_natCast, List.getElem?_eq_getElem hp2] at hx2
    exact hx2
  obtain ⟨e, he⟩ : ∃ e, v.sec[p] = .pair e := by
    cases h : v.sec[p] <;> rw [h] at hb <;> first | exact ⟨_, rfl⟩ | cases hb
  refine ⟨p, e, t', ?_, k1, by rw [List.getElem?_eq_getElem hp2, he]⟩
  rw [l__law_some_pair]
  have h1 : lvl T (d + 2) "_law_pick" [.ref 0, .lst ((rgA 0 v.sec.length).filter f)] (mS t v ds R) = some (.int (p : Int), mS t' v ds R) := h1
  generalize (rgA 0 v.sec.length).filter f = xs at cp h1
  rw [← hl] at cp
  unfold mS at cp h1 ⊢
  generalize v.sec.map sA = L at cp h1 ⊢
  simp -implicitDefEqProofs [b__law_some_pair, frame, cp, h1]
theorem s_some_public (d : Nat) (ht : t.Ok) (hp : HasP v) (hn : v.sec.length ≤ 8000) (hn2 : v.ent.length ≤ 8000) :
    ∃ (q : Nat) (t' : Tp), lvl T (d + 4) "_law_some_public" [.ref 0, .ref 4] (mS t v ds R) = some (.int (q : Nat), mS t' v ds R) ∧ t'.Ok := by
  obtain ⟨c, t1, h1, k1, b1⟩ := s_drawN (d + 2) ht 4 (by omega) (by omega) (mR v ds R)
  have h1 : lvl T (d + 3) "_law_draw" [.ref 0, .int 4] (mS t v ds R) = some (.int (c : Nat), mS t1 v ds R) := h1
  rw [l__law_some_public]
  by_cases c0 : 0 < c
  · obtain ⟨p, e, t2, h2, k2, hp2⟩ := s_some_pair d k1 (ds := ds) (R := R) hp hn
    have hg : (v.sec.map sA)[p]? = some (.tup [.str "pair", .int (e : Int)]) := by rw [List.getElem?_map, hp2]; rfl
    refine ⟨e, t2, ?_, k2⟩
    unfold mS at h1 h2 ⊢
    generalize v.sec.map sA = L at h1 h2 hg ⊢
    obtain ⟨hpl, hg⟩ := List.getElem?_eq_some_iff.mp hg
    simp -implicitDefEqProofs [b__law_some_public, frame, h1, h2, c0, Pyx.atI_nat, hpl, hg]
  · have c0 : c = 0 := by omega
    subst c0
    obtain ⟨w, t2, h2, k2, b2⟩ := s_drawN (d + 2) k1 3 (by omega) (by omega) (mR v ds R)
    have h2 : lvl T (d + 3) "_law_draw" [.ref 0, .int 3] (mS t1 v ds R) = some (.int (w : Nat), mS t2 v ds R) := h2
    by_cases c1 : 0 < w
    · obtain ⟨q, t3, h3, k3, b3⟩ := s_drawN (d + 2) k2 (v.ent.length + 1) (by omega) (by omega) (mR v ds R)
      have hl : (v.ent.map eA).length = v.ent.length := by simp
      have h3 : lvl T (d + 3) "_law_draw" [.ref 0, .int (((v.ent.map eA).length : Int) + 1)] (mS t2 v ds R) = some (.int (q : Nat), mS t3 v ds R) := by rw [hl]; exact h3
      refine ⟨q, t3, ?_, k3⟩
      unfold mS at h1 h2 h3 ⊢
      generalize v.ent.map eA = L at h1 h2 h3 ⊢
      simp -implicitDefEqProofs [b__law_some_public, frame, h1, h2, h3, c1]
    · have c1 : w = 0 := by omega
      subst c1
      obtain ⟨q, t3, h3, k3, _⟩ := s_number d k2 (mR v ds R)
      have h3 : lvl T (d + 3) "_law_number" [.ref 0] (mS t2 v ds R) = some (.int (q : Nat), mS t3 v ds R) := h3
      refine ⟨q, t3, ?_, k3⟩
      simp -implicitDefEqProofs [b__law_some_public, frame, h1, h2, h3]
end
end K17
end
section
set_option maxRecDepth 100000
set_option maxHeartbeats 4000000
namespace K17
open PySem L2 Pyx
open PySem.Spec PyProof.Rows
section
variable {t : Tp} {v : Vt} {ds : List AV} {R : List SObj} {n : Nat}
theorem r_datum {x : AV} (h : dat x) (S : List SObj) : res S x = x := res_nr (sm_nr 9 x (cn_sm 9 x h))
theorem s_dat (d : Nat) (ht : t.Ok) : ∃ (x : AV) (t' : Tp), lvl T (d + 6) "_law_some_datum" [.ref 0] (mS t v ds R) = some (x, mS t' v ds R) ∧ t'.Ok ∧ dat x := s_some_datum d ht (mR v ds R)
theorem s_lab (d : Nat) (ht : t.Ok) : ∃ (x : AV) (t' : Tp), lvl T (d + 4) "_law_label" [.ref 0] (mS t v ds R) = some (x, mS t' v ds R) ∧ t'.Ok ∧ dat x := s_label d ht (mR v ds R)
theorem s_num (d : Nat) (ht : t.Ok) : ∃ (r : Nat) (t' : Tp), lvl T (d + 3) "_law_number" [.ref 0] (mS t v ds R) = some (.int (r : Nat), mS t' v ds R) ∧ t'.Ok := by
  obtain ⟨r, t', h, k, _⟩ := s_number d ht (mR v ds R)
  exact ⟨r, t', h, k⟩
def words : List Str := ["generate", "plain", "agree", "derive", "mix", "draw", "sign", "tag", "seal", "wrap"]
theorem s_some_deed (d : Nat) (ht : t.Ok) (hp : HasP v) (hv : v.Ok 8000) {w : Str} (hw : w ∈ words) :
    ∃ (x : Deed) (t' : Tp), lvl T (d + 7) "_law_some_deed" [.ref 0, .ref 4, .str w] (mS t v ds R) = some (x.A, mS t' v ds R) ∧ t'.Ok ∧ x.ok ∧ x.wf v.sec.length := by
  have l1 := hv.ls
  have l2 := hv.le
  have h0 := hp.pos
  rw [l__law_some_deed]
  simp only [words, List.mem_cons, List.not_mem_nil, or_false] at hw
  rcases hw with rfl | rfl | rfl | rfl | rfl | rfl | rfl | rfl | rfl | rfl
  · exact ⟨.gen, t, by simp -implicitDefEqProofs [b__law_some_deed, frame, Deed.A], ht, trivial, trivial⟩
  · obtain ⟨x, t1, h1, k1, o1⟩ := s_dat (v := v) (ds := ds) (R := R) d ht
    exact ⟨.plain x, t1, by simp -implicitDefEqProofs [b__law_some_deed, frame, Deed.A, h1], k1, o1, trivial⟩
  · obtain ⟨p, e, t1, h1, k1, b1⟩ := s_some_pair (ds := ds) (R := R) (d + 3) ht hp l1
    obtain ⟨q, t2, h2, k2⟩ := s_some_public (ds := ds) (R := R) (d + 2) k1 hp l1 l2
    exact ⟨.agree p q, t2, by simp -implicitDefEqProofs [b__law_some_deed, frame, Deed.A, h1, h2], k2, trivial, (List.getElem?_eq_some_iff.mp b1).1⟩
  · obtain ⟨s, t1, h1, k1, b1⟩ := s_some_secret (ds := ds) (R := R) (d + 4) ht h0 l1
    obtain ⟨l, t2, h2, k2, o2⟩ := s_lab (v := v) (ds := ds) (R := R) (d + 2) k1
    obtain ⟨x, t3, h3, k3, o3⟩ := s_dat (v := v) (ds := ds) (R := R) d k2
    exact ⟨.derive s l x, t3, by simp -implicitDefEqProofs [b__law_some_deed, frame, Deed.A, h1, h2, h3], k3, ⟨o2, o3⟩, b1⟩
  · obtain ⟨a, t1, h1, k1, b1⟩ := s_some_secret (ds := ds) (R := R) (d + 4) ht h0 l1
    obtain ⟨b, t2, h2, k2, b2⟩ := s_some_secret (ds := ds) (R := R) (d + 4) k1 h0 l1
    exact ⟨.mix a b, t2, by simp -implicitDefEqProofs [b__law_some_deed, frame, Deed.A, h1, h2], k2, trivial, ⟨b1, b2⟩⟩
  · exact ⟨.draw, t, by simp -implicitDefEqProofs [b__law_some_deed, frame, Deed.A], ht, trivial, trivial⟩
  · obtain ⟨p, e, t1, h1, k1, b1⟩ := s_some_pair (ds := ds) (R := R) (d + 3) ht hp l1
    obtain ⟨x, t3, h3, k3, o3⟩ := s_dat (v := v) (ds := ds) (R := R) d k1
    exact ⟨.sign p x, t3, by simp -implicitDefEqProofs [b__law_some_deed, frame, Deed.A, h1, h3], k3, o3, trivial⟩
  · obtain ⟨s, t1, h1, k1, b1⟩ := s_some_secret (ds := ds) (R := R) (d + 4) ht h0 l1
    obtain ⟨x, t3, h3, k3, o3⟩ := s_dat (v := v) (ds := ds) (R := R) d k1
    exact ⟨.tag s x, t3, by simp -implicitDefEqProofs [b__law_some_deed, frame, Deed.A, h1, h3], k3, o3, trivial⟩
  · obtain ⟨s, t1, h1, k1, b1⟩ := s_some_secret (ds := ds) (R := R) (d + 4) ht h0 l1
    obtain ⟨m, t2, h2, k2⟩ := s_num (v := v) (ds := ds) (R := R) (d + 3) k1
    obtain ⟨x, t3, h3, k3, o3⟩ := s_dat (v := v) (ds := ds) (R := R) d k2
    obtain ⟨y, t4, h4, k4, o4⟩ := s_dat (v := v) (ds := ds) (R := R) d k3
    exact ⟨.bx s m x y, t4, by simp -implicitDefEqProofs [b__law_some_deed, frame, Deed.A, h1, h2, h3, h4], k4, ⟨o3, o4⟩, trivial⟩
  · obtain ⟨x, t1, h1, k1, o1⟩ := s_dat (v := v) (ds := ds) (R := R) d ht
    obtain ⟨s, t2, h2, k2, b2⟩ := s_some_secret (ds := ds) (R := R) (d + 4) k1 h0 l1
    obtain ⟨i, t3, h3, k3, b3⟩ := s_some_secret (ds := ds) (R := R) (d + 4) k2 h0 l1
    obtain ⟨y, t4, h4, k4, o4⟩ := s_dat (v := v) (ds := ds) (R := R) d k3
    exact ⟨.wrap s x i y, t4, by simp -implicitDefEqProofs [b__law_some_deed, frame, Deed.A, h1, h2, h3, h4], k4, ⟨o1, o4⟩, ⟨b2, b3⟩⟩
/-- the deed, cut -/
theorem s_deedT {d : Nat} {ρ : List (Option Slt)} {x : Deed} (hx : x.ok) (hw : x.wf v.sec.length) (hv : WF v n) (hn : n ≤ 7999) (hl : ds.length < 9000) (hd : ∀ y ∈ ds, cn 10 y = true) (hR : RF R) :
    kCt2 ρ (mS t v ds R).length (lvl T (d + 11) "_law_deed" [.ref 4, x.A] (mS t v ds R)) = some ((v.act x).2, ⟨ρ, mS t (v.act x).1 (ds ++ [x.A]) R⟩) := by
  have hv8 : v.Ok 8000 := ⟨hv.ok.s, hv.ok.e, by have := hv.ok.ls; omega, by have := hv.ok.le; omega⟩
  obtain ⟨G, h⟩ := s_deed (d := d) (t := t) (R := R) hx hv8 hl
  rw [h]
  have hv' := hv.act hx hw
  have hlen : (mS t (v.act x).1 (ds ++ [x.A]) R).length = (mS t v ds R).length := rfl
  refine kCt2_s (nr_rlt _ _ (sm_nr 1 _ (act_sm v x))) (fun o ho => ?_) hlen
  rw [← hlen]
  refine mS_rlt hv'.ok (fun y hy => ?_) hR o ho
  rcases List.mem_append.mp hy with hy | hy
  · exact hd y hy
  · rw [List.mem_singleton.mp hy]; exact Deed.cn hx
end
end K17
end
section
set_option maxRecDepth 100000
set_option maxHeartbeats 4000000
namespace K17
open PySem L2 Pyx
open PySem.Spec PyProof.Rows
/-- a model under way -/
structure MI (v : Vt) (ds : List AV) (k : Nat) : Prop where
  wf : WF v k
  dl : ds.length ≤ k
  dc : ∀ y ∈ ds, cn 10 y = true
theorem MI.step {v : Vt} {ds : List AV} {k : Nat} (h : MI v ds k) {x : Deed} (hx : x.ok) (hw : x.wf v.sec.length) : MI (v.act x).1 (ds ++ [x.A]) (k + 1) := by
  refine ⟨h.wf.act hx hw, by have := h.dl; simp; omega, fun y hy => ?_⟩
  rcases List.mem_append.mp hy with hy | hy
  · exact h.dc y hy
  · rw [List.mem_singleton.mp hy]; exact Deed.cn hx
theorem MI.mono {v : Vt} {ds : List AV} {k j : Nat} (h : MI v ds k) (hk : k ≤ j) : MI v ds j := ⟨h.wf.mono hk, Nat.le_trans h.dl hk, h.dc⟩
theorem MI.nil : MI ⟨[], []⟩ [] 0 where
  wf := { ok := { s := fun r h => (by cases h), e := fun r h => (by cases h), ls := Nat.le_refl _, le := Nat.le_refl _ }, s := fun k r h => (by simp at h), e := fun r h => (by cases h) }
  dl := Nat.le_refl _
  dc := fun y h => by cases h
theorem RF.nil : RF [] := fun _ h => by cases h
def mWords : List AV := [.str "generate", .str "plain", .str "agree", .str "agree", .str "derive", .str "derive", .str "derive", .str "mix", .str "mix", .str "wrap", .str "wrap", .str "seal", .str "sign", .str "tag", .str "draw", .str "wrap"]
theorem mWords_ok : ∀ x ∈ mWords, ∃ w, x = .str w ∧ w ∈ words := by
  intro x hx
  simp only [mWords, List.mem_cons, List.not_mem_nil, or_false] at hx
  rcases hx with rfl | rfl | rfl | rfl | rfl | rfl | rfl | rfl | rfl | rfl | rfl | rfl | rfl | rfl | rfl | rfl <;> exact ⟨_, rfl, by simp [words]⟩
def B1 : MS := (sSeq (sExpr (eCallT "_law_deed" (aCons (eVar 2) (aCons (eTup (aCons (eCon (.str "generate")) aNil)) aNil)))) sSkip)
def B2 : MS := (sSeq (sExpr (eCallT "_law_deed" (aCons (eVar 2) (aCons (eCall "_law_some_deed" (aCons (eVar 0) (aCons (eVar 2) (aCons (eCall "_law_pick" (aCons (eVar 0) (aCons (eVar 4) aNil))) aNil)))) aNil)))) sSkip)
theorem u_model : b__law_model = (sSeq (sAsg 2 (eLay (fLst (aCons (eLay (fLst aNil)) (aCons (eLay (fLst aNil)) (aCons (eLay (fLst aNil)) aNil)))))) (sSeq (sForR asR1 (aCons (eBin opAdd (oE (eCon (.int 1))) (oE (eCall "_law_draw" (aCons (eVar 0) (aCons (eCon (.int 3)) aNil))))) aNil) (.one 3) B1) (sSeq (sAsg 4 (eFrz (fLst (aCons (eCon (.str "generate")) (aCons (eCon (.str "plain")) (aCons (eCon (.str "agree")) (aCons (eCon (.str "agree")) (aCons (eCon (.str "derive")) (aCons (eCon (.str "derive")) (aCons (eCon (.str "derive")) (aCons (eCon (.str "mix")) (aCons (eCon (.str "mix")) (aCons (eCon (.str "wrap")) (aCons (eCon (.str "wrap")) (aCons (eCon (.str "seal")) aNil))))))))))))))) (sSeq (sAsg 4 (eBin opAdd (oVar 4) (oE (eFrz (fLst (aCons (eCon (.str "sign")) (aCons (eCon (.str "tag")) (aCons (eCon (.str "draw")) (aCons (eCon (.str "wrap")) aNil))))))))) (sSeq (sForR asR1 (aCons (eVar 1) aNil) (.one 3) B2) (sSeq (sRet (eVar 2)) sSkip)))))) := rfl
theorem s_model (d : Nat) {t : Tp} (ht : t.Ok) (many : Nat) (hm : many ≤ 1000) :
    ∃ (t' : Tp) (v : Vt) (ds : List AV), lvl T (d + 12) "_law_model" [.ref 0, .int (many : Nat)] [tpO t] = some (.ref 4, mS t' v ds []) ∧ t'.Ok ∧ MI v ds (3 + many) ∧ HasP v := by
  obtain ⟨g, t1, h1, k1, b1⟩ := s_drawN (d + 10) ht 3 (by omega) (by omega) [.lst [], .lst [], .lst [], .lst [.ref 1, .ref 2, .ref 3]]
  have h1 : lvl T (d + 11) "_law_draw" [.ref 0, .int 3] [tpO t, .lst [], .lst [], .lst [], .lst [.ref 1, .ref 2, .ref 3]] = some (.int (g : Nat), mS t1 ⟨[], []⟩ [] []) := h1
  -- the first loop
  obtain ⟨a', e2, v1, ds1, y3, rfl, m1, hp1⟩ := loopL_inv (tg := .one 3) (body := B1 (lvl T (d + 11))) (fun k a => ∃ (v : Vt) (ds : List AV) (y3 : Option Slt), a = ⟨[some (.val (.ref 0)), some (.val (.int (many : Nat))), some (.val (.ref 4)), y3, none], mS t1 v ds []⟩ ∧ MI v ds k ∧ (0 < k → HasP v))
    (xs := rgA 0 (1 + g)) (n := 0) (a := ⟨[some (.val (.ref 0)), some (.val (.int (many : Nat))), some (.val (.ref 4)), none, none], mS t1 ⟨[], []⟩ [] []⟩)
    (fun k x a hk ⟨v, ds, y3, ea, hM, hP⟩ => by
      subst ea
      rw [Nat.zero_add] at hM hP ⊢
      have hk' : k < 1 + g := by
        have := (List.getElem?_eq_some_iff.mp hk).1
        rwa [rgA_length] at this
      have hdl := hM.dl
      have hT := s_deedT (d := d) (t := t1) (R := []) (ρ := [some (.val (.ref 0)), some (.val (.int (many : Nat))), some (.val (.ref 4)), some (.val x), none]) (x := .gen) trivial trivial hM.wf (by omega) (by omega) hM.dc RF.nil
      simp only [Deed.A] at hT
      refine ⟨_, .nx, ⟨[some (.val (.ref 0)), some (.val (.int (many : Nat))), some (.val (.ref 4)), some (.val x), none], mS t1 (v.act .gen).1 (ds ++ [Deed.gen.A]) []⟩, rfl, ?_, .inl rfl, ⟨_, _, _, rfl, hM.step trivial trivial, fun _ => ⟨v.sec.length, v.ent.length, by show (v.sec ++ [_])[v.sec.length]? = _; simp⟩⟩⟩
      unfold B1
      simp -implicitDefEqProofs [hT, Deed.A])
    ⟨_, _, _, rfl, MI.nil, fun h => absurd h (by omega)⟩
  rw [rgA_length, Nat.zero_add] at m1 hp1
  have hp1 := hp1 (by omega)
  have m1 := m1.mono (show 1 + g ≤ 3 by omega)
  -- the second loop
  obtain ⟨a', e3, t2, v2, ds2, y3', rfl, k2, m2, hp2⟩ := loopL_inv (tg := .one 3) (body := B2 (lvl T (d + 11))) (fun k a => ∃ (t' : Tp) (v : Vt) (ds : List AV) (y3 : Option Slt), a = ⟨[some (.val (.ref 0)), some (.val (.int (many : Nat))), some (.val (.ref 4)), y3, some (.val (.lst mWords))], mS t' v ds []⟩ ∧ t'.Ok ∧ MI v ds (3 + k) ∧ HasP v)
    (xs := rgA 0 many) (n := 0) (a := ⟨[some (.val (.ref 0)), some (.val (.int (many : Nat))), some (.val (.ref 4)), y3, some (.val (.lst mWords))], mS t1 v1 ds1 []⟩)
    (fun k x a hk ⟨t', v, ds, y3, ea, ok, hM, hP⟩ => by
      subst ea
      rw [Nat.zero_add] at hM ⊢
      have hk' : k < many := by
        have := (List.getElem?_eq_some_iff.mp hk).1
        rwa [rgA_length] at this
      have hdl := hM.dl
      have hv8 : v.Ok 8000 := (hM.wf.mono (show 3 + k ≤ 8000 by omega)).ok
      obtain ⟨y, t3, q1, q2, q3⟩ := s_pick (d + 9) ok (xs := mWords) (by simp [mWords]) (by simp [mWords]) (mR v ds [])
      obtain ⟨w, rfl, hw⟩ := mWords_ok y q3
      have q1 : lvl T (d + 11) "_law_pick" [.ref 0, .lst mWords] (mS t' v ds []) = some (.str w, mS t3 v ds []) := q1
      obtain ⟨x', t4, r1, r2, r3, r4⟩ := s_some_deed (ds := ds) (R := []) (d + 4) q2 hP hv8 hw
      have hT := s_deedT (d := d) (t := t4) (R := []) (ρ := [some (.val (.ref 0)), some (.val (.int (many : Nat))), some (.val (.ref 4)), some (.val x), some (.val (.lst mWords))]) (x := x') r3 r4 hM.wf (by omega) (by omega) hM.dc RF.nil
      refine ⟨_, .nx, ⟨[some (.val (.ref 0)), some (.val (.int (many : Nat))), some (.val (.ref 4)), some (.val x), some (.val (.lst mWords))], mS t4 (v.act x').1 (ds ++ [x'.A]) []⟩, rfl, ?_, .inl rfl, ⟨_, _, _, _, rfl, r2, hM.step r3 r4, hP.act hM.wf r3 r4⟩⟩
      unfold B2
      generalize mWords = W' at *
      simp -implicitDefEqProofs [q1, r1, hT])
    ⟨_, _, _, _, rfl, k1, m1, hp1⟩
  rw [rgA_length, Nat.zero_add] at m2
  refine ⟨t2, v2, ds2, ?_, k2, m2, hp2⟩
  have f1 : kFr asR1 (.one 3) B1 (lvl T (d + 11)) (some ([.int (1 + (g : Int))], ⟨[some (.val (.ref 0)), some (.val (.int (many : Nat))), some (.val (.ref 4)), none, none], mS t1 ⟨[], []⟩ [] []⟩)) = some (.nx, ⟨[some (.val (.ref 0)), some (.val (.int (many : Nat))), some (.val (.ref 4)), y3, none], mS t1 v1 ds1 []⟩) := by
    have : (1 + (g : Int)) = ((1 + g : Nat) : Int) := by omega
    rw [this, kFr_1 (by omega)]; exact e2
  have f2 : kFr asR1 (.one 3) B2 (lvl T (d + 11)) (some ([.int (many : Int)], ⟨[some (.val (.ref 0)), some (.val (.int (many : Nat))), some (.val (.ref 4)), y3, some (.val (.lst mWords))], mS t1 v1 ds1 []⟩)) = some (.nx, ⟨[some (.val (.ref 0)), some (.val (.int (many : Nat))), some (.val (.ref 4)), y3', some (.val (.lst mWords))], mS t2 v2 ds2 []⟩) := by
    rw [kFr_1 (by omega)]; exact e3
  rw [l__law_model, u_model]
  simp only [mWords] at f2
  generalize B1 = b1 at f1
  generalize B2 = b2 at f2
  simp -implicitDefEqProofs [frame, h1, f1, f2]
end K17
end
section
set_option maxRecDepth 100000
set_option maxHeartbeats 4000000
namespace K17
open PySem L2 Pyx
open PySem.Spec PyProof.Rows
theorem Deed.wf_mono {x : Deed} {k j : Nat} (h : x.wf k) (hk : k ≤ j) : x.wf j := by
  cases x <;> simp only [Deed.wf] at * <;> omega
@[simp] theorem mS_1 {t : Tp} {v : Vt} {ds : List AV} {R : List SObj} : (mS t v ds R)[1]? = some (.lst (v.sec.map sA)) := rfl
@[simp] theorem mS_2 {t : Tp} {v : Vt} {ds : List AV} {R : List SObj} : (mS t v ds R)[2]? = some (.lst (v.ent.map eA)) := rfl
@[simp] theorem mS_4 {t : Tp} {v : Vt} {ds : List AV} {R : List SObj} : (mS t v ds R)[4]? = some (.lst [.ref 1, .ref 2, .ref 3]) := rfl
theorem sAt {v : Vt} {k : Nat} {r : SRow} (h : v.sec[k]? = some r) : (v.sec.map sA)[k]? = some (sA r) := by rw [List.getElem?_map, h]; rfl
/-- the slots of the ladder -/
def LS (many start last : Nat) (ws : List AV) (y6 y7 y8 y9 y10 : Option Slt) : List (Option Slt) :=
  [some (.val (.ref 0)), some (.val (.int (many : Nat))), some (.val (.ref 4)), some (.val (.int (start : Nat))), some (.val (.int (last : Nat))), some (.own ws), y6, y7, y8, y9, y10]
def BL1 : MS := (sSeq (sAsg 7 (eCall "_law_draw" (aCons (eVar 0) (aCons (eCon (.int 6)) aNil)))) (sSeq (sIf (mBool (eBin opEq (oVar 7) (oE (eCon (.int 0))))) (sSeq (sAsg 8 (eCall "_law_pick" (aCons (eVar 0) (aCons (eFrz (fLst (aCons (eTup (aCons (eVar 4) (aCons (eVar 3) aNil))) (aCons (eTup (aCons (eVar 3) (aCons (eVar 4) aNil))) (aCons (eTup (aCons (eVar 4) (aCons (eCall "_law_draw" (aCons (eVar 0) (aCons (eBi biLen (osCons (oE (eBin opIx (oVar 2) (oE (eCon (.int 0))))) osNil)) aNil))) aNil))) aNil))))) aNil)))) (sSeq (sAsg 4 (eCallT "_law_deed" (aCons (eVar 2) (aCons (eBin opAdd (oE (eTup (aCons (eCon (.str "mix")) aNil))) (oVar 8)) aNil)))) sSkip)) (sSeq (sIf (mAnd (mBool (eBin opLt (oVar 7) (oE (eCon (.int 3))))) (mBool (eBin opEq (oE (eBin opIx (oE (eBin opIx (oE (eBin opIx (oVar 2) (oE (eCon (.int 0))))) (oVar 4))) (oE (eCon (.int 0))))) (oE (eCon (.str "pair")))))) (sSeq (sAsg 9 (eCallT "_law_deed" (aCons (eVar 2) (aCons (eTup (aCons (eCon (.str "generate")) aNil)) aNil)))) (sSeq (sAsg 4 (eCallT "_law_deed" (aCons (eVar 2) (aCons (eTup (aCons (eCon (.str "agree")) (aCons (eVar 4) (aCons (eBin opIx (oE (eBin opIx (oE (eBin opIx (oVar 2) (oE (eCon (.int 0))))) (oVar 9))) (oE (eCon (.int 1)))) aNil)))) aNil)))) sSkip)) (sSeq (sIf (mBool (eBin opLt (oVar 7) (oE (eCon (.int 5))))) (sSeq (sAsg 10 (eCallT "_law_deed" (aCons (eVar 2) (aCons (eTup (aCons (eCon (.str "generate")) aNil)) aNil)))) (sSeq (sExpr (eApp (oVar 5) (eTup (aCons (eCon (.str "wrap")) (aCons (eVar 4) (aCons (eCall "_law_some_datum" (aCons (eVar 0) aNil)) (aCons (eVar 10) (aCons (eCall "_law_some_datum" (aCons (eVar 0) aNil)) aNil)))))))) (sSeq (sAsg 4 (eVar 10)) sSkip))) (sSeq (sAsg 4 (eCallT "_law_deed" (aCons (eVar 2) (aCons (eTup (aCons (eCon (.str "derive")) (aCons (eVar 4) (aCons (eCall "_law_label" (aCons (eVar 0) aNil)) (aCons (eCall "_law_some_datum" (aCons (eVar 0) aNil)) aNil))))) aNil)))) sSkip)) sSkip)) sSkip)) sSkip))
def BL2 : MS := (sSeq (sExpr (eCallT "_law_deed" (aCons (eVar 2) (aCons (ePopAt (oVar 5) (eCall "_law_draw" (aCons (eVar 0) (aCons (eBi biLen (osCons (oVar 5) osNil)) aNil)))) aNil)))) sSkip)
theorem u_ladder : b__law_ladder = (sSeq (sAsg 2 (eCall "_law_model" (aCons (eVar 0) (aCons (eCall "_law_draw" (aCons (eVar 0) (aCons (eCon (.int 3)) aNil))) aNil)))) (sSeq (sAsg 3 (eCall "_law_some_secret" (aCons (eVar 0) (aCons (eVar 2) aNil)))) (sSeq (sAsg 4 (eVar 3)) (sSeq (sOwn 5 (fLst aNil)) (sSeq (sForR asR1 (aCons (eVar 1) aNil) (.one 6) BL1) (sSeq (sForR asR1 (aCons (eBi biLen (osCons (oVar 5) osNil)) aNil) (.one 6) BL2) (sSeq (sRet (eFrz (fLst (aCons (eVar 2) (aCons (eVar 3) aNil))))) sSkip))))))) := rfl
structure LI (v : Vt) (ds : List AV) (k start last : Nat) (wl : List Deed) : Prop where
  m : MI v ds k
  p : HasP v
  s : start < v.sec.length
  l : last < v.sec.length
  w : ∀ x ∈ wl, x.ok ∧ x.wf v.sec.length
theorem LI.go {v : Vt} {ds : List AV} {k start last : Nat} {wl : List Deed} (h : LI v ds k start last wl) {x : Deed} (hx : x.ok) (hw : x.wf v.sec.length) {l' : Nat} (hl : l' < (v.act x).1.sec.length) : LI (v.act x).1 (ds ++ [x.A]) (k + 1) start l' wl := by
  have q := act_keep h.m.wf hx hw
  have h1 := h.s
  exact ⟨h.m.step hx hw, h.p.act h.m.wf hx hw, by omega, hl, fun y hy => ⟨(h.w y hy).1, Deed.wf_mono (h.w y hy).2 q.1⟩⟩
theorem put_int {v : Vt} {n : Nat} (h : WF v n) {r : SRow} (hr : r.ok) (hb : r.below v.sec.length) : (v.put r).2 < (v.put r).1.sec.length := (h.put hr hb).2.1
section
variable {t : Tp} {v : Vt} {ds : List AV}
theorem turnL (d : Nat) (ht : t.Ok) {k many start last : Nat} {wl : List Deed} (h : LI v ds k start last wl) (hk : k ≤ 5000) (hwl : wl.length ≤ 5000) (x6 : Slt) (y7 y8 y9 y10 : Option Slt) :
    ∃ (t' : Tp) (v' : Vt) (ds' : List AV) (last' : Nat) (wl' : List Deed) (z7 z8 z9 z10 : Option Slt), BL1 (lvl T (d + 12)) ⟨LS many start last (wl.map Deed.A) (some x6) y7 y8 y9 y10, mS t v ds []⟩ =
      some (.nx, ⟨LS many start last' (wl'.map Deed.A) (some x6) z7 z8 z9 z10, mS t' v' ds' []⟩) ∧ t'.Ok ∧ LI v' ds' (k + 2) start last' wl' ∧ wl'.length ≤ wl.length + 1 := by
  have hs := h.s
  have hl := h.l
  have hdl := h.m.dl
  have hv8 : v.Ok 8000 := (h.m.wf.mono (show k ≤ 8000 by omega)).ok
  have l1 := hv8.ls
  obtain ⟨c, t1, h1, k1, b1⟩ := s_drawN (d + 11) ht 6 (by omega) (by omega) (mR v ds [])
  have h1 : lvl T (d + 12) "_law_draw" [.ref 0, .int 6] (mS t v ds []) = some (.int (c : Nat), mS t1 v ds []) := h1
  by_cases c0 : c = 0
  · subst c0
    have hlen : (v.sec.map sA).length = v.sec.length := by simp
    obtain ⟨o, t2, h2, k2, b2⟩ := s_drawN (d + 11) k1 v.sec.length (by omega) (by omega) (mR v ds [])
    have h2 : lvl T (d + 12) "_law_draw" [.ref 0, .int (v.sec.length : Int)] (mS t1 v ds []) = some (.int (o : Nat), mS t2 v ds []) := h2
    obtain ⟨x, t3, h3, k3, b3⟩ := s_pick (d + 10) k2 (xs := [.tup [.int (last : Int), .int (start : Int)], .tup [.int (start : Int), .int (last : Int)], .tup [.int (last : Int), .int (o : Int)]]) (by simp) (by simp) (mR v ds [])
    have h3 : lvl T (d + 12) "_law_pick" [.ref 0, .lst [.tup [.int (last : Int), .int (start : Int)], .tup [.int (start : Int), .int (last : Int)], .tup [.int (last : Int), .int (o : Int)]]] (mS t2 v ds []) = some (x, mS t3 v ds []) := h3
    obtain ⟨a, b, rfl, ha, hb⟩ : ∃ a b : Nat, x = .tup [.int (a : Int), .int (b : Int)] ∧ a < v.sec.length ∧ b < v.sec.length := by
      simp only [List.mem_cons, List.not_mem_nil, or_false] at b3
      rcases b3 with rfl | rfl | rfl
      · exact ⟨_, _, rfl, hl, hs⟩
      · exact ⟨_, _, rfl, hs, hl⟩
      · exact ⟨_, _, rfl, hl, b2⟩
    have hT := fun ρ => s_deedT (d := d + 1) (t := t3) (R := []) (ρ := ρ) (x := .mix a b) trivial ⟨ha, hb⟩ h.m.wf (by omega) (by omega) h.m.dc RF.nil
    simp only [Deed.A] at hT
    refine ⟨t3, (v.act (.mix a b)).1, ds ++ [(Deed.mix a b).A], (v.put (.mixed a b)).2, wl, some (.val (.int 0)), some (.val (.tup [.int (a : Int), .int (b : Int)])), y9, y10, ?_, k3, ?_, by omega⟩
    · unfold BL1
      simp only [LS, Deed.A]
      simp -implicitDefEqProofs [h1, h2, h3, hT]
      rfl
    · have := h.go (x := .mix a b) trivial ⟨ha, hb⟩ (l' := (v.put (.mixed a b)).2) (put_int h.m.wf (r := .mixed a b) trivial ⟨ha, hb⟩)
      exact ⟨this.m.mono (by omega), this.p, this.s, this.l, this.w⟩
  · have c0' : ¬ (c : Int) = 0 := by omega
    obtain ⟨w, z, e1, e2⟩ := pr_eq (S := mS t1 v ds []) v.sec[last]
    have hg := sAt (List.getElem?_eq_getElem hl)
    rw [e1] at hg
    by_cases cp : c < 3 ∧ isPr v.sec[last] = true
    · obtain ⟨c3, hpr⟩ := cp
      have hT := fun ρ => s_deedT (d := d + 1) (t := t1) (R := []) (ρ := ρ) (x := .gen) trivial trivial h.m.wf (by omega) (by omega) h.m.dc RF.nil
      have h' := h.go (x := .gen) trivial trivial (l' := last) (by have := (act_keep h.m.wf (x := .gen) trivial trivial).1; omega)
      have hdl' := h'.m.dl
      have hsec : (v.act .gen).1.sec[v.sec.length]? = some (.pair v.ent.length) := by
        show (v.sec ++ [_])[v.sec.length]? = _
        simp
      have hent : (v.act .gen).1.ent[v.ent.length]? = some (.pub v.sec.length) := by
        show (v.ent ++ [_])[v.ent.length]? = _
        simp
      have hlt : (v.act .gen).1.sec.length = v.sec.length + 1 := by show (v.sec ++ [_]).length = _; simp
      have hT2 := fun ρ => s_deedT (d := d + 1) (t := t1) (v := (v.act .gen).1) (R := []) (ρ := ρ) (x := .agree last v.ent.length) trivial (show last < _ by omega) h'.m.wf (by omega) (by omega) h'.m.dc RF.nil
      have hact : (v.act .gen).1.act (.agree last v.ent.length) = (((v.act .gen).1.put (.agreed (min last v.sec.length) (max last v.sec.length))).1, .int (((v.act .gen).1.put (.agreed (min last v.sec.length) (max last v.sec.length))).2 : Nat)) := by
        show (v.act .gen).1.doO (pubOf (v.act .gen).1.ent[v.ent.length]?) last = _
        rw [hent]
        rfl
      have hg2 := sAt hsec
      have h2 := h'.go (x := .agree last v.ent.length) trivial (show last < _ by omega) (l' := ((v.act .gen).1.put (.agreed (min last v.sec.length) (max last v.sec.length))).2) (by
        rw [hact]
        exact put_int h'.m.wf (r := .agreed _ _) trivial ⟨by omega, by omega⟩)
      refine ⟨t1, ((v.act .gen).1.act (.agree last v.ent.length)).1, ds ++ [Deed.gen.A] ++ [(Deed.agree last v.ent.length).A], ((v.act .gen).1.put (.agreed (min last v.sec.length) (max last v.sec.length))).2, wl, some (.val (.int (c : Int))), y8, some (.val (.int (v.sec.length : Int))), y10, ?_, k1, h2, by omega⟩
      rw [hact] at hT2 ⊢
      have ha1 : (v.act .gen).2 = .int (v.sec.length : Int) := rfl
      rw [ha1] at hT
      unfold BL1
      simp only [LS, Deed.A] at hT hT2 ⊢
      rw [hpr] at e2
      generalize (v.act .gen).1 = v1 at *
      simp -implicitDefEqProofs [h1, c0, show (c : Int) < 3 by omega, Pyx.atI_nat, hg, e2, hT, hT2, hg2, -List.getElem?_map]
    · have hno : (if (c : Int) < 3 then (some (isPr v.sec[last]) : Option Bool) else some false) = some false := by
        by_cases c3 : c < 3
        · have : isPr v.sec[last] = false := by
            cases q : isPr v.sec[last] with
            | false => rfl
            | true => exact absurd ⟨c3, q⟩ cp
          rw [this]; simp
        · rw [if_neg (by omega)]
      by_cases c5 : c < 5
      · have hT := fun ρ => s_deedT (d := d + 1) (t := t1) (R := []) (ρ := ρ) (x := .gen) trivial trivial h.m.wf (by omega) (by omega) h.m.dc RF.nil
        have hlt : (v.act .gen).1.sec.length = v.sec.length + 1 := by show (v.sec ++ [_]).length = _; simp
        have h' := h.go (x := .gen) trivial trivial (l' := v.sec.length) (by omega)
        obtain ⟨x, t2, q2, k2, o2⟩ := s_dat (v := (v.act .gen).1) (ds := ds ++ [Deed.gen.A]) (R := []) (d + 6) k1
        obtain ⟨y, t3, q3, k3, o3⟩ := s_dat (v := (v.act .gen).1) (ds := ds ++ [Deed.gen.A]) (R := []) (d + 6) k2
        refine ⟨t3, (v.act .gen).1, ds ++ [Deed.gen.A], v.sec.length, wl ++ [.wrap last x v.sec.length y], some (.val (.int (c : Int))), y8, y9, some (.val (.int (v.sec.length : Int))), ?_, k3, ⟨h'.m.mono (by omega), h'.p, h'.s, h'.l, fun z hz => ?_⟩, by simp⟩
        · have ha1 : (v.act .gen).2 = .int (v.sec.length : Int) := rfl
          have hwm : (wl ++ [Deed.wrap last x v.sec.length y]).map Deed.A = wl.map Deed.A ++ [.tup [.str "wrap", .int (last : Int), x, .int (v.sec.length : Int), y]] := by rw [List.map_append]; rfl
          have hwl' : (wl.map Deed.A).length < 100000 := by rw [List.length_map]; omega
          rw [ha1] at hT
          rw [hwm]
          unfold BL1
          simp only [LS, Deed.A] at hT q2 q3 ⊢
          generalize wl.map Deed.A = W at hwl' ⊢
          generalize (v.act .gen).1 = v1 at *
          generalize isPr v.sec[last] = b at *
          by_cases c3 : c < 3
          · have hb : b = false := by
              have hno' := hno
              rw [if_pos (by omega)] at hno'
              exact Option.some.inj hno'
            subst hb
            simp -implicitDefEqProofs [h1, c0, show (c : Int) < 3 by omega, show (c : Int) < 5 by omega, Pyx.atI_nat, hg, e2, hT, q2, q3, hwl', -List.getElem?_map]
          · simp -implicitDefEqProofs [h1, c0, show ¬ (c : Int) < 3 by omega, show (c : Int) < 5 by omega, hT, q2, q3, hwl', -List.getElem?_map]
        · rcases List.mem_append.mp hz with hz | hz
          · exact h'.w z hz
          · rw [List.mem_singleton.mp hz]
            exact ⟨⟨o2, o3⟩, ⟨by show last < _; omega, by show v.sec.length < _; omega⟩⟩
      · obtain ⟨l, t2, q2, k2, o2⟩ := s_lab (v := v) (ds := ds) (R := []) (d + 8) k1
        obtain ⟨x, t3, q3, k3, o3⟩ := s_dat (v := v) (ds := ds) (R := []) (d + 6) k2
        have hT := fun ρ => s_deedT (d := d + 1) (t := t3) (R := []) (ρ := ρ) (x := .derive last l x) ⟨o2, o3⟩ hl h.m.wf (by omega) (by omega) h.m.dc RF.nil
        have h2 := h.go (x := .derive last l x) ⟨o2, o3⟩ hl (l' := (v.put (.derived last l x)).2) (put_int h.m.wf (r := .derived last l x) ⟨o2, o3⟩ hl)
        refine ⟨t3, (v.act (.derive last l x)).1, ds ++ [(Deed.derive last l x).A], (v.put (.derived last l x)).2, wl, some (.val (.int (c : Int))), y8, y9, y10, ?_, k3, ⟨h2.m.mono (by omega), h2.p, h2.s, h2.l, h2.w⟩, by omega⟩
        have ha1 : (v.act (.derive last l x)).2 = .int ((v.put (.derived last l x)).2 : Int) := rfl
        rw [ha1] at hT
        unfold BL1
        simp only [LS, Deed.A] at hT ⊢
        simp -implicitDefEqProofs [h1, c0, show ¬ (c : Int) < 3 by omega, show ¬ (c : Int) < 5 by omega, hT, q2, q3, -List.getElem?_map]
end
end K17
end
section
set_option maxRecDepth 100000
set_option maxHeartbeats 4000000
namespace K17
open PySem L2 Pyx
open PySem.Spec PyProof.Rows
theorem erase_map {α β : Type} (f : α → β) : ∀ (l : List α) (j : Nat), (l.map f).eraseIdx j = (l.eraseIdx j).map f
  | [], _ => rfl
  | _ :: _, 0 => rfl
  | x :: l, j + 1 => by
    show f x :: (l.map f).eraseIdx j = f x :: (l.eraseIdx j).map f
    rw [erase_map f l j]
section
variable {t : Tp} {v : Vt} {ds : List AV}
theorem turnW (d : Nat) (ht : t.Ok) {k many start last : Nat} {wl : List Deed} (h : LI v ds k start last wl) (hk : k ≤ 5000) (hwl : wl.length ≤ 5000) (h0 : 0 < wl.length) (x6 : Slt) (y7 y8 y9 y10 : Option Slt) :
    ∃ (t' : Tp) (v' : Vt) (ds' : List AV) (wl' : List Deed), BL2 (lvl T (d + 12)) ⟨LS many start last (wl.map Deed.A) (some x6) y7 y8 y9 y10, mS t v ds []⟩ =
      some (.nx, ⟨LS many start last (wl'.map Deed.A) (some x6) y7 y8 y9 y10, mS t' v' ds' []⟩) ∧ t'.Ok ∧ LI v' ds' (k + 1) start last wl' ∧ wl'.length + 1 = wl.length := by
  have hl := h.l
  have hdl := h.m.dl
  obtain ⟨j, t1, h1, k1, b1⟩ := s_drawN (d + 11) ht wl.length h0 (by omega) (mR v ds [])
  have h1 : lvl T (d + 12) "_law_draw" [.ref 0, .int (wl.length : Int)] (mS t v ds []) = some (.int (j : Nat), mS t1 v ds []) := h1
  obtain ⟨o1, o2⟩ := h.w _ (List.getElem_mem b1)
  have hT := fun ρ => s_deedT (d := d + 1) (t := t1) (R := []) (ρ := ρ) (x := wl[j]) o1 o2 h.m.wf (by omega) (by omega) h.m.dc RF.nil
  have hgo := h.go (x := wl[j]) o1 o2 (l' := last) (by have := (act_keep h.m.wf o1 o2).1; omega)
  have hg : (wl.map Deed.A)[j]? = some wl[j].A := by rw [List.getElem?_map, List.getElem?_eq_getElem b1]; rfl
  have he : (wl.map Deed.A).eraseIdx j = (wl.eraseIdx j).map Deed.A := erase_map _ _ _
  have hlen : (wl.map Deed.A).length = wl.length := by simp
  have hpa := fun (a : AS) (hh : Hd) => kPa2_s (a := a) (h := hh) (xs := wl.map Deed.A) (k := j) (by omega)
  refine ⟨t1, (v.act wl[j]).1, ds ++ [wl[j].A], wl.eraseIdx j, ?_, k1, ⟨hgo.m, hgo.p, hgo.s, hgo.l, fun y hy => hgo.w y (List.mem_of_mem_eraseIdx hy)⟩, by rw [List.length_eraseIdx_of_lt b1]; omega⟩
  rw [← he]
  rw [← hlen] at h1
  unfold BL2
  simp only [LS]
  generalize wl.map Deed.A = W at h1 hg hpa ⊢
  generalize wl[j].A = A at *
  simp -implicitDefEqProofs [h1, hpa, hg, hT]
theorem s_ladder (d : Nat) (ht : t.Ok) (many : Nat) (hm : many ≤ 1000) :
    ∃ (t' : Tp) (v : Vt) (ds : List AV) (start : Nat), lvl T (d + 13) "_law_ladder" [.ref 0, .int (many : Nat)] [tpO t] = some (.lst [.ref 4, .int (start : Nat)], mS t' v ds []) ∧ t'.Ok ∧ MI v ds (5 + 3 * many) ∧ HasP v ∧ start < v.sec.length := by
  obtain ⟨g, t1, h1, k1, b1⟩ := s_drawN (d + 11) ht 3 (by omega) (by omega) []
  have h1 : lvl T (d + 12) "_law_draw" [.ref 0, .int 3] [tpO t] = some (.int (g : Nat), [tpO t1]) := h1
  obtain ⟨t2, v2, ds2, h2, k2, m2, p2⟩ := s_model d k1 g (by omega)
  have hdl := m2.dl
  have hv8 := (m2.wf.mono (show 3 + g ≤ 8000 by omega)).ok
  obtain ⟨s, t3, h3, k3, b3⟩ := s_some_secret (ds := ds2) (R := []) (d + 10) k2 p2.pos hv8.ls
  obtain ⟨a', e4, t4, v4, ds4, last4, wl4, z6, z7, z8, z9, z10, rfl, k4, L4, n4⟩ := loopL_inv (tg := .one 6) (body := BL1 (lvl T (d + 12))) (fun k a => ∃ (t' : Tp) (v : Vt) (ds : List AV) (last : Nat) (wl : List Deed) (y6 y7 y8 y9 y10 : Option Slt), a = ⟨LS many s last (wl.map Deed.A) y6 y7 y8 y9 y10, mS t' v ds []⟩ ∧ t'.Ok ∧ LI v ds (5 + 2 * k) s last wl ∧ wl.length ≤ k)
    (xs := rgA 0 many) (n := 0) (a := ⟨LS many s s [] none none none none none, mS t3 v2 ds2 []⟩)
    (fun k x a hk ⟨t', v, ds, last, wl, y6, y7, y8, y9, y10, ea, ok, hL, hw⟩ => by
      subst ea
      rw [Nat.zero_add] at hL hw ⊢
      have hk' : k < many := by
        have := (List.getElem?_eq_some_iff.mp hk).1
        rwa [rgA_length] at this
      obtain ⟨t5, v5, ds5, l5, wl5, w7, w8, w9, w10, f1, f2, f3, f4⟩ := turnL d ok hL (by omega) (by omega) (.val x) y7 y8 y9 y10 (many := many)
      exact ⟨_, .nx, _, rfl, f1, .inl rfl, ⟨t5, v5, ds5, l5, wl5, _, w7, w8, w9, w10, rfl, f2, by rw [show 5 + 2 * (k + 1) = 5 + 2 * k + 2 by omega]; exact f3, by omega⟩⟩)
    ⟨t3, v2, ds2, s, [], none, none, none, none, none, rfl, k3, ⟨m2.mono (by omega), p2, b3, b3, fun _ h => by cases h⟩, Nat.le_refl _⟩
  rw [rgA_length, Nat.zero_add] at L4 n4
  obtain ⟨a', e5, t5, v5, ds5, wl5, y6, rfl, k5, L5, n5⟩ := loopL_inv (tg := .one 6) (body := BL2 (lvl T (d + 12))) (fun k a => ∃ (t' : Tp) (v : Vt) (ds : List AV) (wl : List Deed) (y6 : Option Slt), a = ⟨LS many s last4 (wl.map Deed.A) y6 z7 z8 z9 z10, mS t' v ds []⟩ ∧ t'.Ok ∧ LI v ds (5 + 2 * many + k) s last4 wl ∧ wl.length + k = wl4.length)
    (xs := rgA 0 wl4.length) (n := 0) (a := ⟨LS many s last4 (wl4.map Deed.A) z6 z7 z8 z9 z10, mS t4 v4 ds4 []⟩)
    (fun k x a hk ⟨t', v, ds, wl, y6, ea, ok, hL, hw⟩ => by
      subst ea
      rw [Nat.zero_add] at hL hw ⊢
      have hk' : k < wl4.length := by
        have := (List.getElem?_eq_some_iff.mp hk).1
        rwa [rgA_length] at this
      obtain ⟨t6, v6, ds6, wl6, f1, f2, f3, f4⟩ := turnW d ok hL (by omega) (by omega) (by omega) (.val x) z7 z8 z9 z10 (many := many)
      exact ⟨_, .nx, _, rfl, f1, .inl rfl, ⟨t6, v6, ds6, wl6, _, rfl, f2, f3, by omega⟩⟩)
    ⟨t4, v4, ds4, wl4, z6, rfl, k4, L4, rfl⟩
  rw [rgA_length, Nat.zero_add] at L5
  refine ⟨t5, v5, ds5, s, ?_, k5, L5.m.mono (by omega), L5.p, L5.s⟩
  have f1 : kFr asR1 (.one 6) BL1 (lvl T (d + 12)) (some ([.int (many : Int)], ⟨LS many s s [] none none none none none, mS t3 v2 ds2 []⟩)) = some (.nx, ⟨LS many s last4 (wl4.map Deed.A) z6 z7 z8 z9 z10, mS t4 v4 ds4 []⟩) := by
    rw [kFr_1 (by omega)]; exact e4
  have hwlen : (wl4.map Deed.A).length = wl4.length := by simp
  have f2 : kFr asR1 (.one 6) BL2 (lvl T (d + 12)) (some ([.int ((wl4.map Deed.A).length : Int)], ⟨LS many s last4 (wl4.map Deed.A) z6 z7 z8 z9 z10, mS t4 v4 ds4 []⟩)) = some (.nx, ⟨LS many s last4 (wl5.map Deed.A) y6 z7 z8 z9 z10, mS t5 v5 ds5 []⟩) := by
    rw [hwlen, kFr_1 (by omega)]; exact e5
  rw [l__law_ladder, u_ladder]
  simp only [LS] at f1 f2
  generalize BL1 = b1 at f1
  generalize BL2 = b2 at f2
  generalize wl4.map Deed.A = W4 at f1 f2
  generalize wl5.map Deed.A = W5 at f2
  simp -implicitDefEqProofs [frame, h1, h2, h3, f1, f2]
theorem s_web (d : Nat) (ht : t.Ok) :
    ∃ (t' : Tp) (v : Vt) (ds : List AV) (start : Nat), lvl T (d + 14) "_law_web" [.ref 0] [tpO t] = some (.lst [.ref 4, .int (start : Nat)], mS t' v ds []) ∧ t'.Ok ∧ MI v ds 40 ∧ HasP v ∧ start < v.sec.length := by
  obtain ⟨c, t1, h1, k1, b1⟩ := s_drawN (d + 12) ht 2 (by omega) (by omega) []
  have h1 : lvl T (d + 13) "_law_draw" [.ref 0, .int 2] [tpO t] = some (.int (c : Nat), [tpO t1]) := h1
  rw [l__law_web]
  by_cases c0 : c = 0
  · subst c0
    obtain ⟨g, t2, h2, k2, b2⟩ := s_drawN (d + 12) k1 8 (by omega) (by omega) []
    have h2 : lvl T (d + 13) "_law_draw" [.ref 0, .int 8] [tpO t1] = some (.int (g : Nat), [tpO t2]) := h2
    obtain ⟨t3, v3, ds3, s, h3, k3, m3, p3, b3⟩ := s_ladder d k2 (3 + g) (by omega)
    have h3 : lvl T (d + 13) "_law_ladder" [.ref 0, .int (3 + (g : Int))] [tpO t2] = some (.lst [.ref 4, .int (s : Nat)], mS t3 v3 ds3 []) := by rw [← h3, Int.natCast_add]; rfl
    exact ⟨t3, v3, ds3, s, by simp -implicitDefEqProofs [b__law_web, frame, h1, h2, h3], k3, m3.mono (by omega), p3, b3⟩
  · obtain ⟨g, t2, h2, k2, b2⟩ := s_drawN (d + 12) k1 10 (by omega) (by omega) []
    have h2 : lvl T (d + 13) "_law_draw" [.ref 0, .int 10] [tpO t1] = some (.int (g : Nat), [tpO t2]) := h2
    obtain ⟨t3, v3, ds3, h3, k3, m3, p3⟩ := s_model (d + 1) k2 (3 + g) (by omega)
    have h3 : lvl T (d + 13) "_law_model" [.ref 0, .int (3 + (g : Int))] [tpO t2] = some (.ref 4, mS t3 v3 ds3 []) := by rw [← h3, Int.natCast_add]; rfl
    have hv8 := (m3.wf.mono (show 3 + (3 + g) ≤ 8000 by omega)).ok
    obtain ⟨s, t4, h4, k4, b4⟩ := s_some_secret (ds := ds3) (R := []) (d + 11) k3 p3.pos hv8.ls
    exact ⟨t4, v3, ds3, s, by simp -implicitDefEqProofs [b__law_web, frame, h1, h2, h3, h4, c0], k4, m3.mono (by omega), p3, b4⟩
end
end K17
end
section
set_option maxRecDepth 100000
set_option maxHeartbeats 4000000
namespace K17
open PySem L2 Pyx
open PySem.Spec PyProof.Rows
/-! ### numbers among numbers -/
def nA (hs : List Nat) : List AV := hs.map fun (x : Nat) => AV.int (x : Int)
theorem nA_length (hs : List Nat) : (nA hs).length = hs.length := by simp [nA]
theorem nA_append (hs gs : List Nat) : nA (hs ++ gs) = nA hs ++ nA gs := by simp [nA]
theorem nA_cn {hs : List Nat} : ∀ y ∈ nA hs, cn 0 y = true := fun y hy => by
  obtain ⟨x, _, rfl⟩ := List.mem_map.mp hy
  exact cn_in
theorem any_nA {x : Nat} {hs : List Nat} : ((nA hs).any fun y => y.eqb (.int (x : Int))) = decide (x ∈ hs) := by
  rw [Bool.eq_iff_iff, any_cn (j := 0) (k := 0) cn_in nA_cn, decide_eq_true_iff]
  constructor
  · intro h
    obtain ⟨y, hy, e⟩ := List.mem_map.mp h
    have : y = x := by
      have : (y : Int) = (x : Int) := AV.int.inj e
      omega
    exact this ▸ hy
  · intro h
    exact List.mem_map_of_mem h
theorem inSeq_nA {x : Nat} {hs : List Nat} : inSeq (.int (x : Int)) (nA hs) = some (decide (x ∈ hs)) := by
  rw [inSeq_sm (j := 0) (k := 0) (cn_sm 0 _ cn_in) (fun y hy => cn_sm 0 y (nA_cn y hy)) (by omega), any_nA]
section
variable {S : List SObj} {x : Nat} {hs : List Nat}
@[simp] theorem in_tN : opIn S (.int (x : Int)) (.tup (nA hs)) = some (.bl (decide (x ∈ hs))) := by
  show (inSeq (.int (x : Int)) (nA hs)).map _ = _
  rw [inSeq_nA]; rfl
@[simp] theorem notIn_tN : opNotIn S (.int (x : Int)) (.tup (nA hs)) = some (.bl (!decide (x ∈ hs))) := by
  show (inSeq (.int (x : Int)) (nA hs)).map _ = _
  rw [inSeq_nA]; rfl
@[simp] theorem in_lN : opIn S (.int (x : Int)) (.lst (nA hs)) = some (.bl (decide (x ∈ hs))) := by
  show (inSeq (.int (x : Int)) (nA hs)).map _ = _
  rw [inSeq_nA]; rfl
@[simp] theorem notIn_lN : opNotIn S (.int (x : Int)) (.lst (nA hs)) = some (.bl (!decide (x ∈ hs))) := by
  show (inSeq (.int (x : Int)) (nA hs)).map _ = _
  rw [inSeq_nA]; rfl
end
theorem rgA_nA (n : Nat) : rgA 0 n = nA (List.range n) := by
  unfold rgA nA
  congr 1
  funext i
  simp
theorem nA_erase (hs : List Nat) (j : Nat) : (nA hs).eraseIdx j = nA (hs.eraseIdx j) := erase_map _ _ _
theorem nA_get {hs : List Nat} {j : Nat} (h : j < hs.length) : (nA hs)[j]? = some (.int (hs[j] : Int)) := by
  unfold nA
  rw [List.getElem?_map, List.getElem?_eq_getElem h]
  rfl
theorem nA_snoc (hs : List Nat) (x : Nat) : nA hs ++ [.int (x : Int)] = nA (hs ++ [x]) := by simp [nA]
def BH : MS := (sSeq (sExpr (eApp (oVar 4) (ePopAt (oVar 3) (eCall "_law_draw" (aCons (eVar 0) (aCons (eBi biLen (osCons (oVar 3) osNil)) aNil)))))) sSkip)
theorem u_held : b__law_held = (sSeq (sOwn 3 (fRg (eVar 1))) (sSeq (sOwn 4 (fLst aNil)) (sSeq (sForR asR1 (aCons (eBi biMin (osCons (oVar 1) (osCons (oE (eCall "_law_draw" (aCons (eVar 0) (aCons (eBin opAdd (oVar 2) (oE (eCon (.int 1)))) aNil)))) osNil))) aNil) (.one 5) BH) (sSeq (sRet (eBi biTuple (osCons (oVar 4) osNil))) sSkip)))) := rfl
section
variable {t : Tp} {R : List SObj}
theorem s_held (d : Nat) (ht : t.Ok) (many most : Nat) (hm : many ≤ 9000) (hm2 : most ≤ 100) :
    ∃ (t' : Tp) (hs : List Nat), lvl T (d + 2) "_law_held" [.ref 0, .int (many : Nat), .int (most : Nat)] (tpO t :: R) = some (.tup (nA hs), tpO t' :: R) ∧ t'.Ok ∧ (∀ x ∈ hs, x < many) ∧ hs.length ≤ most := by
  obtain ⟨g, t1, h1, k1, b1⟩ := s_drawN d ht (most + 1) (by omega) (by omega) R
  have h1 : lvl T (d + 1) "_law_draw" [.ref 0, .int ((most : Int) + 1)] (tpO t :: R) = some (.int (g : Nat), tpO t1 :: R) := h1
  obtain ⟨a', e2, t2, lf, hs, y5, rfl, k2, q1, q2, q3, q4⟩ := loopL_inv (tg := .one 5) (body := BH (lvl T (d + 1))) (fun k a => ∃ (t' : Tp) (lf hs : List Nat) (y5 : Option Slt), a = ⟨[some (.val (.ref 0)), some (.val (.int (many : Nat))), some (.val (.int (most : Nat))), some (.own (nA lf)), some (.own (nA hs)), y5], tpO t' :: R⟩ ∧ t'.Ok ∧ (∀ x ∈ lf, x < many) ∧ (∀ x ∈ hs, x < many) ∧ lf.length + k = many ∧ hs.length = k)
    (xs := rgA 0 (min many g)) (n := 0) (a := ⟨[some (.val (.ref 0)), some (.val (.int (many : Nat))), some (.val (.int (most : Nat))), some (.own (nA (List.range many))), some (.own (nA [])), none], tpO t1 :: R⟩)
    (fun k x a hk ⟨t', lf, hs, y5, ea, ok, i1, i2, i3, i4⟩ => by
      subst ea
      rw [Nat.zero_add] at i3 i4 ⊢
      have hk' : k < min many g := by
        have := (List.getElem?_eq_some_iff.mp hk).1
        rwa [rgA_length] at this
      obtain ⟨j, t3, f1, f2, f3⟩ := s_drawN d ok lf.length (by omega) (by omega) R
      rw [← nA_length lf] at f1
      have hpa := fun (a : AS) (hh : Hd) => kPa2_s (a := a) (h := hh) (xs := nA lf) (k := j) (by omega)
      have hg := nA_get f3
      have hsn := nA_snoc hs lf[j]
      have hlen : (nA hs).length < 100000 := by rw [nA_length]; omega
      refine ⟨_, .nx, ⟨[some (.val (.ref 0)), some (.val (.int (many : Nat))), some (.val (.int (most : Nat))), some (.own (nA (lf.eraseIdx j))), some (.own (nA (hs ++ [lf[j]]))), some (.val x)], tpO t3 :: R⟩, rfl, ?_, .inl rfl, ⟨t3, _, _, _, rfl, f2, fun y hy => i1 y (List.mem_of_mem_eraseIdx hy), fun y hy => ?_, by rw [List.length_eraseIdx_of_lt f3]; omega, by simp [i4]⟩⟩
      · rw [← nA_erase, ← hsn]
        unfold BH
        generalize nA lf = L at f1 hpa hg ⊢
        generalize nA hs = H at hlen ⊢
        generalize (lf[j] : Int) = z at hg ⊢
        simp -implicitDefEqProofs [f1, hpa, hg, hlen]
      · rcases List.mem_append.mp hy with hy | hy
        · exact i2 y hy
        · rw [List.mem_singleton.mp hy]; exact i1 _ (List.getElem_mem f3))
    ⟨t1, _, _, _, rfl, k1, fun x hx => List.mem_range.mp hx, fun x hx => (by cases hx), by simp, rfl⟩
  rw [rgA_length, Nat.zero_add] at q4
  refine ⟨t2, hs, ?_, k2, q2, by omega⟩
  have e1 : (if (g : Int) < (many : Int) then (g : Int) else (many : Int)) = ((min many g : Nat) : Int) := by split <;> omega
  have m1 : ∀ S, biMin S [.int (many : Int), .int (g : Int)] = some (.int ((min many g : Nat) : Int)) := fun S => by rw [← e1]; rfl
  have f1 : kFr asR1 (.one 5) BH (lvl T (d + 1)) (some ([.int ((min many g : Nat) : Int)], ⟨[some (.val (.ref 0)), some (.val (.int (many : Nat))), some (.val (.int (most : Nat))), some (.own (nA (List.range many))), some (.own (nA [])), none], tpO t1 :: R⟩)) = some (.nx, ⟨[some (.val (.ref 0)), some (.val (.int (many : Nat))), some (.val (.int (most : Nat))), some (.own (nA lf)), some (.own (nA hs)), y5], tpO t2 :: R⟩) := by
    rw [kFr_1 (by omega)]; exact e2
  rw [l__law_held, u_held]
  have hr := kRg_s (n := many) (a := ⟨[some (.val (.ref 0)), some (.val (.int (many : Nat))), some (.val (.int (most : Nat))), none, none, none], tpO t :: R⟩) (by omega)
  rw [rgA_nA] at hr
  have n0 : nA [] = [] := rfl
  rw [n0] at f1
  generalize nA (List.range many) = L at f1 hr
  generalize nA hs = H at f1 ⊢
  generalize nA lf = L2 at f1
  generalize ((min many g : Nat) : Int) = mi at m1 f1
  generalize BH = b at f1
  simp -implicitDefEqProofs [frame, hr, h1, m1, f1]
theorem left_nA {many : Nat} {hs : List Nat} : ((rgA 0 many).filter fun x => match x with | .int k => !decide (k.toNat ∈ hs) | _ => false) = nA ((List.range many).filter fun x => !decide (x ∈ hs)) := by
  rw [rgA_nA]
  unfold nA
  rw [List.filter_map]
  congr 1
def TH : MS := (sSeq (sAsg 4 (eCall "_law_draw" (aCons (eVar 0) (aCons (eBin opAdd (oE (eBi biLen (osCons (oVar 3) osNil))) (oE (eCon (.int 1)))) aNil)))) (sSeq (sAsg 5 (eFrz (fCompR asR1 (aCons (eVar 1) aNil) [7] (.one 7) (mBool (eBin opNotIn (oVar 7) (oVar 3))) (eVar 7)))) (sSeq (sAsg 6 (eVar 3)) (sSeq (sIf (mBool (eBin opGt (oE (eBi biLen (osCons (oVar 5) osNil))) (oE (eCon (.int 0))))) (sSeq (sAsg 6 (eBin opAdd (oE (eBin opAdd (oE (eSl (oVar 3) pNone (pSome (eVar 4)))) (oE (eTup (aCons (eCall "_law_pick" (aCons (eVar 0) (aCons (eVar 5) aNil))) aNil))))) (oE (eSl (oVar 3) (pSome (eVar 4)) pNone)))) sSkip) sSkip) (sSeq (sRet (eFrz (fLst (aCons (eVar 3) (aCons (eBin opAdd (oE (eSl (oVar 3) pNone (pSome (eVar 4)))) (oE (eSl (oVar 3) (pSome (eBin opAdd (oVar 4) (oE (eCon (.int 1))))) pNone))) (aCons (eVar 6) (aCons (eRevT (oVar 3)) (aCons (eVar 3) aNil)))))))) sSkip)))))
theorem u_holders : b__law_holders = (sSeq (sAsg 3 (eCall "_law_held" (aCons (eVar 0) (aCons (eVar 1) (aCons (eCon (.int 3)) aNil))))) (sSeq (sIf (mAnd (mBool (eBin opNotIn (oVar 2) (oVar 3))) (mBool (eBin opGt (oE (eCall "_law_draw" (aCons (eVar 0) (aCons (eCon (.int 4)) aNil)))) (oE (eCon (.int 0)))))) (sSeq (sAsg 3 (eBin opAdd (oVar 3) (oE (eTup (aCons (eVar 2) aNil))))) sSkip) sSkip) TH)) := rfl
/-- the holder that the law takes -/
theorem s_holders (d : Nat) (ht : t.Ok) (many start : Nat) (hm : many ≤ 9000) (hst : start < many) :
    ∃ (t' : Tp) (hs : List Nat) (rest : List AV), lvl T (d + 3) "_law_holders" [.ref 0, .int (many : Nat), .int (start : Nat)] (tpO t :: R) = some (.lst (.tup (nA hs) :: rest), tpO t' :: R) ∧ t'.Ok ∧ (∀ x ∈ hs, x < many) ∧ hs.length ≤ 4 := by
  obtain ⟨t1, hs1, h1, k1, b1, l1⟩ := s_held (R := R) d ht many 3 hm (by omega)
  have h1 : lvl T (d + 2) "_law_held" [.ref 0, .int (many : Nat), .int 3] (tpO t :: R) = some (.tup (nA hs1), tpO t1 :: R) := h1
  have cp := fun (hs : List Nat) (t : Tp) (y4 : Option Slt) => compR_pure (G := lvl T (d + 2)) (ρ := [some (.val (.ref 0)), some (.val (.int (many : Nat))), some (.val (.int (start : Nat))), some (.val (.tup (nA hs))), y4, none, none, none]) (S := tpO t :: R) (i := 7) (n := many) (tst := (mBool (eBin opNotIn (oVar 7) (oVar 3)))) (elt := eVar 7) (p := fun x => match x with | .int k => !decide (k.toNat ∈ hs) | _ => false) (f := id) rfl
    (fun k hk => by simp) (fun k hk _ => by simp) (by omega)
  simp only [List.map_id_fun, id_eq, left_nA] at cp
  -- behind the first choice
  have tail : ∀ (t2 : Tp) (hs : List Nat), t2.Ok → hs.length ≤ 4 → ∃ (t' : Tp) (rest : List AV), kOut (TH (lvl T (d + 2)) ⟨[some (.val (.ref 0)), some (.val (.int (many : Nat))), some (.val (.int (start : Nat))), some (.val (.tup (nA hs))), none, none, none, none], tpO t2 :: R⟩) = some (.lst (.tup (nA hs) :: rest), tpO t' :: R) ∧ t'.Ok := by
    intro t2 hs k2 hl
    unfold TH
    obtain ⟨g, t3, h3, k3, b3⟩ := s_drawN (d + 1) k2 (hs.length + 1) (by omega) (by omega) R
    have h3 : lvl T (d + 2) "_law_draw" [.ref 0, .int (((nA hs).length : Int) + 1)] (tpO t2 :: R) = some (.int (g : Nat), tpO t3 :: R) := by rw [nA_length]; exact h3
    have c1 := cp hs t3 (some (.val (.int (g : Int))))
    have hl' : (nA hs).length ≤ 4 := by rw [nA_length]; exact hl
    have q1 := cut_len (xs := nA hs) none (some (g : Int))
    have q2 := cut_len (xs := nA hs) (some ((g : Int) + 1)) none
    have q3 := cut_len (xs := nA hs) (some (g : Int)) none
    have s1 : (cutA (nA hs) none (some (g : Int))).length + (cutA (nA hs) (some ((g : Int) + 1)) none).length ≤ 100000 := by omega
    have s2 : (cutA (nA hs) none (some (g : Int))).length + 1 ≤ 100000 := by omega
    have s3 : (cutA (nA hs) none (some (g : Int))).length + 1 + (cutA (nA hs) (some (g : Int)) none).length ≤ 100000 := by omega
    by_cases hL : ((List.range many).filter fun x => !decide (x ∈ hs)) = []
    · rw [hL] at c1
      have n0 : nA [] = [] := rfl
      rw [n0] at c1
      generalize nA hs = H at *
      exact ⟨t3, _, by simp -implicitDefEqProofs [h3, c1, s1]; rfl, k3⟩
    · have hne : nA ((List.range many).filter fun x => !decide (x ∈ hs)) ≠ [] := by
        intro h
        exact hL (List.map_eq_nil_iff.mp h)
      have hln : (nA ((List.range many).filter fun x => !decide (x ∈ hs))).length < 1000000 := by
        rw [nA_length]
        have := List.length_filter_le (fun x => !decide (x ∈ hs)) (List.range many)
        rw [List.length_range] at this
        omega
      obtain ⟨x, t4, h4, k4, b4⟩ := s_pick d k3 hne hln R
      have hp := List.length_pos_iff.mpr hne
      have hxr : ∀ S, res S x = x := fun S => res_nr (sm_nr 0 x (cn_sm 0 x (nA_cn x b4)))
      generalize nA ((List.range many).filter fun x => !decide (x ∈ hs)) = L at *
      generalize nA hs = H at *
      exact ⟨t4, _, by simp -implicitDefEqProofs [h3, c1, hp, h4, s1, s2, s3, hxr]; rfl, k4⟩
  rw [l__law_holders, u_holders]
  by_cases hin : start ∈ hs1
  · obtain ⟨t', rest, h5, k5⟩ := tail t1 hs1 k1 (by omega)
    refine ⟨t', hs1, rest, ?_, k5, b1, by omega⟩
    generalize TH = th at h5 ⊢
    simp -implicitDefEqProofs [frame, h1, hin, h5]
  · obtain ⟨g, t2, h2, k2, b2⟩ := s_drawN (d + 1) k1 4 (by omega) (by omega) R
    have h2 : lvl T (d + 2) "_law_draw" [.ref 0, .int 4] (tpO t1 :: R) = some (.int (g : Nat), tpO t2 :: R) := h2
    by_cases hg : g = 0
    · obtain ⟨t', rest, h5, k5⟩ := tail t2 hs1 k2 (by omega)
      refine ⟨t', hs1, rest, ?_, k5, b1, by omega⟩
      generalize TH = th at h5 ⊢
      subst hg
      simp -implicitDefEqProofs [frame, h1, hin, h2, h5]
    · obtain ⟨t', rest, h5, k5⟩ := tail t2 (hs1 ++ [start]) k2 (by simp; omega)
      refine ⟨t', hs1 ++ [start], rest, ?_, k5, fun x hx => ?_, by simp; omega⟩
      · have hp : 0 < g := by omega
        have hl : (nA hs1).length + 1 ≤ 100000 := by rw [nA_length]; omega
        rw [← nA_snoc] at h5 ⊢
        generalize TH = th at h5 ⊢
        simp -implicitDefEqProofs [frame, h1, hin, h2, hp, hl, h5]
      · rcases List.mem_append.mp hx with hx | hx
        · exact b1 x hx
        · rw [List.mem_singleton.mp hx]; exact hst
end
end K17
end
section
set_option maxRecDepth 100000
set_option maxHeartbeats 4000000
namespace K17
open PySem L2 Pyx
open PySem.Spec PyProof.Rows
/-! ### the least set -/
inductive Kn (v : Vt) (H : List Nat) : Nat → Prop where
  | held {i : Nat} : i ∈ H → Kn v H i
  | plain {i : Nat} {d : AV} : v.sec[i]? = some (.plain d) → Kn v H i
  | agL {i a b : Nat} : v.sec[i]? = some (.agreed a b) → Kn v H a → Kn v H i
  | agR {i a b : Nat} : v.sec[i]? = some (.agreed a b) → Kn v H b → Kn v H i
  | der {i s : Nat} {l d : AV} : v.sec[i]? = some (.derived s l d) → Kn v H s → Kn v H i
  | mix {i a b : Nat} : v.sec[i]? = some (.mixed a b) → Kn v H a → Kn v H b → Kn v H i
  | wr {s i : Nat} {h c : AV} : ERow.wrapped s h i c ∈ v.ent → Kn v H s → Kn v H i
/-- a row fires, with what is there -/
def fol (g : Nat → Bool) : SRow → Bool
  | .plain _ => true
  | .agreed a b => g a || g b
  | .derived s _ _ => g s
  | .mixed a b => g a && g b
  | .pair _ => false
def isWr : ERow → Bool
  | .wrapped _ _ _ _ => true
  | _ => false
/-- what holds the least set, is closed -/
theorem Kn.least {v : Vt} {H : List Nat} {n : Nat} (hv : WF v n) (hH : ∀ x ∈ H, x < v.sec.length) (g : Nat → Bool) (h1 : ∀ x ∈ H, g x = true) (h2 : ∀ (k : Nat) (r : SRow), v.sec[k]? = some r → fol g r = true → g k = true)
    (h3 : ∀ (s i : Nat) (h c : AV), ERow.wrapped s h i c ∈ v.ent → g s = true → g i = true) : ∀ i, Kn v H i → g i = true := by
  intro i hi
  induction hi with
  | held h => exact h1 _ h
  | plain h => exact h2 _ _ h rfl
  | agL h _ ih => exact h2 _ _ h (by simp [fol, ih])
  | agR h _ ih => exact h2 _ _ h (by simp [fol, ih])
  | der h _ ih => exact h2 _ _ h (by simp [fol, ih])
  | mix h _ _ ih1 ih2 => exact h2 _ _ h (by simp [fol, ih1, ih2])
  | wr h _ ih => exact h3 _ _ _ _ h ih
theorem Kn.fires {v : Vt} {H : List Nat} {g : Nat → Bool} (hg : ∀ k, g k = true → Kn v H k) {k : Nat} {r : SRow} (h : v.sec[k]? = some r) (hf : fol g r = true) : Kn v H k := by
  cases r with
  | pair e => cases hf
  | plain d => exact .plain h
  | agreed a b =>
    rcases Bool.or_eq_true_iff.mp hf with h' | h'
    · exact .agL h (hg _ h')
    · exact .agR h (hg _ h')
  | derived s l d => exact .der h (hg _ hf)
  | mixed a b =>
    obtain ⟨x, y⟩ := Bool.and_eq_true_iff.mp hf
    exact .mix h (hg _ x) (hg _ y)
theorem fol_congr {g g' : Nat → Bool} {k : Nat} {r : SRow} (hr : r.below k) (h : ∀ j, j < k → g j = g' j) : fol g r = fol g' r := by
  cases r with
  | pair e => rfl
  | plain d => rfl
  | agreed a b => obtain ⟨x, y⟩ := hr; simp [fol, h a x, h b y]
  | derived s l d => exact h s hr
  | mixed a b => obtain ⟨x, y⟩ := hr; simp [fol, h a x, h b y]
/-! ### a vault, as a tuple or in the store -/
structure VV (S : List SObj) (x : AV) (v : Vt) (a b : AV) : Prop where
  h0 : opIx S (res S x) (.int 0) = some a
  h1 : opIx S (res S x) (.int 1) = some b
  ha : itS S a (v.sec.map sA)
  hb : itS S b (v.ent.map eA)
theorem VV.tup {S : List SObj} {v : Vt} : VV S v.A v (.tup (v.sec.map sA)) (.tup (v.ent.map eA)) := ⟨rfl, rfl, .inr (.inl rfl), .inr (.inl rfl)⟩
theorem VV.mS {t : Tp} {v : Vt} {ds : List AV} {R : List SObj} : VV (mS t v ds R) (.ref 4) v (.ref 1) (.ref 2) := ⟨rfl, rfl, .inr (.inr ⟨1, rfl, rfl⟩), .inr (.inr ⟨2, rfl, rfl⟩)⟩
/-! ### rows that fire -/
section
variable {S : List SObj} {d n : Nat} {L : List AV} {g : Nat → Bool} {r : SRow}
theorem at_nat {k : Nat} : atI L (k : Int) = L[k]? := Pyx.atI_nat
theorem s_follows (hg : ∀ k, k < n → L[k]? = some (.bl (g k))) (hr : r.below n) : lvl T (d + 1) "follows" [sA r, .lst L] S = some (.bl (fol g r), S) := by
  rw [l_follows]
  have hx : ∀ k, k < n → atI L (k : Int) = some (.bl (g k)) := fun k hk => by rw [at_nat, hg k hk]
  have h01 : ∀ (b c : Bool) , (if b = true then c else b) = (b && c) := by decide
  cases r with
  | pair e => simp -implicitDefEqProofs [b_follows, frame, fol]
  | plain x => simp -implicitDefEqProofs [b_follows, frame, fol]
  | agreed a b =>
    have h1 := hx a hr.1
    have h2 := hx b hr.2
    cases e : g a <;> rw [e] at h1 <;> simp -implicitDefEqProofs [b_follows, frame, fol, h1, h2, e]
  | derived s l x =>
    have h1 := hx s hr
    simp -implicitDefEqProofs [b_follows, frame, fol, h1]
  | mixed a b =>
    have h1 := hx a hr.1
    have h2 := hx b hr.2
    cases e : g a <;> rw [e] at h1 <;> simp -implicitDefEqProofs [b_follows, frame, fol, h1, h2, e]
/-- a level: none, or a number -/
def isLv (x : AV) (b : Bool) : Prop := (b = false ∧ x = .non) ∨ (b = true ∧ ∃ i : Int, x = .int i)
theorem isLv_is {S : List SObj} {x : AV} {b : Bool} (h : isLv x b) : opIs S x .non = some (.bl (!b)) := by
  rcases h with ⟨rfl, rfl⟩ | ⟨rfl, i, rfl⟩ <;> rfl
theorem isLv_isN {S : List SObj} {x : AV} {b : Bool} (h : isLv x b) : opIsN S x .non = some (.bl b) := by
  rcases h with ⟨rfl, rfl⟩ | ⟨rfl, i, rfl⟩ <;> rfl
def LVs (L : List AV) (n : Nat) (g : Nat → Bool) : Prop := L.length = n ∧ ∀ k, k < n → ∃ x, L[k]? = some x ∧ isLv x (g k)
theorem isLv_res {x : AV} {b : Bool} (h : isLv x b) : res S x = x := by
  rcases h with ⟨rfl, rfl⟩ | ⟨rfl, i, rfl⟩ <;> rfl
theorem s_fires (hg : LVs L n g) (hr : r.below n) : lvl T (d + 1) "_law_fires" [sA r, .lst L] S = some (.bl (fol g r), S) := by
  rw [l__law_fires]
  have hx : ∀ k, k < n → ∃ x, atI L (k : Int) = some x ∧ isLv x (g k) := fun k hk => by
    obtain ⟨x, h1, h2⟩ := hg.2 k hk
    exact ⟨x, by rw [at_nat, h1], h2⟩
  cases r with
  | pair e => simp -implicitDefEqProofs [b__law_fires, frame, fol]
  | plain x => simp -implicitDefEqProofs [b__law_fires, frame, fol]
  | agreed a b =>
    obtain ⟨x, h1, k1⟩ := hx a hr.1
    obtain ⟨y, h2, k2⟩ := hx b hr.2
    cases e : g a <;> rw [e] at k1 <;> simp -implicitDefEqProofs [b__law_fires, frame, fol, h1, h2, e, isLv_isN k1, isLv_isN k2, isLv_res k1, isLv_res k2]
  | derived s l x =>
    obtain ⟨y, h2, k2⟩ := hx s hr
    simp -implicitDefEqProofs [b__law_fires, frame, fol, h2, isLv_isN k2, isLv_res k2]
  | mixed a b =>
    obtain ⟨x, h1, k1⟩ := hx a hr.1
    obtain ⟨y, h2, k2⟩ := hx b hr.2
    cases e : g a <;> rw [e] at k1 <;> simp -implicitDefEqProofs [b__law_fires, frame, fol, h1, h2, e, isLv_isN k1, isLv_isN k2, isLv_res k1, isLv_res k2]
end
/-! ### the wraps -/
def wrs (v : Vt) : List AV := (v.ent.filter isWr).map eA
def hdIs (x : AV) : Bool := match x with
  | .tup (.str w :: _) => w == "wrapped"
  | _ => false
theorem hd_wr (r : ERow) : hdIs (eA r) = isWr r := by cases r <;> rfl
theorem wr_eq {S : List SObj} (r : ERow) : ∃ w z, eA r = .tup (.str w :: z) ∧ opEq S (.str w) (.str "wrapped") = some (.bl (isWr r)) := by
  cases r <;> refine ⟨_, _, rfl, ?_⟩ <;> simp [isWr]
theorem wrs_eq (v : Vt) : (v.ent.map eA).filter hdIs = wrs v := by
  unfold wrs
  rw [List.filter_map]
  congr 1
  apply List.filter_congr
  intro r _
  exact hd_wr r
theorem wrs_mem {v : Vt} {x : AV} (h : x ∈ wrs v) : ∃ (s : Nat) (h : AV) (i : Nat) (c : AV), x = eA (.wrapped s h i c) ∧ ERow.wrapped s h i c ∈ v.ent := by
  obtain ⟨r, h1, rfl⟩ := List.mem_map.mp h
  obtain ⟨h1, h2⟩ := List.mem_filter.mp h1
  cases r <;> first | exact ⟨_, _, _, _, rfl, h1⟩ | cases h2
theorem s_wraps_of {S : List SObj} {d n : Nat} {x a b : AV} {v : Vt} (hx : VV S x v a b) (hn : v.ent.length ≤ 9000) (hr : ∀ r ∈ v.ent, r.ok) : lvl T (d + 1) "wraps_of" [x] S = some (.lst (wrs v), S) := by
  have cp := comp_it (G := lvl T d) (ρ := [some (.val x), none]) (S := S) (i := 1) (tst := (mBool (eBin opEq (oE (eBin opIx (oVar 1) (oE (eCon (.int 0))))) (oE (eCon (.str "wrapped")))))) (elt := eVar 1) (p := hdIs) (f := id) hx.hb rfl
    (fun y hy => by
      obtain ⟨r, _, rfl⟩ := List.mem_map.mp hy
      rw [hd_wr]
      obtain ⟨w, z, e1, e2⟩ := wr_eq (S := S) r
      rw [e1]
      simp -implicitDefEqProofs [e2])
    (fun y hy _ => by
      obtain ⟨r, hr', rfl⟩ := List.mem_map.mp hy
      have := res_nr (S := S) (sm_nr 10 _ (cn_sm 10 _ (eA_cn (hr r hr'))))
      generalize eA r = z at this
      simp -implicitDefEqProofs [this]) (by rw [List.length_map]; omega)
  rw [List.map_id_fun, id_eq, wrs_eq] at cp
  have h1 := hx.h1
  rw [l_wraps_of]
  simp -implicitDefEqProofs [b_wraps_of, frame, h1, cp]
end K17
end
section
set_option maxRecDepth 100000
set_option maxHeartbeats 4000000
namespace K17
open PySem L2 Pyx
open PySem.Spec PyProof.Rows
/-! ### flags -/
def bA (fl : List Bool) : List AV := fl.map AV.bl
def gO (fl : List Bool) (k : Nat) : Bool := fl[k]?.getD false
theorem bA_length {fl : List Bool} : (bA fl).length = fl.length := by simp [bA]
theorem bA_get {fl : List Bool} {k : Nat} (h : k < fl.length) : (bA fl)[k]? = some (.bl (gO fl k)) := by
  unfold bA gO
  rw [List.getElem?_map, List.getElem?_eq_getElem h]
  rfl
theorem bA_set {fl : List Bool} {k : Nat} {b : Bool} : (bA fl).set k (.bl b) = bA (fl.set k b) := by simp [bA, List.map_set]
theorem bA_nrs {fl : List Bool} : AV.nrs (bA fl) = true := nrs_all fun x hx => by obtain ⟨i, _, rfl⟩ := List.mem_map.mp hx; rfl
theorem gO_set {fl : List Bool} {k j : Nat} {b : Bool} (h : k < fl.length) : gO (fl.set k b) j = if j = k then b else gO fl j := by
  unfold gO
  rw [List.getElem?_set]
  by_cases e : j = k
  · subst e; simp [h]
  · rw [if_neg (fun h => e h.symm), if_neg e]
theorem gO_lt {fl : List Bool} {k : Nat} (h : gO fl k = true) : k < fl.length := by
  unfold gO at h
  cases e : fl[k]? with
  | none => rw [e] at h; cases h
  | some b => exact (List.getElem?_eq_some_iff.mp e).1
/-! ### one sweep -/
def BK1 : MS := (sSeq (sSet (oVar 4) (eVar 6) (eOr (eBin opIx (oVar 4) (oVar 6)) (eLend "follows" (osCons (oVar 7) (osCons (oVar 4) osNil))))) sSkip)
def KS (vA hA : AV) (v : Vt) (fl : List Bool) (y5 y6 y7 y8 : Option AV) : List (Option Slt) :=
  [some (.val vA), some (.val hA), some (.val (.tup (v.sec.map sA))), some (.val (.lst (wrs v))), some (.own (bA fl)), y5.map .val, y6.map .val, y7.map .val, y8.map .val]
section
variable {S : List SObj} {d : Nat} {vA hA : AV} {v : Vt} {fl : List Bool} {y5 y6 y7 y8 : Option AV}
theorem turnS {k : Nat} {r : SRow} (hb : r.below k) (hok : r.ok) (hk : k < fl.length) : BK1 (lvl T (d + 1)) ⟨KS vA hA v fl y5 (some (.int (k : Nat))) (some (sA r)) y8, S⟩ = some (.nx, ⟨KS vA hA v (fl.set k (gO fl k || fol (gO fl) r)) y5 (some (.int (k : Nat))) (some (sA r)) y8, S⟩) := by
  have hg : ∀ j, j < k → (bA fl)[j]? = some (.bl (gO fl j)) := fun j hj => bA_get (by omega)
  have hf := s_follows (d := d) (S := []) hg hb
  have hx : atI (bA fl) (k : Int) = some (.bl (gO fl k)) := by rw [at_nat, bA_get hk]
  have hn := sm_nr 10 _ (cn_sm 10 _ (sA_cn hok))
  have hns : AV.nrs [sA r, .lst (bA fl)] = true := by
    show ((sA r).nr && ((AV.lst (bA fl)).nr && true)) = true
    rw [hn, show (AV.lst (bA fl)).nr = AV.nrs (bA fl) from rfl, bA_nrs]
    rfl
  have hr : ∀ S, res S (sA r) = sA r := fun S => res_nr hn
  have hs : ∀ b, setL (k : Int) (.bl b) (bA fl) = some (bA (fl.set k b)) := fun b => by rw [setL_nat (by rw [bA_length]; exact hk), bA_set]
  have hl : ∀ a, kLd2 "follows" (lvl T (d + 1)) a (some [sA r, .lst (bA fl)]) = some (.bl (fol (gO fl) r), a) := fun a => by
    rw [kLd2_s hns, hf]; rfl
  unfold KS
  generalize sA r = z at hl hr
  generalize fol (gO fl) r = w at hl
  generalize hL : bA fl = L at hl hx hs
  cases e : gO fl k <;> rw [e] at hx <;> simp -implicitDefEqProofs [BK1, hx, hl, hr, hs]
/-- what holds of the flags behind so many rows -/
structure FI (v : Vt) (H : List Nat) (f0 fl : List Bool) (k : Nat) : Prop where
  len : fl.length = v.sec.length
  kn : ∀ j, gO fl j = true → Kn v H j
  up : ∀ j, gO f0 j = true → gO fl j = true
  cl : ∀ (j : Nat) (r : SRow), j < k → v.sec[j]? = some r → fol (gO fl) r = true → gO fl j = true
theorem FI.go {H : List Nat} {f0 : List Bool} {k n : Nat} (hv : WF v n) (h : FI v H f0 fl k) {r : SRow} (hr : v.sec[k]? = some r) : FI v H f0 (fl.set k (gO fl k || fol (gO fl) r)) (k + 1) := by
  have hk : k < fl.length := by rw [h.len]; exact (List.getElem?_eq_some_iff.mp hr).1
  refine ⟨by rw [List.length_set]; exact h.len, fun j hj => ?_, fun j hj => ?_, fun j q hj hq hf => ?_⟩
  · rw [gO_set hk] at hj
    by_cases e : j = k
    · rw [if_pos e] at hj
      subst e
      rcases Bool.or_eq_true_iff.mp hj with hj | hj
      · exact h.kn _ hj
      · exact Kn.fires h.kn hr hj
    · rw [if_neg e] at hj; exact h.kn _ hj
  · rw [gO_set hk]
    by_cases e : j = k
    · rw [if_pos e, ← e, h.up j hj]; rfl
    · rw [if_neg e]; exact h.up j hj
  · have hbq := hv.s j q hq
    have same : fol (gO (fl.set k (gO fl k || fol (gO fl) r))) q = fol (gO fl) q := fol_congr hbq fun i hi => by
      rw [gO_set hk, if_neg (by omega)]
    rw [same] at hf
    rw [gO_set hk]
    by_cases e : j = k
    · subst e
      rw [hr] at hq
      cases hq
      rw [if_pos rfl, hf, Bool.or_true]
    · rw [if_neg e]
      exact h.cl j q (by omega) hq hf
theorem s_sweep {H : List Nat} {n : Nat} (hv : WF v n) (hl : fl.length = v.sec.length) (hk : ∀ j, gO fl j = true → Kn v H j) :
    ∃ fl' z6 z7, loopL (.many [6, 7]) (BK1 (lvl T (d + 1))) (enA (v.sec.map sA)) ⟨KS vA hA v fl y5 y6 y7 y8, S⟩ = some (.nx, ⟨KS vA hA v fl' y5 z6 z7 y8, S⟩) ∧ FI v H fl fl' v.sec.length := by
  obtain ⟨a', e1, fl', z6, z7, rfl, h⟩ := loopL_inv (tg := .many [6, 7]) (body := BK1 (lvl T (d + 1))) (fun k a => ∃ fl' z6 z7, a = ⟨KS vA hA v fl' y5 z6 z7 y8, S⟩ ∧ FI v H fl fl' k) (xs := enA (v.sec.map sA)) (n := 0) (a := ⟨KS vA hA v fl y5 y6 y7 y8, S⟩)
    (fun k x a hx ⟨f1, z6, z7, ea, hi⟩ => by
      subst ea
      rw [Nat.zero_add] at hi ⊢
      rw [enA_get, List.getElem?_map] at hx
      cases hr : v.sec[k]? with
      | none => rw [hr] at hx; cases hx
      | some r =>
        rw [hr] at hx
        cases hx
        have hk : k < f1.length := by rw [hi.len]; exact (List.getElem?_eq_some_iff.mp hr).1
        exact ⟨⟨KS vA hA v f1 y5 (some (.int (k : Nat))) (some (sA r)) y8, S⟩, .nx, _, rfl, turnS (hv.s k r hr) (hv.ok.s r (List.mem_of_getElem? hr)) hk, .inl rfl, _, _, _, rfl, hi.go hv hr⟩)
    ⟨fl, y6, y7, rfl, hl, hk, fun _ h => h, fun j _ hj => absurd hj (Nat.not_lt_zero j)⟩
  refine ⟨fl', z6, z7, e1, ?_⟩
  rw [enA_length, List.length_map, Nat.zero_add] at h
  exact h
end
end K17
end
section
set_option maxRecDepth 100000
set_option maxHeartbeats 4000000
namespace K17
open PySem L2 Pyx
open PySem.Spec PyProof.Rows
/-! ### what is still not there -/
def lack (g : Nat → Bool) (n : Nat) : Nat := (List.range n).countP fun j => !g j
theorem lack_succ (g : Nat → Bool) (n : Nat) : lack g (n + 1) = lack g n + (if g n = true then 0 else 1) := by
  unfold lack
  rw [List.range_succ, List.countP_append]
  cases e : g n <;> simp [e]
theorem lack_le {g g' : Nat → Bool} (h : ∀ j, g j = true → g' j = true) : ∀ n, lack g' n ≤ lack g n
  | 0 => Nat.le_refl _
  | n + 1 => by
    have := lack_le h n
    rw [lack_succ, lack_succ]
    by_cases e : g n = true
    · rw [if_pos e, if_pos (h n e)]; exact this
    · rw [if_neg e]; split <;> omega
theorem lack_lt {g g' : Nat → Bool} (h : ∀ j, g j = true → g' j = true) {k : Nat} (h1 : g k = false) (h2 : g' k = true) : ∀ n, k < n → lack g' n < lack g n
  | 0, hk => absurd hk (Nat.not_lt_zero k)
  | n + 1, hk => by
    rw [lack_succ, lack_succ]
    by_cases e : k = n
    · subst e
      have := lack_le h k
      rw [if_pos h2, if_neg (by rw [h1]; decide)]
      omega
    · have := lack_lt h h1 h2 n (by omega)
      by_cases e : g n = true
      · rw [if_pos e, if_pos (h n e)]; exact this
      · rw [if_neg e]; split <;> omega
theorem lack_n (g : Nat → Bool) : ∀ n, lack g n ≤ n
  | 0 => Nat.le_refl _
  | n + 1 => by
    have := lack_n g n
    rw [lack_succ]
    split <;> omega
/-! ### the inner secrets that are opened -/
def inn (g : Nat → Bool) : List ERow → List Nat
  | [] => []
  | .wrapped s _ i _ :: rs => if (g s && !g i) = true then i :: inn g rs else inn g rs
  | _ :: rs => inn g rs
theorem inn_mem {g : Nat → Bool} {k : Nat} : ∀ {rs : List ERow}, k ∈ inn g rs ↔ ∃ (s : Nat) (h : AV) (c : AV), ERow.wrapped s h k c ∈ rs ∧ g s = true ∧ g k = false
  | [] => ⟨fun h => (by cases h), fun ⟨_, _, _, h, _⟩ => (by cases h)⟩
  | r :: rs => by
    have ih := inn_mem (g := g) (k := k) (rs := rs)
    cases r with
    | wrapped s h i c =>
      unfold inn
      constructor
      · intro hk
        split at hk
        · rename_i e
          obtain ⟨e1, e2⟩ := Bool.and_eq_true_iff.mp e
          rcases List.mem_cons.mp hk with rfl | hk
          · exact ⟨s, h, c, List.mem_cons_self, e1, by simpa using e2⟩
          · obtain ⟨s, h, c, m, q⟩ := ih.mp hk
            exact ⟨s, h, c, List.mem_cons_of_mem _ m, q⟩
        · obtain ⟨s, h, c, m, q⟩ := ih.mp hk
          exact ⟨s, h, c, List.mem_cons_of_mem _ m, q⟩
      · rintro ⟨s', h', c', m, q1, q2⟩
        rcases List.mem_cons.mp m with e | m
        · cases e
          rw [if_pos (by rw [q1, q2]; rfl)]
          exact List.mem_cons_self
        · have := ih.mpr ⟨s', h', c', m, q1, q2⟩
          split
          · exact List.mem_cons_of_mem _ this
          · exact this
    | _ =>
      unfold inn
      rw [ih]
      constructor
      · rintro ⟨s', h', c', m, q⟩; exact ⟨s', h', c', List.mem_cons_of_mem _ m, q⟩
      · rintro ⟨s', h', c', m, q⟩
        rcases List.mem_cons.mp m with e | m
        · cases e
        · exact ⟨s', h', c', m, q⟩
def pIn (g : Nat → Bool) : AV → Bool
  | .tup [_, .int s, _, .int i, _] => g s.toNat && !g i.toNat
  | _ => false
def f3 : AV → AV
  | .tup [_, _, _, y, _] => y
  | v => v
theorem inn_eq {g : Nat → Bool} : ∀ rs : List ERow, (((rs.filter isWr).map eA).filter (pIn g)).map f3 = nA (inn g rs)
  | [] => rfl
  | r :: rs => by
    have ih := inn_eq (g := g) rs
    cases r with
    | wrapped s h i c =>
      rw [List.filter_cons_of_pos (by rfl), List.map_cons]
      unfold inn
      by_cases e : (g s && !g i) = true
      · rw [List.filter_cons_of_pos (show pIn g (eA (.wrapped s h i c)) = true from e), if_pos e, List.map_cons, ih]
        rfl
      · rw [List.filter_cons_of_neg (show ¬ pIn g (eA (.wrapped s h i c)) = true from e), if_neg e, ih]
    | _ =>
      rw [List.filter_cons_of_neg (by intro h; cases h)]
      unfold inn
      exact ih
theorem wrs_len (v : Vt) : (wrs v).length ≤ v.ent.length := by
  unfold wrs
  rw [List.length_map]
  exact List.length_filter_le _ _
/-! ### the loop -/
def BK2 : MS := (sSeq (sSet (oVar 4) (eVar 6) (eCon (.bl true))) sSkip)
def CK : ME := eFrz (fComp (eVar 3) [7] (.one 7) (mAnd (mTru (oE (eBin opIx (oVar 4) (oE (eBin opIx (oVar 7) (oE (eCon (.int 1)))))))) (mNot (mTru (oE (eBin opIx (oVar 4) (oE (eBin opIx (oVar 7) (oE (eCon (.int 3)))))))))) (eBin opIx (oVar 7) (oE (eCon (.int 3)))))
def BK : MS := (sSeq (sForE (eVar 2)  [6, 7] BK1) (sSeq (sAsg 8 CK) (sSeq (sForV (eVar 8) (.one 6) BK2) (sSeq (sAsg 5 (eBin opGt (oE (eBi biLen (osCons (oVar 8) osNil))) (oE (eCon (.int 0))))) sSkip))))
theorem u_flags : b_known_flags = (sSeq (sAsg 2 (eBin opIx (oVar 0) (oE (eCon (.int 0))))) (sSeq (sAsg 3 (eCall "wraps_of" (aCons (eVar 0) aNil))) (sSeq (sOwn 4 (fCompR asR1 (aCons (eBi biLen (osCons (oVar 2) osNil)) aNil) [6] (.one 6) mTrue (eBin opIn (oVar 6) (oVar 1)))) (sSeq (sAsg 5 (eCon (.bl true))) (sSeq (sWhile W (mTru (oVar 5)) BK) (sSeq (sRet (eVar 4)) sSkip)))))) := rfl
section
variable {S : List SObj} {d : Nat} {vA hA : AV} {v : Vt} {fl : List Bool} {y5 y6 y7 y8 : Option AV}
theorem s_setall : ∀ (ks : List Nat) (fl : List Bool) (y6 : Option AV), (∀ k ∈ ks, k < fl.length) →
    ∃ fl' z6, loopL (.one 6) (BK2 (lvl T d)) (nA ks) ⟨KS vA hA v fl y5 y6 y7 y8, S⟩ = some (.nx, ⟨KS vA hA v fl' y5 z6 y7 y8, S⟩) ∧ fl'.length = fl.length ∧ ∀ j, gO fl' j = (gO fl j || decide (j ∈ ks))
  | [], fl, y6, _ => ⟨fl, y6, rfl, rfl, fun j => by simp⟩
  | k :: ks, fl, y6, h => by
    have hk := h k List.mem_cons_self
    obtain ⟨f2, z6, e1, e2, e3⟩ := s_setall ks (fl.set k true) (some (.int (k : Nat))) (fun j hj => by rw [List.length_set]; exact h j (List.mem_cons_of_mem _ hj))
    have hs : setL (k : Int) (.bl true) (bA fl) = some (bA (fl.set k true)) := by rw [setL_nat (by rw [bA_length]; exact hk), bA_set]
    have st : BK2 (lvl T d) ⟨KS vA hA v fl y5 (some (.int (k : Nat))) y7 y8, S⟩ = some (.nx, ⟨KS vA hA v (fl.set k true) y5 (some (.int (k : Nat))) y7 y8, S⟩) := by
      unfold KS
      generalize bA (fl.set k true) = L at hs
      simp -implicitDefEqProofs [BK2, hs]
    refine ⟨f2, z6, ?_, by rw [e2, List.length_set], fun j => ?_⟩
    · show (BK2 (lvl T d) ⟨KS vA hA v fl y5 (some (.int (k : Nat))) y7 y8, S⟩).bind (turn (loopL (.one 6) (BK2 (lvl T d)) (nA ks))) = _
      rw [st]
      exact e1
    · rw [e3, gO_set hk]
      by_cases e : j = k
      · subst e; simp
      · simp [e]
theorem s_inner {n : Nat} (hv : WF v n) (hn : n ≤ 900) (hl : fl.length = v.sec.length) : CK (lvl T d) ⟨KS vA hA v fl y5 y6 y7 y8, S⟩ = some (.lst (nA (inn (gO fl) v.ent)), ⟨KS vA hA v fl y5 y6 y7 y8, S⟩) := by
  have hx : ∀ j, j < fl.length → atI (bA fl) (j : Int) = some (.bl (gO fl j)) := fun j hj => by rw [at_nat, bA_get hj]
  have hwl := wrs_len v
  have hle := hv.ok.le
  have cp : ∀ (y7 : Option AV), kFc [7] (.one 7) (mAnd (mTru (oE (eBin opIx (oVar 4) (oE (eBin opIx (oVar 7) (oE (eCon (.int 1)))))))) (mNot (mTru (oE (eBin opIx (oVar 4) (oE (eBin opIx (oVar 7) (oE (eCon (.int 3)))))))))) (eBin opIx (oVar 7) (oE (eCon (.int 3)))) (lvl T d) (some (.lst (wrs v), ⟨KS vA hA v fl y5 y6 y7 y8, S⟩)) = _ := fun y7 =>
    comp_pure (p := pIn (gO fl)) (f := f3) (.inl rfl) (by cases y7 <;> rfl)
    (fun x hx1 => by
      obtain ⟨s, h, i, c, rfl, hm⟩ := wrs_mem hx1
      obtain ⟨b1, b2⟩ := hv.e _ hm
      have h1 := hx s (by omega)
      have h2 := hx i (by omega)
      have hp : pIn (gO fl) (eA (.wrapped s h i c)) = (gO fl s && !gO fl i) := rfl
      rw [hp]
      unfold KS
      generalize bA fl = L at h1 h2
      cases e1 : gO fl s <;> cases e2 : gO fl i <;> rw [e1] at h1 <;> rw [e2] at h2 <;> simp -implicitDefEqProofs [h1, h2])
    (fun x hx1 _ => by
      obtain ⟨s, h, i, c, rfl, hm⟩ := wrs_mem hx1
      have hp : f3 (eA (.wrapped s h i c)) = .int (i : Nat) := rfl
      rw [hp]
      unfold KS
      simp -implicitDefEqProofs) (by omega)
  have e := cp y7
  have e2 : ((wrs v).filter (pIn (gO fl))).map f3 = nA (inn (gO fl) v.ent) := inn_eq v.ent
  rw [e2] at e
  unfold KS at e ⊢
  unfold CK
  simp -implicitDefEqProofs [e]
end
end K17
end
section
set_option maxRecDepth 100000
set_option maxHeartbeats 4000000
namespace K17
open PySem L2 Pyx
open PySem.Spec PyProof.Rows
theorem whN_end {c : AS → Option (Bool × AS)} {b : AS → Option (Out × AS)} {k : Nat} {a a' : AS} (h : c a = some (false, a')) : whN c b (k + 1) a = some (.nx, a') := by
  unfold whN
  rw [h]
  rfl
theorem whN_go {c : AS → Option (Bool × AS)} {b : AS → Option (Out × AS)} {k : Nat} {a a' a2 : AS} (h : c a = some (true, a')) (h2 : b a' = some (.nx, a2)) : whN c b (k + 1) a = whN c b k a2 := by
  show ((c a).bind _ : Option (Out × AS)) = _
  rw [h]
  show ((b a').bind _ : Option (Out × AS)) = _
  rw [h2]
  rfl
section
variable {S : List SObj} {d : Nat} {vA hA : AV} {v : Vt} {fl : List Bool} {y5 y6 y7 y8 : Option AV} {H : List Nat} {n : Nat}
theorem Kn.lt (hv : WF v n) (hH : ∀ x ∈ H, x < v.sec.length) {i : Nat} (h : Kn v H i) : i < v.sec.length := by
  have := Kn.least hv hH (fun j => decide (j < v.sec.length)) (fun x hx => decide_eq_true (hH x hx)) (fun k r hr _ => decide_eq_true (List.getElem?_eq_some_iff.mp hr).1) (fun s i h c hm _ => decide_eq_true (hv.e _ hm).2) i h
  exact of_decide_eq_true this
/-- one turn of the loop: the flags behind it, whether more is to be done -/
theorem turnK (hv : WF v n) (hn : n ≤ 900) (hl : fl.length = v.sec.length) (hk : ∀ j, gO fl j = true → Kn v H j) :
    ∃ f2 m z6 z7 z8, BK (lvl T (d + 1)) ⟨KS vA hA v fl y5 y6 y7 y8, S⟩ = some (.nx, ⟨KS vA hA v f2 (some (.bl m)) z6 z7 z8, S⟩) ∧ f2.length = v.sec.length ∧ (∀ j, gO f2 j = true → Kn v H j) ∧ (∀ j, gO fl j = true → gO f2 j = true) ∧
      (m = false → (∀ (k : Nat) (r : SRow), v.sec[k]? = some r → fol (gO f2) r = true → gO f2 k = true) ∧ (∀ (s i : Nat) (h c : AV), ERow.wrapped s h i c ∈ v.ent → gO f2 s = true → gO f2 i = true)) ∧
      (m = true → lack (gO f2) v.sec.length < lack (gO fl) v.sec.length) := by
  obtain ⟨f1, z6, z7, e1, i1⟩ := s_sweep (d := d) (S := S) (vA := vA) (hA := hA) (y5 := y5) (y6 := y6) (y7 := y7) (y8 := y8) hv hl hk
  have e2 := s_inner (d := d + 1) (S := S) (vA := vA) (hA := hA) (y5 := y5) (y6 := z6) (y7 := z7) (y8 := y8) hv hn i1.len
  have hmem := fun k => inn_mem (g := gO f1) (k := k) (rs := v.ent)
  obtain ⟨f2, z6', e3, l2, g2⟩ := s_setall (d := d + 1) (S := S) (vA := vA) (hA := hA) (v := v) (y5 := y5) (y7 := z7) (y8 := some (.lst (nA (inn (gO f1) v.ent)))) (inn (gO f1) v.ent) f1 z6 (fun k hk => by
    obtain ⟨s, h, c, m, q1, q2⟩ := (hmem k).mp hk
    rw [i1.len]
    exact (hv.e _ m).2)
  generalize hks : inn (gO f1) v.ent = ks at e2 e3 hmem g2
  have hst : ∀ b : Bool, decide (0 < ks.length) = b → BK (lvl T (d + 1)) ⟨KS vA hA v fl y5 y6 y7 y8, S⟩ = some (.nx, ⟨KS vA hA v f2 (some (.bl b)) z6' z7 (some (.lst (nA ks))), S⟩) := fun b hb => by
    have hb' : decide (0 < (nA ks).length) = b := by rw [nA_length]; exact hb
    unfold BK KS at *
    generalize v.sec.map sA = L0 at *
    generalize BK1 = b1 at *
    generalize BK2 = b2 at *
    generalize CK = ck at *
    generalize nA ks = K at *
    generalize bA f2 = F2 at *
    generalize bA f1 = F1 at *
    generalize bA fl = F0 at *
    subst hb'
    simp only [Option.map_some, Option.map_none] at e1 e2 e3 ⊢
    simp -implicitDefEqProofs [e1, e2, e3]
  refine ⟨f2, decide (0 < ks.length), z6', z7, some (.lst (nA ks)), hst _ rfl, by rw [l2, i1.len], fun j hj => ?_, fun j hj => ?_, fun hm => ?_, fun hm => ?_⟩
  · rw [g2] at hj
    rcases Bool.or_eq_true_iff.mp hj with hj | hj
    · exact i1.kn j hj
    · obtain ⟨s, h, c, m, q1, q2⟩ := (hmem j).mp (of_decide_eq_true hj)
      exact .wr m (i1.kn s q1)
  · rw [g2, i1.up j hj]; rfl
  · have hz : ks = [] := List.length_eq_zero_iff.mp (by have := of_decide_eq_false hm; omega)
    have hg : gO f2 = gO f1 := by
      funext j
      rw [g2, hz]
      simp
    rw [hg]
    refine ⟨fun k r hr hf => i1.cl k r (List.getElem?_eq_some_iff.mp hr).1 hr hf, fun s i h c hm hs => ?_⟩
    cases e : gO f1 i with
    | true => rfl
    | false =>
      have := (hmem i).mpr ⟨s, h, c, hm, hs, e⟩
      rw [hz] at this
      cases this
  · have hp := of_decide_eq_true hm
    obtain ⟨k, ks', rfl⟩ : ∃ k ks', ks = k :: ks' := by
      cases ks with
      | nil => cases hp
      | cons k ks' => exact ⟨k, ks', rfl⟩
    obtain ⟨s, h, c, m, q1, q2⟩ := (hmem k).mp List.mem_cons_self
    have a1 := lack_le (n := v.sec.length) i1.up
    have a2 := lack_lt (g := gO f1) (g' := gO f2) (fun j hj => by rw [g2, hj]; rfl) q2 (by rw [g2]; simp) v.sec.length (hv.e _ m).2
    omega
theorem whileK (hv : WF v n) (hn : n ≤ 900) (hH : ∀ x ∈ H, x < v.sec.length) : ∀ (m fuel : Nat) (fl : List Bool) (y6 y7 y8 : Option AV), fl.length = v.sec.length → (∀ j, gO fl j = true → Kn v H j) → (∀ x ∈ H, gO fl x = true) → lack (gO fl) v.sec.length ≤ m → m + 2 ≤ fuel →
    ∃ f2 z6 z7 z8, whN (mTru (oVar 5) (lvl T (d + 1))) (BK (lvl T (d + 1))) fuel ⟨KS vA hA v fl (some (.bl true)) y6 y7 y8, S⟩ = some (.nx, ⟨KS vA hA v f2 (some (.bl false)) z6 z7 z8, S⟩) ∧ f2.length = v.sec.length ∧ ∀ j, gO f2 j = true ↔ Kn v H j := by
  have hc : ∀ (fl : List Bool) (b : Bool) (y6 y7 y8 : Option AV), mTru (oVar 5) (lvl T (d + 1)) ⟨KS vA hA v fl (some (.bl b)) y6 y7 y8, S⟩ = some (b, ⟨KS vA hA v fl (some (.bl b)) y6 y7 y8, S⟩) := fun fl b y6 y7 y8 => by
    unfold KS
    cases b <;> simp -implicitDefEqProofs
  intro m
  induction m with
  | zero =>
    intro fuel fl y6 y7 y8 hl hk hh hlk hf
    obtain ⟨fuel, rfl⟩ : ∃ k, fuel = k + 2 := ⟨fuel - 2, by omega⟩
    obtain ⟨f2, b, z6, z7, z8, e1, l2, k2, u2, c2, c3⟩ := turnK (d := d) (S := S) (vA := vA) (hA := hA) (y5 := some (.bl true)) (y6 := y6) (y7 := y7) (y8 := y8) hv hn hl hk
    cases b with
    | true => exact absurd (c3 rfl) (by omega)
    | false =>
      obtain ⟨q1, q2⟩ := c2 rfl
      refine ⟨f2, z6, z7, z8, ?_, l2, fun j => ⟨k2 j, fun h => Kn.least hv hH (gO f2) (fun x hx => u2 x (hh x hx)) q1 q2 j h⟩⟩
      rw [whN_go (hc _ _ _ _ _) e1, whN_end (hc _ _ _ _ _)]
  | succ m ih =>
    intro fuel fl y6 y7 y8 hl hk hh hlk hf
    obtain ⟨fuel, rfl⟩ : ∃ k, fuel = k + 2 := ⟨fuel - 2, by omega⟩
    obtain ⟨f2, b, z6, z7, z8, e1, l2, k2, u2, c2, c3⟩ := turnK (d := d) (S := S) (vA := vA) (hA := hA) (y5 := some (.bl true)) (y6 := y6) (y7 := y7) (y8 := y8) hv hn hl hk
    cases b with
    | true =>
      have := c3 rfl
      obtain ⟨f3, x6, x7, x8, e3, l3, k3⟩ := ih (fuel + 1) f2 z6 z7 z8 l2 k2 (fun x hx => u2 x (hh x hx)) (by omega) (by omega)
      refine ⟨f3, x6, x7, x8, ?_, l3, k3⟩
      rw [whN_go (hc _ _ _ _ _) e1, e3]
    | false =>
      obtain ⟨q1, q2⟩ := c2 rfl
      refine ⟨f2, z6, z7, z8, ?_, l2, fun j => ⟨k2 j, fun h => Kn.least hv hH (gO f2) (fun x hx => u2 x (hh x hx)) q1 q2 j h⟩⟩
      rw [whN_go (hc _ _ _ _ _) e1, whN_end (hc _ _ _ _ _)]
theorem there0 {H : List Nat} {n : Nat} : ∀ j, gO ((List.range n).map fun k => decide (k ∈ H)) j = decide (j < n ∧ j ∈ H) := fun j => by
  unfold gO
  rw [List.getElem?_map]
  by_cases h : j < n
  · rw [List.getElem?_range h]
    simp [h]
  · rw [List.getElem?_eq_none (by simp; omega)]
    simp [h]
/-- the flags of what is known -/
theorem s_flags (hv : WF v n) (hn : n ≤ 900) (hH : ∀ x ∈ H, x < v.sec.length) : ∃ fl, lvl T (d + 2) "known_flags" [v.A, .tup (nA H)] S = some (.lst (bA fl), S) ∧ fl.length = v.sec.length ∧ ∀ j, gO fl j = true ↔ Kn v H j := by
  have l1 := hv.ok.ls
  have l2 := hv.ok.le
  have hw := s_wraps_of (S := S) (d := d) (n := n) (v := v) VV.tup (by omega) hv.ok.e
  have cp := compR_pure (G := lvl T (d + 1)) (ρ := [some (.val v.A), some (.val (.tup (nA H))), some (.val (.tup (v.sec.map sA))), some (.val (.lst (wrs v))), none, none, none, none, none]) (S := S) (i := 6) (n := v.sec.length) (tst := mTrue) (elt := (eBin opIn (oVar 6) (oVar 1))) (p := fun _ => true) (f := fun x => match x with | .int k => .bl (decide (k.toNat ∈ H)) | _ => .non) rfl
    (fun k hk => by simp) (fun k hk _ => by simp -implicitDefEqProofs) (by omega)
  have e0 : (((rgA 0 v.sec.length).filter fun _ => true).map fun x => match x with | .int k => AV.bl (decide (k.toNat ∈ H)) | _ => .non) = bA ((List.range v.sec.length).map fun k => decide (k ∈ H)) := by
    rw [List.filter_eq_self.mpr fun _ _ => rfl]
    unfold rgA bA
    rw [List.map_map, List.map_map]
    apply List.map_congr_left
    intro k _
    simp
  rw [e0] at cp
  have hg0 := there0 (H := H) (n := v.sec.length)
  have hln : ((List.range v.sec.length).map fun k => decide (k ∈ H)).length = v.sec.length := by simp
  generalize ((List.range v.sec.length).map fun k => decide (k ∈ H)) = f0 at cp hg0 hln
  obtain ⟨f2, z6, z7, z8, e1, q1, q2⟩ := whileK (d := d) (S := S) (vA := v.A) (hA := .tup (nA H)) hv hn hH v.sec.length W f0 none none none hln (fun j hj => by rw [hg0] at hj; exact .held (of_decide_eq_true hj).2) (fun x hx => by rw [hg0]; exact decide_eq_true ⟨hH x hx, hx⟩) (lack_n _ _) (by show _ ≤ 1000; omega)
  refine ⟨f2, ?_, q1, q2⟩
  rw [l_known_flags, u_flags]
  have hx0 := (VV.tup (S := S) (v := v)).h0
  have hlen : (v.sec.map sA).length = v.sec.length := by simp
  rw [← hlen] at cp
  have hrA : res S v.A = v.A := rfl
  rw [hrA] at hx0
  have wh : ∀ a, sWhile W (mTru (oVar 5)) BK (lvl T (d + 1)) a = whN (mTru (oVar 5) (lvl T (d + 1))) (BK (lvl T (d + 1))) W a := fun _ => rfl
  generalize sWhile W (mTru (oVar 5)) BK = ww at wh ⊢
  have e1' := (wh _).trans e1
  unfold KS at e1'
  generalize bA f0 = F0 at cp e1'
  generalize bA f2 = F2 at e1' ⊢
  generalize v.sec.map sA = L0 at cp hx0 e1'
  generalize v.A = A at *
  clear e1 wh
  simp only [Option.map_some, Option.map_none] at e1'
  simp -implicitDefEqProofs [frame, hx0, hw, hrA, cp, e1']
end
end K17
end
section
set_option maxRecDepth 100000
set_option maxHeartbeats 4000000
namespace K17
open PySem L2 Pyx
open PySem.Spec PyProof.Rows
/-! ### the known secrets -/
def kl (k : Nat) : List Bool → List Nat
  | [] => []
  | true :: fl => k :: kl (k + 1) fl
  | false :: fl => kl (k + 1) fl
theorem gO_cons {b : Bool} {fl : List Bool} {k : Nat} : gO (b :: fl) (k + 1) = gO fl k := rfl
theorem kl_eq : ∀ (fl : List Bool) (k : Nat), kl k fl = (List.range' k fl.length).filter fun j => gO fl (j - k)
  | [], k => rfl
  | b :: fl, k => by
    have ih := kl_eq fl (k + 1)
    have e : ((List.range' (k + 1) fl.length).filter fun j => gO (b :: fl) (j - k)) = kl (k + 1) fl := by
      rw [ih]
      apply List.filter_congr
      intro j hj
      have := (List.mem_range'_1.mp hj).1
      rw [show j - k = (j - (k + 1)) + 1 by omega, gO_cons]
    rw [List.length_cons, List.range'_succ]
    cases b with
    | true =>
      rw [List.filter_cons_of_pos (by rw [Nat.sub_self]; rfl), e]
      rfl
    | false =>
      rw [List.filter_cons_of_neg (by rw [Nat.sub_self]; intro h; cases h), e]
      rfl
theorem kl_0 (fl : List Bool) : kl 0 fl = (List.range fl.length).filter (gO fl) := by
  rw [kl_eq, List.range_eq_range']
  rfl
section
variable {S : List SObj} {d : Nat} {v : Vt} {H : List Nat} {n : Nat} {x0 x1 : Option Slt} {G : Gm}
def knS (x0 x1 : Option Slt) (y2 y3 : Option AV) (S : List SObj) : AS := ⟨[x0, x1, y2.map .val, y3.map .val], S⟩
theorem known_comp : ∀ (fl : List Bool) (k : Nat) (acc : List AV) (y2 y3 : Option AV), acc.length + fl.length ≤ 100000 → ∃ z2 z3 : Option AV, compL [2, 3] (.many [2, 3]) (mTru (oVar 3) G) (eVar 2 G) (((bA fl).zipIdx k).map fun p => prA p.2 p.1) acc (knS x0 x1 y2 y3 S) = some (acc ++ nA (kl k fl), knS x0 x1 z2 z3 S)
  | [], k, acc, y2, y3, _ => ⟨y2, y3, by simp [bA, compL, kl, nA]⟩
  | b :: fl, k, acc, y2, y3, hl => by
    have hl' : acc.length + fl.length + 1 ≤ 100000 := by simpa [Nat.add_assoc] using hl
    have st : compL [2, 3] (.many [2, 3]) (mTru (oVar 3) G) (eVar 2 G) (((bA (b :: fl)).zipIdx k).map fun p => prA p.2 p.1) acc (knS x0 x1 y2 y3 S) =
        compT (mTru (oVar 3) G) (eVar 2 G) (compL [2, 3] (.many [2, 3]) (mTru (oVar 3) G) (eVar 2 G) (((bA fl).zipIdx (k + 1)).map fun p => prA p.2 p.1)) acc (knS x0 x1 (some (.int (k : Nat))) (some (.bl b)) S) := rfl
    rw [st]
    have h1 : mTru (oVar 3) G (knS x0 x1 (some (.int (k : Nat))) (some (.bl b)) S) = some (b, knS x0 x1 (some (.int (k : Nat))) (some (.bl b)) S) := by
      unfold knS
      cases b <;> simp -implicitDefEqProofs
    have h2 : eVar 2 G (knS x0 x1 (some (.int (k : Nat))) (some (.bl b)) S) = some (.int (k : Nat), knS x0 x1 (some (.int (k : Nat))) (some (.bl b)) S) := by
      unfold knS
      simp -implicitDefEqProofs
    unfold compT
    rw [h1]
    cases b with
    | true =>
      obtain ⟨z2, z3, e⟩ := known_comp fl (k + 1) (acc ++ [.int (k : Nat)]) (some (.int (k : Nat))) (some (.bl true)) (by simp; omega)
      refine ⟨z2, z3, ?_⟩
      rw [Option.bind_some, if_pos rfl, if_pos (Nat.lt_of_lt_of_le (by omega : acc.length < 100000) (by decide)), h2, Option.bind_some, e]
      simp [kl, nA]
    | false =>
      obtain ⟨z2, z3, e⟩ := known_comp fl (k + 1) acc (some (.int (k : Nat))) (some (.bl false)) (by omega)
      refine ⟨z2, z3, ?_⟩
      rw [Option.bind_some, if_neg (by intro h; cases h), e]
      rfl
/-- the known secrets, in order -/
noncomputable def knb (v : Vt) (H : List Nat) (j : Nat) : Bool := @decide _ (Classical.propDecidable (Kn v H j))
theorem knb_iff {v : Vt} {H : List Nat} {j : Nat} : knb v H j = true ↔ Kn v H j := @decide_eq_true_iff _ (Classical.propDecidable (Kn v H j))
noncomputable def kns (v : Vt) (H : List Nat) : List Nat := (List.range v.sec.length).filter (knb v H)
theorem kns_of {g : Nat → Bool} (h : ∀ j, j < v.sec.length → (g j = true ↔ Kn v H j)) : (List.range v.sec.length).filter g = kns v H := by
  unfold kns
  apply List.filter_congr
  intro j hj
  rw [Bool.eq_iff_iff, knb_iff]
  exact h j (List.mem_range.mp hj)
theorem s_known (hv : WF v n) (hn : n ≤ 900) (hH : ∀ x ∈ H, x < v.sec.length) : lvl T (d + 3) "known" [v.A, .tup (nA H)] S = some (.tup (nA (kns v H)), S) := by
  obtain ⟨fl, h1, h2, h3⟩ := s_flags (S := S) (d := d) hv hn hH
  have l1 := hv.ok.ls
  obtain ⟨z2, z3, e⟩ := known_comp (G := lvl T (d + 2)) (x0 := some (.val v.A)) (x1 := some (.val (.tup (nA H)))) (S := S) fl 0 [] none none (by simp; omega)
  rw [kl_0, h2, kns_of (fun j _ => h3 j), List.nil_append] at e
  have cp : kFcE [2, 3] [2, 3] (mTru (oVar 3)) (eVar 2) (lvl T (d + 2)) (some (.lst (bA fl), ⟨[some (.val v.A), some (.val (.tup (nA H))), none, none], S⟩)) = some (nA (kns v H), ⟨[some (.val v.A), some (.val (.tup (nA H))), none, none], S⟩) := by
    have : compL [2, 3] (.many [2, 3]) (mTru (oVar 3) (lvl T (d + 2))) (eVar 2 (lvl T (d + 2))) (enA (bA fl)) [] ⟨[some (.val v.A), some (.val (.tup (nA H))), none, none], S⟩ = _ := e
    show ((compL [2, 3] (.many [2, 3]) (mTru (oVar 3) (lvl T (d + 2))) (eVar 2 (lvl T (d + 2))) (enA (bA fl)) [] ⟨[some (.val v.A), some (.val (.tup (nA H))), none, none], S⟩).map _) = _
    rw [this]
    rfl
  rw [l_known]
  generalize nA (kns v H) = K at cp ⊢
  generalize v.A = A at *
  simp -implicitDefEqProofs [b_known, frame, h1, cp]
end
end K17
end
section
set_option maxRecDepth 100000
set_option maxHeartbeats 4000000
namespace K17
open PySem L2 Pyx
open PySem.Spec PyProof.Rows
/-! ### shields -/
def out (ss : List Nat) (k : Nat) : Bool := !decide (k ∈ ss)
def badS (v : Vt) (H ss : List Nat) (k : Nat) : Bool := decide (k ∈ H) || ((v.sec[k]?).map (fol (out ss))).getD false
def badE (ss : List Nat) : ERow → Bool
  | .wrapped s _ i _ => out ss s && !out ss i
  | _ => false
def shd (v : Vt) (H ss : List Nat) : Bool := !(ss.any (badS v H ss)) && !(v.ent.any (badE ss))
theorem any_nAs {ss : List Nat} {p : Nat → Bool} : ((nA ss).any fun x => match x with | .int k => p k.toNat | _ => false) = ss.any p := by
  unfold nA
  rw [List.any_map]
  congr 1
def pE (ss : List Nat) : AV → Bool
  | .tup [_, .int s, _, .int i, _] => out ss s.toNat && !out ss i.toNat
  | _ => false
theorem any_eAs {es : List ERow} {ss : List Nat} : ((es.map eA).any fun x => hdIs x && pE ss x) = es.any (badE ss) := by
  rw [List.any_map]
  congr 1
  funext r
  cases r <;> rfl
theorem asBls_map : ∀ bs : List Bool, asBls (bs.map AV.bl) = some bs
  | [] => rfl
  | b :: bs => by
    show (asBls (bs.map AV.bl)).map (b :: ·) = _
    rw [asBls_map bs]
    rfl
def fE (ss : List Nat) : AV → AV
  | .tup [_, .int s, _, .int i, _] => .bl (out ss s.toNat && !out ss i.toNat)
  | _ => .non
theorem wrs_any {ss : List Nat} : ∀ es : List ERow, ∃ bs : List Bool, ((es.filter isWr).map eA).map (fE ss) = bs.map AV.bl ∧ bs.any id = es.any (badE ss)
  | [] => ⟨[], rfl, rfl⟩
  | r :: es => by
    obtain ⟨bs, h1, h2⟩ := wrs_any (ss := ss) es
    cases r with
    | wrapped s h i c =>
      refine ⟨(out ss s && !out ss i) :: bs, ?_, ?_⟩
      · rw [List.filter_cons_of_pos (by rfl), List.map_cons, List.map_cons, h1]
        rfl
      · rw [List.any_cons, List.any_cons, h2]
        rfl
    | _ =>
      refine ⟨bs, ?_, ?_⟩
      · rw [List.filter_cons_of_neg (by intro h; cases h)]
        exact h1
      · rw [List.any_cons, h2]
        rfl
theorem biAny_w {S : List SObj} {v : Vt} {ss : List Nat} : biAny S [.lst (((wrs v).filter fun _ => true).map (fE ss))] = some (.bl (v.ent.any (badE ss))) := by
  obtain ⟨bs, h1, h2⟩ := wrs_any (ss := ss) v.ent
  rw [List.filter_eq_self.mpr fun _ _ => rfl]
  show (asBls ((wrs v).map (fE ss))).map _ = _
  rw [show (wrs v).map (fE ss) = bs.map AV.bl from h1, asBls_map, ← h2]
  rfl
def BS1 : MS := (sSeq (sIf (mOr (mBool (eBin opIn (oVar 5) (oVar 1))) (mTru (oE (eCall "follows" (aCons (eBin opIx (oVar 3) (oVar 5)) (aCons (eVar 4) aNil)))))) (sSeq (sRet (eCon (.bl false))) sSkip) sSkip) sSkip)
theorem u_shield : b_is_shield = (sSeq (sAsg 3 (eBin opIx (oVar 0) (oE (eCon (.int 0))))) (sSeq (sAsg 4 (eFrz (fCompR asR1 (aCons (eBi biLen (osCons (oVar 3) osNil)) aNil) [5] (.one 5) mTrue (eBin opNotIn (oVar 5) (oVar 2))))) (sSeq (sForV (eVar 2) (.one 5) BS1) (sSeq (sRet (eNot (eBi biAny (osCons (oE (eFrz (fComp (eCall "wraps_of" (aCons (eVar 0) aNil)) [6] (.one 6) mTrue (eAnd (eBin opIx (oVar 4) (oE (eBin opIx (oVar 6) (oE (eCon (.int 1)))))) (eNot (eBin opIx (oVar 4) (oE (eBin opIx (oVar 6) (oE (eCon (.int 3))))))))))) osNil)))) sSkip)))) := rfl
section
variable {S : List SObj} {d : Nat} {v : Vt} {H ss : List Nat} {n : Nat}
def outA (v : Vt) (ss : List Nat) : List AV := bA ((List.range v.sec.length).map (out ss))
theorem outA_get {k : Nat} (h : k < v.sec.length) : (outA v ss)[k]? = some (.bl (out ss k)) := by
  unfold outA bA
  rw [List.getElem?_map, List.getElem?_map, List.getElem?_range h]
  rfl
def shS (v : Vt) (H ss : List Nat) (y5 : Option AV) (S : List SObj) : AS := ⟨[some (.val v.A), some (.val (.tup (nA H))), some (.val (.tup (nA ss))), some (.val (.tup (v.sec.map sA))), some (.val (.lst (outA v ss))), y5.map .val, none], S⟩
theorem turnBS (hv : WF v n) {k : Nat} (hk : k < v.sec.length) :
    (badS v H ss k = true → BS1 (lvl T (d + 1)) (shS v H ss (some (.int (k : Nat))) S) = some (.rt (.bl false), shS v H ss (some (.int (k : Nat))) S)) ∧ (badS v H ss k = false → BS1 (lvl T (d + 1)) (shS v H ss (some (.int (k : Nat))) S) = some (.nx, shS v H ss (some (.int (k : Nat))) S)) := by
  have hr : v.sec[k]? = some v.sec[k] := List.getElem?_eq_getElem hk
  have hb : badS v H ss k = (decide (k ∈ H) || fol (out ss) v.sec[k]) := by unfold badS; rw [hr]; rfl
  have hbl := hv.s k _ hr
  have hf := s_follows (S := S) (d := d) (r := v.sec[k]) (L := outA v ss) (g := out ss) (n := k) (fun j hj => outA_get (by omega)) hbl
  have hs : atI (v.sec.map sA) (k : Int) = some (sA v.sec[k]) := by rw [at_nat, List.getElem?_map, hr]; rfl
  have hn := res_nr (S := S) (sm_nr 10 _ (cn_sm 10 _ (sA_cn (hv.ok.s _ (List.getElem_mem hk)))))
  rw [hb]
  unfold shS
  generalize v.sec[k] = r at hf hs hn
  generalize v.A = A
  generalize outA v ss = O at hf
  generalize fol (out ss) r = w at hf
  generalize sA r = z at hf hs hn
  generalize v.sec.map sA = L at hs
  by_cases hH : k ∈ H
  · refine ⟨fun _ => ?_, fun h => ?_⟩
    · simp -implicitDefEqProofs [BS1, hH]
    · rw [decide_eq_true hH] at h; cases h
  · cases w with
    | true => exact ⟨fun _ => (by simp -implicitDefEqProofs [BS1, hH, hs, hf, hn]), fun h => (by rw [decide_eq_false hH] at h; cases h)⟩
    | false => exact ⟨fun h => (by rw [decide_eq_false hH] at h; cases h), fun _ => (by simp -implicitDefEqProofs [BS1, hH, hs, hf, hn])⟩
theorem s_shield (hv : WF v n) (hn : n ≤ 900) (hss : ∀ x ∈ ss, x < v.sec.length) : lvl T (d + 2) "is_shield" [v.A, .tup (nA H), .tup (nA ss)] S = some (.bl (shd v H ss), S) := by
  have l1 := hv.ok.ls
  have l2 := hv.ok.le
  have hwl := wrs_len v
  have hlen : (v.sec.map sA).length = v.sec.length := by simp
  have cp := compR_pure (G := lvl T (d + 1)) (ρ := [some (.val v.A), some (.val (.tup (nA H))), some (.val (.tup (nA ss))), some (.val (.tup (v.sec.map sA))), none, none, none]) (S := S) (i := 5) (n := v.sec.length) (tst := mTrue) (elt := (eBin opNotIn (oVar 5) (oVar 2))) (p := fun _ => true) (f := fun x => match x with | .int k => .bl (out ss k.toNat) | _ => .non) rfl
    (fun k hk => by simp) (fun k hk _ => by simp -implicitDefEqProofs [out]) (by omega)
  have e0 : (((rgA 0 v.sec.length).filter fun _ => true).map fun x => match x with | .int k => AV.bl (out ss k.toNat) | _ => .non) = outA v ss := by
    rw [List.filter_eq_self.mpr fun _ _ => rfl]
    unfold rgA outA bA
    rw [List.map_map, List.map_map]
    apply List.map_congr_left
    intro k _
    simp
  rw [e0, ← hlen] at cp
  obtain ⟨lt, lf⟩ := loopL_any (tg := .one 5) (body := BS1 (lvl T (d + 1))) (S := S) (w := .bl false) (fun a => ∃ y5, a = shS v H ss y5 S) (p := fun x => match x with | .int k => badS v H ss k.toNat | _ => false) (xs := nA ss) (a := shS v H ss none S) (fun a ⟨y, e⟩ => by rw [e]; rfl)
    (fun x hx a ⟨y5, ea⟩ => by
      subst ea
      obtain ⟨k, hk, rfl⟩ := List.mem_map.mp hx
      obtain ⟨t1, t2⟩ := turnBS (S := S) (d := d) (H := H) (ss := ss) hv (hss k hk)
      exact ⟨shS v H ss (some (.int (k : Nat))) S, rfl, fun h => ⟨_, t1 h, rfl⟩, fun h => ⟨_, t2 h, _, rfl⟩⟩) ⟨none, rfl⟩
  rw [any_nAs] at lt lf
  have hx0 := (VV.tup (S := S) (v := v)).h0
  have hrA : res S v.A = v.A := rfl
  rw [hrA] at hx0
  rw [l_is_shield, u_shield]
  unfold shd
  have hO : ∀ j, j < v.sec.length → atI (outA v ss) (j : Int) = some (.bl (out ss j)) := fun j hj => by rw [at_nat, outA_get hj]
  have hw := s_wraps_of (S := S) (d := d) (n := n) (v := v) VV.tup (by omega) hv.ok.e
  cases hb : ss.any (badS v H ss) with
  | true =>
    obtain ⟨a', e1, e2⟩ := lt hb
    obtain ⟨ρ', S'⟩ := a'
    have e2 : S' = S := e2
    subst e2
    unfold shS at e1
    simp only [Option.map_none] at e1
    generalize BS1 = b1 at *
    generalize v.sec.map sA = L at *
    generalize outA v ss = O at *
    generalize v.A = A at *
    simp -implicitDefEqProofs [frame, hx0, hrA, cp, e1]
  | false =>
    obtain ⟨a', e1, y5, rfl⟩ := lf hb
    have c2 := comp_pure (G := lvl T (d + 1)) (ρ := [some (.val v.A), some (.val (.tup (nA H))), some (.val (.tup (nA ss))), some (.val (.tup (v.sec.map sA))), some (.val (.lst (outA v ss))), y5.map .val, none]) (S := S) (i := 6) (xs := wrs v) (v := .lst (wrs v)) (tst := mTrue) (elt := (eAnd (eBin opIx (oVar 4) (oE (eBin opIx (oVar 6) (oE (eCon (.int 1)))))) (eNot (eBin opIx (oVar 4) (oE (eBin opIx (oVar 6) (oE (eCon (.int 3))))))))) (p := fun _ => true) (f := fE ss) (.inl rfl) (by cases y5 <;> rfl)
      (fun x hx => rfl)
      (fun x hx _ => by
        obtain ⟨s, h, i, c, rfl, hm⟩ := wrs_mem hx
        obtain ⟨b1, b2⟩ := hv.e _ hm
        have h1 := hO s b1
        have h2 := hO i b2
        have hp : fE ss (eA (.wrapped s h i c)) = .bl (out ss s && !out ss i) := rfl
        rw [hp]
        generalize outA v ss = O at h1 h2
        generalize v.A = A
        cases e1 : out ss s <;> rw [e1] at h1 <;> simp -implicitDefEqProofs [h1, h2]) (by omega)
    have hA := biAny_w (S := S) (v := v) (ss := ss)
    generalize ((wrs v).filter fun _ => true).map (fE ss) = Z at c2 hA
    unfold shS at e1
    simp only [Option.map_none] at e1
    generalize BS1 = b1 at *
    generalize v.sec.map sA = L at *
    generalize outA v ss = O at *
    generalize v.A = A at *
    simp -implicitDefEqProofs [frame, hx0, hrA, cp, e1, hw, c2, hA]
end
end K17
end
section
set_option maxRecDepth 100000
set_option maxHeartbeats 4000000
namespace K17
open PySem L2 Pyx
open PySem.Spec PyProof.Rows
/-! ### the law's own least set, by levels -/
theorem LVs.nrs {L : List AV} {n : Nat} {g : Nat → Bool} (h : LVs L n g) : AV.nrs L = true := nrs_all fun x hx => by
  obtain ⟨k, hk, rfl⟩ := List.mem_iff_getElem.mp hx
  obtain ⟨y, h1, h2⟩ := h.2 k (by rw [← h.1]; exact hk)
  rw [List.getElem?_eq_getElem hk] at h1
  cases h1
  rcases h2 with ⟨_, e⟩ | ⟨_, i, e⟩ <;> rw [e] <;> rfl
theorem LVs.set {L : List AV} {n : Nat} {g : Nat → Bool} (h : LVs L n g) {k : Nat} (i : Int) : LVs (L.set k (.int i)) n (fun j => g j || decide (j = k)) := by
  refine ⟨by rw [List.length_set]; exact h.1, fun j hj => ?_⟩
  obtain ⟨y, h1, h2⟩ := h.2 j hj
  rw [List.getElem?_set]
  by_cases e : k = j
  · subst e
    rw [if_pos rfl, if_pos (by rw [h.1]; exact hj)]
    exact ⟨_, rfl, .inr ⟨by simp, i, rfl⟩⟩
  · rw [if_neg e]
    refine ⟨y, h1, ?_⟩
    show isLv y (g j || decide (j = k))
    rw [decide_eq_false (fun h : j = k => e h.symm), Bool.or_false]
    exact h2
theorem LVs.congr {L : List AV} {n : Nat} {g g' : Nat → Bool} (h : LVs L n g) (e : ∀ j, j < n → g j = g' j) : LVs L n g' := ⟨h.1, fun k hk => by rw [← e k hk]; exact h.2 k hk⟩
def BV1 : MS := (sSeq (sSet (oVar 2) (eVar 3) (eCon (.int 0))) sSkip)
def BV2 : MS := (sSeq (sSet (oVar 2) (eVar 7) (eBin opAdd (oVar 5) (oE (eCon (.int 1))))) sSkip)
def CV1 : MAs := (fCompR asR1 (aCons (eBi biLen (osCons (oVar 2) osNil)) aNil) [7] (.one 7) (mAnd (mBool (eBin opIs (oE (eBin opIx (oVar 2) (oVar 7))) (oE (eCon .non)))) (mTru (oE (eLend "_law_fires" (osCons (oE (eBin opIx (oE (eBin opIx (oVar 0) (oE (eCon (.int 0))))) (oVar 7))) (osCons (oVar 2) osNil)))))) (eVar 7))
def CV2 : MAs := (fComp (eVar 4) [8] (.one 8) (mAnd (mBool (eBin opIsN (oE (eBin opIx (oVar 2) (oE (eBin opIx (oVar 8) (oE (eCon (.int 1))))))) (oE (eCon .non)))) (mBool (eBin opIs (oE (eBin opIx (oVar 2) (oE (eBin opIx (oVar 8) (oE (eCon (.int 3))))))) (oE (eCon .non))))) (eBin opIx (oVar 8) (oE (eCon (.int 3)))))
def BV : MS := (sSeq (sAsg 6 (eFrz CV1)) (sSeq (sAsg 6 (eBin opAdd (oVar 6) (oE (eFrz CV2)))) (sSeq (sIf (mBool (eBin opEq (oE (eBi biLen (osCons (oVar 6) osNil))) (oE (eCon (.int 0))))) (sSeq sBreak sSkip) sSkip) (sSeq (sForV (eVar 6) (.one 7) BV2) sSkip))))
theorem u_levels : b__law_levels = (sSeq (sOwn 2 (fComp (eBin opIx (oVar 0) (oE (eCon (.int 0)))) [8] (.one 8) mTrue (eCon .non))) (sSeq (sForV (eVar 1) (.one 3) BV1) (sSeq (sAsg 4 (eFrz (fComp (eBin opIx (oVar 0) (oE (eCon (.int 1)))) [8] (.one 8) (mBool (eBin opEq (oE (eBin opIx (oVar 8) (oE (eCon (.int 0))))) (oE (eCon (.str "wrapped"))))) (eVar 8)))) (sSeq (sForR asR1 (aCons (eBi biLen (osCons (oVar 2) osNil)) aNil) (.one 5) BV) (sSeq (sRet (eVar 2)) sSkip))))) := rfl
/-- the slots of the levels' walk -/
def VS (x hA : AV) (L : List AV) (y3 y4 y5 y6 y7 : Option AV) : List (Option Slt) :=
  [some (.val x), some (.val hA), some (.own L), y3.map .val, y4.map .val, y5.map .val, y6.map .val, y7.map .val, none]
section
variable {S : List SObj} {d : Nat} {x hA a b : AV} {v : Vt} {L : List AV} {g : Nat → Bool} {y3 y4 y5 y6 y7 : Option AV} {H : List Nat} {n N : Nat}
theorem s_held0 : ∀ (ks : List Nat) (L : List AV) (g : Nat → Bool) (y3 : Option AV), LVs L N g → (∀ k ∈ ks, k < N) →
    ∃ L' z3, loopL (.one 3) (BV1 (lvl T d)) (nA ks) ⟨VS x hA L y3 y4 y5 y6 y7, S⟩ = some (.nx, ⟨VS x hA L' z3 y4 y5 y6 y7, S⟩) ∧ LVs L' N (fun j => g j || decide (j ∈ ks))
  | [], L, g, y3, h, _ => ⟨L, y3, rfl, h.congr fun j _ => by simp⟩
  | k :: ks, L, g, y3, h, hk => by
    have hk0 := hk k List.mem_cons_self
    obtain ⟨L', z3, e1, e2⟩ := s_held0 ks (L.set k (.int 0)) _ (some (.int (k : Nat))) (h.set (k := k) 0) (fun j hj => hk j (List.mem_cons_of_mem _ hj))
    have hs : setL (k : Int) (.int 0) L = some (L.set k (.int 0)) := setL_nat (by rw [h.1]; exact hk0)
    have st : BV1 (lvl T d) ⟨VS x hA L (some (.int (k : Nat))) y4 y5 y6 y7, S⟩ = some (.nx, ⟨VS x hA (L.set k (.int 0)) (some (.int (k : Nat))) y4 y5 y6 y7, S⟩) := by
      unfold VS
      generalize L.set k (.int 0) = L2 at hs
      simp -implicitDefEqProofs [BV1, hs]
    refine ⟨L', z3, ?_, e2.congr fun j _ => by simp [Bool.or_assoc]⟩
    show (BV1 (lvl T d) ⟨VS x hA L (some (.int (k : Nat))) y4 y5 y6 y7, S⟩).bind (turn (loopL (.one 3) (BV1 (lvl T d)) (nA ks))) = _
    rw [st]
    exact e1
theorem s_setlv {c : Nat} : ∀ (ks : List Nat) (L : List AV) (g : Nat → Bool) (y7 : Option AV), LVs L N g → (∀ k ∈ ks, k < N) →
    ∃ L' z7, loopL (.one 7) (BV2 (lvl T d)) (nA ks) ⟨VS x hA L y3 y4 (some (.int (c : Nat))) y6 y7, S⟩ = some (.nx, ⟨VS x hA L' y3 y4 (some (.int (c : Nat))) y6 z7, S⟩) ∧ LVs L' N (fun j => g j || decide (j ∈ ks))
  | [], L, g, y7, h, _ => ⟨L, y7, rfl, h.congr fun j _ => by simp⟩
  | k :: ks, L, g, y7, h, hk => by
    have hk0 := hk k List.mem_cons_self
    obtain ⟨L', z7, e1, e2⟩ := s_setlv ks (L.set k (.int ((c : Int) + 1))) _ (some (.int (k : Nat))) (h.set (k := k) _) (fun j hj => hk j (List.mem_cons_of_mem _ hj))
    have hs : setL (k : Int) (.int ((c : Int) + 1)) L = some (L.set k (.int ((c : Int) + 1))) := setL_nat (by rw [h.1]; exact hk0)
    have st : BV2 (lvl T d) ⟨VS x hA L y3 y4 (some (.int (c : Nat))) y6 (some (.int (k : Nat))), S⟩ = some (.nx, ⟨VS x hA (L.set k (.int ((c : Int) + 1))) y3 y4 (some (.int (c : Nat))) y6 (some (.int (k : Nat))), S⟩) := by
      unfold VS
      generalize L.set k (.int ((c : Int) + 1)) = L2 at hs
      simp -implicitDefEqProofs [BV2, hs]
    refine ⟨L', z7, ?_, e2.congr fun j _ => by simp [Bool.or_assoc]⟩
    show (BV2 (lvl T d) ⟨VS x hA L y3 y4 (some (.int (c : Nat))) y6 (some (.int (k : Nat))), S⟩).bind (turn (loopL (.one 7) (BV2 (lvl T d)) (nA ks))) = _
    rw [st]
    exact e1
/-- the secrets that fire -/
def frs (g : Nat → Bool) (v : Vt) : List Nat := (List.range v.sec.length).filter fun i => !g i && ((v.sec[i]?).map (fol g)).getD false
theorem s_fresh1 (hv : WF v n) (hn : n ≤ 900) (hx : VV S x v a b) (hL : LVs L v.sec.length g) : CV1 (lvl T (d + 1)) ⟨VS x hA L y3 y4 y5 y6 y7, S⟩ = some (nA (frs g v), ⟨VS x hA L y3 y4 y5 y6 y7, S⟩) := by
  have l1 := hv.ok.ls
  have cp := compR_pure (G := lvl T (d + 1)) (ρ := VS x hA L y3 y4 y5 y6 y7) (S := S) (i := 7) (n := v.sec.length) (tst := (mAnd (mBool (eBin opIs (oE (eBin opIx (oVar 2) (oVar 7))) (oE (eCon .non)))) (mTru (oE (eLend "_law_fires" (osCons (oE (eBin opIx (oE (eBin opIx (oVar 0) (oE (eCon (.int 0))))) (oVar 7))) (osCons (oVar 2) osNil))))))) (elt := eVar 7) (p := fun z => match z with | .int k => !g k.toNat && ((v.sec[k.toNat]?).map (fol g)).getD false | _ => false) (f := id) (by cases y7 <;> rfl)
    (fun k hk => by
      have hr : v.sec[k]? = some v.sec[k] := List.getElem?_eq_getElem hk
      obtain ⟨y, h1, h2⟩ := hL.2 k hk
      have h1 : atI L (k : Int) = some y := by rw [at_nat, h1]
      have hbl := hv.s k _ hr
      have hbn : v.sec[k].below v.sec.length := by
        generalize v.sec[k] = r at hbl
        cases r <;> simp only [SRow.below] at * <;> omega
      have hf := s_fires (S := []) (d := d) hL hbn
      have hs : opIx S (res S a) (.int (k : Int)) = some (sA v.sec[k]) := by rw [itS_ix hx.ha, at_nat, List.getElem?_map, hr]; rfl
      have hno := sm_nr 10 _ (cn_sm 10 _ (sA_cn (hv.ok.s _ (List.getElem_mem hk))))
      have hre := fun S => res_nr (S := S) hno
      have hns : AV.nrs [sA v.sec[k], .lst L] = true := by
        show ((sA v.sec[k]).nr && ((AV.lst L).nr && true)) = true
        rw [hno, show (AV.lst L).nr = AV.nrs L from rfl, hL.nrs]
        rfl
      have hl : ∀ a, kLd2 "_law_fires" (lvl T (d + 1)) a (some [sA v.sec[k], .lst L]) = some (.bl (fol g v.sec[k]), a) := fun a => by
        rw [kLd2_s hns, hf]; rfl
      have hp : (!g ((k : Nat) : Int).toNat && ((v.sec[((k : Nat) : Int).toNat]?).map (fol g)).getD false) = (!g k && fol g v.sec[k]) := by rw [Int.toNat_natCast, hr]; rfl
      show _ = some ((!g ((k : Nat) : Int).toNat && ((v.sec[((k : Nat) : Int).toNat]?).map (fol g)).getD false), _)
      rw [hp]
      have hx0 := hx.h0
      have q1 := isLv_is (S := S) h2
      have q2 := isLv_res (S := S) h2
      unfold VS
      generalize fol g v.sec[k] = w at hl
      generalize sA v.sec[k] = z at hl hs hre
      cases e : g k <;> rw [e] at q1 <;> cases w <;> simp -implicitDefEqProofs [h1, hx0, hs, hl, q1, q2, hre])
    (fun k hk _ => by simp -implicitDefEqProofs [VS]) (by omega)
  have e0 : ((rgA 0 v.sec.length).filter fun z => match z with | .int k => !g k.toNat && ((v.sec[k.toNat]?).map (fol g)).getD false | _ => false) = nA (frs g v) := by
    rw [rgA_nA]
    unfold nA frs
    rw [List.filter_map]
    congr 1
  rw [List.map_id_fun, id_eq, e0] at cp
  have hlen : L.length = v.sec.length := hL.1
  rw [← hlen] at cp
  unfold VS at cp ⊢
  unfold CV1
  simp -implicitDefEqProofs [cp]
theorem s_fresh2 (hv : WF v n) (hn : n ≤ 900) (hL : LVs L v.sec.length g) : CV2 (lvl T d) ⟨VS x hA L y3 (some (.lst (wrs v))) y5 y6 y7, S⟩ = some (nA (inn g v.ent), ⟨VS x hA L y3 (some (.lst (wrs v))) y5 y6 y7, S⟩) := by
  have hwl := wrs_len v
  have hle := hv.ok.le
  have cp : kFc [8] (.one 8) (mAnd (mBool (eBin opIsN (oE (eBin opIx (oVar 2) (oE (eBin opIx (oVar 8) (oE (eCon (.int 1))))))) (oE (eCon .non)))) (mBool (eBin opIs (oE (eBin opIx (oVar 2) (oE (eBin opIx (oVar 8) (oE (eCon (.int 3))))))) (oE (eCon .non))))) (eBin opIx (oVar 8) (oE (eCon (.int 3)))) (lvl T d) (some (.lst (wrs v), ⟨VS x hA L y3 (some (.lst (wrs v))) y5 y6 y7, S⟩)) = _ :=
    comp_pure (p := pIn g) (f := f3) (.inl rfl) (by rfl)
    (fun z hz => by
      obtain ⟨s, h, i, c, rfl, hm⟩ := wrs_mem hz
      obtain ⟨b1, b2⟩ := hv.e _ hm
      obtain ⟨y, h1, h2⟩ := hL.2 s b1
      have h1 : atI L (s : Int) = some y := by rw [at_nat, h1]
      obtain ⟨w, h3, h4⟩ := hL.2 i b2
      have h3 : atI L (i : Int) = some w := by rw [at_nat, h3]
      have hp : pIn g (eA (.wrapped s h i c)) = (g s && !g i) := rfl
      rw [hp]
      have q1 := isLv_isN (S := S) h2
      have q2 := isLv_res (S := S) h2
      have q3 := isLv_is (S := S) h4
      have q4 := isLv_res (S := S) h4
      unfold VS
      cases e1 : g s <;> cases e2 : g i <;> rw [e1] at q1 <;> rw [e2] at q3 <;> simp -implicitDefEqProofs [h1, h3, q1, q2, q3, q4])
    (fun z hz _ => by
      obtain ⟨s, h, i, c, rfl, hm⟩ := wrs_mem hz
      have hp : f3 (eA (.wrapped s h i c)) = .int (i : Nat) := rfl
      rw [hp]
      unfold VS
      simp -implicitDefEqProofs) (by omega)
  rw [show ((wrs v).filter (pIn g)).map f3 = nA (inn g v.ent) from inn_eq v.ent] at cp
  unfold VS at cp ⊢
  unfold CV2
  simp only [Option.map_some] at cp ⊢
  simp -implicitDefEqProofs [cp]
end
end K17
end
section
set_option maxRecDepth 100000
set_option maxHeartbeats 4000000
namespace K17
open PySem L2 Pyx
open PySem.Spec PyProof.Rows
section
variable {S : List SObj} {d : Nat} {x hA a b : AV} {v : Vt} {L : List AV} {g : Nat → Bool} {y3 y4 y5 y6 y7 : Option AV} {H : List Nat} {n N : Nat}
theorem frs_mem {j : Nat} : j ∈ frs g v ↔ ∃ r, v.sec[j]? = some r ∧ g j = false ∧ fol g r = true := by
  unfold frs
  rw [List.mem_filter, List.mem_range]
  constructor
  · rintro ⟨h1, h2⟩
    obtain ⟨h2, h3⟩ := Bool.and_eq_true_iff.mp h2
    rw [List.getElem?_eq_getElem h1] at h3
    exact ⟨_, List.getElem?_eq_getElem h1, by simpa using h2, h3⟩
  · rintro ⟨r, h1, h2, h3⟩
    refine ⟨(List.getElem?_eq_some_iff.mp h1).1, ?_⟩
    rw [h1, h2]
    exact h3
theorem frs_len : (frs g v).length ≤ v.sec.length := by
  have := List.length_filter_le (fun i => !g i && ((v.sec[i]?).map (fol g)).getD false) (List.range v.sec.length)
  rwa [List.length_range] at this
theorem inn_len : ∀ rs : List ERow, (inn g rs).length ≤ rs.length
  | [] => Nat.le_refl _
  | r :: rs => by
    have ih := inn_len rs
    cases r <;> unfold inn <;> first | (split <;> simp <;> omega) | (simp; omega)
/-- the loop of the levels -/
theorem loopV (hv : WF v n) (hn : n ≤ 900) (hx : VV S x v a b) (hH : ∀ x ∈ H, x < v.sec.length) : ∀ (ks : List Nat) (L : List AV) (g : Nat → Bool) (y5 y6 y7 : Option AV), LVs L v.sec.length g → (∀ j, g j = true → Kn v H j) → (∀ x ∈ H, g x = true) → lack g v.sec.length ≤ ks.length →
    ∃ L' z5 z6 z7 g', loopL (.one 5) (BV (lvl T (d + 1))) (nA ks) ⟨VS x hA L y3 (some (.lst (wrs v))) y5 y6 y7, S⟩ = some (.nx, ⟨VS x hA L' y3 (some (.lst (wrs v))) z5 z6 z7, S⟩) ∧ LVs L' v.sec.length g' ∧ ∀ j, j < v.sec.length → (g' j = true ↔ Kn v H j)
  | [], L, g, y5, y6, y7, hL, hk, hh, hl => by
    have h0 : ∀ m, lack g m ≤ 0 → ∀ j, j < m → g j = true := by
      intro m
      induction m with
      | zero => intro _ j hj; exact absurd hj (Nat.not_lt_zero j)
      | succ m ih =>
        intro h j hj
        rw [lack_succ] at h
        by_cases e : g m = true
        · rw [if_pos e] at h
          by_cases e2 : j = m
          · rw [e2]; exact e
          · exact ih (by omega) j (by omega)
        · rw [if_neg e] at h; omega
    exact ⟨L, y5, y6, y7, g, rfl, hL, fun j hj => ⟨hk j, fun _ => h0 _ hl j hj⟩⟩
  | k :: ks, L, g, y5, y6, y7, hL, hk, hh, hl => by
    have l1 := hv.ok.ls
    have l2 := hv.ok.le
    have e1 := s_fresh1 (d := d) (hA := hA) (y3 := y3) (y4 := some (.lst (wrs v))) (y5 := some (.int (k : Nat))) (y6 := y6) (y7 := y7) hv hn hx hL
    have e2 := s_fresh2 (d := d + 1) (S := S) (x := x) (hA := hA) (y3 := y3) (y5 := some (.int (k : Nat))) (y6 := some (.lst (nA (frs g v)))) (y7 := y7) hv hn hL
    have b1 := frs_len (g := g) (v := v)
    have b2 := inn_len (g := g) v.ent
    have hcat : (nA (frs g v)).length + (nA (inn g v.ent)).length ≤ 100000 := by rw [nA_length, nA_length]; omega
    have hap : nA (frs g v) ++ nA (inn g v.ent) = nA (frs g v ++ inn g v.ent) := (nA_append _ _).symm
    have hm : ∀ j, j ∈ frs g v ++ inn g v.ent ↔ (∃ r, v.sec[j]? = some r ∧ g j = false ∧ fol g r = true) ∨ ∃ (s : Nat) (h : AV) (c : AV), ERow.wrapped s h j c ∈ v.ent ∧ g s = true ∧ g j = false := fun j => by
      rw [List.mem_append, frs_mem, inn_mem]
    by_cases hz : frs g v ++ inn g v.ent = []
    · refine ⟨L, some (.int (k : Nat)), some (.lst (nA [])), y7, g, ?_, hL, fun j hj => ⟨hk j, fun h => Kn.least hv hH g hh (fun i r hr hf => ?_) (fun s i h c hm' hs => ?_) j h⟩⟩
      · have st : BV (lvl T (d + 1)) ⟨VS x hA L y3 (some (.lst (wrs v))) (some (.int (k : Nat))) y6 y7, S⟩ = some (.bk, ⟨VS x hA L y3 (some (.lst (wrs v))) (some (.int (k : Nat))) (some (.lst (nA []))) y7, S⟩) := by
          rw [hz] at hap
          unfold BV VS at *
          generalize CV1 = c1 at *
          generalize CV2 = c2 at *
          generalize BV2 = b2 at *
          generalize nA (frs g v) = F1 at *
          generalize nA (inn g v.ent) = F2 at *
          have n0 : nA [] = [] := rfl
          rw [n0] at hap ⊢
          simp only [Option.map_some] at e1 e2 ⊢
          simp -implicitDefEqProofs [e1, e2, hcat, hap]
        show (BV (lvl T (d + 1)) ⟨VS x hA L y3 (some (.lst (wrs v))) (some (.int (k : Nat))) y6 y7, S⟩).bind (turn (loopL (.one 5) (BV (lvl T (d + 1))) (nA ks))) = _
        rw [st]
        rfl
      · cases e : g i with
        | true => rfl
        | false => have := (hm i).mpr (.inl ⟨r, hr, e, hf⟩); rw [hz] at this; cases this
      · cases e : g i with
        | true => rfl
        | false => have := (hm i).mpr (.inr ⟨s, h, c, hm', hs, e⟩); rw [hz] at this; cases this
    · have hlt : ∀ j ∈ frs g v ++ inn g v.ent, j < v.sec.length := fun j hj => by
        rcases (hm j).mp hj with ⟨r, hr, _⟩ | ⟨s, h, c, hm', _⟩
        · exact (List.getElem?_eq_some_iff.mp hr).1
        · exact (hv.e _ hm').2
      obtain ⟨L2, z7, e3, hL2⟩ := s_setlv (d := d + 1) (S := S) (x := x) (hA := hA) (y3 := y3) (y4 := some (.lst (wrs v))) (y6 := some (.lst (nA (frs g v ++ inn g v.ent)))) (c := k) (frs g v ++ inn g v.ent) L g y7 hL hlt
      have st : BV (lvl T (d + 1)) ⟨VS x hA L y3 (some (.lst (wrs v))) (some (.int (k : Nat))) y6 y7, S⟩ = some (.nx, ⟨VS x hA L2 y3 (some (.lst (wrs v))) (some (.int (k : Nat))) (some (.lst (nA (frs g v ++ inn g v.ent)))) z7, S⟩) := by
        have hne : ¬ (nA (frs g v ++ inn g v.ent)).length = 0 := by
          rw [nA_length]
          intro h
          exact hz (List.length_eq_zero_iff.mp h)
        unfold BV VS at *
        generalize CV1 = c1 at *
        generalize CV2 = c2 at *
        generalize BV2 = b2 at *
        generalize nA (frs g v ++ inn g v.ent) = F at *
        generalize nA (frs g v) = F1 at *
        generalize nA (inn g v.ent) = F2 at *
        simp only [Option.map_some] at e1 e2 e3 ⊢
        have hne' : ¬ F = [] := fun h => hne (by rw [h]; rfl)
        simp -implicitDefEqProofs [e1, e2, hcat, hap, hne, hne', e3]
      obtain ⟨kk, hkk⟩ : ∃ kk, kk ∈ frs g v ++ inn g v.ent := by
        cases h : frs g v ++ inn g v.ent with
        | nil => exact absurd h hz
        | cons z zs => exact ⟨z, List.mem_cons_self⟩
      have hgk : g kk = false := by
        rcases (hm kk).mp hkk with ⟨r, _, h, _⟩ | ⟨s, h, c, _, _, h'⟩
        · exact h
        · exact h'
      have hlack := lack_lt (g := g) (g' := fun j => g j || decide (j ∈ frs g v ++ inn g v.ent)) (fun j hj => by rw [hj]; rfl) hgk (by rw [decide_eq_true hkk, Bool.or_true]) v.sec.length (hlt kk hkk)
      obtain ⟨L3, w5, w6, w7, g3, e4, hL3, h3⟩ := loopV hv hn hx hH ks L2 (fun j => g j || decide (j ∈ frs g v ++ inn g v.ent)) (some (.int (k : Nat))) (some (.lst (nA (frs g v ++ inn g v.ent)))) z7 hL2
        (fun j hj => by
          rcases Bool.or_eq_true_iff.mp hj with hj | hj
          · exact hk j hj
          · rcases (hm j).mp (of_decide_eq_true hj) with ⟨r, hr, _, hf⟩ | ⟨s, h, c, hm', hs, _⟩
            · exact Kn.fires hk hr hf
            · exact .wr hm' (hk s hs))
        (fun z hz => by rw [hh z hz]; rfl) (by simp only [List.length_cons] at hl; omega)
      refine ⟨L3, w5, w6, w7, g3, ?_, hL3, h3⟩
      show (BV (lvl T (d + 1)) ⟨VS x hA L y3 (some (.lst (wrs v))) (some (.int (k : Nat))) y6 y7, S⟩).bind (turn (loopL (.one 5) (BV (lvl T (d + 1))) (nA ks))) = _
      rw [st]
      exact e4
/-- the levels: none where a secret is not known -/
theorem s_levels (hv : WF v n) (hn : n ≤ 900) (hx : VV S x v a b) (hH : ∀ x ∈ H, x < v.sec.length) : ∃ L, lvl T (d + 2) "_law_levels" [x, .tup (nA H)] S = some (.lst L, S) ∧ LVs L v.sec.length (knb v H) := by
  have l1 := hv.ok.ls
  have l2 := hv.ok.le
  have cp := comp_it (G := lvl T (d + 1)) (ρ := [some (.val x), some (.val (.tup (nA H))), none, none, none, none, none, none, none]) (S := S) (i := 8) (tst := mTrue) (elt := eCon .non) (p := fun _ => true) (f := fun _ => .non) hx.ha rfl (fun y _ => rfl) (fun y _ _ => rfl) (by rw [List.length_map]; omega)
  rw [List.filter_eq_self.mpr fun _ _ => rfl] at cp
  have hL0 : LVs ((v.sec.map sA).map fun _ => AV.non) v.sec.length (fun _ => false) := ⟨by simp, fun k hk => ⟨.non, by rw [List.getElem?_map, List.getElem?_map, List.getElem?_eq_getElem hk]; rfl, .inl ⟨rfl, rfl⟩⟩⟩
  obtain ⟨L1, z3, e1, hL1⟩ := s_held0 (d := d + 1) (S := S) (x := x) (hA := .tup (nA H)) (y4 := none) (y5 := none) (y6 := none) (y7 := none) H _ _ none hL0 hH
  generalize ((v.sec.map sA).map fun _ => AV.non) = L0 at cp e1
  have c2 := comp_it (G := lvl T (d + 1)) (ρ := VS x (.tup (nA H)) L1 z3 none none none none) (S := S) (i := 8) (tst := (mBool (eBin opEq (oE (eBin opIx (oVar 8) (oE (eCon (.int 0))))) (oE (eCon (.str "wrapped")))))) (elt := eVar 8) (p := hdIs) (f := id) hx.hb rfl
    (fun y hy => by
      obtain ⟨r, _, rfl⟩ := List.mem_map.mp hy
      rw [hd_wr]
      obtain ⟨w, z, e1, e2⟩ := wr_eq (S := S) r
      rw [e1]
      unfold VS
      simp -implicitDefEqProofs [e2])
    (fun y hy _ => by
      obtain ⟨r, hr', rfl⟩ := List.mem_map.mp hy
      have := res_nr (S := S) (sm_nr 10 _ (cn_sm 10 _ (eA_cn (hv.ok.e r hr'))))
      unfold VS
      generalize eA r = z at this
      simp -implicitDefEqProofs [this]) (by rw [List.length_map]; omega)
  rw [List.map_id_fun, id_eq, wrs_eq] at c2
  obtain ⟨L2, w5, w6, w7, g2, e3, hL2, h2⟩ := loopV (d := d) (hA := .tup (nA H)) (y3 := z3) hv hn hx hH (List.range v.sec.length) L1 _ none none none hL1 (fun j hj => .held (by simpa using hj)) (fun z hz => by simp [hz]) (by rw [List.length_range]; exact lack_n _ _)
  refine ⟨L2, ?_, hL2.congr fun j hj => by rw [Bool.eq_iff_iff, knb_iff]; exact h2 j hj⟩
  have hr : kFr asR1 (.one 5) BV (lvl T (d + 1)) (some ([.int (L1.length : Int)], ⟨VS x (.tup (nA H)) L1 z3 (some (.lst (wrs v))) none none none, S⟩)) = some (.nx, ⟨VS x (.tup (nA H)) L2 z3 (some (.lst (wrs v))) w5 w6 w7, S⟩) := by
    rw [hL1.1, kFr_1 (by omega), rgA_nA]
    exact e3
  rw [l__law_levels, u_levels]
  have hx0 := hx.h0
  have hx1 := hx.h1
  unfold VS at *
  generalize BV = bv at *
  generalize BV1 = b1 at *
  simp only [Option.map_some, Option.map_none] at e1 c2 hr ⊢
  simp -implicitDefEqProofs [frame, hx0, hx1, cp, e1, c2, hr]
end
end K17
end
section
set_option maxRecDepth 100000
set_option maxHeartbeats 4000000
namespace K17
open PySem L2 Pyx
open PySem.Spec PyProof.Rows
/-! ### the law's test of a shield -/
def BB1 : MS := (sSeq (sAsg 4 (eBin opIx (oE (eBin opIx (oVar 0) (oE (eCon (.int 0))))) (oVar 3))) (sSeq (sIf (mOr (mBool (eBin opIn (oVar 3) (oVar 1))) (mBool (eBin opEq (oE (eBin opIx (oVar 4) (oE (eCon (.int 0))))) (oE (eCon (.str "plain")))))) (sSeq (sRet (eCon (.bl false))) sSkip) sSkip) (sSeq (sIf (mAnd (mBool (eBin opEq (oE (eBin opIx (oVar 4) (oE (eCon (.int 0))))) (oE (eCon (.str "agreed"))))) (mOr (mBool (eBin opNotIn (oE (eBin opIx (oVar 4) (oE (eCon (.int 1))))) (oVar 2))) (mBool (eBin opNotIn (oE (eBin opIx (oVar 4) (oE (eCon (.int 2))))) (oVar 2))))) (sSeq (sRet (eCon (.bl false))) sSkip) sSkip) (sSeq (sIf (mAnd (mBool (eBin opEq (oE (eBin opIx (oVar 4) (oE (eCon (.int 0))))) (oE (eCon (.str "derived"))))) (mBool (eBin opNotIn (oE (eBin opIx (oVar 4) (oE (eCon (.int 1))))) (oVar 2)))) (sSeq (sRet (eCon (.bl false))) sSkip) sSkip) (sSeq (sIf (mAnd (mBool (eBin opEq (oE (eBin opIx (oVar 4) (oE (eCon (.int 0))))) (oE (eCon (.str "mixed"))))) (mAnd (mBool (eBin opNotIn (oE (eBin opIx (oVar 4) (oE (eCon (.int 1))))) (oVar 2))) (mBool (eBin opNotIn (oE (eBin opIx (oVar 4) (oE (eCon (.int 2))))) (oVar 2))))) (sSeq (sRet (eCon (.bl false))) sSkip) sSkip) sSkip)))))
def BB2 : MS := (sSeq (sIf (mAnd (mBool (eBin opEq (oE (eBin opIx (oVar 4) (oE (eCon (.int 0))))) (oE (eCon (.str "wrapped"))))) (mAnd (mBool (eBin opIn (oE (eBin opIx (oVar 4) (oE (eCon (.int 3))))) (oVar 2))) (mBool (eBin opNotIn (oE (eBin opIx (oVar 4) (oE (eCon (.int 1))))) (oVar 2))))) (sSeq (sRet (eCon (.bl false))) sSkip) sSkip) sSkip)
theorem u_bars : b__law_bars = (sSeq (sForV (eVar 2) (.one 3) BB1) (sSeq (sForV (eBin opIx (oVar 0) (oE (eCon (.int 1)))) (.one 4) BB2) (sSeq (sRet (eCon (.bl true))) sSkip))) := rfl
def pNf (p : Nat → Bool) : AV → Bool
  | .int k => p k.toNat
  | _ => false
theorem any_pNf {ss : List Nat} {p : Nat → Bool} : (nA ss).any (pNf p) = ss.any p := any_nAs
section
variable {S : List SObj} {d : Nat} {x a b : AV} {v : Vt} {H ss : List Nat} {n : Nat}
def barS (x : AV) (H ss : List Nat) (y3 y4 : Option AV) (S : List SObj) : AS := ⟨[some (.val x), some (.val (.tup (nA H))), some (.val (.tup (nA ss))), y3.map .val, y4.map .val], S⟩
theorem turnB1 (hv : WF v n) (hx : VV S x v a b) {k : Nat} (hk : k < v.sec.length) (y4 : Option AV) :
    (badS v H ss k = true → BB1 (lvl T d) (barS x H ss (some (.int (k : Nat))) y4 S) = some (.rt (.bl false), barS x H ss (some (.int (k : Nat))) (some (sA v.sec[k])) S)) ∧ (badS v H ss k = false → BB1 (lvl T d) (barS x H ss (some (.int (k : Nat))) y4 S) = some (.nx, barS x H ss (some (.int (k : Nat))) (some (sA v.sec[k])) S)) := by
  have hr : v.sec[k]? = some v.sec[k] := List.getElem?_eq_getElem hk
  have hb : badS v H ss k = (decide (k ∈ H) || fol (out ss) v.sec[k]) := by unfold badS; rw [hr]; rfl
  have hs : opIx S (res S a) (.int (k : Int)) = some (sA v.sec[k]) := by rw [itS_ix hx.ha, at_nat, List.getElem?_map, hr]; rfl
  have hn := res_nr (S := S) (sm_nr 10 _ (cn_sm 10 _ (sA_cn (hv.ok.s _ (List.getElem_mem hk)))))
  have hx0 := hx.h0
  rw [hb]
  unfold barS BB1
  generalize v.sec[k] = r at hs hn ⊢
  by_cases hH : k ∈ H
  · refine ⟨fun _ => ?_, fun h => ?_⟩
    · generalize sA r = z at hs hn ⊢
      simp -implicitDefEqProofs [hx0, hs, hn, hH]
    · rw [decide_eq_true hH] at h; cases h
  · rw [decide_eq_false hH, Bool.false_or]
    cases r with
    | pair e => exact ⟨fun h => (by cases h), fun _ => (by simp -implicitDefEqProofs [hx0, hs, hH])⟩
    | plain q => exact ⟨fun _ => (by simp -implicitDefEqProofs [hx0, hs, hn, hH]), fun h => (by cases h)⟩
    | agreed p q =>
      by_cases e1 : p ∈ ss
      · by_cases e2 : q ∈ ss
        · exact ⟨fun h => (by simp [fol, out, e1, e2] at h), fun _ => (by simp -implicitDefEqProofs [hx0, hs, hH, e1, e2])⟩
        · exact ⟨fun _ => (by simp -implicitDefEqProofs [hx0, hs, hH, e1, e2]), fun h => (by simp [fol, out, e1, e2] at h)⟩
      · exact ⟨fun _ => (by simp -implicitDefEqProofs [hx0, hs, hH, e1]), fun h => (by simp [fol, out, e1] at h)⟩
    | derived s l q =>
      by_cases e1 : s ∈ ss
      · exact ⟨fun h => (by simp [fol, out, e1] at h), fun _ => (by simp -implicitDefEqProofs [hx0, hs, hn, hH, e1])⟩
      · exact ⟨fun _ => (by simp -implicitDefEqProofs [hx0, hs, hn, hH, e1]), fun h => (by simp [fol, out, e1] at h)⟩
    | mixed p q =>
      by_cases e1 : p ∈ ss
      · exact ⟨fun h => (by simp [fol, out, e1] at h), fun _ => (by simp -implicitDefEqProofs [hx0, hs, hH, e1])⟩
      · by_cases e2 : q ∈ ss
        · exact ⟨fun h => (by simp [fol, out, e1, e2] at h), fun _ => (by simp -implicitDefEqProofs [hx0, hs, hH, e1, e2])⟩
        · exact ⟨fun _ => (by simp -implicitDefEqProofs [hx0, hs, hH, e1, e2]), fun h => (by simp [fol, out, e1, e2] at h)⟩
theorem turnB2 {r : ERow} (hr : r.ok) (y3 : Option AV) :
    ((hdIs (eA r) && pE ss (eA r)) = true → BB2 (lvl T d) (barS x H ss y3 (some (eA r)) S) = some (.rt (.bl false), barS x H ss y3 (some (eA r)) S)) ∧ ((hdIs (eA r) && pE ss (eA r)) = false → BB2 (lvl T d) (barS x H ss y3 (some (eA r)) S) = some (.nx, barS x H ss y3 (some (eA r)) S)) := by
  cases r with
  | wrapped s h i c =>
    have e : (hdIs (eA (.wrapped s h i c)) && pE ss (eA (.wrapped s h i c))) = (out ss s && !out ss i) := rfl
    rw [e]
    unfold barS BB2
    by_cases e1 : i ∈ ss
    · by_cases e2 : s ∈ ss
      · exact ⟨fun h => (by simp [out, e1, e2] at h), fun _ => (by simp -implicitDefEqProofs [e1, e2])⟩
      · exact ⟨fun _ => (by simp -implicitDefEqProofs [e1, e2]), fun h => (by simp [out, e1, e2] at h)⟩
    · exact ⟨fun h => (by simp [out, e1] at h), fun _ => (by simp -implicitDefEqProofs [e1])⟩
  | _ => exact ⟨fun h => (by cases h), fun _ => (by unfold barS BB2; simp -implicitDefEqProofs)⟩
theorem s_bars (hv : WF v n) (hx : VV S x v a b) (hss : ∀ z ∈ ss, z < v.sec.length) : lvl T (d + 1) "_law_bars" [x, .tup (nA H), .tup (nA ss)] S = some (.bl (shd v H ss), S) := by
  obtain ⟨lt, lf⟩ := loopL_any (tg := .one 3) (body := BB1 (lvl T d)) (S := S) (w := .bl false) (fun q => ∃ y3 y4, q = barS x H ss y3 y4 S) (p := pNf (badS v H ss)) (xs := nA ss) (a := barS x H ss none none S) (fun q ⟨y, y', e⟩ => by rw [e]; rfl)
    (fun z hz q ⟨y3, y4, ea⟩ => by
      subst ea
      obtain ⟨k, hk, rfl⟩ := List.mem_map.mp hz
      obtain ⟨t1, t2⟩ := turnB1 (d := d) (H := H) (ss := ss) hv hx (hss k hk) y4
      exact ⟨barS x H ss (some (.int (k : Nat))) y4 S, rfl, fun h => ⟨_, t1 h, rfl⟩, fun h => ⟨_, t2 h, _, _, rfl⟩⟩) ⟨none, none, rfl⟩
  rw [any_pNf] at lt lf
  rw [l__law_bars, u_bars]
  unfold shd
  have hx1 := hx.h1
  cases hb : ss.any (badS v H ss) with
  | true =>
    obtain ⟨a', e1, e2⟩ := lt hb
    obtain ⟨ρ', S'⟩ := a'
    have e2 : S' = S := e2
    subst e2
    unfold barS at e1
    simp only [Option.map_none] at e1
    generalize BB1 = b1 at *
    generalize BB2 = b2 at *
    simp -implicitDefEqProofs [frame, e1]
  | false =>
    obtain ⟨a', e1, y3, y4, rfl⟩ := lf hb
    obtain ⟨mt, mf⟩ := fo_any (tg := .one 4) (b := BB2) (G := lvl T d) (S := S) (w := .bl false) (a := barS x H ss y3 y4 S) hx.hb (fun q => ∃ y4, q = barS x H ss y3 y4 S) (p := fun z => hdIs z && pE ss z) (fun q ⟨y, e⟩ => by rw [e]; rfl)
      (fun z hz q ⟨y4, ea⟩ => by
        subst ea
        obtain ⟨r, hr, rfl⟩ := List.mem_map.mp hz
        obtain ⟨t1, t2⟩ := turnB2 (S := S) (d := d) (x := x) (H := H) (ss := ss) (hv.ok.e r hr) y3
        exact ⟨barS x H ss y3 (some (eA r)) S, rfl, fun h => ⟨_, t1 h, rfl⟩, fun h => ⟨_, t2 h, _, rfl⟩⟩) ⟨y4, rfl⟩
    rw [any_eAs] at mt mf
    cases hc : v.ent.any (badE ss) with
    | true =>
      obtain ⟨a', e3, e4⟩ := mt hc
      obtain ⟨ρ', S'⟩ := a'
      have e4 : S' = S := e4
      subst e4
      unfold barS at e1 e3
      simp only [Option.map_none] at e1
      generalize BB1 = b1 at *
      generalize BB2 = b2 at *
      simp -implicitDefEqProofs [frame, e1, hx1, e3]
    | false =>
      obtain ⟨a', e3, z4, rfl⟩ := mf hc
      unfold barS at e1 e3
      simp only [Option.map_none] at e1
      generalize BB1 = b1 at *
      generalize BB2 = b2 at *
      simp -implicitDefEqProofs [frame, e1, hx1, e3]
end
end K17
end
section
set_option maxRecDepth 100000
set_option maxHeartbeats 4000000
namespace K17
open PySem L2 Pyx
open PySem.Spec PyProof.Rows
/-! ### a smaller shield is sought -/
def pNd (one : Nat) : AV → Bool
  | .tup [_, _, _, .int i, _] => decide (i = (one : Int))
  | _ => false
def f1e : AV → AV
  | .tup (_ :: y :: _) => y
  | v => v
def nds (one : Nat) : List ERow → List Nat
  | [] => []
  | .wrapped s _ i _ :: rs => if (i : Int) = (one : Int) then s :: nds one rs else nds one rs
  | _ :: rs => nds one rs
theorem nds_eq {one : Nat} : ∀ rs : List ERow, ((rs.map eA).filter fun x => hdIs x && pNd one x).map f1e = nA (nds one rs)
  | [] => rfl
  | r :: rs => by
    have ih := nds_eq (one := one) rs
    cases r with
    | wrapped s h i c =>
      rw [List.map_cons]
      unfold nds
      by_cases e : (i : Int) = (one : Int)
      · rw [List.filter_cons_of_pos (p := fun x => hdIs x && pNd one x) (show (hdIs (eA (.wrapped s h i c)) && pNd one (eA (.wrapped s h i c))) = true from decide_eq_true e), if_pos e, List.map_cons, ih]
        rfl
      · rw [List.filter_cons_of_neg (p := fun x => hdIs x && pNd one x) (show ¬ (hdIs (eA (.wrapped s h i c)) && pNd one (eA (.wrapped s h i c))) = true from fun h => e (of_decide_eq_true h)), if_neg e, ih]
    | _ =>
      rw [List.map_cons, List.filter_cons_of_neg (by intro h; cases h)]
      unfold nds
      exact ih
theorem nds_mem {one k : Nat} : ∀ {rs : List ERow}, k ∈ nds one rs → ∃ (h : AV) (i : Nat) (c : AV), ERow.wrapped k h i c ∈ rs
  | [], h => by cases h
  | r :: rs, h => by
    cases r with
    | wrapped s g i c =>
      unfold nds at h
      split at h
      · rcases List.mem_cons.mp h with rfl | h
        · exact ⟨g, i, c, List.mem_cons_self⟩
        · obtain ⟨a, b, c, m⟩ := nds_mem h
          exact ⟨a, b, c, List.mem_cons_of_mem _ m⟩
      · obtain ⟨a, b, c, m⟩ := nds_mem h
        exact ⟨a, b, c, List.mem_cons_of_mem _ m⟩
    | _ =>
      unfold nds at h
      obtain ⟨a, b, c, m⟩ := nds_mem h
      exact ⟨a, b, c, List.mem_cons_of_mem _ m⟩
theorem nds_len {one : Nat} : ∀ rs : List ERow, (nds one rs).length ≤ rs.length
  | [] => Nat.le_refl _
  | r :: rs => by
    have ih := nds_len (one := one) rs
    cases r <;> unfold nds <;> first | (split <;> simp <;> omega) | (simp; omega)
section
variable {t : Tp} {v : Vt} {ds : List AV} {R : List SObj} {n d : Nat} {x a b : AV}
theorem s_needs (ht : t.Ok) (hx : VV (mS t v ds R) x v a b) (hv : WF v n) (hn : n ≤ 900) {one : Nat} (ho : one < v.sec.length) :
    ∃ (t' : Tp) (ks : List Nat), lvl T (d + 2) "_law_needs" [.ref 0, x, .int (one : Nat)] (mS t v ds R) = some (.lst (nA ks), mS t' v ds R) ∧ t'.Ok ∧ (∀ k ∈ ks, k < v.sec.length) ∧ ks.length ≤ n + 2 := by
  have l1 := hv.ok.ls
  have l2 := hv.ok.le
  have hr : v.sec[one]? = some v.sec[one] := List.getElem?_eq_getElem ho
  have hs : opIx (mS t v ds R) (res (mS t v ds R) a) (.int (one : Int)) = some (sA v.sec[one]) := by rw [itS_ix hx.ha, at_nat, List.getElem?_map, hr]; rfl
  have hrb := hv.s one _ hr
  have hre := fun S => res_nr (S := S) (sm_nr 10 _ (cn_sm 10 _ (sA_cn (hv.ok.s _ (List.getElem_mem ho)))))
  have cp := comp_it (G := lvl T (d + 1)) (ρ := [some (.val (.ref 0)), some (.val x), some (.val (.int (one : Nat))), some (.val (sA v.sec[one])), none, none]) (S := mS t v ds R) (i := 5) (tst := (mAnd (mBool (eBin opEq (oE (eBin opIx (oVar 5) (oE (eCon (.int 0))))) (oE (eCon (.str "wrapped"))))) (mBool (eBin opEq (oE (eBin opIx (oVar 5) (oE (eCon (.int 3))))) (oVar 2))))) (elt := eBin opIx (oVar 5) (oE (eCon (.int 1)))) (p := fun z => hdIs z && pNd one z) (f := f1e) hx.hb rfl
    (fun y hy => by
      obtain ⟨r, _, rfl⟩ := List.mem_map.mp hy
      generalize sA v.sec[one] = z
      generalize mS t v ds R = S
      cases r with
      | wrapped s h i c =>
        have e : (hdIs (eA (.wrapped s h i c)) && pNd one (eA (.wrapped s h i c))) = decide ((i : Int) = (one : Int)) := rfl
        show _ = some ((hdIs (eA (.wrapped s h i c)) && pNd one (eA (.wrapped s h i c))), _)
        rw [e]
        simp -implicitDefEqProofs
      | _ =>
        show _ = some (false, _)
        simp -implicitDefEqProofs)
    (fun y hy hp => by
      obtain ⟨r, _, rfl⟩ := List.mem_map.mp hy
      generalize sA v.sec[one] = z
      generalize mS t v ds R = S
      cases r with
      | wrapped s h i c =>
        have e : f1e (eA (.wrapped s h i c)) = .int (s : Nat) := rfl
        rw [e]
        simp -implicitDefEqProofs
      | _ => cases hp) (by rw [List.length_map]; omega)
  rw [nds_eq] at cp
  have hb1 := nds_len (one := one) v.ent
  have hm1 : ∀ k ∈ nds one v.ent, k < v.sec.length := fun k hk => by
    obtain ⟨h, i, c, hm⟩ := nds_mem hk
    exact (hv.e _ hm).1
  generalize nds one v.ent = ks at cp hb1 hm1
  have hkl := nA_length ks
  have q2 : (nA ks).length + 2 ≤ 100000 := by omega
  have q1 : (nA ks).length + 1 ≤ 100000 := by omega
  rw [l__law_needs]
  have hx0 := hx.h0
  have hx1 := hx.h1
  generalize v.sec[one] = r at hs hre hrb cp
  cases r with
  | pair e =>
    refine ⟨t, ks, ?_, ht, hm1, by omega⟩
    generalize nA ks = K at cp ⊢
    generalize mS t v ds R = S at *
    simp -implicitDefEqProofs [b__law_needs, frame, hx0, hx1, hs, cp]
  | plain q =>
    refine ⟨t, ks, ?_, ht, hm1, by omega⟩
    generalize nA ks = K at cp ⊢
    generalize mS t v ds R = S at *
    simp -implicitDefEqProofs [b__law_needs, frame, hx0, hx1, hs, cp, hre]
  | agreed p q =>
    obtain ⟨b1, b2⟩ := hrb
    refine ⟨t, ks ++ [p, q], ?_, ht, fun k hk => ?_, by simp; omega⟩
    · rw [nA_append]
      have e : nA [p, q] = [.int (p : Nat), .int (q : Nat)] := rfl
      rw [e]
      generalize nA ks = K at *
      generalize mS t v ds R = S at *
      simp -implicitDefEqProofs [b__law_needs, frame, hx0, hx1, hs, cp, q2]
    · rcases List.mem_append.mp hk with hk | hk
      · exact hm1 k hk
      · simp only [List.mem_cons, List.not_mem_nil, or_false] at hk
        omega
  | derived s l q =>
    have hrb : s < one := hrb
    refine ⟨t, ks ++ [s], ?_, ht, fun k hk => ?_, by simp; omega⟩
    · rw [nA_append]
      have e : nA [s] = [.int (s : Nat)] := rfl
      rw [e]
      generalize nA ks = K at *
      generalize mS t v ds R = S at *
      simp -implicitDefEqProofs [b__law_needs, frame, hx0, hx1, hs, cp, q1, hre]
    · rcases List.mem_append.mp hk with hk | hk
      · exact hm1 k hk
      · simp only [List.mem_cons, List.not_mem_nil, or_false] at hk
        omega
  | mixed p q =>
    obtain ⟨b1, b2⟩ := hrb
    obtain ⟨g, t1, h1, k1, g1⟩ := s_drawN d ht 2 (by omega) (by omega) (mR v ds R)
    have h1 : lvl T (d + 1) "_law_draw" [.ref 0, .int 2] (mS t v ds R) = some (.int (g : Nat), mS t1 v ds R) := h1
    by_cases g0 : g = 0
    · subst g0
      refine ⟨t1, ks ++ [p], ?_, k1, fun k hk => ?_, by simp; omega⟩
      · rw [nA_append]
        have e : nA [p] = [.int (p : Nat)] := rfl
        rw [e]
        generalize nA ks = K at *
        generalize mS t1 v ds R = S1 at *
        generalize mS t v ds R = S at *
        simp -implicitDefEqProofs [b__law_needs, frame, hx0, hx1, hs, cp, q1, h1]
      · rcases List.mem_append.mp hk with hk | hk
        · exact hm1 k hk
        · simp only [List.mem_cons, List.not_mem_nil, or_false] at hk
          omega
    · obtain rfl : g = 1 := by omega
      refine ⟨t1, ks ++ [q], ?_, k1, fun k hk => ?_, by simp; omega⟩
      · rw [nA_append]
        have e : nA [q] = [.int (q : Nat)] := rfl
        rw [e]
        generalize nA ks = K at *
        generalize mS t1 v ds R = S1 at *
        generalize mS t v ds R = S at *
        simp -implicitDefEqProofs [b__law_needs, frame, hx0, hx1, hs, cp, q1, h1]
      · rcases List.mem_append.mp hk with hk | hk
        · exact hm1 k hk
        · simp only [List.mem_cons, List.not_mem_nil, or_false] at hk
          omega
end
end K17
end
section
set_option maxRecDepth 100000
set_option maxHeartbeats 4000000
namespace K17
open PySem L2 Pyx
open PySem.Spec PyProof.Rows
def CG : MAs := (fComp (eCall "_law_needs" (aCons (eVar 0) (aCons (eVar 1) (aCons (eVar 6) aNil)))) [7] (.one 7) (mAnd (mBool (eBin opNotIn (oVar 7) (oVar 4))) (mBool (eBin opNotIn (oVar 7) (oVar 3)))) (eVar 7))
def BG : MS := (sSeq (sIf (mBool (eBin opEq (oE (eBi biLen (osCons (oVar 3) osNil))) (oE (eCon (.int 0))))) (sSeq sBreak sSkip) sSkip) (sSeq (sAsg 6 (ePop (oVar 3))) (sSeq (sExpr (eApp (oVar 4) (eVar 6))) (sSeq (sOwn 3 (fCat (oVar 3) (oE (eFrz CG)))) sSkip))))
theorem u_grown : b__law_grown = (sSeq (sOwn 3 (fLst (aCons (eVar 2) aNil))) (sSeq (sOwn 4 (fLst aNil)) (sSeq (sForR asR1 (aCons (eBi biLen (osCons (oE (eBin opIx (oVar 1) (oE (eCon (.int 0))))) osNil)) aNil) (.one 5) BG) (sSeq (sRet (eVar 4)) sSkip)))) := rfl
def GS (x : AV) (one : Nat) (lf ms : List AV) (y5 y6 : Option AV) : List (Option Slt) := [some (.val (.ref 0)), some (.val x), some (.val (.int (one : Nat))), some (.own lf), some (.own ms), y5.map .val, y6.map .val, none]
section
variable {t : Tp} {v : Vt} {ds : List AV} {R : List SObj} {n d : Nat} {x a b : AV} {one : Nat}
theorem turnG (ht : t.Ok) (hx : VV (mS t v ds R) x v a b) (hv : WF v n) (hn : n ≤ 80) {init ms : List Nat} {z : Nat} (hz : z < v.sec.length) (hl : init.length ≤ 90000) (hm : ms.length ≤ 90000) (y5 y6 : Option AV) :
    ∃ (t' : Tp) (F : List Nat), BG (lvl T (d + 2)) ⟨GS x one (nA (init ++ [z])) (nA ms) y5 y6, mS t v ds R⟩ = some (.nx, ⟨GS x one (nA (init ++ F)) (nA (ms ++ [z])) y5 (some (.int (z : Nat))), mS t' v ds R⟩) ∧ t'.Ok ∧ (∀ k ∈ F, k < v.sec.length) ∧ F.length ≤ n + 2 := by
  obtain ⟨t1, ks, h1, k1, b1, g1⟩ := s_needs (d := d) ht hx hv (by omega) hz
  have cp := comp_pure (G := lvl T (d + 2)) (ρ := GS x one (nA init) (nA (ms ++ [z])) y5 (some (.int (z : Nat)))) (S := mS t1 v ds R) (i := 7) (xs := nA ks) (v := .lst (nA ks)) (tst := (mAnd (mBool (eBin opNotIn (oVar 7) (oVar 4))) (mBool (eBin opNotIn (oVar 7) (oVar 3))))) (elt := eVar 7) (p := pNf fun k => !decide (k ∈ ms ++ [z]) && !decide (k ∈ init)) (f := id) (.inl rfl) (by rfl)
    (fun y hy => by
      obtain ⟨k, _, rfl⟩ := List.mem_map.mp hy
      have e : pNf (fun k => !decide (k ∈ ms ++ [z]) && !decide (k ∈ init)) (.int (k : Int)) = (!decide (k ∈ ms ++ [z]) && !decide (k ∈ init)) := rfl
      rw [e]
      unfold GS
      generalize ms ++ [z] = M
      by_cases e1 : k ∈ M <;> by_cases e2 : k ∈ init <;> simp -implicitDefEqProofs [e1, e2])
    (fun y hy _ => by
      obtain ⟨k, _, rfl⟩ := List.mem_map.mp hy
      unfold GS
      simp -implicitDefEqProofs) (by rw [nA_length]; omega)
  rw [List.map_id_fun, id_eq] at cp
  have e0 : (nA ks).filter (pNf fun k => !decide (k ∈ ms ++ [z]) && !decide (k ∈ init)) = nA (ks.filter fun k => !decide (k ∈ ms ++ [z]) && !decide (k ∈ init)) := by
    unfold nA
    rw [List.filter_map]
    congr 1
  rw [e0] at cp
  have hF : ∀ k ∈ (ks.filter fun k => !decide (k ∈ ms ++ [z]) && !decide (k ∈ init)), k < v.sec.length := fun k hk => b1 k (List.mem_filter.mp hk).1
  have hFl := List.length_filter_le (fun k => !decide (k ∈ ms ++ [z]) && !decide (k ∈ init)) ks
  generalize (ks.filter fun k => !decide (k ∈ ms ++ [z]) && !decide (k ∈ init)) = F at cp hF hFl
  refine ⟨t1, F, ?_, k1, hF, by omega⟩
  have hcat : (nA init).length + (nA F).length ≤ 100000 := by rw [nA_length, nA_length]; omega
  have hap : (nA ms).length < 100000 := by rw [nA_length]; omega
  rw [nA_append init F, ← nA_snoc ms z, ← nA_snoc init z]
  rw [← nA_snoc ms z] at cp
  unfold GS BG CG at *
  generalize nA init = I at *
  generalize nA F = FF at *
  generalize nA ms = M at *
  generalize nA ks = KK at *
  simp only [Option.map_some] at cp ⊢
  have h10 : ¬ ((I.length : Int) + 1 = 0) := by omega
  simp -implicitDefEqProofs [h1, hap, cp, hcat, h10]
theorem loopG (hx : ∀ t, VV (mS t v ds R) x v a b) (hv : WF v n) (hn : n ≤ 80) : ∀ (ks : List Nat) (t : Tp) (lf ms : List Nat) (y5 y6 : Option AV), t.Ok → (∀ k ∈ lf, k < v.sec.length) → (∀ k ∈ ms, k < v.sec.length) → lf.length + ks.length * 1000 ≤ 90000 → ms.length + ks.length ≤ 90000 →
    ∃ (t' : Tp) (lf' ms' : List Nat) (z5 z6 : Option AV), loopL (.one 5) (BG (lvl T (d + 2))) (nA ks) ⟨GS x one (nA lf) (nA ms) y5 y6, mS t v ds R⟩ = some (.nx, ⟨GS x one (nA lf') (nA ms') z5 z6, mS t' v ds R⟩) ∧ t'.Ok ∧ (∀ k ∈ ms', k < v.sec.length) ∧ ms'.length ≤ ms.length + ks.length
  | [], t, lf, ms, y5, y6, ht, _, hm, _, _ => ⟨t, lf, ms, y5, y6, rfl, ht, hm, by simp⟩
  | k :: ks, t, lf, ms, y5, y6, ht, hlf, hm, hl, hml => by
    have hl : lf.length + (ks.length + 1) * 1000 ≤ 90000 := hl
    have hml : ms.length + (ks.length + 1) ≤ 90000 := hml
    have l1 := hv.ok.ls
    rcases List.eq_nil_or_concat lf with rfl | ⟨init, z, rfl⟩
    · refine ⟨t, [], ms, some (.int (k : Nat)), y6, ?_, ht, hm, by simp only [List.length_cons]; omega⟩
      have st : BG (lvl T (d + 2)) ⟨GS x one (nA []) (nA ms) (some (.int (k : Nat))) y6, mS t v ds R⟩ = some (.bk, ⟨GS x one (nA []) (nA ms) (some (.int (k : Nat))) y6, mS t v ds R⟩) := by
        have n0 : nA [] = [] := rfl
        rw [n0]
        unfold GS BG
        generalize CG = c
        simp -implicitDefEqProofs
      show (BG (lvl T (d + 2)) ⟨GS x one (nA []) (nA ms) (some (.int (k : Nat))) y6, mS t v ds R⟩).bind (turn (loopL (.one 5) (BG (lvl T (d + 2))) (nA ks))) = _
      rw [st]
      rfl
    · simp only [List.concat_eq_append] at hlf hl ⊢
      have hlen : (init ++ [z]).length = init.length + 1 := by simp
      rw [hlen] at hl
      obtain ⟨t1, F, e1, k1, b1, g1⟩ := turnG (d := d) (one := one) ht (hx t) hv hn (init := init) (ms := ms) (z := z) (hlf z (by simp)) (by omega) (by omega) (some (.int (k : Nat))) y6
      obtain ⟨t2, lf2, ms2, z5, z6, e2, k2, b2, g2⟩ := loopG hx hv hn ks t1 (init ++ F) (ms ++ [z]) (some (.int (k : Nat))) (some (.int (z : Nat))) k1
        (fun j hj => by
          rcases List.mem_append.mp hj with hj | hj
          · exact hlf j (List.mem_append_left _ hj)
          · exact b1 j hj)
        (fun j hj => by
          rcases List.mem_append.mp hj with hj | hj
          · exact hm j hj
          · rw [List.mem_singleton.mp hj]; exact hlf z (by simp))
        (by rw [List.length_append]; omega) (by rw [List.length_append, List.length_singleton]; omega)
      refine ⟨t2, lf2, ms2, z5, z6, ?_, k2, b2, by rw [List.length_append, List.length_singleton] at g2; simp only [List.length_cons]; omega⟩
      show (BG (lvl T (d + 2)) ⟨GS x one (nA (init ++ [z])) (nA ms) (some (.int (k : Nat))) y6, mS t v ds R⟩).bind (turn (loopL (.one 5) (BG (lvl T (d + 2))) (nA ks))) = _
      rw [e1]
      exact e2
theorem s_grown (ht : t.Ok) (hx : ∀ t, VV (mS t v ds R) x v a b) (hv : WF v n) (hn : n ≤ 60) (ho : one < v.sec.length) :
    ∃ (t' : Tp) (ms : List Nat), lvl T (d + 3) "_law_grown" [.ref 0, x, .int (one : Nat)] (mS t v ds R) = some (.lst (nA ms), mS t' v ds R) ∧ t'.Ok ∧ (∀ k ∈ ms, k < v.sec.length) ∧ ms.length ≤ n := by
  have l1 := hv.ok.ls
  obtain ⟨t1, lf, ms, z5, z6, e1, k1, b1, g1⟩ := loopG (d := d) (one := one) hx hv (by omega) (List.range v.sec.length) t [one] [] none none ht (fun k hk => by rw [List.mem_singleton.mp hk]; exact ho) (fun k hk => (by cases hk)) (by simp; omega) (by simp; omega)
  refine ⟨t1, ms, ?_, k1, b1, by simp at g1; omega⟩
  rw [l__law_grown, u_grown]
  have hx0 := (hx t).h0
  have hln := itS_len (hx t).ha
  have hr : kFr asR1 (.one 5) BG (lvl T (d + 2)) (some ([.int ((v.sec.map sA).length : Int)], ⟨GS x one (nA [one]) (nA []) none none, mS t v ds R⟩)) = some (.nx, ⟨GS x one (nA lf) (nA ms) z5 z6, mS t1 v ds R⟩) := by
    rw [List.length_map, kFr_1 (by omega), rgA_nA]
    exact e1
  have n0 : nA [] = [] := rfl
  have n1 : nA [one] = [.int (one : Nat)] := rfl
  rw [n0, n1] at hr
  unfold GS at hr
  simp only [Option.map_none] at hr
  generalize BG = bg at *
  simp -implicitDefEqProofs [frame, hx0, hln, hr, -List.length_map]
end
end K17
end
section
set_option maxRecDepth 100000
set_option maxHeartbeats 4000000
namespace K17
open PySem L2 Pyx
open PySem.Spec PyProof.Rows
/-! ### what a deed of others changes -/
def Deed.es (v : Vt) : Deed → List ERow
  | .gen => [.pub v.sec.length]
  | .draw => [.drawn]
  | .sign p d => [.sig p d]
  | .tag s d => [.tag s d]
  | .bx s n h c => [.box s n h c]
  | .wrap s h i c => [.wrapped s h i c]
  | _ => []
theorem put_ent (v : Vt) (r : SRow) : (v.put r).1.ent = v.ent := by
  unfold Vt.put
  split <;> rfl
theorem act_ent (v : Vt) (x : Deed) : (v.act x).1.ent = v.ent ++ x.es v := by
  cases x with
  | plain d => exact (put_ent v _).trans (List.append_nil _).symm
  | agree p q =>
    show (v.doO (pubOf v.ent[q]?) p).1.ent = v.ent ++ []
    rw [List.append_nil]
    cases pubOf v.ent[q]? with
    | none => rfl
    | some o => exact put_ent v _
  | derive s l d => exact (put_ent v _).trans (List.append_nil _).symm
  | mix a b => exact (put_ent v _).trans (List.append_nil _).symm
  | _ => rfl
/-- the secret is wrapped under a known one, and was not known -/
noncomputable def Deed.rv (v : Vt) (H : List Nat) : Deed → Bool
  | .wrap s _ i _ => knb v H s && !knb v H i
  | _ => false
def Deed.bk (ss : List Nat) : Deed → Bool
  | .wrap s _ i _ => decide (i ∈ ss) && !decide (s ∈ ss)
  | _ => false
theorem es_wr {v : Vt} {x : Deed} {s i : Nat} {h c : AV} (hm : ERow.wrapped s h i c ∈ x.es v) : x = .wrap s h i c := by
  cases x <;> simp only [Deed.es, List.mem_cons, List.not_mem_nil, or_false] at hm <;> first | (cases hm; rfl) | cases hm
section
variable {v : Vt} {n : Nat} {x : Deed} {H ss : List Nat}
theorem act_sec (hv : WF v n) (hx : x.ok) (hw : x.wf v.sec.length) {k : Nat} (hk : k < v.sec.length) : (v.act x).1.sec[k]? = v.sec[k]? := by
  have := (act_keep hv hx hw).2 k _ (List.getElem?_eq_getElem hk)
  rw [this, List.getElem?_eq_getElem hk]
theorem kn_up (hv : WF v n) (hx : x.ok) (hw : x.wf v.sec.length) {i : Nat} (h : Kn v H i) : Kn (v.act x).1 H i := by
  have hs := (act_keep hv hx hw).2
  induction h with
  | held h => exact .held h
  | plain h => exact .plain (hs _ _ h)
  | agL h _ ih => exact .agL (hs _ _ h) ih
  | agR h _ ih => exact .agR (hs _ _ h) ih
  | der h _ ih => exact .der (hs _ _ h) ih
  | mix h _ _ ih1 ih2 => exact .mix (hs _ _ h) ih1 ih2
  | wr h _ ih => exact .wr (by rw [act_ent]; exact List.mem_append_left _ h) ih
theorem kn_down (hv : WF v n) (hx : x.ok) (hw : x.wf v.sec.length) (hr : x.rv v H = false) {i : Nat} (h : Kn (v.act x).1 H i) : i < v.sec.length → Kn v H i := by
  have hs := fun {k : Nat} (hk : k < v.sec.length) => act_sec hv hx hw hk
  induction h with
  | held h => exact fun _ => .held h
  | plain h => intro hi; rw [hs hi] at h; exact .plain h
  | agL h _ ih => intro hi; rw [hs hi] at h; obtain ⟨a, b⟩ := hv.s _ _ h; exact .agL h (ih (by omega))
  | agR h _ ih => intro hi; rw [hs hi] at h; obtain ⟨a, b⟩ := hv.s _ _ h; exact .agR h (ih (by omega))
  | der h _ ih => intro hi; rw [hs hi] at h; have a := hv.s _ _ h; exact .der h (ih (Nat.lt_trans a hi))
  | mix h _ _ ih1 ih2 => intro hi; rw [hs hi] at h; obtain ⟨a, b⟩ := hv.s _ _ h; exact .mix h (ih1 (by omega)) (ih2 (by omega))
  | wr h _ ih =>
    intro hi
    rw [act_ent] at h
    rcases List.mem_append.mp h with h | h
    · exact .wr h (ih (hv.e _ h).1)
    · cases es_wr h
      have a := ih hw.1
      have a := knb_iff.mpr a
      have hr : (knb v H _ && !knb v H _) = false := hr
      rw [a] at hr
      exact knb_iff.mp (by simpa using hr)
theorem badS_lt {k : Nat} (hv : WF v n) (hx : x.ok) (hw : x.wf v.sec.length) (hk : k < v.sec.length) : badS (v.act x).1 H ss k = badS v H ss k := by
  unfold badS
  rw [act_sec hv hx hw hk]
theorem es_any : (x.es v).any (badE ss) = x.bk ss := by
  cases x with
  | wrap s h i c =>
    show (out ss s && !out ss i || false) = _
    unfold out Deed.bk
    rw [Bool.or_false, Bool.not_not, Bool.and_comm]
  | _ => rfl
theorem any_congr' {l : List Nat} {p q : Nat → Bool} (h : ∀ k ∈ l, p k = q k) : l.any p = l.any q := by
  induction l with
  | nil => rfl
  | cons a l ih => rw [List.any_cons, List.any_cons, h a List.mem_cons_self, ih fun k hk => h k (List.mem_cons_of_mem _ hk)]
theorem shd_step (hv : WF v n) (hx : x.ok) (hw : x.wf v.sec.length) (hss : ∀ k ∈ ss, k < v.sec.length) : shd (v.act x).1 H ss = (shd v H ss && !x.bk ss) := by
  unfold shd
  rw [act_ent, List.any_append, es_any, any_congr' fun k hk => badS_lt hv hx hw (hss k hk), Bool.not_or, Bool.and_assoc]
/-- with one secret more -/
def moreH (H : List Nat) (one : Nat) : List Nat := if one ∈ H then H else H ++ [one]
theorem moreH_mem {one k : Nat} : k ∈ moreH H one ↔ k ∈ H ∨ k = one := by
  unfold moreH
  split
  · rename_i h
    constructor
    · exact .inl
    · rintro (h' | rfl)
      · exact h'
      · exact h
  · simp
theorem shd_more {one : Nat} : shd v (moreH H one) ss = (shd v H ss && !decide (one ∈ ss)) := by
  have e : ss.any (badS v (moreH H one) ss) = (ss.any (badS v H ss) || decide (one ∈ ss)) := by
    rw [Bool.eq_iff_iff, Bool.or_eq_true_iff, decide_eq_true_iff, List.any_eq_true, List.any_eq_true]
    constructor
    · rintro ⟨k, hk, h⟩
      unfold badS at h
      rcases Bool.or_eq_true_iff.mp h with h | h
      · rcases moreH_mem.mp (of_decide_eq_true h) with h | h
        · exact .inl ⟨k, hk, by unfold badS; rw [decide_eq_true h]; rfl⟩
        · exact .inr (h ▸ hk)
      · exact .inl ⟨k, hk, by unfold badS; rw [h, Bool.or_true]⟩
    · rintro (⟨k, hk, h⟩ | h)
      · refine ⟨k, hk, ?_⟩
        unfold badS at h ⊢
        rcases Bool.or_eq_true_iff.mp h with h | h
        · rw [decide_eq_true (moreH_mem.mpr (.inl (of_decide_eq_true h)))]; rfl
        · rw [h, Bool.or_true]
      · refine ⟨one, h, ?_⟩
        unfold badS
        rw [decide_eq_true (moreH_mem.mpr (.inr rfl))]
        rfl
  unfold shd
  rw [e]
  cases ss.any (badS v H ss) <;> cases decide (one ∈ ss) <;> cases v.ent.any (badE ss) <;> rfl
/-- what is not known is a shield -/
theorem shd_unknown (hv : WF v n) (hs : ∀ k, k ∈ ss ↔ k < v.sec.length ∧ ¬ Kn v H k) : shd v H ss = true := by
  have hout : ∀ k, k < v.sec.length → out ss k = true → Kn v H k := fun k hk h => by
    unfold out at h
    by_cases e : Kn v H k
    · exact e
    · rw [decide_eq_true ((hs k).mpr ⟨hk, e⟩)] at h; cases h
  have e1 : ss.any (badS v H ss) = false := by
    rw [List.any_eq_false]
    intro k hk h
    obtain ⟨hl, hn⟩ := (hs k).mp hk
    unfold badS at h
    rcases Bool.or_eq_true_iff.mp h with h | h
    · exact hn (.held (of_decide_eq_true h))
    · rw [List.getElem?_eq_getElem hl] at h
      have hr : v.sec[k]? = some v.sec[k] := List.getElem?_eq_getElem hl
      have hb := hv.s k _ hr
      have h : fol (out ss) v.sec[k] = true := h
      generalize v.sec[k] = r at h hr hb
      rw [fol_congr (g' := fun j => decide (j < v.sec.length) && out ss j) hb (fun j hj => by rw [decide_eq_true (by omega : j < v.sec.length)]; rfl)] at h
      refine hn (Kn.fires (g := fun j => decide (j < v.sec.length) && out ss j) (fun j hj => ?_) hr h)
      obtain ⟨a, b⟩ := Bool.and_eq_true_iff.mp hj
      exact hout j (of_decide_eq_true a) b
  have e2 : v.ent.any (badE ss) = false := by
    rw [List.any_eq_false]
    intro r hr h
    cases r with
    | wrapped s g i c =>
      obtain ⟨b1, b2⟩ := hv.e _ hr
      obtain ⟨a, b⟩ := Bool.and_eq_true_iff.mp (show (out ss s && !out ss i) = true from h)
      have hi : i ∈ ss := by
        unfold out at b
        simpa using b
      exact ((hs i).mp hi).2 (.wr hr (hout s b1 a))
    | _ => cases h
  unfold shd
  rw [e1, e2]
  rfl
theorem shd_nil : shd v H [] = true := by
  have e2 : v.ent.any (badE []) = false := by
    rw [List.any_eq_false]
    intro r hr h
    cases r with
    | wrapped s g i c => cases h
    | _ => cases h
  unfold shd
  rw [e2]
  rfl
end
end K17
end
section
set_option maxRecDepth 100000
set_option maxHeartbeats 4000000
namespace K17
open PySem L2 Pyx
open PySem.Spec PyProof.Rows
/-! ### the notes -/
structure Nt where
  H : List Nat
  many : Nat
  rev : Bool
  b0 : Bool
  b1 : Bool
  rings : List AV
  old : List Nat
  s0 : List Nat
  s1 : List Nat
def nD (N : Nt) : List (Str × AV) := [(("held" : Str), .tup (nA N.H)), (("many" : Str), .int (N.many : Nat)), (("revealed" : Str), .bl N.rev), (("broken" : Str), .ref 5), (("rings" : Str), .ref 6), (("old" : Str), .lst (nA N.old)), (("shields" : Str), .lst [.tup (nA N.s0), .tup (nA N.s1)])]
def nR (N : Nt) : List SObj := [.lst [.bl N.b0, .bl N.b1], .lst N.rings, .dic (nD N)]
section
variable {N : Nt} {t : Tp} {v : Vt} {ds : List AV}
@[simp] theorem mS_5 : (mS t v ds (nR N))[5]? = some (.lst [.bl N.b0, .bl N.b1]) := rfl
@[simp] theorem mS_6 : (mS t v ds (nR N))[6]? = some (.lst N.rings) := rfl
@[simp] theorem mS_7 : (mS t v ds (nR N))[7]? = some (.dic (nD N)) := rfl
theorem get_of {kvs : List (Str × AV)} {k : Str} {x : AV} (h : (kvs.find? fun kv => decide (kv.1 = k)) = some (k, x)) : dGet kvs k = some x := by
  unfold dGet
  rw [h]
  rfl
@[simp] theorem dn_held : dGet (nD N) "held" = some (.tup (nA N.H)) := get_of rfl
@[simp] theorem dn_many : dGet (nD N) "many" = some (.int (N.many : Nat)) := get_of rfl
@[simp] theorem dn_rev : dGet (nD N) "revealed" = some (.bl N.rev) := get_of rfl
@[simp] theorem dn_broken : dGet (nD N) "broken" = some (.ref 5) := get_of rfl
@[simp] theorem dn_rings : dGet (nD N) "rings" = some (.ref 6) := get_of rfl
@[simp] theorem dn_old : dGet (nD N) "old" = some (.lst (nA N.old)) := get_of rfl
@[simp] theorem dn_shields : dGet (nD N) "shields" = some (.lst [.tup (nA N.s0), .tup (nA N.s1)]) := get_of rfl
@[simp] theorem nD_len : (nD N).length = 7 := rfl
theorem put_rev : dPut (nD N) "revealed" (.bl true) = nD { N with rev := true } := rfl
@[simp] theorem mS_rev : (mS t v ds (nR N)).set 7 (.dic (dPut (nD N) "revealed" (.bl true))) = mS t v ds (nR { N with rev := true }) := rfl
@[simp] theorem mS_b0 {z : AV} : (mS t v ds (nR N)).set 5 (.lst [.bl true, .bl N.b1]) = mS t v ds (nR { N with b0 := true }) := rfl
@[simp] theorem mS_b1 {z : AV} : (mS t v ds (nR N)).set 5 (.lst [.bl N.b0, .bl true]) = mS t v ds (nR { N with b1 := true }) := rfl
end
noncomputable def Nt.note (N : Nt) (v : Vt) (x : Deed) : Nt := { N with rev := N.rev || x.rv v N.H, b0 := N.b0 || x.bk N.s0, b1 := N.b1 || x.bk N.s1 }
theorem RF.notes {N : Nt} (h : ∀ r ∈ N.rings, r.rlt 8 = true) : RF (nR N) := by
  intro o ho
  simp only [nR, List.mem_cons, List.not_mem_nil, or_false] at ho
  have hn : ∀ hs : List Nat, AV.rlts 8 (nA hs) = true := fun hs => nrs_rlts 8 _ (nrs_all fun x hx => by obtain ⟨i, _, rfl⟩ := List.mem_map.mp hx; rfl)
  rcases ho with rfl | rfl | rfl
  · rfl
  · show AV.rlts 8 N.rings = true
    generalize N.rings = rs at h
    induction rs with
    | nil => rfl
    | cons r rs ih =>
      show (r.rlt 8 && AV.rlts 8 rs) = true
      rw [h r List.mem_cons_self, ih fun x hx => h x (List.mem_cons_of_mem _ hx)]
      rfl
  · have e : (SObj.dic (nD N)).rlt 8 = (AV.rlts 8 (nA N.H) && (true && (true && (true && (true && (AV.rlts 8 (nA N.old) && ((AV.rlts 8 (nA N.s0) && (AV.rlts 8 (nA N.s1) && true)) && true))))))) := by rfl
    show (SObj.dic (nD N)).rlt 8 = true
    rw [e, hn, hn, hn, hn]
    rfl
end K17
end
section
set_option maxRecDepth 100000
set_option maxHeartbeats 4000000
namespace K17
open PySem L2 Pyx
open PySem.Spec PyProof.Rows
/-! ### a deed is noted -/
def BN : MS := (sSeq (sIf (mAnd (mBool (eBin opIn (oE (eBin opIx (oVar 3) (oE (eCon (.int 3))))) (oE (eBin opIx (oE (eBin opIx (oVar 2) (oE (eCon (.str "shields"))))) (oVar 5))))) (mBool (eBin opNotIn (oE (eBin opIx (oVar 3) (oE (eCon (.int 1))))) (oE (eBin opIx (oE (eBin opIx (oVar 2) (oE (eCon (.str "shields"))))) (oVar 5)))))) (sSeq (sSet (oE (eBin opIx (oVar 2) (oE (eCon (.str "broken"))))) (eVar 5) (eCon (.bl true))) sSkip) sSkip) sSkip)
theorem u_noted : b__law_noted = (sSeq (sIf (mBool (eBin opEq (oE (eBin opIx (oVar 3) (oE (eCon (.int 0))))) (oE (eCon (.str "wrap"))))) (sSeq (sAsg 4 (eCall "_law_levels" (aCons (eVar 0) (aCons (eVar 1) aNil)))) (sSeq (sIf (mAnd (mBool (eBin opIsN (oE (eBin opIx (oVar 4) (oE (eBin opIx (oVar 3) (oE (eCon (.int 1))))))) (oE (eCon .non)))) (mBool (eBin opIs (oE (eBin opIx (oVar 4) (oE (eBin opIx (oVar 3) (oE (eCon (.int 3))))))) (oE (eCon .non))))) (sSeq (sSet (oVar 2) (eCon (.str "revealed")) (eCon (.bl true))) sSkip) sSkip) (sSeq (sForR asR1 (aCons (eCon (.int 2)) aNil) (.one 5) BN) sSkip))) sSkip) (sSeq (sRet (eCallT "_law_deed" (aCons (eVar 0) (aCons (eVar 3) aNil)))) sSkip)) := rfl
def NS (H : List Nat) (x : Deed) (y4 y5 : Option AV) : List (Option Slt) := [some (.val (.ref 4)), some (.val (.tup (nA H))), some (.val (.ref 7)), some (.val x.A), y4.map .val, y5.map .val]
section
variable {t : Tp} {v : Vt} {ds : List AV} {n d : Nat} {N : Nt} {H : List Nat}
theorem loopL_cons {tg : Tg} {body : AS → Option (Out × AS)} {x : AV} {xs : List AV} {a a1 a2 : AS} (h1 : asgT tg x a = some a1) (h2 : body a1 = some (.nx, a2)) : loopL tg body (x :: xs) a = loopL tg body xs a2 := by
  show ((asgT tg x a).bind fun a' => (body a').bind (turn (loopL tg body xs))) = _
  rw [h1, Option.bind_some, h2]
  rfl
theorem turnN0 {s i : Nat} {h c : AV} {y4 : Option AV} : BN (lvl T d) ⟨NS H (.wrap s h i c) y4 (some (.int 0)), mS t v ds (nR N)⟩ = some (.nx, ⟨NS H (.wrap s h i c) y4 (some (.int 0)), mS t v ds (nR { N with b0 := N.b0 || (Deed.wrap s h i c).bk N.s0 })⟩) := by
  unfold NS Deed.bk Deed.A
  have hb := mS_b0 (t := t) (v := v) (ds := ds) (N := N) (z := .non)
  have hs : ([.bl N.b0, .bl N.b1] : List AV).set 0 (.bl true) = [.bl true, .bl N.b1] := rfl
  by_cases e1 : i ∈ N.s0
  · by_cases e2 : s ∈ N.s0
    · have e : ({ N with b0 := N.b0 || (decide (i ∈ N.s0) && !decide (s ∈ N.s0)) } : Nt) = N := by simp [e1, e2]
      rw [e]
      simp -implicitDefEqProofs [BN, e1, e2]
    · have e : ({ N with b0 := N.b0 || (decide (i ∈ N.s0) && !decide (s ∈ N.s0)) } : Nt) = { N with b0 := true } := by simp [e1, e2]
      rw [e]
      simp -implicitDefEqProofs [BN, e1, e2, hs, hb]
  · have e : ({ N with b0 := N.b0 || (decide (i ∈ N.s0) && !decide (s ∈ N.s0)) } : Nt) = N := by simp [e1]
    rw [e]
    simp -implicitDefEqProofs [BN, e1]
theorem turnN1 {s i : Nat} {h c : AV} {y4 : Option AV} : BN (lvl T d) ⟨NS H (.wrap s h i c) y4 (some (.int 1)), mS t v ds (nR N)⟩ = some (.nx, ⟨NS H (.wrap s h i c) y4 (some (.int 1)), mS t v ds (nR { N with b1 := N.b1 || (Deed.wrap s h i c).bk N.s1 })⟩) := by
  unfold NS Deed.bk Deed.A
  have hb := mS_b1 (t := t) (v := v) (ds := ds) (N := N) (z := .non)
  have hs : ([.bl N.b0, .bl N.b1] : List AV).set 1 (.bl true) = [.bl N.b0, .bl true] := rfl
  by_cases e1 : i ∈ N.s1
  · by_cases e2 : s ∈ N.s1
    · have e : ({ N with b1 := N.b1 || (decide (i ∈ N.s1) && !decide (s ∈ N.s1)) } : Nt) = N := by simp [e1, e2]
      rw [e]
      simp -implicitDefEqProofs [BN, e1, e2]
    · have e : ({ N with b1 := N.b1 || (decide (i ∈ N.s1) && !decide (s ∈ N.s1)) } : Nt) = { N with b1 := true } := by simp [e1, e2]
      rw [e]
      simp -implicitDefEqProofs [BN, e1, e2, hs, hb]
  · have e : ({ N with b1 := N.b1 || (decide (i ∈ N.s1) && !decide (s ∈ N.s1)) } : Nt) = N := by simp [e1]
    rw [e]
    simp -implicitDefEqProofs [BN, e1]
theorem s_noted {x : Deed} (hx : x.ok) (hw : x.wf v.sec.length) (hv : WF v n) (hn : n ≤ 900) (hl : ds.length < 9000) (hd : ∀ y ∈ ds, cn 10 y = true) (hr : ∀ r ∈ N.rings, r.rlt 8 = true) (hH : ∀ k ∈ N.H, k < v.sec.length) :
    lvl T (d + 12) "_law_noted" [.ref 4, .tup (nA N.H), .ref 7, x.A] (mS t v ds (nR N)) = some ((v.act x).2, mS t (v.act x).1 (ds ++ [x.A]) (nR (N.note v x))) := by
  have hT := fun (N' : Nt) (ρ : List (Option Slt)) (hr' : N'.rings = N.rings) => s_deedT (t := t) (R := nR N') (ρ := ρ) (d := d) hx hw hv (by omega) hl hd (RF.notes (by rw [hr']; exact hr))
  have hsm := fun S => res_nr (S := S) (sm_nr 10 _ (cn_sm 10 _ (Deed.cn hx)))
  have plain : (∃ w z, x.A = .tup (.str w :: z) ∧ ∀ S, opEq S (.str w) (.str "wrap") = some (.bl false)) → N.note v x = N → lvl T (d + 12) "_law_noted" [.ref 4, .tup (nA N.H), .ref 7, x.A] (mS t v ds (nR N)) = some ((v.act x).2, mS t (v.act x).1 (ds ++ [x.A]) (nR (N.note v x))) := by
    rintro ⟨w, z, e1, e2⟩ e3
    have h := hT N [some (.val (.ref 4)), some (.val (.tup (nA N.H))), some (.val (.ref 7)), some (.val x.A), none, none] rfl
    rw [l__law_noted, u_noted, e3]
    rw [e1] at hsm h ⊢
    generalize (v.act x).2 = r at *
    generalize mS t (v.act x).1 (ds ++ [.tup (.str w :: z)]) (nR N) = S' at *
    generalize BN = bn
    generalize mS t v ds (nR N) = S at *
    simp -implicitDefEqProofs [frame, e2, h]
  cases x with
  | wrap s h i c =>
    obtain ⟨b1, b2⟩ := hw
    obtain ⟨L, hL, hg⟩ := s_levels (d := d + 9) (S := mS t v ds (nR N)) hv hn VV.mS hH
    obtain ⟨y1, q1, k1⟩ := hg.2 s b1
    obtain ⟨y2, q2, k2⟩ := hg.2 i b2
    have q1 : atI L (s : Int) = some y1 := by rw [at_nat, q1]
    have q2 : atI L (i : Int) = some y2 := by rw [at_nat, q2]
    have p1 := fun S => isLv_isN (S := S) k1
    have p2 := fun S => isLv_is (S := S) k2
    have r1 := fun S => isLv_res (S := S) k1
    have r2 := fun S => isLv_res (S := S) k2
    have lp : ∀ N' : Nt, N'.s0 = N.s0 → N'.s1 = N.s1 → kFr asR1 (.one 5) BN (lvl T (d + 11)) (some ([.int 2], ⟨NS N.H (.wrap s h i c) (some (.lst L)) none, mS t v ds (nR N')⟩)) = some (.nx, ⟨NS N.H (.wrap s h i c) (some (.lst L)) (some (.int 1)), mS t v ds (nR { N' with b0 := N'.b0 || (Deed.wrap s h i c).bk N.s0, b1 := N'.b1 || (Deed.wrap s h i c).bk N.s1 })⟩) := fun N' h0 h1 => by
      have e : kFr asR1 (.one 5) BN (lvl T (d + 11)) (some ([.int 2], ⟨NS N.H (.wrap s h i c) (some (.lst L)) none, mS t v ds (nR N')⟩)) = loopL (.one 5) (BN (lvl T (d + 11))) [.int 0, .int 1] ⟨NS N.H (.wrap s h i c) (some (.lst L)) none, mS t v ds (nR N')⟩ := rfl
      rw [e, loopL_cons (a1 := ⟨NS N.H (.wrap s h i c) (some (.lst L)) (some (.int 0)), mS t v ds (nR N')⟩) rfl turnN0, loopL_cons (a1 := ⟨NS N.H (.wrap s h i c) (some (.lst L)) (some (.int 1)), mS t v ds (nR { N' with b0 := N'.b0 || (Deed.wrap s h i c).bk N'.s0 })⟩) rfl turnN1, h0, ← h1]
      rfl
    have key : (N.note v (.wrap s h i c)) = { ({ N with rev := N.rev || (knb v N.H s && !knb v N.H i) } : Nt) with b0 := N.b0 || (Deed.wrap s h i c).bk N.s0, b1 := N.b1 || (Deed.wrap s h i c).bk N.s1 } := rfl
    rw [l__law_noted, u_noted, key]
    by_cases e : (knb v N.H s && !knb v N.H i) = true
    · obtain ⟨e1, e2⟩ := Bool.and_eq_true_iff.mp e
      have e2 : knb v N.H i = false := by simpa using e2
      have l2 := lp { N with rev := true } rfl rfl
      rw [e, Bool.or_true]
      have h3 := hT { ({ N with rev := true } : Nt) with b0 := N.b0 || (Deed.wrap s h i c).bk N.s0, b1 := N.b1 || (Deed.wrap s h i c).bk N.s1 } (NS N.H (.wrap s h i c) (some (.lst L)) (some (.int 1))) rfl
      rw [e1] at p1
      rw [e2] at p2
      clear hT plain hg lp
      unfold NS Deed.A at *
      simp only [Option.map_some, Option.map_none] at l2 h3 ⊢
      generalize BN = bn at *
      generalize ds ++ _ = ds' at *
      generalize (v.act (.wrap s h i c)).2 = r at *
      generalize (v.act (.wrap s h i c)).1 = v' at *
      generalize (Deed.wrap s h i c).bk N.s0 = c0 at *
      generalize (Deed.wrap s h i c).bk N.s1 = c1 at *
      simp -implicitDefEqProofs [frame, hL, q1, q2, p1, p2, r1, r2, l2, h3]
    · have e : (knb v N.H s && !knb v N.H i) = false := by simpa using e
      have l2 := lp N rfl rfl
      rw [e, Bool.or_false]
      have h3 := hT { N with b0 := N.b0 || (Deed.wrap s h i c).bk N.s0, b1 := N.b1 || (Deed.wrap s h i c).bk N.s1 } (NS N.H (.wrap s h i c) (some (.lst L)) (some (.int 1))) rfl
      clear hT plain hg lp
      unfold NS Deed.A at *
      simp only [Option.map_some, Option.map_none] at l2 h3 ⊢
      generalize BN = bn at *
      generalize ds ++ _ = ds' at *
      generalize (v.act (.wrap s h i c)).2 = r at *
      generalize (v.act (.wrap s h i c)).1 = v' at *
      generalize (Deed.wrap s h i c).bk N.s0 = c0 at *
      generalize (Deed.wrap s h i c).bk N.s1 = c1 at *
      generalize mS t v ds (nR N) = S at *
      cases e1 : knb v N.H s <;> cases e2 : knb v N.H i <;> rw [e1] at p1 <;> rw [e2] at p2 <;> first | (rw [e1, e2] at e; exact absurd e (by decide)) | simp -implicitDefEqProofs [frame, hL, q1, q2, p1, p2, r1, r2, l2, h3]
  | _ => exact plain ⟨_, _, rfl, fun S => by simp⟩ (by unfold Nt.note Deed.rv Deed.bk; simp only [Bool.or_false])
end
end K17
end
section
set_option maxRecDepth 100000
set_option maxHeartbeats 4000000
namespace K17
open PySem L2 Pyx
open PySem.Spec PyProof.Rows
/-! ### what holds behind each deed of others -/
def Ring (v : Vt) (r : AV) : Prop := ∃ (p : Nat) (ps : List Nat) (keep : Nat), r = .tup [.tup (nA (p :: ps)), .int (keep : Nat)] ∧ p < v.sec.length ∧ ps.length < 4 ∧ 1 ≤ keep ∧ keep ≤ 4
structure NI (v0 v : Vt) (ds : List AV) (k : Nat) (N : Nt) : Prop where
  mi : MI v ds k
  hp : HasP v
  up : v0.sec.length ≤ v.sec.length
  hH : ∀ j ∈ N.H, j < v0.sec.length
  h0 : ∀ j ∈ N.s0, j < v0.sec.length
  h1 : ∀ j ∈ N.s1, j < v0.sec.length
  many : N.many = v0.sec.length
  old : N.old = kns v0 N.H
  sh0 : shd v N.H N.s0 = !N.b0
  sh1 : shd v N.H N.s1 = !N.b1
  kn : N.rev = false → ∀ i, i < v0.sec.length → (Kn v N.H i ↔ Kn v0 N.H i)
  rg : ∀ r ∈ N.rings, Ring v r
  rl : N.rings.length ≤ k
theorem NI.step {v0 v : Vt} {ds : List AV} {k : Nat} {N : Nt} (h : NI v0 v ds k N) {x : Deed} (hx : x.ok) (hw : x.wf v.sec.length) : NI v0 (v.act x).1 (ds ++ [x.A]) (k + 1) (N.note v x) where
  mi := h.mi.step hx hw
  hp := h.hp.act h.mi.wf hx hw
  up := Nat.le_trans h.up (act_keep h.mi.wf hx hw).1
  hH := h.hH
  h0 := h.h0
  h1 := h.h1
  many := h.many
  old := h.old
  sh0 := by
    show shd (v.act x).1 N.H N.s0 = !(N.b0 || x.bk N.s0)
    rw [shd_step h.mi.wf hx hw fun j hj => Nat.lt_of_lt_of_le (h.h0 j hj) h.up, h.sh0, Bool.not_or]
  sh1 := by
    show shd (v.act x).1 N.H N.s1 = !(N.b1 || x.bk N.s1)
    rw [shd_step h.mi.wf hx hw fun j hj => Nat.lt_of_lt_of_le (h.h1 j hj) h.up, h.sh1, Bool.not_or]
  kn := fun hr i hi => by
    have hr : (N.rev || x.rv v N.H) = false := hr
    obtain ⟨r1, r2⟩ := Bool.or_eq_false_iff.mp hr
    show Kn (v.act x).1 N.H i ↔ Kn v0 N.H i
    rw [← h.kn r1 i hi]
    exact ⟨fun q => kn_down h.mi.wf hx hw r2 q (Nat.lt_of_lt_of_le hi h.up), kn_up h.mi.wf hx hw⟩
  rg := fun r hr => by
    obtain ⟨p, ps, keep, e, b, q⟩ := h.rg r hr
    exact ⟨p, ps, keep, e, Nat.lt_of_lt_of_le b (act_keep h.mi.wf hx hw).1, q⟩
  rl := Nat.le_succ_of_le h.rl
theorem NI.ring {v0 v : Vt} {ds : List AV} {k : Nat} {N : Nt} (h : NI v0 v ds k N) {r : AV} (hr : Ring v r) (hl : N.rings.length < k) : NI v0 v ds k { N with rings := N.rings ++ [r] } :=
  ⟨h.mi, h.hp, h.up, h.hH, h.h0, h.h1, h.many, h.old, h.sh0, h.sh1, h.kn, fun x hx => by
    rcases List.mem_append.mp hx with hx | hx
    · exact h.rg x hx
    · rw [List.mem_singleton.mp hx]; exact hr, by show (N.rings ++ [r]).length ≤ k; rw [List.length_append, List.length_singleton]; omega⟩
theorem Ring.rlt {v : Vt} {r : AV} (h : Ring v r) : r.rlt 8 = true := by
  obtain ⟨p, ps, keep, rfl, _⟩ := h
  refine nr_rlt 8 _ ?_
  show (((AV.nrs (nA (p :: ps))) && ((AV.int (keep : Nat)).nr && true))) = true
  rw [show AV.nrs (nA (p :: ps)) = true from nrs_all fun x hx => by obtain ⟨i, _, rfl⟩ := List.mem_map.mp hx; rfl]
  rfl
theorem Ring.sm {v : Vt} {r : AV} (h : Ring v r) : sm 3 r = true := by
  obtain ⟨p, ps, keep, rfl, _, hl, _⟩ := h
  refine sm_le (k := 2) (sm_mk (fun y hy => ?_) (by simp)) (by omega)
  simp only [List.mem_cons, List.not_mem_nil, or_false] at hy
  rcases hy with rfl | rfl
  · refine sm_mk (fun z hz => ?_) (by rw [nA_length, List.length_cons]; omega)
    obtain ⟨i, _, rfl⟩ := List.mem_map.mp hz
    exact sm_int
  · exact sm_int
section
variable {t : Tp} {v0 v : Vt} {ds : List AV} {k d : Nat} {N : Nt}
theorem NI.noted (h : NI v0 v ds k N) (hk : k ≤ 800) {x : Deed} (hx : x.ok) (hw : x.wf v.sec.length) : lvl T (d + 12) "_law_noted" [.ref 4, .tup (nA N.H), .ref 7, x.A] (mS t v ds (nR N)) = some ((v.act x).2, mS t (v.act x).1 (ds ++ [x.A]) (nR (N.note v x))) :=
  s_noted hx hw h.mi.wf (by omega) (by have := h.mi.dl; omega) h.mi.dc (fun r hr => (h.rg r hr).rlt) (fun j hj => Nat.lt_of_lt_of_le (h.hH j hj) h.up)
theorem NI.ok {m : Nat} (h : NI v0 v ds k N) (hk : k ≤ m) : v.Ok m := (h.mi.wf.mono hk).ok
theorem s_plain_deed (ht : t.Ok) (h : NI v0 v ds k N) (hk : k ≤ 800) {w : Str} (hw : w ∈ words) :
    ∃ (t' : Tp) (v' : Vt) (ds' : List AV) (N' : Nt), lvl T (d + 13) "_law_plain_deed" [.ref 0, .ref 4, v.A, .ref 7, .str w] (mS t v ds (nR N)) = some (.bl true, mS t' v' ds' (nR N')) ∧ t'.Ok ∧ NI v0 v' ds' (k + 1) N' ∧ N'.H = N.H ∧ N'.s0 = N.s0 ∧ N'.s1 = N.s1 ∧ N'.old = N.old := by
  obtain ⟨x, t1, h1, k1, hx, hxw⟩ := s_some_deed (ds := ds) (R := nR N) (d + 5) ht h.hp (h.ok (by omega)) hw
  have h2 := h.noted (t := t1) (d := d) (by omega) hx hxw
  have hN := h.step hx hxw
  have h3 := fun S => s_made (d := d) (S := S) hx (h.ok (m := 9000) (by omega))
  have h4 := fun S => s_gives (d := d + 7) (S := S) (sm_le (act_sm v x) (by omega : 1 ≤ 3)) (hN.ok (m := 9000) (by omega))
  have h5 := s_vault_of (d := d + 11) (t := t1) (v := (v.act x).1) (ds := ds ++ [x.A]) (R := nR (N.note v x))
  refine ⟨t1, (v.act x).1, ds ++ [x.A], N.note v x, ?_, k1, hN, rfl, rfl, rfl, rfl⟩
  rw [l__law_plain_deed]
  have hr := fun S => res_nr (S := S) (sm_nr 10 _ (cn_sm 10 _ (Deed.cn hx)))
  have hr2 := fun S => res_nr (S := S) (sm_nr 1 _ (act_sm v x))
  have hrA : ∀ S, res S v.A = v.A := fun S => rfl
  generalize (v.act x).2 = y at *
  have h7 : (mS t1 v ds (nR N))[7]? = some (.dic (nD N)) := rfl
  generalize mS t1 (v.act x).1 (ds ++ [x.A]) (nR (N.note v x)) = S2 at *
  generalize (v.act x).1.A = A2 at *
  generalize x.A = xa at *
  generalize v.A = A at *
  generalize mS t1 v ds (nR N) = S1 at *
  generalize mS t v ds (nR N) = S0 at *
  simp -implicitDefEqProofs [b__law_plain_deed, frame, h1, h2, h3, h4, h5, hr, hr2, hrA, h7]
end
end K17
end
section
set_option maxRecDepth 100000
set_option maxHeartbeats 4000000
namespace K17
open PySem L2 Pyx
open PySem.Spec PyProof.Rows
theorem ok_shop : PyData.strOk ("shop" : Str) = true := by decide +kernel
theorem ok_ca : PyData.strOk ("ca" : Str) = true := by decide +kernel
theorem ok_certificate : PyData.strOk ("certificate" : Str) = true := by decide +kernel
theorem ok_ticket : PyData.strOk ("ticket" : Str) = true := by decide +kernel
def FA (q a b c : Nat) : List AV := [.str "shop", .int (q : Nat), .str "ca", .int (a : Nat), .int (b : Nat), .int (c : Nat)]
theorem FA_cn {q a b c : Nat} : ∀ x ∈ FA q a b c, cn 0 x = true := by
  intro x hx
  simp only [FA, List.mem_cons, List.not_mem_nil, or_false] at hx
  rcases hx with rfl | rfl | rfl | rfl | rfl | rfl
  · exact cn_st ok_shop
  · exact cn_in
  · exact cn_st ok_ca
  · exact cn_in
  · exact cn_in
  · exact cn_in
section
variable {t : Tp} {v0 v : Vt} {ds : List AV} {k d : Nat} {N : Nt}
theorem note_of {x : Deed} (h1 : ∀ H, x.rv v H = false) (h2 : ∀ ss, x.bk ss = false) : N.note v x = N := by
  unfold Nt.note
  rw [h1, h2, h2, Bool.or_false, Bool.or_false, Bool.or_false]
theorem NI.deedT (h : NI v0 v ds k N) (hk : k ≤ 800) {x : Deed} (hx : x.ok) (hw : x.wf v.sec.length) (ρ : List (Option Slt)) : kCt2 ρ (mS t v ds (nR N)).length (lvl T (d + 11) "_law_deed" [.ref 4, x.A] (mS t v ds (nR N))) = some ((v.act x).2, ⟨ρ, mS t (v.act x).1 (ds ++ [x.A]) (nR N)⟩) :=
  s_deedT hx hw h.mi.wf (by omega) (by have := h.mi.dl; omega) h.mi.dc (RF.notes fun r hr => (h.rg r hr).rlt)
theorem s_issue {p q a b c : Nat} {S : List SObj} (hv : v.Ok 9000) : lvl T (d + 3) "issue" [v.A, .int (p : Nat), .str "ca", .str "shop", .int (q : Nat), .int (a : Nat), .int (b : Nat), .int (c : Nat)] S = some (.tup [(v.act (.sign p (.tup (.str "certificate" :: FA q a b c)))).1.A, .tup (FA q a b c ++ [.int (v.ent.length : Nat)])], S) := by
  have h1 : lvl T (d + 2) "signed_part" [.tup (FA q a b c)] S = some (.tup (.str "certificate" :: FA q a b c), S) := by
    have hc : cutA (FA q a b c) none (some 6) = FA q a b c := cut_to (xs := FA q a b c) 6
    have hl : 1 + (FA q a b c).length ≤ 100000 := by show 1 + 6 ≤ 100000; omega
    rw [l_signed_part]
    generalize FA q a b c = F at *
    simp -implicitDefEqProofs [b_signed_part, frame, hc, hl]
  have h2 := s_sign (d := d) (S := S) (p := p) (x := .tup (.str "certificate" :: FA q a b c)) hv
  have e2 : (v.act (.sign p (.tup (.str "certificate" :: FA q a b c)))).2 = .int (v.ent.length : Nat) := rfl
  rw [e2] at h2
  have hl : (FA q a b c).length + 1 ≤ 100000 := by show 6 + 1 ≤ 100000; omega
  have hF : FA q a b c = [.str "shop", .int (q : Nat), .str "ca", .int (a : Nat), .int (b : Nat), .int (c : Nat)] := rfl
  have hrA : ∀ S, res S v.A = v.A := fun S => rfl
  have hrA2 : ∀ S, res S (v.act (.sign p (.tup (.str "certificate" :: FA q a b c)))).1.A = (v.act (.sign p (.tup (.str "certificate" :: FA q a b c)))).1.A := fun S => rfl
  rw [l_issue]
  generalize (v.act (.sign p (.tup (.str "certificate" :: FA q a b c)))).1.A = A2 at *
  generalize v.A = A at *
  simp only [hF, List.cons_append, List.nil_append] at h1 h2 ⊢
  simp -implicitDefEqProofs [b_issue, frame, h1, h2, hrA, hrA2]
theorem s_issued (ht : t.Ok) (h : NI v0 v ds k N) (hk : k ≤ 800) :
    ∃ (t' : Tp) (v' : Vt) (ds' : List AV) (N' : Nt), lvl T (d + 13) "_law_issued" [.ref 0, .ref 4, v.A] (mS t v ds (nR N)) = some (.bl true, mS t' v' ds' (nR N')) ∧ t'.Ok ∧ NI v0 v' ds' (k + 1) N' ∧ N'.H = N.H ∧ N'.s0 = N.s0 ∧ N'.s1 = N.s1 ∧ N'.old = N.old := by
  have ho := h.ok (m := 8000) (by omega)
  obtain ⟨p, e, t1, h1, k1, _⟩ := s_some_pair (d + 9) ht (ds := ds) (R := nR N) h.hp ho.ls
  obtain ⟨q, t2, h2, k2⟩ := s_some_public (d + 8) k1 (ds := ds) (R := nR N) h.hp ho.ls ho.le
  obtain ⟨a, t3, h3, k3, _⟩ := s_drawN (d + 11) k2 9 (by omega) (by omega) (mR v ds (nR N))
  obtain ⟨b, t4, h4, k4, _⟩ := s_drawN (d + 11) k3 1000001 (by omega) (by omega) (mR v ds (nR N))
  obtain ⟨c, t5, h5, k5, _⟩ := s_drawN (d + 11) k4 2 (by omega) (by omega) (mR v ds (nR N))
  have h3 : lvl T (d + 12) "_law_draw" [.ref 0, .int 9] (mS t2 v ds (nR N)) = some (.int (a : Nat), mS t3 v ds (nR N)) := h3
  have h4 : lvl T (d + 12) "_law_draw" [.ref 0, .int 1000001] (mS t3 v ds (nR N)) = some (.int (b : Nat), mS t4 v ds (nR N)) := h4
  have h5 : lvl T (d + 12) "_law_draw" [.ref 0, .int 2] (mS t4 v ds (nR N)) = some (.int (c : Nat), mS t5 v ds (nR N)) := h5
  have hx : (Deed.sign p (.tup (.str "certificate" :: FA q a b c))).ok := cn_le (k := 1) (cn_mk (fun x hx => by
    rcases List.mem_cons.mp hx with rfl | hx
    · exact cn_st ok_certificate
    · exact FA_cn x hx) (by show 1 + 6 ≤ _; omega)) (by omega)
  have hw : (Deed.sign p (.tup (.str "certificate" :: FA q a b c))).wf v.sec.length := trivial
  have hN := h.step hx hw
  have h6 := fun ρ => h.deedT (t := t5) (d := d + 1) (by omega) hx hw ρ
  have h7 := fun S => s_issue (d := d + 9) (S := S) (p := p) (q := q) (a := a) (b := b) (c := c) (h.ok (m := 9000) (by omega))
  rw [note_of (fun _ => rfl) (fun _ => rfl)] at hN
  have hsm : sm 3 (.tup (FA q a b c ++ [.int (v.ent.length : Nat)])) = true := sm_le (k := 1) (sm_mk (fun y hy => by
    rcases List.mem_append.mp hy with hy | hy
    · exact cn_sm 0 y (FA_cn y hy)
    · rw [List.mem_singleton.mp hy]; exact sm_int) (by show 7 ≤ _; omega)) (by omega)
  have h8 := fun S => s_gives (d := d + 7) (S := S) hsm (hN.ok (m := 9000) (by omega))
  have h9 := s_vault_of (d := d + 11) (t := t5) (v := (v.act (.sign p (.tup (.str "certificate" :: FA q a b c)))).1) (ds := ds ++ [(Deed.sign p (.tup (.str "certificate" :: FA q a b c))).A]) (R := nR N)
  refine ⟨t5, _, _, N, ?_, k5, hN, rfl, rfl, rfl, rfl⟩
  rw [l__law_issued]
  have e2 : (v.act (.sign p (.tup (.str "certificate" :: FA q a b c)))).2 = .int (v.ent.length : Nat) := rfl
  have eA' : (Deed.sign p (.tup (.str "certificate" :: FA q a b c))).A = .tup [.str "sign", .int (p : Nat), .tup (.str "certificate" :: FA q a b c)] := rfl
  rw [e2, eA'] at h6
  rw [eA'] at h9
  rw [eA']
  have hrA : ∀ S, res S v.A = v.A := fun S => rfl
  generalize ds ++ _ = ds' at *
  generalize (v.act (.sign p (.tup (.str "certificate" :: FA q a b c)))).1 = v' at *
  generalize v.ent.length = el at *
  have hF : FA q a b c = [.str "shop", .int (q : Nat), .str "ca", .int (a : Nat), .int (b : Nat), .int (c : Nat)] := rfl
  clear hN hsm hx hw
  generalize v'.A = A2 at *
  generalize v.A = A at *
  simp only [hF, List.cons_append, List.nil_append] at h6 h7 h8 h9 ⊢
  generalize mS t5 v' ds' (nR N) = S6 at *
  generalize mS t5 v ds (nR N) = S5 at *
  generalize mS t4 v ds (nR N) = S4 at *
  generalize mS t3 v ds (nR N) = S3 at *
  generalize mS t2 v ds (nR N) = S2 at *
  generalize mS t1 v ds (nR N) = S1 at *
  generalize mS t v ds (nR N) = S0 at *
  simp -implicitDefEqProofs [b__law_issued, frame, h1, h2, h3, h4, h5, h6, h7, h8, h9, hrA]
end
end K17
end
section
set_option maxRecDepth 100000
set_option maxHeartbeats 4000000
namespace K17
open PySem L2 Pyx
open PySem.Spec PyProof.Rows
theorem atI_last {xs : List AV} {r : AV} : atI (xs ++ [r]) (-1) = some r := by
  unfold L2.atI
  have h : L2.ixN (xs ++ [r]).length (-1) = some xs.length := by
    unfold L2.ixN
    simp
    omega
  rw [h]
  simp
section
variable {t : Tp} {v0 v : Vt} {ds : List AV} {k d : Nat} {N : Nt}
@[simp] theorem mS_rings {rs : List AV} : (mS t v ds (nR N)).set 6 (.lst rs) = mS t v ds (nR { N with rings := rs }) := rfl
theorem cut_k {p keep : Nat} {ps : List Nat} : cutA (.int (p : Nat) :: nA ps) none (some (keep : Int)) = nA ((p :: ps).take keep) := by
  rw [cut_to, show (AV.int (p : Nat) :: nA ps) = nA (p :: ps) from rfl]
  unfold nA
  rw [List.map_take]
theorem s_rotate {keep : Nat} {ps : List Nat} {S : List SObj} (hv : v.Ok 9000) (hp : ps.length ≤ 9000) : lvl T (d + 2) "rotate" [v.A, .tup [.tup (nA ps), .int (keep : Nat)]] S = some (.tup [(v.act .gen).1.A, .tup [.tup (nA ((v.sec.length :: ps).take keep)), .int (keep : Nat)]], S) := by
  have h1 := s_generate (d := d) (S := S) hv
  have e2 : (v.act .gen).2 = .int (v.sec.length : Nat) := rfl
  rw [e2] at h1
  have hc := cut_k (p := v.sec.length) (keep := keep) (ps := ps)
  have hl : 1 + (nA ps).length ≤ 100000 := by rw [nA_length]; omega
  have hrA : ∀ S, res S v.A = v.A := fun S => rfl
  have hrA2 : ∀ S, res S (v.act .gen).1.A = (v.act .gen).1.A := fun S => rfl
  rw [l_rotate]
  generalize nA ((v.sec.length :: ps).take keep) = K at *
  generalize nA ps = P at *
  generalize v.sec.length = p at *
  generalize (v.act .gen).1.A = A2 at *
  generalize v.A = A at *
  simp -implicitDefEqProofs [b_rotate, frame, h1, hc, hl, hrA, hrA2]
theorem s_new_ring {keep : Nat} {S : List SObj} (hv : v.Ok 9000) (hk : 1 ≤ keep) : lvl T (d + 3) "new_ring" [v.A, .int (keep : Nat)] S = some (.tup [(v.act .gen).1.A, .tup [.tup (nA [v.sec.length]), .int (keep : Nat)]], S) := by
  have h1 := s_rotate (d := d) (S := S) (keep := keep) (ps := []) hv (by simp)
  have e : nA ((v.sec.length :: []).take keep) = nA [v.sec.length] := by rw [List.take_of_length_le (by simp; omega)]
  have n0 : nA [] = [] := rfl
  rw [e, n0] at h1
  rw [l_new_ring]
  have hrA : ∀ S, res S v.A = v.A := fun S => rfl
  generalize nA [v.sec.length] = P at *
  generalize (v.act .gen).1.A = A2 at *
  generalize v.A = A at *
  simp -implicitDefEqProofs [b_new_ring, frame, h1, hrA]
theorem s_make_ticket {p s : Nat} {ps : List Nat} {keep c : AV} {S : List SObj} (hc : ∀ S, res S c = c) (hv : v.Ok 9000) : lvl T (d + 3) "make_ticket" [v.A, .tup [.tup (nA (p :: ps)), keep], .int (s : Nat), c] S = some (.tup [(v.act (.wrap p (.tup [.str "ticket"]) s c)).1.A, (v.act (.wrap p (.tup [.str "ticket"]) s c)).2], S) := by
  have h1 := s_wrap (d := d) (S := S) (s := p) (h := .tup [.str "ticket"]) (i := s) (c := c) hv
  have hrA : ∀ S, res S v.A = v.A := fun S => rfl
  have e : nA (p :: ps) = .int (p : Nat) :: nA ps := rfl
  rw [e, l_make_ticket]
  generalize (v.act (.wrap p (.tup [.str "ticket"]) s c)).2 = y at *
  generalize (v.act (.wrap p (.tup [.str "ticket"]) s c)).1.A = A2 at *
  generalize v.A = A at *
  generalize nA ps = P at *
  simp -implicitDefEqProofs [b_make_ticket, frame, h1, hrA, hc]
def DR (d : Nat) : Prop := True
def CA (a b : Nat) : AV := .tup [.str "shop", .int (a : Nat), .int 7, .int (b : Nat), .tup []]
theorem CA_dat {a b : Nat} : dat (CA a b) := cn_le (k := 2) (cn_mk (fun x hx => by
  simp only [List.mem_cons, List.not_mem_nil, or_false] at hx
  rcases hx with rfl | rfl | rfl | rfl | rfl
  · exact cn_st ok_shop
  · exact cn_in
  · exact cn_in
  · exact cn_in
  · exact cn_mk (fun x hx => (by cases hx)) (by simp)) (by simp)) (by omega)
theorem s_ring_deed (ht : t.Ok) (h : NI v0 v ds k N) (hk : k ≤ 800) :
    ∃ (t' : Tp) (v' : Vt) (ds' : List AV) (N' : Nt), lvl T (d + 13) "_law_ring_deed" [.ref 0, .ref 4, v.A, .ref 7] (mS t v ds (nR N)) = some (.bl true, mS t' v' ds' (nR N')) ∧ t'.Ok ∧ NI v0 v' ds' (k + 1) N' ∧ N'.H = N.H ∧ N'.s0 = N.s0 ∧ N'.s1 = N.s1 ∧ N'.old = N.old := by
  have ho := h.ok (m := 9000) (by omega)
  obtain ⟨ch, t1, h1, k1, hch⟩ := s_drawN (d + 11) ht 3 (by omega) (by omega) (mR v ds (nR N))
  have h1 : lvl T (d + 12) "_law_draw" [.ref 0, .int 3] (mS t v ds (nR N)) = some (.int (ch : Nat), mS t1 v ds (nR N)) := h1
  have hrA : ∀ S, res S v.A = v.A := fun S => rfl
  have genx : (Deed.gen).ok := trivial
  have genw : (Deed.gen).wf v.sec.length := trivial
  have hG := h.step genx genw
  rw [note_of (fun _ => rfl) (fun _ => rfl)] at hG
  have hGo := hG.ok (m := 9000) (by omega)
  have eg : (Deed.gen).A = .tup [.str "generate"] := rfl
  have e2 : (v.act .gen).2 = .int (v.sec.length : Nat) := rfl
  have lenG : v.sec.length < (v.act .gen).1.sec.length := by show _ < (v.sec ++ [_]).length; simp
  rw [l__law_ring_deed]
  rcases List.eq_nil_or_concat N.rings with h0 | ⟨rs, r, h0⟩
  · obtain ⟨g, t2, h2, k2, hg⟩ := s_drawN (d + 11) k1 4 (by omega) (by omega) (mR v ds (nR N))
    have h2 : lvl T (d + 12) "_law_draw" [.ref 0, .int 4] (mS t1 v ds (nR N)) = some (.int (g : Nat), mS t2 v ds (nR N)) := h2
    have hring : Ring (v.act .gen).1 (.tup [.tup (nA [v.sec.length]), .int ((1 + g : Nat) : Int)]) := ⟨v.sec.length, [], 1 + g, rfl, lenG, by simp, by omega, by omega⟩
    have hG2 := hG.ring hring (by have := h.rl; omega)
    have h6 := fun ρ => h.deedT (t := t2) (d := d + 1) (by omega) genx genw ρ
    have h7 := fun S => s_new_ring (d := d + 9) (S := S) (keep := 1 + g) ho (by omega)
    have h8 := fun S => s_gives (d := d + 7) (S := S) hring.sm hGo
    have h9 := s_vault_of (d := d + 11) (t := t2) (v := (v.act .gen).1) (ds := ds ++ [(Deed.gen).A]) (R := nR { N with rings := N.rings ++ [.tup [.tup (nA [v.sec.length]), .int ((1 + g : Nat) : Int)]] })
    refine ⟨t2, _, _, _, ?_, k2, hG2, rfl, rfl, rfl, rfl⟩
    have n1 : nA [v.sec.length] = [.int (v.sec.length : Nat)] := rfl
    have ek : ((1 + g : Nat) : Int) = 1 + (g : Int) := by omega
    rw [eg] at h6 h9 ⊢
    rw [e2] at h6
    rw [n1, ek] at h7 h8 h9
    rw [n1, ek, h0]
    rw [h0] at h9
    have m6 := fun (S : Tp) (v : Vt) (ds : List AV) => mS_6 (t := S) (v := v) (ds := ds) (N := N)
    rw [h0] at m6
    clear hG2 hring hG
    generalize ds ++ _ = ds' at *
    generalize v.sec.length = p at *
    generalize (v.act .gen).1 = v' at *
    rw [List.nil_append] at h9
    simp -implicitDefEqProofs [b__law_ring_deed, frame, h1, m6, h2, h6, h7, h8, h9, hrA]
  · simp only [List.concat_eq_append] at h0
    obtain ⟨p, ps, keep, rfl, hp, hl, hk1, hk4⟩ := h.rg r (by rw [h0]; simp)
    have m6 := fun (S : Tp) (v : Vt) (ds : List AV) => mS_6 (t := S) (v := v) (ds := ds) (N := N)
    have nlen : N.rings.length = rs.length + 1 := by rw [h0]; simp
    have nl0 : ¬ ((N.rings.length : Int) = 0) := by omega
    have nl0' : ¬ (N.rings = []) := fun e => by rw [e] at nlen; cases nlen
    have hlast : atI N.rings (-1) = some (.tup [.tup (nA (p :: ps)), .int (keep : Nat)]) := by rw [h0, atI_last]
    by_cases c0 : ch = 0
    · subst c0
      have hring : Ring (v.act .gen).1 (.tup [.tup (nA ((v.sec.length :: p :: ps).take keep)), .int (keep : Nat)]) := by
        obtain ⟨j, rfl⟩ : ∃ j, keep = j + 1 := ⟨keep - 1, by omega⟩
        refine ⟨v.sec.length, (p :: ps).take j, j + 1, rfl, lenG, ?_, hk1, hk4⟩
        have := List.length_take_le j (p :: ps)
        omega
      have hG2 := hG.ring hring (by have := h.rl; omega)
      have h6 := fun ρ => h.deedT (t := t1) (d := d + 1) (by omega) genx genw ρ
      have h7 := fun S => s_rotate (d := d + 10) (S := S) (keep := keep) (ps := p :: ps) ho (by simp only [List.length_cons]; omega)
      have h8 := fun S => s_gives (d := d + 7) (S := S) hring.sm hGo
      have h9 := s_vault_of (d := d + 11) (t := t1) (v := (v.act .gen).1) (ds := ds ++ [(Deed.gen).A]) (R := nR { N with rings := N.rings ++ [.tup [.tup (nA ((v.sec.length :: p :: ps).take keep)), .int (keep : Nat)]] })
      have hc := cut_k (p := v.sec.length) (keep := keep) (ps := p :: ps)
      have hcl : 1 + (nA (p :: ps)).length ≤ 100000 := by rw [nA_length, List.length_cons]; omega
      refine ⟨t1, _, _, _, ?_, k1, hG2, rfl, rfl, rfl, rfl⟩
      have hrl : N.rings.length < 100000 := by have := h.rl; omega
      rw [eg] at h6 h9 ⊢
      rw [e2] at h6
      clear hG2 hring hG
      generalize ds ++ _ = ds' at *
      generalize nA ((v.sec.length :: p :: ps).take keep) = K at *
      generalize nA (p :: ps) = P at *
      generalize v.sec.length = q at *
      generalize (v.act .gen).1 = v' at *
      simp -implicitDefEqProofs [b__law_ring_deed, frame, h1, m6, h6, h7, h8, h9, hrA, hlast, hc, hcl, nl0, nl0', hrl]
    · obtain ⟨s, t2, h2, k2, hs⟩ := s_some_secret (d + 10) k1 (ds := ds) (R := nR N) h.hp.pos (h.ok (m := 8000) (by omega)).ls
      obtain ⟨a, t3, h3, k3, _⟩ := s_drawN (d + 11) k2 1000001 (by omega) (by omega) (mR v ds (nR N))
      obtain ⟨b, t4, h4, k4, _⟩ := s_drawN (d + 11) k3 2 (by omega) (by omega) (mR v ds (nR N))
      have h2 : lvl T (d + 12) "_law_some_secret" [.ref 0, .ref 4] (mS t1 v ds (nR N)) = some (.int (s : Nat), mS t2 v ds (nR N)) := h2
      have h3 : lvl T (d + 12) "_law_draw" [.ref 0, .int 1000001] (mS t2 v ds (nR N)) = some (.int (a : Nat), mS t3 v ds (nR N)) := h3
      have h4 : lvl T (d + 12) "_law_draw" [.ref 0, .int 2] (mS t3 v ds (nR N)) = some (.int (b : Nat), mS t4 v ds (nR N)) := h4
      have hx : (Deed.wrap p (.tup [.str "ticket"]) s (CA a b)).ok := ⟨cn_le (k := 1) (cn_mk (fun x hx => by rw [List.mem_singleton.mp hx]; exact cn_st ok_ticket) (by simp)) (by omega), CA_dat⟩
      have hw : (Deed.wrap p (.tup [.str "ticket"]) s (CA a b)).wf v.sec.length := ⟨hp, hs⟩
      have h6 := h.noted (t := t4) (d := d) (by omega) hx hw
      have hN := h.step hx hw
      have hcr : ∀ S, res S (CA a b) = CA a b := fun S => rfl
      have h7 := fun S => s_make_ticket (d := d + 9) (S := S) (p := p) (s := s) (ps := ps) (keep := .int (keep : Nat)) hcr ho
      have h8 := fun S => s_gives (d := d + 7) (S := S) (sm_le (act_sm v (.wrap p (.tup [.str "ticket"]) s (CA a b))) (by omega : 1 ≤ 3)) (hN.ok (m := 9000) (by omega))
      have h9 := s_vault_of (d := d + 11) (t := t4) (v := (v.act (.wrap p (.tup [.str "ticket"]) s (CA a b))).1) (ds := ds ++ [(Deed.wrap p (.tup [.str "ticket"]) s (CA a b)).A]) (R := nR (N.note v (.wrap p (.tup [.str "ticket"]) s (CA a b))))
      refine ⟨t4, _, _, _, ?_, k4, hN, rfl, rfl, rfl, rfl⟩
      have hr2 := fun S => res_nr (S := S) (sm_nr 1 _ (act_sm v (.wrap p (.tup [.str "ticket"]) s (CA a b))))
      have eW : (Deed.wrap p (.tup [.str "ticket"]) s (CA a b)).A = .tup [.str "wrap", .int (p : Nat), .tup [.str "ticket"], .int (s : Nat), CA a b] := rfl
      rw [eW] at h6 h9 ⊢
      clear hN hG hx hw
      generalize ds ++ _ = ds' at *
      generalize N.note v (.wrap p (.tup [.str "ticket"]) s (CA a b)) = N' at *
      generalize (v.act (.wrap p (.tup [.str "ticket"]) s (CA a b))).2 = y at *
      generalize (v.act (.wrap p (.tup [.str "ticket"]) s (CA a b))).1 = v' at *
      have eP : nA (p :: ps) = .int (p : Nat) :: nA ps := rfl
      rw [eP] at hlast h7
      unfold CA at *
      simp -implicitDefEqProofs [b__law_ring_deed, frame, h1, m6, h2, h3, h4, h6, h7, h8, h9, hrA, hlast, nl0, nl0', c0, hr2]
end
end K17
end
section
set_option maxRecDepth 100000
set_option maxHeartbeats 4000000
namespace K17
open PySem L2 Pyx
open PySem.Spec PyProof.Rows
/-! ### turns -/
def BT : MS := (sSeq (sExpr (eApp (oVar 3) (ePopAt (oVar 2) (eCall "_law_draw" (aCons (eVar 0) (aCons (eBi biLen (osCons (oVar 2) osNil)) aNil)))))) sSkip)
theorem u_turns : b__law_turns = (sSeq (sOwn 2 (fRg (eVar 1))) (sSeq (sOwn 3 (fLst aNil)) (sSeq (sForR asR1 (aCons (eVar 1) aNil) (.one 4) BT) (sSeq (sRet (eSl (oVar 3) pNone (pSome (eBin opIx (oE (eFrz (fLst (aCons (eVar 1) (aCons (eVar 1) (aCons (eCon (.int 1)) aNil)))))) (oE (eCall "_law_draw" (aCons (eVar 0) (aCons (eCon (.int 3)) aNil)))))))) sSkip)))) := rfl
section
variable {t : Tp} {R : List SObj}
theorem s_turns (d : Nat) (ht : t.Ok) (many : Nat) (hm : many ≤ 9000) :
    ∃ (t' : Tp) (hs : List Nat), lvl T (d + 2) "_law_turns" [.ref 0, .int (many : Nat)] (tpO t :: R) = some (.lst (nA hs), tpO t' :: R) ∧ t'.Ok ∧ (∀ x ∈ hs, x < many) := by
  obtain ⟨a', e2, t2, lf, hs, y5, rfl, k2, q1, q2, q3, q4⟩ := loopL_inv (tg := .one 4) (body := BT (lvl T (d + 1))) (fun k a => ∃ (t' : Tp) (lf hs : List Nat) (y5 : Option Slt), a = ⟨[some (.val (.ref 0)), some (.val (.int (many : Nat))), some (.own (nA lf)), some (.own (nA hs)), y5], tpO t' :: R⟩ ∧ t'.Ok ∧ (∀ x ∈ lf, x < many) ∧ (∀ x ∈ hs, x < many) ∧ lf.length + k = many ∧ hs.length = k)
    (xs := rgA 0 many) (n := 0) (a := ⟨[some (.val (.ref 0)), some (.val (.int (many : Nat))), some (.own (nA (List.range many))), some (.own (nA [])), none], tpO t :: R⟩)
    (fun k x a hk ⟨t', lf, hs, y5, ea, ok, i1, i2, i3, i4⟩ => by
      subst ea
      rw [Nat.zero_add] at i3 i4 ⊢
      have hk' : k < many := by
        have := (List.getElem?_eq_some_iff.mp hk).1
        rwa [rgA_length] at this
      obtain ⟨j, t3, f1, f2, f3⟩ := s_drawN d ok lf.length (by omega) (by omega) R
      rw [← nA_length lf] at f1
      have hpa := fun (a : AS) (hh : Hd) => kPa2_s (a := a) (h := hh) (xs := nA lf) (k := j) (by omega)
      have hg := nA_get f3
      have hsn := nA_snoc hs lf[j]
      have hlen : (nA hs).length < 100000 := by rw [nA_length]; omega
      refine ⟨_, .nx, ⟨[some (.val (.ref 0)), some (.val (.int (many : Nat))), some (.own (nA (lf.eraseIdx j))), some (.own (nA (hs ++ [lf[j]]))), some (.val x)], tpO t3 :: R⟩, rfl, ?_, .inl rfl, ⟨t3, _, _, _, rfl, f2, fun y hy => i1 y (List.mem_of_mem_eraseIdx hy), fun y hy => ?_, by rw [List.length_eraseIdx_of_lt f3]; omega, by simp [i4]⟩⟩
      · rw [← nA_erase, ← hsn]
        unfold BT
        generalize nA lf = L at f1 hpa hg ⊢
        generalize nA hs = H at hlen ⊢
        generalize (lf[j] : Int) = z at hg ⊢
        simp -implicitDefEqProofs [f1, hpa, hg, hlen]
      · rcases List.mem_append.mp hy with hy | hy
        · exact i2 y hy
        · rw [List.mem_singleton.mp hy]; exact i1 _ (List.getElem_mem f3))
    ⟨t, _, _, _, rfl, ht, fun x hx => List.mem_range.mp hx, fun x hx => (by cases hx), by simp, rfl⟩
  obtain ⟨g, t3, h3, k3, b3⟩ := s_drawN d k2 3 (by omega) (by omega) R
  have h3 : lvl T (d + 1) "_law_draw" [.ref 0, .int 3] (tpO t2 :: R) = some (.int (g : Nat), tpO t3 :: R) := h3
  have f1 : kFr asR1 (.one 4) BT (lvl T (d + 1)) (some ([.int (many : Nat)], ⟨[some (.val (.ref 0)), some (.val (.int (many : Nat))), some (.own (nA (List.range many))), some (.own (nA [])), none], tpO t :: R⟩)) = some (.nx, ⟨[some (.val (.ref 0)), some (.val (.int (many : Nat))), some (.own (nA lf)), some (.own (nA hs)), y5], tpO t2 :: R⟩) := by
    rw [kFr_1 (by omega)]; exact e2
  have hr := kRg_s (n := many) (a := ⟨[some (.val (.ref 0)), some (.val (.int (many : Nat))), none, none, none], tpO t :: R⟩) (by omega)
  rw [rgA_nA] at hr
  have n0 : nA [] = [] := rfl
  rw [n0] at f1
  have hct : ∀ c : Nat, cutA (nA hs) none (some (c : Int)) = nA (hs.take c) := fun c => by rw [cut_to]; unfold nA; rw [List.map_take]
  have key : ∃ c : Nat, ([.int (many : Nat), .int (many : Nat), .int 1] : List AV)[g]? = some (.int (c : Int)) := by
    rcases (by omega : g = 0 ∨ g = 1 ∨ g = 2) with rfl | rfl | rfl
    · exact ⟨many, rfl⟩
    · exact ⟨many, rfl⟩
    · exact ⟨1, rfl⟩
  obtain ⟨c, hc⟩ := key
  have hc' : atI ([.int (many : Nat), .int (many : Nat), .int 1] : List AV) (g : Int) = some (.int (c : Int)) := by rw [at_nat, hc]
  refine ⟨t3, hs.take c, ?_, k3, fun x hx => q2 x (List.mem_of_mem_take hx)⟩
  have hct := hct c
  rw [l__law_turns, u_turns]
  generalize nA (List.range many) = L at f1 hr
  generalize nA (hs.take c) = K at hct ⊢
  generalize nA hs = H at f1 hct ⊢
  generalize nA lf = L2 at f1
  generalize BT = b at f1
  simp -implicitDefEqProofs [frame, hr, f1, h3, hc', hct]
end
end K17
end
section
set_option maxRecDepth 100000
set_option maxHeartbeats 4000000
namespace K17
open PySem L2 Pyx
open PySem.Spec PyProof.Rows
/-! ### what is asked -/
theorem ne_lst {S : List SObj} {ks : List Nat} : opNe S (.lst (nA ks)) (.lst (nA ks)) = some (.bl false) := by
  have ok : (AV.lst (nA ks)).okD = true := okDs_all fun y hy => sm_okD 0 y (cn_sm 0 y (nA_cn y hy))
  have dp : (AV.lst (nA ks)).dep ≤ 64 := by
    have := deps_all (k := 0) (xs := nA ks) fun x hx => sm_dep 0 x (cn_sm 0 x (nA_cn x hx))
    show (PyData.list (AV.pds (nA ks))).depth ≤ 64
    unfold PyData.depth
    omega
  have eq : (AV.lst (nA ks)).eqb (.lst (nA ks)) = true := PySem.SeqAt.eqv_refl _ (AV.okD_lay _ ok)
  unfold opNe
  rw [if_pos ⟨ok, ok, by omega⟩, eq]
  rfl
theorem nA_sm {ks : List Nat} (h : ks.length ≤ 10000) : sm 1 (.tup (nA ks)) = true := sm_mk (fun y hy => cn_sm 0 y (nA_cn y hy)) (by rw [nA_length]; omega)
def BQ : MS := (sSeq (sIf (mBool (eBin opEq (oVar 8) (oE (eCon (.int 0))))) (sSeq (sAsg 9 (eCall "known" (aCons (eVar 4) (aCons (eVar 5) aNil)))) (sSeq (sAsg 10 (eCall "_law_levels" (aCons (eVar 4) (aCons (eVar 5) aNil)))) (sSeq (sIf (mNot (mTru (oE (eCall "_law_same" (aCons (eVar 9) (aCons (eBi biTuple (osCons (oE (eFrz (fCompR asR1 (aCons (eBi biLen (osCons (oVar 10) osNil)) aNil) [14] (.one 14) (mBool (eBin opIsN (oE (eBin opIx (oVar 10) (oVar 14))) (oE (eCon .non)))) (eVar 14)))) osNil)) aNil)))))) (sSeq (sRet (eCon (.bl false))) sSkip) sSkip) (sSeq (sIf (mAnd (mNot (mTru (oE (eBin opIx (oVar 2) (oE (eCon (.str "revealed"))))))) (mBool (eBin opNe (oE (eFrz (fComp (eVar 9) [14] (.one 14) (mBool (eBin opLt (oVar 14) (oE (eBin opIx (oVar 2) (oE (eCon (.str "many"))))))) (eVar 14)))) (oE (eBin opIx (oVar 2) (oE (eCon (.str "old")))))))) (sSeq (sRet (eCon (.bl false))) sSkip) sSkip) sSkip)))) sSkip) (sSeq (sIf (mBool (eBin opEq (oVar 8) (oE (eCon (.int 1))))) (sSeq (sAsg 10 (eCall "_law_levels" (aCons (eVar 4) (aCons (eVar 7) aNil)))) (sSeq (sAsg 11 (eBi biTuple (osCons (oE (eFrz (fCompR asR1 (aCons (eBi biLen (osCons (oVar 10) osNil)) aNil) [14] (.one 14) (mBool (eBin opIsN (oE (eBin opIx (oVar 10) (oVar 14))) (oE (eCon .non)))) (eVar 14)))) osNil))) (sSeq (sIf (mNot (mTru (oE (eCall "_law_same" (aCons (eCall "known" (aCons (eVar 4) (aCons (eVar 7) aNil))) (aCons (eVar 11) aNil)))))) (sSeq (sRet (eCon (.bl false))) sSkip) sSkip) sSkip))) sSkip) (sSeq (sIf (mBool (eBin opGt (oVar 8) (oE (eCon (.int 1))))) (sSeq (sAsg 12 (eBin opIx (oE (eBin opIx (oVar 2) (oE (eCon (.str "shields"))))) (oE (eBin opSub (oVar 8) (oE (eCon (.int 2))))))) (sSeq (sAsg 13 (eNot (eBin opIx (oE (eBin opIx (oVar 2) (oE (eCon (.str "broken"))))) (oE (eBin opSub (oVar 8) (oE (eCon (.int 2)))))))) (sSeq (sIf (mNot (mTru (oE (eCall "_law_same" (aCons (eCall "is_shield" (aCons (eVar 4) (aCons (eVar 5) (aCons (eVar 12) aNil)))) (aCons (eVar 13) aNil)))))) (sSeq (sRet (eCon (.bl false))) sSkip) sSkip) (sSeq (sIf (mNot (mTru (oE (eCall "_law_same" (aCons (eCall "is_shield" (aCons (eVar 4) (aCons (eVar 7) (aCons (eVar 12) aNil)))) (aCons (eAnd (eVar 13) (eBin opNotIn (oVar 6) (oVar 12))) aNil)))))) (sSeq (sRet (eCon (.bl false))) sSkip) sSkip) sSkip)))) sSkip) sSkip)))
theorem u_asked : b__law_asked = (sSeq (sAsg 4 (eCall "_law_vault_of" (aCons (eVar 1) aNil))) (sSeq (sAsg 5 (eBin opIx (oVar 2) (oE (eCon (.str "held"))))) (sSeq (sAsg 6 (eCall "_law_draw" (aCons (eVar 0) (aCons (eBi biLen (osCons (oE (eBin opIx (oVar 1) (oE (eCon (.int 0))))) osNil)) aNil)))) (sSeq (sAsg 7 (eBin opAdd (oVar 5) (oE (eBi biTuple (osCons (oE (eFrz (fCompR asR1 (aCons (eBi biInt (osCons (oE (eBin opNotIn (oVar 6) (oVar 5))) osNil)) aNil) [8] (.one 8) mTrue (eVar 6)))) osNil))))) (sSeq (sForV (eVar 3) (.one 8) BQ) (sSeq (sRet (eCon (.bl true))) sSkip)))))) := rfl
structure Qy where
  y8 : Option AV
  y9 : Option AV
  y10 : Option AV
  y11 : Option AV
  y12 : Option AV
  y13 : Option AV
def QS (parts : List AV) (vA : AV) (H : List Nat) (one : Nat) (q : Qy) : List (Option Slt) := [some (.val (.ref 0)), some (.val (.ref 4)), some (.val (.ref 7)), some (.val (.lst parts)), some (.val vA), some (.val (.tup (nA H))), some (.val (.int (one : Nat))), some (.val (.tup (nA (moreH H one)))), q.y8.map .val, q.y9.map .val, q.y10.map .val, q.y11.map .val, q.y12.map .val, q.y13.map .val, none]
section
variable {t : Tp} {v0 v : Vt} {ds : List AV} {k d one : Nat} {N : Nt} {parts : List AV} {S : List SObj}
theorem lv_comp {L : List AV} {ρ : List (Option Slt)} {G : Gm} {i j : Nat} {n : Nat} {H : List Nat} (hi : i ≠ j) (hL : LVs L v.sec.length (knb v H)) (hn : noOwn ⟨ρ, S⟩ [j] = true) (hρ : ρ[i]? = some (some (.val (.lst L)))) (hj : j < ρ.length) (hl : v.sec.length ≤ 10000) :
    kFcR asR1 [j] (.one j) (mBool (eBin opIsN (oE (eBin opIx (oVar i) (oVar j))) (oE (eCon .non)))) (eVar j) G (some ([.int (L.length : Int)], ⟨ρ, S⟩)) = some (nA (kns v H), ⟨ρ, S⟩) := by
  have cp := compR_pure (G := G) (ρ := ρ) (S := S) (i := j) (n := v.sec.length) (tst := mBool (eBin opIsN (oE (eBin opIx (oVar i) (oVar j))) (oE (eCon .non)))) (elt := eVar j) (p := pNf (knb v H)) (f := id) hn
    (fun m hm => by
      obtain ⟨x, h1, h2⟩ := hL.2 m hm
      have h1 : atI L (m : Int) = some x := by rw [at_nat, h1]
      have e : pNf (knb v H) (.int (m : Int)) = knb v H m := rfl
      rw [e]
      have g1 : (ρ.set j (some (.val (.int (m : Int)))))[i]? = some (some (.val (.lst L))) := by rw [List.getElem?_set_ne (fun h => hi h.symm)]; exact hρ
      have g2 : (ρ.set j (some (.val (.int (m : Int)))))[j]? = some (some (.val (.int (m : Int)))) := by rw [List.getElem?_set_self hj]
      generalize ρ.set j (some (.val (.int (m : Int)))) = ρ' at g1 g2 ⊢
      simp -implicitDefEqProofs [g1, g2, h1, isLv_isN h2, isLv_res h2])
    (fun m hm _ => by
      have g2 : (ρ.set j (some (.val (.int (m : Int)))))[j]? = some (some (.val (.int (m : Int)))) := by rw [List.getElem?_set_self hj]
      generalize ρ.set j (some (.val (.int (m : Int)))) = ρ' at g2 ⊢
      simp -implicitDefEqProofs [g2]) (by omega)
  have e0 : (rgA 0 v.sec.length).filter (pNf (knb v H)) = nA (kns v H) := by
    rw [rgA_nA]
    unfold nA kns
    rw [List.filter_map]
    congr 1
  rw [List.map_id_fun, id_eq, e0] at cp
  rw [hL.1]
  exact cp
end
end K17
end
section
set_option maxRecDepth 100000
set_option maxHeartbeats 4000000
namespace K17
open PySem L2 Pyx
open PySem.Spec PyProof.Rows
theorem range_lt {p : Nat → Bool} {n0 : Nat} : ∀ m : Nat, ((List.range (n0 + m)).filter fun j => decide (j < n0) && p j) = (List.range n0).filter p
  | 0 => List.filter_congr fun j hj => by rw [decide_eq_true (show j < n0 from List.mem_range.mp hj)]; rfl
  | m + 1 => by
    rw [show n0 + (m + 1) = (n0 + m) + 1 by omega, List.range_succ, List.filter_append, range_lt m]
    have : ([n0 + m].filter fun j => decide (j < n0) && p j) = [] := by
      rw [List.filter_cons_of_neg (by rw [decide_eq_false (by omega)]; simp)]
      rfl
    rw [this, List.append_nil]
section
variable {t : Tp} {v0 v : Vt} {ds : List AV} {k d one : Nat} {N : Nt} {parts : List AV}
theorem NI.oldEq (h : NI v0 v ds k N) (hr : N.rev = false) : (kns v N.H).filter (fun j => decide (j < N.many)) = N.old := by
  rw [h.old, h.many]
  have hle := h.up
  obtain ⟨m, hm⟩ : ∃ m, v.sec.length = v0.sec.length + m := ⟨v.sec.length - v0.sec.length, by omega⟩
  unfold kns
  rw [List.filter_filter, hm, range_lt m]
  apply List.filter_congr
  intro j hj
  rw [Bool.eq_iff_iff, knb_iff, knb_iff]
  exact h.kn hr j (List.mem_range.mp hj)
theorem kns_len (v : Vt) (H : List Nat) : (kns v H).length ≤ v.sec.length := by
  have := List.length_filter_le (knb v H) (List.range v.sec.length)
  rwa [List.length_range] at this
theorem NI.more (h : NI v0 v ds k N) (ho : one < v.sec.length) : ∀ x ∈ moreH N.H one, x < v.sec.length := fun x hx => by
  rcases moreH_mem.mp hx with hx | rfl
  · exact Nat.lt_of_lt_of_le (h.hH x hx) h.up
  · exact ho
theorem turnQ0 (h : NI v0 v ds k N) (hk : k ≤ 800) (q : Qy) (hq : q.y8 = some (.int 0)) :
    ∃ q', BQ (lvl T (d + 3)) ⟨QS parts v.A N.H one q, mS t v ds (nR N)⟩ = some (.nx, ⟨QS parts v.A N.H one q', mS t v ds (nR N)⟩) := by
  have hH : ∀ x ∈ N.H, x < v.sec.length := fun x hx => Nat.lt_of_lt_of_le (h.hH x hx) h.up
  have l1 := h.mi.wf.ok.ls
  have kl := kns_len v N.H
  have h1 := s_known (S := mS t v ds (nR N)) (d := d) h.mi.wf (by omega) hH
  obtain ⟨L, h2, hL⟩ := s_levels (S := mS t v ds (nR N)) (d := d + 1) h.mi.wf (by omega) VV.tup hH
  have lc := lv_comp (v := v) (H := N.H) (L := L) (G := lvl T (d + 3)) (S := mS t v ds (nR N)) (i := 10) (j := 14) (n := 0) (ρ := QS parts v.A N.H one { q with y9 := some (.tup (nA (kns v N.H))), y10 := some (.lst L) }) (by omega) hL rfl rfl (by show 14 < 15; omega) (by omega)
  have hs := s_same (d + 1) (mS t v ds (nR N)) (nA_sm (ks := kns v N.H) (by omega))
  have cp := comp_pure (G := lvl T (d + 3)) (S := mS t v ds (nR N)) (ρ := QS parts v.A N.H one { q with y9 := some (.tup (nA (kns v N.H))), y10 := some (.lst L) }) (i := 14) (xs := nA (kns v N.H)) (v := .tup (nA (kns v N.H))) (tst := (mBool (eBin opLt (oVar 14) (oE (eBin opIx (oVar 2) (oE (eCon (.str "many")))))))) (elt := eVar 14) (p := pNf fun j => decide (j < N.many)) (f := id) (.inr rfl) rfl
    (fun y hy => by
      obtain ⟨j, _, rfl⟩ := List.mem_map.mp hy
      have e : pNf (fun j => decide (j < N.many)) (.int (j : Int)) = decide (j < N.many) := rfl
      rw [e]
      have e2 : decide ((j : Int) < (N.many : Int)) = decide (j < N.many) := decide_eq_decide.mpr (by omega)
      unfold QS
      simp -implicitDefEqProofs [e2])
    (fun y hy _ => by
      obtain ⟨j, _, rfl⟩ := List.mem_map.mp hy
      unfold QS
      simp -implicitDefEqProofs) (by rw [nA_length]; omega)
  have e0 : (nA (kns v N.H)).filter (pNf fun j => decide (j < N.many)) = nA ((kns v N.H).filter fun j => decide (j < N.many)) := by
    unfold nA
    rw [List.filter_map]
    congr 1
  rw [List.map_id_fun, id_eq, e0] at cp
  refine ⟨{ q with y9 := some (.tup (nA (kns v N.H))), y10 := some (.lst L) }, ?_⟩
  have hrA : ∀ S, res S v.A = v.A := fun S => rfl
  obtain ⟨q8, q9, q10, q11, q12, q13⟩ := q
  cases hq
  have hold := h.oldEq
  generalize kns v N.H = ks at *
  unfold QS BQ at *
  simp only [Option.map_some] at lc cp ⊢
  generalize v.A = A at *
  cases hr : N.rev with
  | true =>
    have hdr := dn_rev (N := N)
    rw [hr] at hdr
    have h7 := mS_7 (t := t) (v := v) (ds := ds) (N := N)
    generalize mS t v ds (nR N) = S at *
    simp -implicitDefEqProofs [h1, h2, lc, hs, hrA, h7, hdr, -dn_rev]
  | false =>
    have hdr := dn_rev (N := N)
    rw [hr] at hdr
    have h7 := mS_7 (t := t) (v := v) (ds := ds) (N := N)
    rw [hold hr] at cp
    have hne := fun S => ne_lst (S := S) (ks := N.old)
    generalize mS t v ds (nR N) = S at *
    simp -implicitDefEqProofs [h1, h2, lc, hs, hrA, h7, hdr, cp, hne, -dn_rev]
theorem turnQ1 (h : NI v0 v ds k N) (hk : k ≤ 800) (ho : one < v.sec.length) (q : Qy) (hq : q.y8 = some (.int 1)) :
    ∃ q', BQ (lvl T (d + 3)) ⟨QS parts v.A N.H one q, mS t v ds (nR N)⟩ = some (.nx, ⟨QS parts v.A N.H one q', mS t v ds (nR N)⟩) := by
  have hH := h.more ho
  have l1 := h.mi.wf.ok.ls
  have kl := kns_len v (moreH N.H one)
  have h1 := s_known (S := mS t v ds (nR N)) (d := d) h.mi.wf (by omega) hH
  obtain ⟨L, h2, hL⟩ := s_levels (S := mS t v ds (nR N)) (d := d + 1) h.mi.wf (by omega) VV.tup hH
  have lc := lv_comp (v := v) (H := moreH N.H one) (L := L) (G := lvl T (d + 3)) (S := mS t v ds (nR N)) (i := 10) (j := 14) (n := 0) (ρ := QS parts v.A N.H one { q with y10 := some (.lst L) }) (by omega) hL rfl rfl (by show 14 < 15; omega) (by omega)
  have hs := s_same (d + 1) (mS t v ds (nR N)) (nA_sm (ks := kns v (moreH N.H one)) (by omega))
  refine ⟨{ q with y10 := some (.lst L), y11 := some (.tup (nA (kns v (moreH N.H one)))) }, ?_⟩
  have hrA : ∀ S, res S v.A = v.A := fun S => rfl
  obtain ⟨q8, q9, q10, q11, q12, q13⟩ := q
  cases hq
  generalize kns v (moreH N.H one) = ks at *
  unfold QS BQ at *
  simp only [Option.map_some] at lc ⊢
  generalize v.A = A at *
  generalize mS t v ds (nR N) = S at *
  simp -implicitDefEqProofs [h1, h2, lc, hs, hrA]
theorem turnQ2 (h : NI v0 v ds k N) (hk : k ≤ 800) (q : Qy) (hq : q.y8 = some (.int 2)) :
    ∃ q', BQ (lvl T (d + 3)) ⟨QS parts v.A N.H one q, mS t v ds (nR N)⟩ = some (.nx, ⟨QS parts v.A N.H one q', mS t v ds (nR N)⟩) := by
  have h1 := s_shield (S := mS t v ds (nR N)) (d := d + 1) (H := N.H) h.mi.wf (by omega) (fun x hx => Nat.lt_of_lt_of_le (h.h0 x hx) h.up)
  have h2 := s_shield (S := mS t v ds (nR N)) (d := d + 1) (H := moreH N.H one) h.mi.wf (by omega) (fun x hx => Nat.lt_of_lt_of_le (h.h0 x hx) h.up)
  rw [shd_more, h.sh0] at h2
  rw [h.sh0] at h1
  have hs := fun b => s_same (d + 2) (k := 0) (v := .bl b) (mS t v ds (nR N)) (by unfold sm; rfl)
  refine ⟨{ q with y12 := some (.tup (nA N.s0)), y13 := some (.bl (!N.b0)) }, ?_⟩
  have hrA : ∀ S, res S v.A = v.A := fun S => rfl
  obtain ⟨q8, q9, q10, q11, q12, q13⟩ := q
  cases hq
  have h7 := mS_7 (t := t) (v := v) (ds := ds) (N := N)
  have h5 := mS_5 (t := t) (v := v) (ds := ds) (N := N)
  have hds := dn_shields (N := N)
  unfold QS BQ at *
  simp only [Option.map_some] at *
  generalize v.A = A at *
  generalize mS t v ds (nR N) = S at *
  generalize moreH N.H one = M at *
  cases hb : N.b0 <;> rw [hb] at h1 h2 h5 <;> by_cases e : one ∈ N.s0 <;> simp -implicitDefEqProofs [e] at h2 <;> simp -implicitDefEqProofs at h1 <;> simp -implicitDefEqProofs [h1, h2, hs, hrA, h7, h5, e]
theorem turnQ3 (h : NI v0 v ds k N) (hk : k ≤ 800) (q : Qy) (hq : q.y8 = some (.int 3)) :
    ∃ q', BQ (lvl T (d + 3)) ⟨QS parts v.A N.H one q, mS t v ds (nR N)⟩ = some (.nx, ⟨QS parts v.A N.H one q', mS t v ds (nR N)⟩) := by
  have h1 := s_shield (S := mS t v ds (nR N)) (d := d + 1) (H := N.H) h.mi.wf (by omega) (fun x hx => Nat.lt_of_lt_of_le (h.h1 x hx) h.up)
  have h2 := s_shield (S := mS t v ds (nR N)) (d := d + 1) (H := moreH N.H one) h.mi.wf (by omega) (fun x hx => Nat.lt_of_lt_of_le (h.h1 x hx) h.up)
  rw [shd_more, h.sh1] at h2
  rw [h.sh1] at h1
  have hs := fun b => s_same (d + 2) (k := 0) (v := .bl b) (mS t v ds (nR N)) (by unfold sm; rfl)
  refine ⟨{ q with y12 := some (.tup (nA N.s1)), y13 := some (.bl (!N.b1)) }, ?_⟩
  have hrA : ∀ S, res S v.A = v.A := fun S => rfl
  obtain ⟨q8, q9, q10, q11, q12, q13⟩ := q
  cases hq
  have h7 := mS_7 (t := t) (v := v) (ds := ds) (N := N)
  have h5 := mS_5 (t := t) (v := v) (ds := ds) (N := N)
  have hds := dn_shields (N := N)
  unfold QS BQ at *
  simp only [Option.map_some] at *
  generalize v.A = A at *
  generalize mS t v ds (nR N) = S at *
  generalize moreH N.H one = M at *
  cases hb : N.b1 <;> rw [hb] at h1 h2 h5 <;> by_cases e : one ∈ N.s1 <;> simp -implicitDefEqProofs [e] at h2 <;> simp -implicitDefEqProofs at h1 <;> simp -implicitDefEqProofs [h1, h2, hs, hrA, h7, h5, e]
end
end K17
end
section
set_option maxRecDepth 100000
set_option maxHeartbeats 4000000
namespace K17
open PySem L2 Pyx
open PySem.Spec PyProof.Rows
section
variable {t : Tp} {v0 v : Vt} {ds : List AV} {k d one : Nat} {N : Nt} {parts : List AV}
theorem loopQ (h : NI v0 v ds k N) (hk : k ≤ 800) (ho : one < v.sec.length) : ∀ (ps : List Nat) (q : Qy), (∀ p ∈ ps, p < 4) → ∃ q', loopL (.one 8) (BQ (lvl T (d + 3))) (nA ps) ⟨QS parts v.A N.H one q, mS t v ds (nR N)⟩ = some (.nx, ⟨QS parts v.A N.H one q', mS t v ds (nR N)⟩)
  | [], q, _ => ⟨q, rfl⟩
  | p :: ps, q, hp => by
    have hp0 := hp p List.mem_cons_self
    have key : ∃ q', BQ (lvl T (d + 3)) ⟨QS parts v.A N.H one { q with y8 := some (.int (p : Nat)) }, mS t v ds (nR N)⟩ = some (.nx, ⟨QS parts v.A N.H one q', mS t v ds (nR N)⟩) := by
      rcases (by omega : p = 0 ∨ p = 1 ∨ p = 2 ∨ p = 3) with rfl | rfl | rfl | rfl
      · exact turnQ0 h hk _ rfl
      · exact turnQ1 h hk ho _ rfl
      · exact turnQ2 h hk _ rfl
      · exact turnQ3 h hk _ rfl
    obtain ⟨q1, e1⟩ := key
    obtain ⟨q2, e2⟩ := loopQ h hk ho ps q1 fun x hx => hp x (List.mem_cons_of_mem _ hx)
    refine ⟨q2, ?_⟩
    rw [← e2]
    exact loopL_cons (x := .int (p : Nat)) (a1 := ⟨QS parts v.A N.H one { q with y8 := some (.int (p : Nat)) }, mS t v ds (nR N)⟩) rfl e1
theorem s_asked (ht : t.Ok) (h : NI v0 v ds k N) (hk : k ≤ 800) (hH : N.H.length ≤ 100) (ps : List Nat) (hp : ∀ p ∈ ps, p < 4) :
    ∃ t' : Tp, lvl T (d + 4) "_law_asked" [.ref 0, .ref 4, .ref 7, .lst (nA ps)] (mS t v ds (nR N)) = some (.bl true, mS t' v ds (nR N)) ∧ t'.Ok := by
  have l1 := h.mi.wf.ok.ls
  have h0 := s_vault_of (d := d + 2) (t := t) (v := v) (ds := ds) (R := nR N)
  obtain ⟨one, t1, h1, k1, ho⟩ := s_drawN (d + 2) ht v.sec.length h.hp.pos (by omega) (mR v ds (nR N))
  have h1 : lvl T (d + 3) "_law_draw" [.ref 0, .int (v.sec.length : Int)] (mS t v ds (nR N)) = some (.int (one : Nat), mS t1 v ds (nR N)) := h1
  obtain ⟨q, e1⟩ := loopQ (d := d) (t := t1) (parts := nA ps) (one := one) h hk ho ps ⟨none, none, none, none, none, none⟩ hp
  refine ⟨t1, ?_, k1⟩
  have hlen : (v.sec.map sA).length = v.sec.length := List.length_map _
  rw [← hlen] at h1
  have cp : kFcR asR1 [8] (.one 8) mTrue (eVar 6) (lvl T (d + 3)) (some ([.int (if (!decide (one ∈ N.H)) = true then 1 else 0)], ⟨[some (.val (.ref 0)), some (.val (.ref 4)), some (.val (.ref 7)), some (.val (.lst (nA ps))), some (.val v.A), some (.val (.tup (nA N.H))), some (.val (.int (one : Nat))), none, none, none, none, none, none, none, none], mS t1 v ds (nR N)⟩)) =
      some (if one ∈ N.H then [] else [.int (one : Nat)], ⟨[some (.val (.ref 0)), some (.val (.ref 4)), some (.val (.ref 7)), some (.val (.lst (nA ps))), some (.val v.A), some (.val (.tup (nA N.H))), some (.val (.int (one : Nat))), none, none, none, none, none, none, none, none], mS t1 v ds (nR N)⟩) := by
    have c := fun n : Nat => compR_pure (G := lvl T (d + 3)) (ρ := [some (.val (.ref 0)), some (.val (.ref 4)), some (.val (.ref 7)), some (.val (.lst (nA ps))), some (.val v.A), some (.val (.tup (nA N.H))), some (.val (.int (one : Nat))), none, none, none, none, none, none, none, none]) (S := mS t1 v ds (nR N)) (i := 8) (n := n) (tst := mTrue) (elt := eVar 6) (p := fun _ => true) (f := fun _ => .int (one : Nat)) rfl (fun m _ => rfl) (fun m _ _ => by simp -implicitDefEqProofs)
    by_cases e : one ∈ N.H
    · rw [if_pos e, decide_eq_true e]
      exact c 0 (by omega)
    · rw [if_neg e, decide_eq_false e]
      exact c 1 (by omega)
  have hM : nA N.H ++ (if one ∈ N.H then [] else [.int (one : Nat)]) = nA (moreH N.H one) := by
    unfold moreH
    split
    · exact List.append_nil _
    · exact nA_snoc _ _
  have hl : (nA N.H).length + (if one ∈ N.H then ([] : List AV) else [.int (one : Nat)]).length ≤ 100000 := by
    rw [nA_length]
    split <;> simp <;> omega
  generalize (if one ∈ N.H then ([] : List AV) else [.int (one : Nat)]) = X at *
  rw [l__law_asked, u_asked]
  have h7 := fun t => mS_7 (t := t) (v := v) (ds := ds) (N := N)
  have h41 := fun t => mS_1 (t := t) (v := v) (ds := ds) (R := nR N)
  have h44 := fun t => mS_4 (t := t) (v := v) (ds := ds) (R := nR N)
  have hrA : ∀ S, res S v.A = v.A := fun S => rfl
  have hnot := notIn_tN (S := mS t1 v ds (nR N)) (x := one) (hs := N.H)
  have h7a := h7 t
  have h7b := h7 t1
  have h41a := h41 t
  have h44a := h44 t
  unfold QS at e1
  simp only [Option.map_none] at e1
  generalize BQ = bq at *
  generalize nA (moreH N.H one) = M at *
  generalize nA ps = P at *
  generalize v.A = A at *
  clear h7 h41 h44
  have hd := dn_held (N := N)
  generalize nA N.H = HH at *
  generalize v.sec.map sA = L at *
  generalize nD N = D at *
  generalize mS t1 v ds (nR N) = S1 at *
  generalize mS t v ds (nR N) = S at *
  generalize (!decide (one ∈ N.H)) = b at hnot cp
  simp -implicitDefEqProofs [frame, h0, h7a, hd, h41a, h44a, h1, hnot, cp, hM, hl, hrA, e1]
end
end K17
end
section
set_option maxRecDepth 100000
set_option maxHeartbeats 4000000
namespace K17
open PySem L2 Pyx
open PySem.Spec PyProof.Rows
def lWords : List AV := [.str "generate", .str "plain", .str "agree", .str "derive", .str "mix", .str "draw", .str "sign", .str "tag", .str "seal"]
theorem lWords_ok : ∀ x ∈ lWords, ∃ w, x = .str w ∧ w ∈ words := by
  intro x hx
  simp only [lWords, List.mem_cons, List.not_mem_nil, or_false] at hx
  rcases hx with rfl | rfl | rfl | rfl | rfl | rfl | rfl | rfl | rfl <;> exact ⟨_, rfl, by simp [words]⟩
def BW1 : MS := (sIf (mBool (eBin opLt (oVar 14) (oE (eCon (.int 2))))) (sSeq (sAsg 15 (eCall "_law_plain_deed" (aCons (eVar 1) (aCons (eVar 2) (aCons (eVar 10) (aCons (eVar 8) (aCons (eCon (.str "wrap")) aNil))))))) sSkip) (sSeq (sIf (mBool (eBin opEq (oVar 14) (oE (eCon (.int 2))))) (sSeq (sAsg 15 (eCall "_law_issued" (aCons (eVar 1) (aCons (eVar 2) (aCons (eVar 10) aNil))))) sSkip) (sSeq (sIf (mBool (eBin opEq (oVar 14) (oE (eCon (.int 3))))) (sSeq (sAsg 15 (eCall "_law_ring_deed" (aCons (eVar 1) (aCons (eVar 2) (aCons (eVar 10) (aCons (eVar 8) aNil)))))) sSkip) (sSeq (sAsg 15 (eCall "_law_plain_deed" (aCons (eVar 1) (aCons (eVar 2) (aCons (eVar 10) (aCons (eVar 8) (aCons (eCall "_law_pick" (aCons (eVar 1) (aCons (eVar 11) aNil))) aNil))))))) sSkip)) sSkip)) sSkip))
def BW2 : MS := (sIf (mOr (mNot (mTru (oVar 15))) (mAnd (mBool (eBin opEq (oVar 13) (oVar 12))) (mNot (mTru (oE (eCall "_law_asked" (aCons (eVar 1) (aCons (eVar 2) (aCons (eVar 8) (aCons (eCall "_law_turns" (aCons (eVar 1) (aCons (eCon (.int 4)) aNil))) aNil)))))))))) (sSeq (sRet (eCon (.bl false))) sSkip) sSkip)
def BW : MS := (sSeq (sAsg 14 (eCall "_law_draw" (aCons (eVar 1) (aCons (eCon (.int 6)) aNil)))) (sSeq BW1 (sSeq BW2 (sSeq (sAsg 10 (eCall "_law_vault_of" (aCons (eVar 2) aNil))) sSkip))))
/-- the slots of the law's loop -/
structure Lw where
  y0 : Option Slt
  y3 : Option Slt
  y4 : Option Slt
  y5 : Option Slt
  y6 : Option Slt
  y7 : Option Slt
  y9 : Option Slt
  mo : Nat
def LW (l : Lw) (vA : AV) (y13 y14 y15 : Option AV) : List (Option Slt) := [l.y0, some (.val (.ref 0)), some (.val (.ref 4)), l.y3, l.y4, l.y5, l.y6, l.y7, some (.val (.ref 7)), l.y9, some (.val vA), some (.val (.lst lWords)), some (.val (.int (l.mo : Nat))), y13.map .val, y14.map .val, y15.map .val]
/-- the notes stay the same in these -/
def Same (N N' : Nt) : Prop := N'.H = N.H ∧ N'.s0 = N.s0 ∧ N'.s1 = N.s1 ∧ N'.old = N.old
section
variable {t : Tp} {v0 v : Vt} {ds : List AV} {k d : Nat} {N : Nt} {l : Lw} {vA : AV}
theorem turnW1 (ht : t.Ok) (h : NI v0 v ds k N) (hk : k ≤ 800) (c : Nat) (y13 y15 : Option AV) :
    ∃ (t' : Tp) (v' : Vt) (ds' : List AV) (N' : Nt), BW1 (lvl T (d + 14)) ⟨LW l v.A y13 (some (.int (c : Nat))) y15, mS t v ds (nR N)⟩ = some (.nx, ⟨LW l v.A y13 (some (.int (c : Nat))) (some (.bl true)), mS t' v' ds' (nR N')⟩) ∧ t'.Ok ∧ NI v0 v' ds' (k + 1) N' ∧ Same N N' := by
  have hrA : ∀ S, res S v.A = v.A := fun S => rfl
  by_cases c2 : c < 2
  · obtain ⟨t1, v1, ds1, N1, h1, k1, n1, q⟩ := s_plain_deed (d := d + 1) ht h hk (w := "wrap") (by simp [words])
    refine ⟨t1, v1, ds1, N1, ?_, k1, n1, q⟩
    have c2' : (c : Int) < 2 := by omega
    unfold LW BW1
    generalize mS t1 v1 ds1 (nR N1) = S1 at *
    generalize mS t v ds (nR N) = S at *
    generalize v.A = A at *
    generalize lWords = lw
    simp -implicitDefEqProofs [c2', h1, hrA]
  · have c2' : ¬ (c : Int) < 2 := by omega
    by_cases c3 : c = 2
    · subst c3
      obtain ⟨t1, v1, ds1, N1, h1, k1, n1, q⟩ := s_issued (d := d + 1) ht h hk
      refine ⟨t1, v1, ds1, N1, ?_, k1, n1, q⟩
      unfold LW BW1
      generalize mS t1 v1 ds1 (nR N1) = S1 at *
      generalize mS t v ds (nR N) = S at *
      generalize v.A = A at *
      generalize lWords = lw
      simp -implicitDefEqProofs [h1, hrA]
    · have c3' : ¬ (c : Int) = 2 := by omega
      by_cases c4 : c = 3
      · subst c4
        obtain ⟨t1, v1, ds1, N1, h1, k1, n1, q⟩ := s_ring_deed (d := d + 1) ht h hk
        refine ⟨t1, v1, ds1, N1, ?_, k1, n1, q⟩
        unfold LW BW1
        generalize mS t1 v1 ds1 (nR N1) = S1 at *
        generalize mS t v ds (nR N) = S at *
        generalize v.A = A at *
        generalize lWords = lw
        simp -implicitDefEqProofs [h1, hrA]
      · have c4' : ¬ (c : Int) = 3 := by omega
        obtain ⟨x, t1, h1, k1, hx⟩ := s_pick (d + 12) ht (xs := lWords) (by simp [lWords]) (by simp [lWords]) (mR v ds (nR N))
        obtain ⟨w, rfl, hw⟩ := lWords_ok x hx
        have h1 : lvl T (d + 14) "_law_pick" [.ref 0, .lst lWords] (mS t v ds (nR N)) = some (.str w, mS t1 v ds (nR N)) := h1
        obtain ⟨t2, v2, ds2, N2, h2, k2, n2, q⟩ := s_plain_deed (d := d + 1) k1 h hk hw
        refine ⟨t2, v2, ds2, N2, ?_, k2, n2, q⟩
        unfold LW BW1
        generalize mS t2 v2 ds2 (nR N2) = S2 at *
        generalize mS t1 v ds (nR N) = S1 at *
        generalize mS t v ds (nR N) = S at *
        generalize v.A = A at *
        generalize lWords = lw at *
        simp -implicitDefEqProofs [c2', c3', c4', h1, h2, hrA]
theorem turnW2 (ht : t.Ok) (h : NI v0 v ds k N) (hk : k ≤ 800) (hH : N.H.length ≤ 100) (m : Nat) (y14 : Option AV) :
    ∃ t' : Tp, BW2 (lvl T (d + 14)) ⟨LW l vA (some (.int (m : Nat))) y14 (some (.bl true)), mS t v ds (nR N)⟩ = some (.nx, ⟨LW l vA (some (.int (m : Nat))) y14 (some (.bl true)), mS t' v ds (nR N)⟩) ∧ t'.Ok := by
  by_cases e : m = l.mo
  · obtain ⟨t1, hs, h1, k1, b1⟩ := s_turns (R := mR v ds (nR N)) (d + 12) ht 4 (by omega)
    have h1 : lvl T (d + 14) "_law_turns" [.ref 0, .int 4] (mS t v ds (nR N)) = some (.lst (nA hs), mS t1 v ds (nR N)) := h1
    obtain ⟨t2, h2, k2⟩ := s_asked (d := d + 10) k1 h hk hH hs b1
    refine ⟨t2, ?_, k2⟩
    have e' : (m : Int) = (l.mo : Int) := by omega
    unfold LW BW2
    generalize mS t2 v ds (nR N) = S2 at *
    generalize mS t1 v ds (nR N) = S1 at *
    generalize mS t v ds (nR N) = S at *
    generalize lWords = lw at *
    generalize nA hs = P at *
    simp -implicitDefEqProofs [e, h1, h2]
  · refine ⟨t, ?_, ht⟩
    have e' : ¬ (m : Int) = (l.mo : Int) := by omega
    unfold LW BW2
    generalize mS t v ds (nR N) = S at *
    generalize lWords = lw at *
    simp -implicitDefEqProofs [e']
theorem turnBW (ht : t.Ok) (h : NI v0 v ds k N) (hk : k ≤ 700) (hH : N.H.length ≤ 100) (m : Nat) (y14 y15 : Option AV) :
    ∃ (t' : Tp) (v' : Vt) (ds' : List AV) (N' : Nt) (z14 z15 : Option AV), BW (lvl T (d + 14)) ⟨LW l v.A (some (.int (m : Nat))) y14 y15, mS t v ds (nR N)⟩ = some (.nx, ⟨LW l v'.A (some (.int (m : Nat))) z14 z15, mS t' v' ds' (nR N')⟩) ∧ t'.Ok ∧ NI v0 v' ds' (k + 1) N' ∧ Same N N' := by
  obtain ⟨c, t1, h1, k1, _⟩ := s_drawN (d + 13) ht 6 (by omega) (by omega) (mR v ds (nR N))
  have h1 : lvl T (d + 14) "_law_draw" [.ref 0, .int 6] (mS t v ds (nR N)) = some (.int (c : Nat), mS t1 v ds (nR N)) := h1
  obtain ⟨t2, v2, ds2, N2, h2, k2, n2, q⟩ := turnW1 (d := d) (l := l) k1 h (by omega) c (some (.int (m : Nat))) y15
  obtain ⟨t3, h3, k3⟩ := turnW2 (d := d) (l := l) (vA := v.A) k2 n2 (by omega) (by rw [q.1]; exact hH) m (some (.int (c : Nat)))
  have h4 := s_vault_of (d := d + 13) (t := t3) (v := v2) (ds := ds2) (R := nR N2)
  refine ⟨t3, v2, ds2, N2, some (.int (c : Nat)), some (.bl true), ?_, k3, n2, q⟩
  unfold LW BW at *
  generalize BW1 = b1 at *
  generalize BW2 = b2 at *
  generalize mS t3 v2 ds2 (nR N2) = S3 at *
  generalize mS t2 v2 ds2 (nR N2) = S2 at *
  generalize mS t1 v ds (nR N) = S1 at *
  generalize mS t v ds (nR N) = S at *
  generalize v2.A = A2 at *
  generalize v.A = A at *
  generalize lWords = lw at *
  simp only [Option.map_some] at h2 h3 ⊢
  simp -implicitDefEqProofs [h1, h2, h3, h4]
theorem loopBW : ∀ (ks : List Nat) (t : Tp) (v : Vt) (ds : List AV) (k : Nat) (N : Nt) (y13 y14 y15 : Option AV), t.Ok → NI v0 v ds k N → k + ks.length ≤ 700 → N.H.length ≤ 100 →
    ∃ (t' : Tp) (v' : Vt) (ds' : List AV) (N' : Nt) (z13 z14 z15 : Option AV), loopL (.one 13) (BW (lvl T (d + 14))) (nA ks) ⟨LW l v.A y13 y14 y15, mS t v ds (nR N)⟩ = some (.nx, ⟨LW l v'.A z13 z14 z15, mS t' v' ds' (nR N')⟩) ∧ t'.Ok ∧ NI v0 v' ds' (k + ks.length) N' ∧ Same N N'
  | [], t, v, ds, k, N, y13, y14, y15, ht, h, _, _ => ⟨t, v, ds, N, y13, y14, y15, rfl, ht, h, rfl, rfl, rfl, rfl⟩
  | m :: ks, t, v, ds, k, N, y13, y14, y15, ht, h, hk, hH => by
    rw [List.length_cons] at hk
    obtain ⟨t1, v1, ds1, N1, z14, z15, e1, k1, n1, q1⟩ := turnBW (d := d) (l := l) ht h (by omega) hH m y14 y15
    obtain ⟨t2, v2, ds2, N2, w13, w14, w15, e2, k2, n2, q2⟩ := loopBW ks t1 v1 ds1 (k + 1) N1 (some (.int (m : Nat))) z14 z15 k1 n1 (by omega) (by rw [q1.1]; exact hH)
    refine ⟨t2, v2, ds2, N2, w13, w14, w15, ?_, k2, by rw [List.length_cons, show k + (ks.length + 1) = k + 1 + ks.length by omega]; exact n2, q2.1.trans q1.1, q2.2.1.trans q1.2.1, q2.2.2.1.trans q1.2.2.1, q2.2.2.2.trans q1.2.2.2⟩
    rw [← e2]
    exact loopL_cons (x := .int (m : Nat)) (a1 := ⟨LW l v.A (some (.int (m : Nat))) y14 y15, mS t v ds (nR N)⟩) rfl e1
end
end K17
end
section
set_option maxRecDepth 100000
set_option maxHeartbeats 4000000
namespace K17
open PySem L2 Pyx
open PySem.Spec PyProof.Rows
theorem s_tape (d : Nat) (ns : List Int) : ∃ t : Tp, lvl T (d + 1) "_law_tape" [.lst (ns.map .int)] [] = some (.ref 0, [tpO t]) ∧ t.Ok := by
  obtain ⟨a', e1, x, x2, ea⟩ := loopL_inv (tg := .one 2) (body := (sSeq (sAsg 1 (eBin opMod (oE (eBi biInt (osCons (oE (eBin opAdd (oE (eBin opMul (oVar 1) (oE (eCon (.int 31))))) (oE (eBi biAbs (osCons (oE (eBi biInt (osCons (oVar 2) osNil))) osNil))))) osNil))) (oE (eCon (.int 2147483647))))) sSkip) (lvl T d)) (fun _ a => ∃ (x : Int) (x2 : Option Slt), a = ⟨[some (.val (.lst (ns.map .int))), some (.val (.int x)), x2], []⟩) (xs := ns.map .int) (n := 0) (a := ⟨[some (.val (.lst (ns.map .int))), some (.val (.int 7)), none], []⟩)
    (fun k y a hk ⟨x, x2, ea⟩ => by
      obtain ⟨n, _, rfl⟩ := List.mem_map.mp (List.mem_of_getElem? hk)
      subst ea
      refine ⟨_, .nx, ⟨[some (.val (.lst (ns.map .int))), some (.val (.int ((x * 31 + (if n < 0 then -n else n)) % 2147483647))), some (.val (.int n))], []⟩, rfl, ?_, .inl rfl, ⟨_, _, rfl⟩⟩
      simp -implicitDefEqProofs [opMul_i, opMod_i]) ⟨7, none, rfl⟩
  subst ea
  refine ⟨⟨ns, 0, 0, x⟩, ?_, ⟨by simp, by simp⟩⟩
  rw [l__law_tape]
  simp -implicitDefEqProofs [b__law_tape, frame, e1, tpO]
noncomputable def uns (v : Vt) (H : List Nat) : List Nat := (List.range v.sec.length).filter fun j => !knb v H j
theorem uns_mem {v : Vt} {H : List Nat} {k : Nat} : k ∈ uns v H ↔ k < v.sec.length ∧ ¬ Kn v H k := by
  unfold uns
  rw [List.mem_filter, List.mem_range, ← knb_iff]
  cases knb v H k <;> simp
section
variable {S : List SObj} {v : Vt}
theorem un_comp {L : List AV} {ρ : List (Option Slt)} {G : Gm} {i j : Nat} {H : List Nat} (hi : i ≠ j) (hL : LVs L v.sec.length (knb v H)) (hn : noOwn ⟨ρ, S⟩ [j] = true) (hρ : ρ[i]? = some (some (.val (.lst L)))) (hj : j < ρ.length) (hl : v.sec.length ≤ 10000) :
    kFcR asR1 [j] (.one j) (mBool (eBin opIs (oE (eBin opIx (oVar i) (oVar j))) (oE (eCon .non)))) (eVar j) G (some ([.int (L.length : Int)], ⟨ρ, S⟩)) = some (nA (uns v H), ⟨ρ, S⟩) := by
  have cp := compR_pure (G := G) (ρ := ρ) (S := S) (i := j) (n := v.sec.length) (tst := mBool (eBin opIs (oE (eBin opIx (oVar i) (oVar j))) (oE (eCon .non)))) (elt := eVar j) (p := pNf fun j => !knb v H j) (f := id) hn
    (fun m hm => by
      obtain ⟨x, h1, h2⟩ := hL.2 m hm
      have h1 : atI L (m : Int) = some x := by rw [at_nat, h1]
      have e : pNf (fun j => !knb v H j) (.int (m : Int)) = !knb v H m := rfl
      rw [e]
      have g1 : (ρ.set j (some (.val (.int (m : Int)))))[i]? = some (some (.val (.lst L))) := by rw [List.getElem?_set_ne (fun h => hi h.symm)]; exact hρ
      have g2 : (ρ.set j (some (.val (.int (m : Int)))))[j]? = some (some (.val (.int (m : Int)))) := by rw [List.getElem?_set_self hj]
      generalize ρ.set j (some (.val (.int (m : Int)))) = ρ' at g1 g2 ⊢
      simp -implicitDefEqProofs [g1, g2, h1, isLv_is h2, isLv_res h2])
    (fun m hm _ => by
      have g2 : (ρ.set j (some (.val (.int (m : Int)))))[j]? = some (some (.val (.int (m : Int)))) := by rw [List.getElem?_set_self hj]
      generalize ρ.set j (some (.val (.int (m : Int)))) = ρ' at g2 ⊢
      simp -implicitDefEqProofs [g2]) (by omega)
  have e0 : (rgA 0 v.sec.length).filter (pNf fun j => !knb v H j) = nA (uns v H) := by
    rw [rgA_nA]
    unfold nA uns
    rw [List.filter_map]
    congr 1
  rw [List.map_id_fun, id_eq, e0] at cp
  rw [hL.1]
  exact cp
end
/-- sorted, each once -/
theorem ss_nA {a : AS} {ms : List Nat} (h : ms.length < 64) : ∃ fs : List Nat, kSS a (some (.lst (nA ms))) = some (nA fs, a) ∧ (∀ k ∈ fs, k ∈ ms) := by
  have e : nA ms = (ms.map fun (k : Nat) => (k : Int)).map AV.int := by
    unfold nA
    rw [List.map_map]
    rfl
  refine ⟨(ssI (ms.map fun (k : Nat) => (k : Int))).map Int.toNat, ?_, fun k hk => ?_⟩
  · rw [e, kSS_s (by rw [List.length_map]; exact h)]
    congr 2
    unfold nA
    rw [List.map_map]
    apply List.map_congr_left
    intro i hi
    obtain ⟨j, _, rfl⟩ := List.mem_map.mp ((ssI_mem _).mp hi)
    rfl
  · obtain ⟨i, hi, rfl⟩ := List.mem_map.mp hk
    obtain ⟨j, hj, rfl⟩ := List.mem_map.mp ((ssI_mem _).mp hi)
    exact hj
def FW : MS := (sIf (mBool (eBin opGt (oE (eBi biLen (osCons (oVar 6) osNil))) (oE (eCon (.int 0))))) (sSeq (sAsg 7 (eBi biTuple (osCons (oE (eFrz (fSS (oE (eCall "_law_grown" (aCons (eVar 1) (aCons (eVar 2) (aCons (eCall "_law_pick" (aCons (eVar 1) (aCons (eVar 6) aNil))) aNil)))))))) osNil))) (sSeq (sIf (mNot (mTru (oE (eCall "_law_bars" (aCons (eVar 2) (aCons (eVar 4) (aCons (eVar 7) aNil))))))) (sSeq (sAsg 7 (eTup aNil)) sSkip) sSkip) sSkip)) sSkip)
def TL : MS := (sSeq (sAsg 8 (eDic ["held", "many", "revealed", "broken", "rings"] (aCons (eVar 4) (aCons (eBi biLen (osCons (oVar 5) osNil)) (aCons (eCon (.bl false)) (aCons (eLay (fLst (aCons (eCon (.bl false)) (aCons (eCon (.bl false)) aNil)))) (aCons (eLay (fLst aNil)) aNil))))))) (sSeq (sSet (oVar 8) (eCon (.str "old")) (eFrz (fCompR asR1 (aCons (eBi biLen (osCons (oVar 5) osNil)) aNil) [13] (.one 13) (mBool (eBin opIsN (oE (eBin opIx (oVar 5) (oVar 13))) (oE (eCon .non)))) (eVar 13)))) (sSeq (sSet (oVar 8) (eCon (.str "shields")) (eFrz (fLst (aCons (eBi biTuple (osCons (oVar 6) osNil)) (aCons (eVar 7) aNil))))) (sSeq (sAsg 9 (eCall "_law_vault_of" (aCons (eVar 2) aNil))) (sSeq (sAsg 10 (eVar 9)) (sSeq (sAsg 11 (eFrz (fLst (aCons (eCon (.str "generate")) (aCons (eCon (.str "plain")) (aCons (eCon (.str "agree")) (aCons (eCon (.str "derive")) (aCons (eCon (.str "mix")) (aCons (eCon (.str "draw")) (aCons (eCon (.str "sign")) (aCons (eCon (.str "tag")) (aCons (eCon (.str "seal")) aNil)))))))))))) (sSeq (sAsg 12 (eCall "_law_draw" (aCons (eVar 1) (aCons (eCon (.int 18)) aNil)))) (sSeq (sForR asR1 (aCons (eBin opAdd (oE (eCon (.int 6))) (oE (eCall "_law_draw" (aCons (eVar 1) (aCons (eCon (.int 7)) aNil))))) aNil) (.one 13) BW) (sSeq (sIf (mNot (mTru (oE (eCall "_law_asked" (aCons (eVar 1) (aCons (eVar 2) (aCons (eVar 8) (aCons (eCall "_law_turns" (aCons (eVar 1) (aCons (eCon (.int 4)) aNil))) aNil)))))))) (sSeq (sRet (eCon (.bl false))) sSkip) sSkip) (sSeq (sRet (eAnd (eCall "_law_same" (aCons (eCall "known" (aCons (eVar 9) (aCons (eVar 4) aNil))) (aCons (eBi biTuple (osCons (oE (eBin opIx (oVar 8) (oE (eCon (.str "old"))))) osNil)) aNil))) (eCall "_law_same" (aCons (eCall "is_shield" (aCons (eVar 9) (aCons (eVar 4) (aCons (eBin opIx (oE (eBin opIx (oVar 8) (oE (eCon (.str "shields"))))) (oE (eCon (.int 0)))) aNil)))) (aCons (eCon (.bl true)) aNil))))) sSkip))))))))))
theorem u_law : b_law = (sSeq (sAsg 1 (eCall "_law_tape" (aCons (eVar 0) aNil))) (sSeq (sUnp [2, 3] (eCall "_law_web" (aCons (eVar 1) aNil))) (sSeq (sAsg 4 (eBin opIx (oE (eCall "_law_holders" (aCons (eVar 1) (aCons (eBi biLen (osCons (oE (eBin opIx (oVar 2) (oE (eCon (.int 0))))) osNil)) (aCons (eVar 3) aNil))))) (oE (eCon (.int 0))))) (sSeq (sAsg 5 (eCall "_law_levels" (aCons (eVar 2) (aCons (eVar 4) aNil)))) (sSeq (sAsg 6 (eFrz (fCompR asR1 (aCons (eBi biLen (osCons (oVar 5) osNil)) aNil) [13] (.one 13) (mBool (eBin opIs (oE (eBin opIx (oVar 5) (oVar 13))) (oE (eCon .non)))) (eVar 13)))) (sSeq (sAsg 7 (eTup aNil)) (sSeq FW TL))))))) := rfl
section
variable {t : Tp} {v : Vt} {ds : List AV} {d : Nat} {H un few : List Nat}
/-- the slots ahead of the notes -/
def FS (sc : AV) (start : Nat) (H : List Nat) (L : List AV) (un few : List Nat) : List (Option Slt) := [some (.val sc), some (.val (.ref 0)), some (.val (.ref 4)), some (.val (.int (start : Nat))), some (.val (.tup (nA H))), some (.val (.lst L)), some (.val (.lst (nA un))), some (.val (.tup (nA few))), none, none, none, none, none, none, none, none]
theorem s_few {sc : AV} {start : Nat} {L : List AV} (ht : t.Ok) (hm : MI v ds 40) (hu : ∀ k ∈ un, k < v.sec.length) (hul : un.length ≤ 40) :
    ∃ (t' : Tp) (few : List Nat), FW (lvl T (d + 14)) ⟨FS sc start H L un [], mS t v ds []⟩ = some (.nx, ⟨FS sc start H L un few, mS t' v ds []⟩) ∧ t'.Ok ∧ (∀ k ∈ few, k < v.sec.length) ∧ shd v H few = true := by
  have n0 : nA [] = [] := rfl
  have l1 := hm.wf.ok.ls
  by_cases hz : un = []
  · subst hz
    refine ⟨t, [], ?_, ht, fun k hk => (by cases hk), shd_nil⟩
    unfold FS FW
    rw [n0]
    generalize mS t v ds [] = S
    simp -implicitDefEqProofs
  · have hne : nA un ≠ [] := fun e => hz (List.map_eq_nil_iff.mp e)
    obtain ⟨x, t1, h1, k1, hx⟩ := s_pick (d + 12) ht hne (by rw [nA_length]; omega) (mR v ds [])
    obtain ⟨one, ho, rfl⟩ := List.mem_map.mp hx
    have h1 : lvl T (d + 14) "_law_pick" [.ref 0, .lst (nA un)] (mS t v ds []) = some (.int (one : Nat), mS t1 v ds []) := h1
    obtain ⟨t2, ms, h2, k2, b2, g2⟩ := s_grown (d := d + 11) k1 (fun t => VV.mS (t := t) (v := v) (ds := ds) (R := [])) hm.wf (by omega) (hu one ho)
    have hp : 0 < (nA un).length := List.length_pos_iff.mpr hne
    obtain ⟨fs, h3, hfs⟩ := ss_nA (a := ⟨FS sc start H L un [], mS t2 v ds []⟩) (ms := ms) (by omega)
    have hfl : ∀ k ∈ fs, k < v.sec.length := fun k hk => b2 k (hfs k hk)
    have h4 := s_bars (d := d + 13) (H := H) (S := mS t2 v ds []) hm.wf VV.mS hfl
    cases hb : shd v H fs with
    | true =>
      refine ⟨t2, fs, ?_, k2, hfl, hb⟩
      rw [hb] at h4
      unfold FS FW at *
      rw [n0] at *
      generalize nA un = U at *
      generalize nA fs = F at *
      generalize nA ms = M at *
      generalize mS t2 v ds [] = S2 at *
      generalize mS t1 v ds [] = S1 at *
      generalize mS t v ds [] = S at *
      simp -implicitDefEqProofs [hp, h1, h2, h3, h4]
    | false =>
      refine ⟨t2, [], ?_, k2, fun k hk => (by cases hk), shd_nil⟩
      rw [hb] at h4
      unfold FS FW at *
      rw [n0] at *
      generalize nA un = U at *
      generalize nA fs = F at *
      generalize nA ms = M at *
      generalize mS t2 v ds [] = S2 at *
      generalize mS t1 v ds [] = S1 at *
      generalize mS t v ds [] = S at *
      simp -implicitDefEqProofs [hp, h1, h2, h3, h4]
end
end K17
end
section
set_option maxRecDepth 100000
set_option maxHeartbeats 4000000
namespace K17
open PySem L2 Pyx
open PySem.Spec PyProof.Rows
section
variable {t : Tp} {v : Vt} {ds : List AV} {d : Nat} {H un few : List Nat}
theorem mS_len {R : List SObj} : (mS t v ds R).length = R.length + 5 := rfl
theorem mS_app {R X : List SObj} : mS t v ds R ++ X = mS t v ds (R ++ X) := rfl
theorem mS_d0 {a b : SObj} {x : SObj} : (mS t v ds [a, b, x])[7]? = some x := rfl
theorem mS_ds {a b : SObj} {x y : SObj} : (mS t v ds [a, b, x]).set 7 y = mS t v ds [a, b, y] := rfl
theorem put_old {a b c e f x : AV} : dPut [(("held" : Str), a), (("many" : Str), b), (("revealed" : Str), c), (("broken" : Str), e), (("rings" : Str), f)] "old" x = [(("held" : Str), a), (("many" : Str), b), (("revealed" : Str), c), (("broken" : Str), e), (("rings" : Str), f), (("old" : Str), x)] := rfl
theorem put_shields {a b c e f x y : AV} : dPut [(("held" : Str), a), (("many" : Str), b), (("revealed" : Str), c), (("broken" : Str), e), (("rings" : Str), f), (("old" : Str), x)] "shields" y = [(("held" : Str), a), (("many" : Str), b), (("revealed" : Str), c), (("broken" : Str), e), (("rings" : Str), f), (("old" : Str), x), (("shields" : Str), y)] := rfl
theorem s_tail {sc : AV} {start : Nat} {L : List AV} (ht : t.Ok) (hm : MI v ds 40) (hp : HasP v) (hH : ∀ k ∈ H, k < v.sec.length) (hHl : H.length ≤ 100) (hL : LVs L v.sec.length (knb v H)) (hun : un = uns v H) (hf : ∀ k ∈ few, k < v.sec.length) (hs : shd v H few = true) :
    ∃ S', kOut (TL (lvl T (d + 14)) ⟨FS sc start H L un few, mS t v ds []⟩) = some (.bl true, S') := by
  have l1 := hm.wf.ok.ls
  let N0 : Nt := ⟨H, v.sec.length, false, false, false, [], kns v H, un, few⟩
  have hsu : shd v H un = true := shd_unknown hm.wf fun k => by rw [hun]; exact uns_mem
  have I0 : NI v v ds 40 N0 := ⟨hm, hp, Nat.le_refl _, hH, fun j hj => (uns_mem.mp (by rw [← hun]; exact hj)).1, hf, rfl, rfl, hsu, hs, fun _ i _ => Iff.rfl, fun r hr => (by cases hr), Nat.zero_le _⟩
  obtain ⟨mo, t1, h1, k1, _⟩ := s_drawN (d + 13) ht 18 (by omega) (by omega) (mR v ds (nR N0))
  obtain ⟨g, t2, h2, k2, hg⟩ := s_drawN (d + 13) k1 7 (by omega) (by omega) (mR v ds (nR N0))
  have h1 : lvl T (d + 14) "_law_draw" [.ref 0, .int 18] (mS t v ds (nR N0)) = some (.int (mo : Nat), mS t1 v ds (nR N0)) := h1
  have h2 : lvl T (d + 14) "_law_draw" [.ref 0, .int 7] (mS t1 v ds (nR N0)) = some (.int (g : Nat), mS t2 v ds (nR N0)) := h2
  obtain ⟨t3, v3, ds3, N3, z13, z14, z15, e3, k3, n3, q3⟩ := loopBW (d := d) (v0 := v) (l := ⟨some (.val sc), some (.val (.int (start : Nat))), some (.val (.tup (nA H))), some (.val (.lst L)), some (.val (.lst (nA un))), some (.val (.tup (nA few))), some (.val v.A), mo⟩) (List.range (6 + g)) t2 v ds 40 N0 none none none k2 I0 (by rw [List.length_range]; omega) hHl
  rw [List.length_range] at n3
  have hH3 : N3.H.length ≤ 100 := by rw [q3.1]; exact hHl
  obtain ⟨t4, hs4, h4, k4, b4⟩ := s_turns (R := mR v3 ds3 (nR N3)) (d + 12) k3 4 (by omega)
  have h4 : lvl T (d + 14) "_law_turns" [.ref 0, .int 4] (mS t3 v3 ds3 (nR N3)) = some (.lst (nA hs4), mS t4 v3 ds3 (nR N3)) := h4
  obtain ⟨t5, h5, k5⟩ := s_asked (d := d + 10) k4 n3 (by omega) hH3 hs4 b4
  have kl := kns_len v H
  have h6 := s_known (S := mS t5 v3 ds3 (nR N3)) (d := d + 11) hm.wf (by omega) hH
  have h7 := s_same (d + 12) (mS t5 v3 ds3 (nR N3)) (nA_sm (ks := kns v H) (by omega))
  have h8 := s_shield (S := mS t5 v3 ds3 (nR N3)) (d := d + 12) (H := H) (ss := un) hm.wf (by omega) I0.h0
  rw [hsu] at h8
  have h9 := s_same (d + 13) (k := 0) (v := .bl true) (mS t5 v3 ds3 (nR N3)) (by unfold sm; rfl)
  have hv := s_vault_of (d := d + 13) (t := t) (v := v) (ds := ds) (R := nR N0)
  have cp := fun (S : List SObj) => lv_comp (v := v) (H := H) (L := L) (G := lvl T (d + 14)) (S := S) (i := 5) (j := 13) (n := 0) (ρ := [some (.val sc), some (.val (.ref 0)), some (.val (.ref 4)), some (.val (.int (start : Nat))), some (.val (.tup (nA H))), some (.val (.lst L)), some (.val (.lst (nA un))), some (.val (.tup (nA few))), some (.val (.ref 7)), none, none, none, none, none, none, none]) (by omega) hL rfl rfl (by show 13 < 16; omega) (by omega)
  have lp : kFr asR1 (.one 13) BW (lvl T (d + 14)) (some ([.int (6 + (g : Int))], ⟨LW ⟨some (.val sc), some (.val (.int (start : Nat))), some (.val (.tup (nA H))), some (.val (.lst L)), some (.val (.lst (nA un))), some (.val (.tup (nA few))), some (.val v.A), mo⟩ v.A none none none, mS t2 v ds (nR N0)⟩)) = some (.nx, ⟨LW ⟨some (.val sc), some (.val (.int (start : Nat))), some (.val (.tup (nA H))), some (.val (.lst L)), some (.val (.lst (nA un))), some (.val (.tup (nA few))), some (.val v.A), mo⟩ v3.A z13 z14 z15, mS t3 v3 ds3 (nR N3)⟩) := by
    rw [show (6 + (g : Int)) = ((6 + g : Nat) : Int) by omega, kFr_1 (by omega), rgA_nA]
    exact e3
  have hN0 : mS t v ds (nR N0) = mS t v ds [.lst [.bl false, .bl false], .lst [], .dic [(("held" : Str), .tup (nA H)), (("many" : Str), .int (L.length : Int)), (("revealed" : Str), .bl false), (("broken" : Str), .ref 5), (("rings" : Str), .ref 6), (("old" : Str), .lst (nA (kns v H))), (("shields" : Str), .lst [.tup (nA un), .tup (nA few)])]] := by
    rw [hL.1]
    rfl
  have hrA : ∀ S, res S v.A = v.A := fun S => rfl
  have hlw : lWords = [.str "generate", .str "plain", .str "agree", .str "derive", .str "mix", .str "draw", .str "sign", .str "tag", .str "seal"] := rfl
  have m7 := mS_7 (t := t5) (v := v3) (ds := ds3) (N := N3)
  have dold := dn_old (N := N3)
  have dsh := dn_shields (N := N3)
  rw [show N3.old = kns v H from q3.2.2.2] at dold
  rw [show N3.s0 = un from q3.2.1] at dsh
  rw [hN0] at hv h1
  refine ⟨mS t5 v3 ds3 (nR N3), ?_⟩
  unfold FS TL LW at *
  simp only [Option.map_none] at lp
  rw [hlw] at lp
  clear_value N0
  clear e3 I0 n3 q3 hun hsu hL
  generalize kns v H = ko at *
  generalize BW = bw at *
  generalize v.A = A at *
  generalize v3.A = A3 at *
  generalize nA hs4 = P4 at *
  generalize nA un = U at *
  generalize nA few = F at *
  generalize nA H = HH at *
  generalize nA ko = KO at *
  generalize nD N3 = D3 at *
  generalize mS t5 v3 ds3 (nR N3) = S5 at *
  generalize mS t4 v3 ds3 (nR N3) = S4 at *
  generalize mS t3 v3 ds3 (nR N3) = S3 at *
  generalize mS t2 v ds (nR N0) = S2 at *
  generalize mS t1 v ds (nR N0) = S1 at *
  have hl7 : (mS t v ds []).length = 5 := rfl
  have hl8 : ∀ a, (mS t v ds [a]).length = 6 := fun a => rfl
  have hl9 : ∀ a b, (mS t v ds [a, b]).length = 7 := fun a b => rfl
  have ha : ∀ X, mS t v ds [] ++ X = mS t v ds X := fun X => rfl
  have hb : ∀ a X, mS t v ds [a] ++ X = mS t v ds (a :: X) := fun a X => rfl
  have hc : ∀ a b X, mS t v ds [a, b] ++ X = mS t v ds (a :: b :: X) := fun a b X => rfl
  simp -implicitDefEqProofs [hl7, hl8, hl9, ha, hb, hc, mS_d0, mS_ds, put_old, put_shields, cp, hv, h1, h2, lp, h4, h5, h6, h7, h8, h9, hrA, m7, dold, dsh]
end
theorem law_ok (d : Nat) (ns : List Int) : ∃ S, lvl T (d + 15) "law" [.lst (ns.map .int)] [] = some (.bl true, S) := by
  obtain ⟨t0, h0, k0⟩ := s_tape (d + 13) ns
  obtain ⟨t1, v, ds, start, h1, k1, hm, hp, hst⟩ := s_web d k0
  have l1 := hm.wf.ok.ls
  obtain ⟨t2, H, rest, h2, k2, hH, hHl⟩ := s_holders (R := mR v ds []) (d + 11) k1 v.sec.length start (by omega) hst
  have h2 : lvl T (d + 14) "_law_holders" [.ref 0, .int (v.sec.length : Int), .int (start : Nat)] (mS t1 v ds []) = some (.lst (.tup (nA H) :: rest), mS t2 v ds []) := h2
  obtain ⟨L, h3, hL⟩ := s_levels (d := d + 12) (S := mS t2 v ds []) hm.wf (by omega) VV.mS hH
  have c5 := un_comp (v := v) (H := H) (L := L) (G := lvl T (d + 14)) (S := mS t2 v ds []) (i := 5) (j := 13) (ρ := [some (.val (.lst (ns.map .int))), some (.val (.ref 0)), some (.val (.ref 4)), some (.val (.int (start : Nat))), some (.val (.tup (nA H))), some (.val (.lst L)), none, none, none, none, none, none, none, none, none, none]) (by omega) hL rfl rfl (by show 13 < 16; omega) (by omega)
  have ul : (uns v H).length ≤ 40 := by
    have := List.length_filter_le (fun j => !knb v H j) (List.range v.sec.length)
    rw [List.length_range] at this
    exact Nat.le_trans this l1
  obtain ⟨t3, few, h4, k3, hf, hs⟩ := s_few (d := d) (H := H) (un := uns v H) (sc := .lst (ns.map .int)) (start := start) (L := L) k2 hm (fun k hk => (uns_mem.mp hk).1) ul
  obtain ⟨S', h5⟩ := s_tail (d := d) (sc := .lst (ns.map .int)) (start := start) k3 hm hp hH (by omega) hL rfl hf hs
  refine ⟨S', ?_⟩
  rw [l_law, u_law]
  have hlen : (v.sec.map sA).length = v.sec.length := List.length_map _
  rw [← hlen] at h2
  have n0 : nA [] = [] := rfl
  have m1 := mS_1 (t := t1) (v := v) (ds := ds) (R := [])
  have m4 := mS_4 (t := t1) (v := v) (ds := ds) (R := [])
  unfold FS at h4 h5
  rw [n0] at h4
  generalize TL = tl at *
  generalize FW = fw at *
  generalize nA few = F at *
  generalize nA (uns v H) = U at *
  generalize nA H = HH at *
  generalize v.sec.map sA = LL at *
  generalize mS t3 v ds [] = S3 at *
  generalize mS t2 v ds [] = S2 at *
  generalize mS t1 v ds [] = S1 at *
  generalize ns.map AV.int = sc at *
  simp -implicitDefEqProofs [frame, h0, h1, m1, m4, h2, h3, c5, h4, h5]
end K17
end
section
set_option maxRecDepth 100000
set_option maxHeartbeats 0
namespace K17
open PySem PySem.Spec PyProof.Rows L2 Pyx
theorem tab : tabOf W 60 defs consts Ds = some T := by
  kernel_rfl
theorem h_nds : (Ds.map (·.name)).Nodup := by decide +kernel
def dd (D : DD) : He.DefD := ⟨(D.name, none), D.name, D.name, D.args, D.body, D.scope, [], []⟩
def fn : List He.DefD := Ds.map dd
def fa : List He.Fa := (Ds.map fun D => He.Fa.glo D.name) ++ (bltNames.map fun x => He.Fa.free x)
theorem scs : ∀ D ∈ Ds, FnScope D.N D.ps D.scope := by
  intro D hD
  simp only [Ds, List.mem_cons, List.not_mem_nil, or_false] at hD
  rcases hD with rfl | rfl | rfl | rfl | rfl | rfl | rfl | rfl | rfl | rfl | rfl | rfl | rfl | rfl | rfl | rfl | rfl | rfl | rfl | rfl | rfl | rfl | rfl | rfl | rfl | rfl | rfl | rfl | rfl | rfl | rfl | rfl | rfl | rfl | rfl | rfl | rfl | rfl | rfl | rfl | rfl | rfl | rfl | rfl | rfl | rfl | rfl | rfl | rfl | rfl | rfl | rfl | rfl | rfl | rfl | rfl | rfl | rfl | rfl | rfl | rfl | rfl | rfl <;>
    exact ⟨rfl, rfl, rfl, by decide +kernel, rfl, by decide +kernel, by decide +kernel⟩
/-- a constant that is a tuple of texts -/
def conB (K : PySem.W.Frag) (x : Str) (zs : List Str) : Bool := match PySem.W.nsIn K mainGlobals x with
  | some (some (.ref a)) => (match K.lookup a with
    | some ⟨.type c, none, .seq its _, _⟩ => decide (c = "tuple") && (decide (its.size ≤ 100000) && He.relAll (zs.map V.str) its.toList)
    | _ => false)
  | _ => false
def conR (K : PySem.W.Frag) (p : Str × AV) : Bool := match p.2 with
  | .tup xs => (match asStrs xs with
    | some zs => conB K p.1 zs
    | none => false)
  | _ => false
theorem strs_map : ∀ {xs : List AV} {zs : List Str}, asStrs xs = some zs → xs = zs.map AV.str
  | [], zs, h => by cases h; rfl
  | x :: xs, zs, h => by
    cases x with
    | str z =>
      obtain ⟨ys, e1, e2⟩ := Option.map_eq_some_iff.mp (show (asStrs xs).map (z :: ·) = some zs from h)
      rw [← e2, strs_map e1]
      rfl
    | _ => cases h
theorem rps_strs {K : PySem.W.Frag} {H : Hp} {hot : Hot} {m : List Addr} : ∀ zs : List Str, Rps K H hot m (zs.map V.str) (zs.map AV.str)
  | [] => .nil
  | z :: zs => .cons (.str z) (rps_strs zs)
theorem con_ok {K : PySem.W.Frag} {h : Heap} {mg : Str → Option Value} (X : K.In h) (G : h.Ns mainGlobals mg) {p : Str × AV} (c : conR K p = true) : ∃ u xv, mg p.1 = some u ∧ RelV xv u ∧ ConV K xv p.2 := by
  obtain ⟨x, v⟩ := p
  cases v with
  | tup xs =>
    have c1 : (match asStrs xs with | some zs => conB K x zs | none => false) = true := c
    cases e : asStrs xs with
    | none => rw [e] at c1; cases c1
    | some zs =>
      rw [e] at c1
      have c1 : conB K x zs = true := c1
      unfold conB at c1
      cases e1 : PySem.W.nsIn K mainGlobals x with
      | none => rw [e1] at c1; cases c1
      | some o =>
        rw [e1] at c1
        cases o with
        | none => cases c1
        | some u =>
          cases u with
          | ref a =>
            have c2 : (match K.lookup a with
              | some ⟨.type c, none, .seq its _, _⟩ => decide (c = "tuple") && (decide (its.size ≤ 100000) && He.relAll (zs.map V.str) its.toList)
              | _ => false) = true := c1
            cases e2 : K.lookup a with
            | none => rw [e2] at c2; cases c2
            | some ob =>
              obtain ⟨oc, od, dt, sl⟩ := ob
              rw [e2] at c2
              cases oc with
              | type c =>
                cases od with
                | some _ => cases dt <;> cases c2
                | none =>
                cases dt with
                | seq its n =>
                  obtain ⟨c3, c4⟩ := Bool.and_eq_true_iff.mp (show (decide (c = "tuple") && (decide (its.size ≤ 100000) && He.relAll (zs.map V.str) its.toList)) = true from c2)
                  obtain ⟨c5, c6⟩ := Bool.and_eq_true_iff.mp c4
                  have c3 := of_decide_eq_true c3
                  subst c3
                  refine ⟨.ref a, .ref a, PySem.W.mg_of X G e1, rfl, fun H hot m => ?_⟩
                  rw [strs_map e]
                  exact .tup (.inr ⟨_, its, n, e2, ⟨rfl, rfl⟩, rfl, Nat.le_trans (of_decide_eq_true c5) (by decide), He.relAll_ok c6⟩) (rps_strs zs)
                | _ => cases c2
              | _ => cases od <;> cases dt <;> cases c2
          | _ => cases c1
  | _ => cases c
end K17
end
section
set_option maxRecDepth 100000
set_option maxHeartbeats 0
namespace K17
open PySem PySem.Spec PyProof.Rows L2 Pyx
abbrev R0 : PySem.W.OpenRow := PySem.W.OpenLaw.row PySem.Challenge.rw_sealedlink_k17_whole_others_reveal_nothi
def ex (K : PySem.W.Frag) : Bool := consts.all fun p => conR K p
abbrev AlC : Type := He.AlD × Bool
def obC (g : Addr → Option PySem.Obj) : AlC := (He.obsDG 4 fa fn g, ex (He.frG g (He.asD g 4)))
def hk : PySem.W.Hook where
  α := AlC
  obs := fun s => obC s.heap.get?
  val := fun _ => (He.valD fn, true)
  says := fun _ h => ∃ K : PySem.W.Frag, K.In h ∧ (He.SaysD fa fn K ∧ ex K = true)
  of := fun _ _ e => ⟨_, He.frG_in, congrArg (fun z : AlC => z.1) e, congrArg (fun z : AlC => z.2) e⟩
  keeps := fun w h h' said stays => by
    obtain ⟨K, inK, says⟩ := said
    exact ⟨K, PySem.W.Frag.In.keeps inK stays, says⟩
def ob (s : PySem.W.SharedT) : AlC := obC (HandSHeadRun.getT s)
theorem ob_eq (s : PySem.W.SharedT) : ob s = hk.obs s.abs := by
  have e : HandSHeadRun.getT s = s.abs.heap.get? := funext (HandSHeadRun.getT_eq s)
  show obC (HandSHeadRun.getT s) = obC s.abs.heap.get?
  rw [e]
theorem run (w : World) : HandSHeadRun.RunEq R0 (PySem.W.view R0.prog [69]) hk ob 4000 ((Ds.map (·.name) ++ consts.map (·.1)).filter fun x => decide (x ≠ "law")) w := by
  intro os
  kernel_rfl
end K17
end
section
set_option maxRecDepth 100000
set_option maxHeartbeats 0
namespace K17
open PySem PySem.Spec PyProof.Rows L2 Pyx
theorem bn_size_of {K : PySem.W.Frag} {f : Addr} {fd : FuncData} (F : FunD K D_size_of.name D_size_of.name D_size_of.args D_size_of.body D_size_of.scope [] [] f fd) : Binds K fd D_size_of.ps [] := F.bindsN fun _ _ _ _ _ _ us hl => match us, hl with | [_], _ => by kernel_rfl
theorem bn_with_secret {K : PySem.W.Frag} {f : Addr} {fd : FuncData} (F : FunD K D_with_secret.name D_with_secret.name D_with_secret.args D_with_secret.body D_with_secret.scope [] [] f fd) : Binds K fd D_with_secret.ps [] := F.bindsN fun _ _ _ _ _ _ us hl => match us, hl with | [_, _], _ => by kernel_rfl
theorem bn_with_entry {K : PySem.W.Frag} {f : Addr} {fd : FuncData} (F : FunD K D_with_entry.name D_with_entry.name D_with_entry.args D_with_entry.body D_with_entry.scope [] [] f fd) : Binds K fd D_with_entry.ps [] := F.bindsN fun _ _ _ _ _ _ us hl => match us, hl with | [_, _], _ => by kernel_rfl
theorem bn_row_of {K : PySem.W.Frag} {f : Addr} {fd : FuncData} (F : FunD K D_row_of.name D_row_of.name D_row_of.args D_row_of.body D_row_of.scope [] [] f fd) : Binds K fd D_row_of.ps [] := F.bindsN fun _ _ _ _ _ _ us hl => match us, hl with | [_, _, _], _ => by kernel_rfl
theorem bn_pair_of {K : PySem.W.Frag} {f : Addr} {fd : FuncData} (F : FunD K D_pair_of.name D_pair_of.name D_pair_of.args D_pair_of.body D_pair_of.scope [] [] f fd) : Binds K fd D_pair_of.ps [] := F.bindsN fun _ _ _ _ _ _ us hl => match us, hl with | [_, _], _ => by kernel_rfl
theorem bn_generate {K : PySem.W.Frag} {f : Addr} {fd : FuncData} (F : FunD K D_generate.name D_generate.name D_generate.args D_generate.body D_generate.scope [] [] f fd) : Binds K fd D_generate.ps [] := F.bindsN fun _ _ _ _ _ _ us hl => match us, hl with | [_], _ => by kernel_rfl
theorem bn_plain {K : PySem.W.Frag} {f : Addr} {fd : FuncData} (F : FunD K D_plain.name D_plain.name D_plain.args D_plain.body D_plain.scope [] [] f fd) : Binds K fd D_plain.ps [] := F.bindsN fun _ _ _ _ _ _ us hl => match us, hl with | [_, _], _ => by kernel_rfl
theorem bn_agree {K : PySem.W.Frag} {f : Addr} {fd : FuncData} (F : FunD K D_agree.name D_agree.name D_agree.args D_agree.body D_agree.scope [] [] f fd) : Binds K fd D_agree.ps [] := F.bindsN fun _ _ _ _ _ _ us hl => match us, hl with | [_, _, _], _ => by kernel_rfl
theorem bn_derive {K : PySem.W.Frag} {f : Addr} {fd : FuncData} (F : FunD K D_derive.name D_derive.name D_derive.args D_derive.body D_derive.scope [] [] f fd) : Binds K fd D_derive.ps [] := F.bindsN fun _ _ _ _ _ _ us hl => match us, hl with | [_, _, _, _], _ => by kernel_rfl
theorem bn_mix {K : PySem.W.Frag} {f : Addr} {fd : FuncData} (F : FunD K D_mix.name D_mix.name D_mix.args D_mix.body D_mix.scope [] [] f fd) : Binds K fd D_mix.ps [] := F.bindsN fun _ _ _ _ _ _ us hl => match us, hl with | [_, _, _], _ => by kernel_rfl
theorem bn_draw {K : PySem.W.Frag} {f : Addr} {fd : FuncData} (F : FunD K D_draw.name D_draw.name D_draw.args D_draw.body D_draw.scope [] [] f fd) : Binds K fd D_draw.ps [] := F.bindsN fun _ _ _ _ _ _ us hl => match us, hl with | [_], _ => by kernel_rfl
theorem bn_sign {K : PySem.W.Frag} {f : Addr} {fd : FuncData} (F : FunD K D_sign.name D_sign.name D_sign.args D_sign.body D_sign.scope [] [] f fd) : Binds K fd D_sign.ps [] := F.bindsN fun _ _ _ _ _ _ us hl => match us, hl with | [_, _, _], _ => by kernel_rfl
theorem bn_tag {K : PySem.W.Frag} {f : Addr} {fd : FuncData} (F : FunD K D_tag.name D_tag.name D_tag.args D_tag.body D_tag.scope [] [] f fd) : Binds K fd D_tag.ps [] := F.bindsN fun _ _ _ _ _ _ us hl => match us, hl with | [_, _, _], _ => by kernel_rfl
theorem bn_seal {K : PySem.W.Frag} {f : Addr} {fd : FuncData} (F : FunD K D_seal.name D_seal.name D_seal.args D_seal.body D_seal.scope [] [] f fd) : Binds K fd D_seal.ps [] := F.bindsN fun _ _ _ _ _ _ us hl => match us, hl with | [_, _, _, _, _], _ => by kernel_rfl
theorem bn_wrap {K : PySem.W.Frag} {f : Addr} {fd : FuncData} (F : FunD K D_wrap.name D_wrap.name D_wrap.args D_wrap.body D_wrap.scope [] [] f fd) : Binds K fd D_wrap.ps [] := F.bindsN fun _ _ _ _ _ _ us hl => match us, hl with | [_, _, _, _, _], _ => by kernel_rfl
theorem bn_follows {K : PySem.W.Frag} {f : Addr} {fd : FuncData} (F : FunD K D_follows.name D_follows.name D_follows.args D_follows.body D_follows.scope [] [] f fd) : Binds K fd D_follows.ps [] := F.bindsN fun _ _ _ _ _ _ us hl => match us, hl with | [_, _], _ => by kernel_rfl
theorem bn_wraps_of {K : PySem.W.Frag} {f : Addr} {fd : FuncData} (F : FunD K D_wraps_of.name D_wraps_of.name D_wraps_of.args D_wraps_of.body D_wraps_of.scope [] [] f fd) : Binds K fd D_wraps_of.ps [] := F.bindsN fun _ _ _ _ _ _ us hl => match us, hl with | [_], _ => by kernel_rfl
theorem bn_known_flags {K : PySem.W.Frag} {f : Addr} {fd : FuncData} (F : FunD K D_known_flags.name D_known_flags.name D_known_flags.args D_known_flags.body D_known_flags.scope [] [] f fd) : Binds K fd D_known_flags.ps [] := F.bindsN fun _ _ _ _ _ _ us hl => match us, hl with | [_, _], _ => by kernel_rfl
theorem bn_known {K : PySem.W.Frag} {f : Addr} {fd : FuncData} (F : FunD K D_known.name D_known.name D_known.args D_known.body D_known.scope [] [] f fd) : Binds K fd D_known.ps [] := F.bindsN fun _ _ _ _ _ _ us hl => match us, hl with | [_, _], _ => by kernel_rfl
theorem bn_is_shield {K : PySem.W.Frag} {f : Addr} {fd : FuncData} (F : FunD K D_is_shield.name D_is_shield.name D_is_shield.args D_is_shield.body D_is_shield.scope [] [] f fd) : Binds K fd D_is_shield.ps [] := F.bindsN fun _ _ _ _ _ _ us hl => match us, hl with | [_, _, _], _ => by kernel_rfl
theorem bn_signed_part {K : PySem.W.Frag} {f : Addr} {fd : FuncData} (F : FunD K D_signed_part.name D_signed_part.name D_signed_part.args D_signed_part.body D_signed_part.scope [] [] f fd) : Binds K fd D_signed_part.ps [] := F.bindsN fun _ _ _ _ _ _ us hl => match us, hl with | [_], _ => by kernel_rfl
theorem bn_issue {K : PySem.W.Frag} {f : Addr} {fd : FuncData} (F : FunD K D_issue.name D_issue.name D_issue.args D_issue.body D_issue.scope [] [] f fd) : Binds K fd D_issue.ps [] := F.bindsN fun _ _ _ _ _ _ us hl => match us, hl with | [_, _, _, _, _, _, _, _], _ => by kernel_rfl
theorem bn_rotate {K : PySem.W.Frag} {f : Addr} {fd : FuncData} (F : FunD K D_rotate.name D_rotate.name D_rotate.args D_rotate.body D_rotate.scope [] [] f fd) : Binds K fd D_rotate.ps [] := F.bindsN fun _ _ _ _ _ _ us hl => match us, hl with | [_, _], _ => by kernel_rfl
theorem bn_new_ring {K : PySem.W.Frag} {f : Addr} {fd : FuncData} (F : FunD K D_new_ring.name D_new_ring.name D_new_ring.args D_new_ring.body D_new_ring.scope [] [] f fd) : Binds K fd D_new_ring.ps [] := F.bindsN fun _ _ _ _ _ _ us hl => match us, hl with | [_, _], _ => by kernel_rfl
theorem bn_make_ticket {K : PySem.W.Frag} {f : Addr} {fd : FuncData} (F : FunD K D_make_ticket.name D_make_ticket.name D_make_ticket.args D_make_ticket.body D_make_ticket.scope [] [] f fd) : Binds K fd D_make_ticket.ps [] := F.bindsN fun _ _ _ _ _ _ us hl => match us, hl with | [_, _, _, _], _ => by kernel_rfl
theorem bn__law_tape {K : PySem.W.Frag} {f : Addr} {fd : FuncData} (F : FunD K D__law_tape.name D__law_tape.name D__law_tape.args D__law_tape.body D__law_tape.scope [] [] f fd) : Binds K fd D__law_tape.ps [] := F.bindsN fun _ _ _ _ _ _ us hl => match us, hl with | [_], _ => by kernel_rfl
theorem bn__law_draw {K : PySem.W.Frag} {f : Addr} {fd : FuncData} (F : FunD K D__law_draw.name D__law_draw.name D__law_draw.args D__law_draw.body D__law_draw.scope [] [] f fd) : Binds K fd D__law_draw.ps [] := F.bindsN fun _ _ _ _ _ _ us hl => match us, hl with | [_, _], _ => by kernel_rfl
theorem bn__law_pick {K : PySem.W.Frag} {f : Addr} {fd : FuncData} (F : FunD K D__law_pick.name D__law_pick.name D__law_pick.args D__law_pick.body D__law_pick.scope [] [] f fd) : Binds K fd D__law_pick.ps [] := F.bindsN fun _ _ _ _ _ _ us hl => match us, hl with | [_, _], _ => by kernel_rfl
theorem bn__law_turns {K : PySem.W.Frag} {f : Addr} {fd : FuncData} (F : FunD K D__law_turns.name D__law_turns.name D__law_turns.args D__law_turns.body D__law_turns.scope [] [] f fd) : Binds K fd D__law_turns.ps [] := F.bindsN fun _ _ _ _ _ _ us hl => match us, hl with | [_, _], _ => by kernel_rfl
theorem bn__law_same {K : PySem.W.Frag} {f : Addr} {fd : FuncData} (F : FunD K D__law_same.name D__law_same.name D__law_same.args D__law_same.body D__law_same.scope [] [] f fd) : Binds K fd D__law_same.ps [] := F.bindsN fun _ _ _ _ _ _ us hl => match us, hl with | [_, _], _ => by kernel_rfl
theorem bn__law_number {K : PySem.W.Frag} {f : Addr} {fd : FuncData} (F : FunD K D__law_number.name D__law_number.name D__law_number.args D__law_number.body D__law_number.scope [] [] f fd) : Binds K fd D__law_number.ps [] := F.bindsN fun _ _ _ _ _ _ us hl => match us, hl with | [_], _ => by kernel_rfl
theorem bn__law_text {K : PySem.W.Frag} {f : Addr} {fd : FuncData} (F : FunD K D__law_text.name D__law_text.name D__law_text.args D__law_text.body D__law_text.scope [] [] f fd) : Binds K fd D__law_text.ps [] := F.bindsN fun _ _ _ _ _ _ us hl => match us, hl with | [_, _], _ => by kernel_rfl
theorem bn__law_leaf {K : PySem.W.Frag} {f : Addr} {fd : FuncData} (F : FunD K D__law_leaf.name D__law_leaf.name D__law_leaf.args D__law_leaf.body D__law_leaf.scope [] [] f fd) : Binds K fd D__law_leaf.ps [] := F.bindsN fun _ _ _ _ _ _ us hl => match us, hl with | [_], _ => by kernel_rfl
theorem bn__law_datum {K : PySem.W.Frag} {f : Addr} {fd : FuncData} (F : FunD K D__law_datum.name D__law_datum.name D__law_datum.args D__law_datum.body D__law_datum.scope [] [] f fd) : Binds K fd D__law_datum.ps [] := F.bindsN fun _ _ _ _ _ _ us hl => match us, hl with | [_, _, _], _ => by kernel_rfl
theorem bn__law_size {K : PySem.W.Frag} {f : Addr} {fd : FuncData} (F : FunD K D__law_size.name D__law_size.name D__law_size.args D__law_size.body D__law_size.scope [] [] f fd) : Binds K fd D__law_size.ps [] := F.bindsN fun _ _ _ _ _ _ us hl => match us, hl with | [_], _ => by kernel_rfl
theorem bn__law_place {K : PySem.W.Frag} {f : Addr} {fd : FuncData} (F : FunD K D__law_place.name D__law_place.name D__law_place.args D__law_place.body D__law_place.scope [] [] f fd) : Binds K fd D__law_place.ps [] := F.bindsN fun _ _ _ _ _ _ us hl => match us, hl with | [_, _], _ => by kernel_rfl
theorem bn__law_is_key {K : PySem.W.Frag} {f : Addr} {fd : FuncData} (F : FunD K D__law_is_key.name D__law_is_key.name D__law_is_key.args D__law_is_key.body D__law_is_key.scope [] [] f fd) : Binds K fd D__law_is_key.ps [] := F.bindsN fun _ _ _ _ _ _ us hl => match us, hl with | [_, _], _ => by kernel_rfl
theorem bn__law_deed {K : PySem.W.Frag} {f : Addr} {fd : FuncData} (F : FunD K D__law_deed.name D__law_deed.name D__law_deed.args D__law_deed.body D__law_deed.scope [] [] f fd) : Binds K fd D__law_deed.ps [] := F.bindsN fun _ _ _ _ _ _ us hl => match us, hl with | [_, _], _ => by kernel_rfl
theorem bn__law_vault_of {K : PySem.W.Frag} {f : Addr} {fd : FuncData} (F : FunD K D__law_vault_of.name D__law_vault_of.name D__law_vault_of.args D__law_vault_of.body D__law_vault_of.scope [] [] f fd) : Binds K fd D__law_vault_of.ps [] := F.bindsN fun _ _ _ _ _ _ us hl => match us, hl with | [_], _ => by kernel_rfl
theorem bn__law_gives {K : PySem.W.Frag} {f : Addr} {fd : FuncData} (F : FunD K D__law_gives.name D__law_gives.name D__law_gives.args D__law_gives.body D__law_gives.scope [] [] f fd) : Binds K fd D__law_gives.ps [] := F.bindsN fun _ _ _ _ _ _ us hl => match us, hl with | [_, _, _], _ => by kernel_rfl
theorem bn__law_label {K : PySem.W.Frag} {f : Addr} {fd : FuncData} (F : FunD K D__law_label.name D__law_label.name D__law_label.args D__law_label.body D__law_label.scope [] [] f fd) : Binds K fd D__law_label.ps [] := F.bindsN fun _ _ _ _ _ _ us hl => match us, hl with | [_], _ => by kernel_rfl
theorem bn__law_some_datum {K : PySem.W.Frag} {f : Addr} {fd : FuncData} (F : FunD K D__law_some_datum.name D__law_some_datum.name D__law_some_datum.args D__law_some_datum.body D__law_some_datum.scope [] [] f fd) : Binds K fd D__law_some_datum.ps [] := F.bindsN fun _ _ _ _ _ _ us hl => match us, hl with | [_], _ => by kernel_rfl
theorem bn__law_some_secret {K : PySem.W.Frag} {f : Addr} {fd : FuncData} (F : FunD K D__law_some_secret.name D__law_some_secret.name D__law_some_secret.args D__law_some_secret.body D__law_some_secret.scope [] [] f fd) : Binds K fd D__law_some_secret.ps [] := F.bindsN fun _ _ _ _ _ _ us hl => match us, hl with | [_, _], _ => by kernel_rfl
theorem bn__law_some_pair {K : PySem.W.Frag} {f : Addr} {fd : FuncData} (F : FunD K D__law_some_pair.name D__law_some_pair.name D__law_some_pair.args D__law_some_pair.body D__law_some_pair.scope [] [] f fd) : Binds K fd D__law_some_pair.ps [] := F.bindsN fun _ _ _ _ _ _ us hl => match us, hl with | [_, _], _ => by kernel_rfl
theorem bn__law_some_public {K : PySem.W.Frag} {f : Addr} {fd : FuncData} (F : FunD K D__law_some_public.name D__law_some_public.name D__law_some_public.args D__law_some_public.body D__law_some_public.scope [] [] f fd) : Binds K fd D__law_some_public.ps [] := F.bindsN fun _ _ _ _ _ _ us hl => match us, hl with | [_, _], _ => by kernel_rfl
theorem bn__law_some_deed {K : PySem.W.Frag} {f : Addr} {fd : FuncData} (F : FunD K D__law_some_deed.name D__law_some_deed.name D__law_some_deed.args D__law_some_deed.body D__law_some_deed.scope [] [] f fd) : Binds K fd D__law_some_deed.ps [] := F.bindsN fun _ _ _ _ _ _ us hl => match us, hl with | [_, _, _], _ => by kernel_rfl
theorem bn__law_model {K : PySem.W.Frag} {f : Addr} {fd : FuncData} (F : FunD K D__law_model.name D__law_model.name D__law_model.args D__law_model.body D__law_model.scope [] [] f fd) : Binds K fd D__law_model.ps [] := F.bindsN fun _ _ _ _ _ _ us hl => match us, hl with | [_, _], _ => by kernel_rfl
theorem bn__law_held {K : PySem.W.Frag} {f : Addr} {fd : FuncData} (F : FunD K D__law_held.name D__law_held.name D__law_held.args D__law_held.body D__law_held.scope [] [] f fd) : Binds K fd D__law_held.ps [] := F.bindsN fun _ _ _ _ _ _ us hl => match us, hl with | [_, _, _], _ => by kernel_rfl
theorem bn__law_fires {K : PySem.W.Frag} {f : Addr} {fd : FuncData} (F : FunD K D__law_fires.name D__law_fires.name D__law_fires.args D__law_fires.body D__law_fires.scope [] [] f fd) : Binds K fd D__law_fires.ps [] := F.bindsN fun _ _ _ _ _ _ us hl => match us, hl with | [_, _], _ => by kernel_rfl
theorem bn__law_levels {K : PySem.W.Frag} {f : Addr} {fd : FuncData} (F : FunD K D__law_levels.name D__law_levels.name D__law_levels.args D__law_levels.body D__law_levels.scope [] [] f fd) : Binds K fd D__law_levels.ps [] := F.bindsN fun _ _ _ _ _ _ us hl => match us, hl with | [_, _], _ => by kernel_rfl
theorem bn__law_bars {K : PySem.W.Frag} {f : Addr} {fd : FuncData} (F : FunD K D__law_bars.name D__law_bars.name D__law_bars.args D__law_bars.body D__law_bars.scope [] [] f fd) : Binds K fd D__law_bars.ps [] := F.bindsN fun _ _ _ _ _ _ us hl => match us, hl with | [_, _, _], _ => by kernel_rfl
theorem bn__law_ladder {K : PySem.W.Frag} {f : Addr} {fd : FuncData} (F : FunD K D__law_ladder.name D__law_ladder.name D__law_ladder.args D__law_ladder.body D__law_ladder.scope [] [] f fd) : Binds K fd D__law_ladder.ps [] := F.bindsN fun _ _ _ _ _ _ us hl => match us, hl with | [_, _], _ => by kernel_rfl
theorem bn__law_web {K : PySem.W.Frag} {f : Addr} {fd : FuncData} (F : FunD K D__law_web.name D__law_web.name D__law_web.args D__law_web.body D__law_web.scope [] [] f fd) : Binds K fd D__law_web.ps [] := F.bindsN fun _ _ _ _ _ _ us hl => match us, hl with | [_], _ => by kernel_rfl
theorem bn__law_holders {K : PySem.W.Frag} {f : Addr} {fd : FuncData} (F : FunD K D__law_holders.name D__law_holders.name D__law_holders.args D__law_holders.body D__law_holders.scope [] [] f fd) : Binds K fd D__law_holders.ps [] := F.bindsN fun _ _ _ _ _ _ us hl => match us, hl with | [_, _, _], _ => by kernel_rfl
theorem bn__law_needs {K : PySem.W.Frag} {f : Addr} {fd : FuncData} (F : FunD K D__law_needs.name D__law_needs.name D__law_needs.args D__law_needs.body D__law_needs.scope [] [] f fd) : Binds K fd D__law_needs.ps [] := F.bindsN fun _ _ _ _ _ _ us hl => match us, hl with | [_, _, _], _ => by kernel_rfl
theorem bn__law_grown {K : PySem.W.Frag} {f : Addr} {fd : FuncData} (F : FunD K D__law_grown.name D__law_grown.name D__law_grown.args D__law_grown.body D__law_grown.scope [] [] f fd) : Binds K fd D__law_grown.ps [] := F.bindsN fun _ _ _ _ _ _ us hl => match us, hl with | [_, _, _], _ => by kernel_rfl
theorem bn__law_made {K : PySem.W.Frag} {f : Addr} {fd : FuncData} (F : FunD K D__law_made.name D__law_made.name D__law_made.args D__law_made.body D__law_made.scope [] [] f fd) : Binds K fd D__law_made.ps [] := F.bindsN fun _ _ _ _ _ _ us hl => match us, hl with | [_, _], _ => by kernel_rfl
theorem bn__law_noted {K : PySem.W.Frag} {f : Addr} {fd : FuncData} (F : FunD K D__law_noted.name D__law_noted.name D__law_noted.args D__law_noted.body D__law_noted.scope [] [] f fd) : Binds K fd D__law_noted.ps [] := F.bindsN fun _ _ _ _ _ _ us hl => match us, hl with | [_, _, _, _], _ => by kernel_rfl
theorem bn__law_plain_deed {K : PySem.W.Frag} {f : Addr} {fd : FuncData} (F : FunD K D__law_plain_deed.name D__law_plain_deed.name D__law_plain_deed.args D__law_plain_deed.body D__law_plain_deed.scope [] [] f fd) : Binds K fd D__law_plain_deed.ps [] := F.bindsN fun _ _ _ _ _ _ us hl => match us, hl with | [_, _, _, _, _], _ => by kernel_rfl
theorem bn__law_issued {K : PySem.W.Frag} {f : Addr} {fd : FuncData} (F : FunD K D__law_issued.name D__law_issued.name D__law_issued.args D__law_issued.body D__law_issued.scope [] [] f fd) : Binds K fd D__law_issued.ps [] := F.bindsN fun _ _ _ _ _ _ us hl => match us, hl with | [_, _, _], _ => by kernel_rfl
theorem bn__law_ring_deed {K : PySem.W.Frag} {f : Addr} {fd : FuncData} (F : FunD K D__law_ring_deed.name D__law_ring_deed.name D__law_ring_deed.args D__law_ring_deed.body D__law_ring_deed.scope [] [] f fd) : Binds K fd D__law_ring_deed.ps [] := F.bindsN fun _ _ _ _ _ _ us hl => match us, hl with | [_, _, _, _], _ => by kernel_rfl
theorem bn__law_asked {K : PySem.W.Frag} {f : Addr} {fd : FuncData} (F : FunD K D__law_asked.name D__law_asked.name D__law_asked.args D__law_asked.body D__law_asked.scope [] [] f fd) : Binds K fd D__law_asked.ps [] := F.bindsN fun _ _ _ _ _ _ us hl => match us, hl with | [_, _, _, _], _ => by kernel_rfl
theorem bn_law {K : PySem.W.Frag} {f : Addr} {fd : FuncData} (F : FunD K D_law.name D_law.name D_law.args D_law.body D_law.scope [] [] f fd) : Binds K fd D_law.ps [] := F.bindsN fun _ _ _ _ _ _ us hl => match us, hl with | [_], _ => by kernel_rfl
def Bn (K : PySem.W.Frag) (D : DD) : Prop := ∀ (f : Addr) (fd : FuncData), FunD K D.name D.name D.args D.body D.scope [] [] f fd → Binds K fd D.ps []
theorem bnd {K : PySem.W.Frag} : ∀ D ∈ Ds, Bn K D := List.forall_mem_cons.mpr ⟨fun _ _ F => bn_size_of F, List.forall_mem_cons.mpr ⟨fun _ _ F => bn_with_secret F, List.forall_mem_cons.mpr ⟨fun _ _ F => bn_with_entry F, List.forall_mem_cons.mpr ⟨fun _ _ F => bn_row_of F, List.forall_mem_cons.mpr ⟨fun _ _ F => bn_pair_of F, List.forall_mem_cons.mpr ⟨fun _ _ F => bn_generate F, List.forall_mem_cons.mpr ⟨fun _ _ F => bn_plain F, List.forall_mem_cons.mpr ⟨fun _ _ F => bn_agree F, List.forall_mem_cons.mpr ⟨fun _ _ F => bn_derive F, List.forall_mem_cons.mpr ⟨fun _ _ F => bn_mix F, List.forall_mem_cons.mpr ⟨fun _ _ F => bn_draw F, List.forall_mem_cons.mpr ⟨fun _ _ F => bn_sign F, List.forall_mem_cons.mpr ⟨fun _ _ F => bn_tag F, List.forall_mem_cons.mpr ⟨fun _ _ F => bn_seal F, List.forall_mem_cons.mpr ⟨fun _ _ F => bn_wrap F, List.forall_mem_cons.mpr ⟨fun _ _ F => bn_follows F, List.forall_mem_cons.mpr ⟨fun _ _ F => bn_wraps_of F, List.forall_mem_cons.mpr ⟨fun _ _ F => bn_known_flags F, List.forall_mem_cons.mpr ⟨fun _ _ F => bn_known F, List.forall_mem_cons.mpr ⟨fun _ _ F => bn_is_shield F, List.forall_mem_cons.mpr ⟨fun _ _ F => bn_signed_part F, List.forall_mem_cons.mpr ⟨fun _ _ F => bn_issue F, List.forall_mem_cons.mpr ⟨fun _ _ F => bn_rotate F, List.forall_mem_cons.mpr ⟨fun _ _ F => bn_new_ring F, List.forall_mem_cons.mpr ⟨fun _ _ F => bn_make_ticket F, List.forall_mem_cons.mpr ⟨fun _ _ F => bn__law_tape F, List.forall_mem_cons.mpr ⟨fun _ _ F => bn__law_draw F, List.forall_mem_cons.mpr ⟨fun _ _ F => bn__law_pick F, List.forall_mem_cons.mpr ⟨fun _ _ F => bn__law_turns F, List.forall_mem_cons.mpr ⟨fun _ _ F => bn__law_same F, List.forall_mem_cons.mpr ⟨fun _ _ F => bn__law_number F, List.forall_mem_cons.mpr ⟨fun _ _ F => bn__law_text F, List.forall_mem_cons.mpr ⟨fun _ _ F => bn__law_leaf F, List.forall_mem_cons.mpr ⟨fun _ _ F => bn__law_datum F, List.forall_mem_cons.mpr ⟨fun _ _ F => bn__law_size F, List.forall_mem_cons.mpr ⟨fun _ _ F => bn__law_place F, List.forall_mem_cons.mpr ⟨fun _ _ F => bn__law_is_key F, List.forall_mem_cons.mpr ⟨fun _ _ F => bn__law_deed F, List.forall_mem_cons.mpr ⟨fun _ _ F => bn__law_vault_of F, List.forall_mem_cons.mpr ⟨fun _ _ F => bn__law_gives F, List.forall_mem_cons.mpr ⟨fun _ _ F => bn__law_label F, List.forall_mem_cons.mpr ⟨fun _ _ F => bn__law_some_datum F, List.forall_mem_cons.mpr ⟨fun _ _ F => bn__law_some_secret F, List.forall_mem_cons.mpr ⟨fun _ _ F => bn__law_some_pair F, List.forall_mem_cons.mpr ⟨fun _ _ F => bn__law_some_public F, List.forall_mem_cons.mpr ⟨fun _ _ F => bn__law_some_deed F, List.forall_mem_cons.mpr ⟨fun _ _ F => bn__law_model F, List.forall_mem_cons.mpr ⟨fun _ _ F => bn__law_held F, List.forall_mem_cons.mpr ⟨fun _ _ F => bn__law_fires F, List.forall_mem_cons.mpr ⟨fun _ _ F => bn__law_levels F, List.forall_mem_cons.mpr ⟨fun _ _ F => bn__law_bars F, List.forall_mem_cons.mpr ⟨fun _ _ F => bn__law_ladder F, List.forall_mem_cons.mpr ⟨fun _ _ F => bn__law_web F, List.forall_mem_cons.mpr ⟨fun _ _ F => bn__law_holders F, List.forall_mem_cons.mpr ⟨fun _ _ F => bn__law_needs F, List.forall_mem_cons.mpr ⟨fun _ _ F => bn__law_grown F, List.forall_mem_cons.mpr ⟨fun _ _ F => bn__law_made F, List.forall_mem_cons.mpr ⟨fun _ _ F => bn__law_noted F, List.forall_mem_cons.mpr ⟨fun _ _ F => bn__law_plain_deed F, List.forall_mem_cons.mpr ⟨fun _ _ F => bn__law_issued F, List.forall_mem_cons.mpr ⟨fun _ _ F => bn__law_ring_deed F, List.forall_mem_cons.mpr ⟨fun _ _ F => bn__law_asked F, List.forall_mem_cons.mpr ⟨fun _ _ F => bn_law F, fun _ h => (by cases h)⟩⟩⟩⟩⟩⟩⟩⟩⟩⟩⟩⟩⟩⟩⟩⟩⟩⟩⟩⟩⟩⟩⟩⟩⟩⟩⟩⟩⟩⟩⟩⟩⟩⟩⟩⟩⟩⟩⟩⟩⟩⟩⟩⟩⟩⟩⟩⟩⟩⟩⟩⟩⟩⟩⟩⟩⟩⟩⟩⟩⟩⟩⟩
end K17
end
section
set_option maxRecDepth 100000
set_option maxHeartbeats 0
namespace K17
open PySem PySem.Spec PyProof.Rows L2 Pyx
theorem dfs : ∀ p ∈ defs, ∃ D ∈ Ds, D.name = p.1 ∧ D.ps.length = p.2 := by
  intro p hp
  have e : defs = Ds.map fun D => (D.name, D.ps.length) := by rfl
  rw [e] at hp
  obtain ⟨D, hD, e2⟩ := List.mem_map.mp hp
  exact ⟨D, hD, by rw [← e2], by rw [← e2]⟩
def spLaw (K : PySem.W.Frag) : Sp := spG K (lvl T 15) "law" 1
theorem facts {P : Program} {w : World} {K : PySem.W.Frag} {h : Heap} {mg : Str → Option Value} {f : Addr} (X : K.In h) (G : h.Ns mainGlobals mg) (hfa : mg ("law" : Str) = some (.ref f)) (c : He.SaysD fa fn K) (hex : ex K = true) :
    ∃ fd : FuncData, (∀ (s : Shared) (v : Value), BindsTo s fd ⟨[v], []⟩ [("script", v)]) ∧ ∀ base : Heap, K.In base → base.Ns mainGlobals mg → FnOk P w K mg base CX0 15 f fd ["script"] (spLaw K) := by
  have glo : ∀ D ∈ Ds, ∃ f, mg D.name = some (.ref f) ∧ ∃ fd, FunD K D.name D.name D.args D.body D.scope [] [] f fd := by
    intro D hD
    obtain ⟨i, hi⟩ := List.getElem?_of_mem hD
    obtain ⟨fd, F⟩ := c.def_ i (d := dd D) (by show (Ds.map dd)[i]? = _; rw [List.getElem?_map, hi]; rfl)
    exact ⟨_, He.glo_ok X G (c.fact i (f := .glo D.name) (by
      show (Ds.map (fun D => He.Fa.glo D.name) ++ _)[i]? = _
      rw [List.getElem?_append_left (by rw [List.length_map]; exact (List.getElem?_eq_some_iff.mp hi).1), List.getElem?_map, hi]; rfl)), fd, F⟩
  have tp : Top K mg Ds defs consts := by
    refine ⟨fun D hD => ?_, dfs, fun x hx => ?_, fun p hp => con_ok X G (List.all_eq_true.mp hex p hp)⟩
    · obtain ⟨f, h1, fd, F⟩ := glo D hD
      exact ⟨⟨f, fd, h1, F, bnd D hD f fd F⟩, scs D hD⟩
    · obtain ⟨i, hi⟩ := List.getElem?_of_mem hx
      refine He.free_ok X G (c.fact (Ds.length + i) (f := .free x) ?_)
      show (Ds.map (fun D => He.Fa.glo D.name) ++ bltNames.map fun x => He.Fa.free x)[Ds.length + i]? = _
      rw [List.getElem?_append_right (by rw [List.length_map]; omega), List.length_map, Nat.add_sub_cancel_left, List.getElem?_map, hi]; rfl
  obtain ⟨f', h1, fd, F⟩ := glo D_law (by simp [Ds])
  have e := hfa.symm.trans h1
  cases e
  have b := FunD.bindsA (ps := ["script"]) F fun _ _ _ _ _ _ us hl => match us, hl with | [_], _ => rfl
  exact ⟨fd, fun s v => b s [v] rfl, fun base _ _ => fn_ok tp tab h_nds 15 D_law (by simp [Ds]) f fd F⟩
theorem sp_ok {K : PySem.W.Frag} (H : Hp) (a : Addr) (ns : List Int) (hS : SqL K H a (ns.map V.int)) : spLaw K [.ref a] H (fun v _ => v = .bl true) fun _ _ _ => False := by
  obtain ⟨S, e⟩ := law_ok 0 ns
  refine ⟨rfl, fun _ => False, [], [], [.lst (ns.map .int)], _, ⟨rfl, fun i v e => by simp at e, fun i v e => by simp at e, fun i j v w p e => by simp at e, rfl, fun n o p e => by simp at e, .nil, fun p h => (by cases h), fun p h => h.elim⟩, .cons ?_ .nil, e, fun x H' m' R s r => by cases r; rfl⟩
  rcases hS with h | h
  · exact .lst h (fun h => h.elim id fun h => h.elim (fun h => by cases h) fun h => absurd h own_nil) (.ints _)
  · exact .lstK h (.ints _)
end K17
end
section
set_option maxRecDepth 100000
set_option maxHeartbeats 0
namespace K17
open PySem PySem.W PySem.Calls PyProof.Rows
abbrev Q0 : PySem.Program := view R0.prog [69]
abbrev dT := HandSHeadRun.topDef R0.prog 69
theorem g1 : opening R0.prog = plainProg R0.prog.main.scope.names := by kernel_rfl
theorem g2 (s) : fenceModules? R0.prog s = some s := by kernel_rfl
theorem g3 : defOf Q0 R0.name = some (dT, []) := by kernel_rfl
theorem g4 : R0.prog.theDef R0.name = some (dT.params, dT.body, dT.scope) := by kernel_rfl
theorem g5 : kwWritten? dT.params.kwonlyargs dT.params.kw_defaults = some [] := by kernel_rfl
theorem g7 : R0.wellSaid = true := by decide +kernel
theorem g8 : (chainsOk Q0 && opensWell R0.prog && (frees R0.toRowW && R0.within.isEmpty)) = true := by decide +kernel
theorem g9 : R0.prog.bare := ⟨rfl, rfl, rfl, rfl, rfl, by decide +kernel⟩
theorem g10 : R0.toRowW.promised := by w_witness2
theorem gN : dT.name = ("law" : PySem.Str) := by kernel_rfl
theorem walks : PySem.W.WalkO Q0 ((Ds.map (·.name) ++ consts.map (·.1)).filter fun x => decide (x ≠ "law")) (PySem.W.XL Q0 []) hk.says R0.toRowW dT [] fun f vs => PySem.call f vs := by
  refine L2.walk_ofE (l := PySem.Challenge.rw_sealedlink_k17_whole_others_reveal_nothi) (n := 63) (k := 15) (x := "script") (CX := L2.CX0) rfl (by decide) (by kernel_rfl) ⟨rfl, by decide, by decide⟩ ?F fun _ _ _ _ z => z
  intro w mg fa h ⟨K, KX, c⟩ G e
  rw [gN] at e
  obtain ⟨fd, hb, hF⟩ := facts (P := (PySem.Challenge.rw_sealedlink_k17_whole_others_reveal_nothi).prog) (w := w) KX G e c.1 c.2
  exact ⟨K, fd, spLaw K, KX, hb, fun H a ns _ _ hS => sp_ok H a ns hS, hF⟩
theorem holds0 : R0.Holds := by
  refine HandSHeadRun.head_any (r := R0) (q := Q0) (H := hk) (ob := ob) (M := 4000) (loose := ((Ds.map (·.name) ++ consts.map (·.1)).filter fun x => decide (x ≠ "law"))) (d := dT) (kwd := []) ob_eq g1 g2 ?run g3 g4 g5 rfl g7 g8 g9 g10 ?call
  · exact run
  · exact walks
end K17
theorem PySem.Challenge.cw_sealedlink_k17_whole_others_reveal_nothi_holds : PySem.Challenge.rw_sealedlink_k17_whole_others_reveal_nothi.Holds := by
  w_on; o_law
  exact K17.holds0
end
