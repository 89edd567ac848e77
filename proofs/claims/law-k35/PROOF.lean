import PyProof.Rows.All
import Wide.All
import OpenK.AllK
import Wide.FinOn
import HandS.ForMost
import HandS.Defaults
import HandS.IsInst
import HandS.Deep
import HandS.TupAny
import HandS.Conv
import HandS.NoneIn
import HandS.SortInts
import KE.KTupSum
import KE.DataMinMax
import HandS.Strs
import HandS.Style
import HandS.Zip
import HandS.SetFor
import HandS.Set
import HandS.HeadEnd
import HandS.Head0
import HandS.Head1
import HandS.Head2
import HandS.HeadHook1
import HandS.HeadHook2
import PySem.Challenge.RW_sealedlink_k35_whole_generations_go_toge
set_option Elab.async false
set_option linter.all false
section
set_option maxRecDepth 100000
/-! tuples that are known to be plain ones (for their methods): each new tuple is noted with its very object -/
namespace Pyx
open PySem PySem.Spec PyProof.Rows L2
def TupO (o : PySem.Obj) : Prop := o.cls = .type "tuple" ∧ o.dict = none
def TupZ (K : PySem.W.Frag) (H : Hp) (a : Addr) (vs : List V) : Prop :=
  (∃ o, H a = some (.frz o (.tup vs)) ∧ TupO o) ∨
    ∃ (o : PySem.Obj) (its : Array Value) (n : Nat), K.lookup a = some o ∧ TupO o ∧ o.data = .seq its n ∧ its.size ≤ sizeLine ∧ Vals vs its.toList
theorem TupZ.sqT {K : PySem.W.Frag} {H : Hp} {a : Addr} {vs : List V} (h : TupZ K H a vs) : SqT K H a vs := by
  rcases h with ⟨o, h, _⟩ | ⟨o, its, n, h1, h2, h3⟩
  · exact .inl (.inr ⟨o, h⟩)
  · exact .inr ⟨o, its, n, h1, h2.1, h3⟩
section
variable {X : Cx} {pins : List (Addr × PySem.Obj)} {σ : L2.St} {H : Hp} {s : Shared}
theorem laidZ {s' : Shared} (I : Inv X pins σ H s) {xs : List V} {us : List Value} (hz : xs.length ≤ sizeLine) (r : Vals xs us) (t : Nat) :
    Inv X pins σ (upd H s.heap.objs.size (.frz { cls := .type "tuple", data := .seq us.toArray } (.tup xs))) { s with heap := s.heap.push { cls := .type "tuple", data := .seq us.toArray }, toks := t } :=
  I.laid (t' := t) (fun b u e => Heap.get?_push_of_some _ e) (Nat.le_refl _) ⟨Heap.get?_push_size _ rfl, hz, us, r, ⟨_, Heap.get?_push_size _ rfl, rfl, _, rfl⟩⟩
def tTupZ (t : TA) : TE := fun σ H Q => t σ H fun xs H1 => xs.length ≤ sizeLine ∧ ∀ p o, H1 p = none → TupO o → Q (.ref p) (upd H1 p (.frz o (.tup xs)))
theorem pe_tupZ {es : List Expr} {t : TA} {k : Nat} {pos : Pos} (h : PA X es t) : PE X (.Tuple es k pos) (tTupZ t) := by
  refine ⟨fun pins s σ H Q I hq => ?_⟩
  refine wpAny_Tuple_spliced (thn (h.run pos pins s σ H _ I hq) fun us s1 ⟨xs, H1, I1, r, z, q⟩ => ⟨by rw [← r.length]; exact z, ?_⟩)
  exact ⟨.ref s1.heap.objs.size, _, laidZ (s' := s1) I1 z r s1.toks, rfl, q _ _ (I1.hok.fresh (Nat.le_refl _)) ⟨rfl, rfl⟩⟩
def rCatZ (K : PySem.W.Frag) : R2 := fun x y H Q => ∃ a b xs ys, x = .ref a ∧ y = .ref b ∧ SqT K H a xs ∧ SqT K H b ys ∧ xs.length + ys.length ≤ sizeLine ∧
  (xs = [] → Q (.ref b) H) ∧ (xs ≠ [] → ys = [] → Q (.ref a) H) ∧ (xs ≠ [] → ys ≠ [] → ∀ p o, H p = none → TupO o → Q (.ref p) (upd H p (.frz o (.tup (xs ++ ys)))))
theorem op_catZ : OpR X (binaryOp .Add) (rCatZ X.K) := by
  intro pins s σ H x y v u Q I rx ry h
  obtain ⟨a, b, xs, ys, rfl, rfl, ha, hb, hz, q0, q1, q2⟩ := h
  cases rx
  cases ry
  obtain ⟨its, r1, p1, _⟩ := I.tuple ha
  obtain ⟨its2, r2, p2, _⟩ := I.tuple hb
  by_cases hx : xs = []
  · subst hx
    cases r1
    exact cat_tup0 p1 p2 ⟨.ref b, H, I, rfl, q0 rfl⟩
  · refine HT.cat_tup p1 p2 (fun z => hx (r1.nil_iff.mp z)) (fun z => ⟨.ref a, H, I, rfl, q1 hx (r2.nil_iff.mp z)⟩) (fun z => ?_) (by rw [← r1.length, ← r2.length]; exact hz)
    exact ⟨.ref s.heap.objs.size, _, laidZ (s' := s) I (by rw [List.length_append]; exact hz) (r1.append r2) s.toks, rfl, q2 hx (fun w => z (r2.nil_iff.mpr w)) _ _ (I.hok.fresh (Nat.le_refl _)) ⟨rfl, rfl⟩⟩
def rSlZ (K : PySem.W.Frag) : V → Option Int → Option Int → Hp → VK → Prop := fun x lo hi H Q => ∃ a xs, x = .ref a ∧ SqT K H a xs ∧
  (HT.sIx xs.length 0 lo = 0 ∧ HT.sIx xs.length xs.length hi = xs.length → Q (.ref a) H) ∧ (¬ (HT.sIx xs.length 0 lo = 0 ∧ HT.sIx xs.length xs.length hi = xs.length) → ∀ p o, H p = none → TupO o → Q (.ref p) (upd H p (.frz o (.tup (cutV xs lo hi)))))
theorem sl_tupZ : SlR X (rSlZ X.K) := by
  intro pins s σ H x v vl vu lo hi sl Q I rx hs pl pu h
  obtain ⟨a, xs, rfl, hx, q1, q2⟩ := h
  cases rx
  obtain ⟨its, r, ht, hz⟩ := I.tuple hx
  have hlen : its.toArray.size = xs.length := by rw [List.size_toArray]; exact r.length.symm
  refine ⟨"tuple", _, PyProof.Rows.slot_tuple_getitem.lookup, ht.typeIs, ?_⟩
  by_cases hw : HT.sIx xs.length 0 lo = 0 ∧ HT.sIx xs.length xs.length hi = xs.length
  · exact getItem_tuple_whole ht hs pl pu (by rw [hlen]; exact hw) ⟨.ref a, H, I, rfl, q1 hw⟩
  · refine HT.getItem_tuple_cut ht hs pl pu (by rw [hlen]; exact hw) ?_ (by rw [hlen]; exact hz)
    rw [hlen]
    exact ⟨.ref s.heap.objs.size, _, laidZ (s' := s) I (Nat.le_trans (cutV_length xs lo hi) hz) ((r.drop (HT.sIx xs.length 0 lo)).take (HT.sIx xs.length xs.length hi - HT.sIx xs.length 0 lo)) s.toks, rfl, q2 hw _ _ (I.hok.fresh (Nat.le_refl _)) ⟨rfl, rfl⟩⟩
theorem call_tupleZ : CallR X (.type "tuple") (fun xs H Q => ∃ p ys, xs = [.ref p] ∧ ((SqL X.K H p ys ∧ ∀ l o, H l = none → TupO o → Q (.ref l) (upd H l (.frz o (.tup ys)))) ∨ (SqT X.K H p ys ∧ Q (.ref p) H))) := by
  intro pins s σ H xs us Q I r h
  obtain ⟨p, ys, rfl, h⟩ := h
  obtain ⟨u, rfl, rx⟩ := vals1 r
  cases rx
  rcases h with ⟨hq, q⟩ | ⟨hq, q⟩
  · obtain ⟨its, r', pl, hz⟩ := I.list hq
    have hlen := r'.length
    refine call_tuple_list pl.isList (fun h' kp => ?_) (by simp only [List.size_toArray] <;> omega)
    have I1 : Inv X pins σ H { s with heap := h' } := I.kept (t' := s.toks) kp
    exact ⟨.ref h'.objs.size, _, laidZ (s' := s) I1 hz r' s.toks, rfl, q _ _ (I1.hok.fresh (Nat.le_refl _)) ⟨rfl, rfl⟩⟩
  · obtain ⟨its, r', pl, hz⟩ := I.tuple hq
    exact call_tuple_same pl ⟨.ref p, H, I, rfl, q⟩
/-- a plain tuple's object -/
theorem TupZ.obj (I : Inv X pins σ H s) {a : Addr} {vs : List V} (h : TupZ X.K H a vs) : ∃ its n sl, Vals vs its ∧ s.heap.get? a = some { cls := .type "tuple", dict := none, data := .seq its.toArray n, slots := sl } ∧ vs.length ≤ sizeLine := by
  rcases h with ⟨o, h, t⟩ | ⟨o, its, n, h1, t, h3, h4, h5⟩
  · obtain ⟨e, z, its, r, ⟨o', e', c, n, d⟩⟩ := I.hok a _ h
    rw [e] at e'; cases e'
    obtain ⟨cls, dd, data, sl⟩ := o
    obtain ⟨t1, t2⟩ := t
    simp only at t1 t2 d
    subst t1 t2 d
    exact ⟨its, n, sl, r, e, z⟩
  · obtain ⟨cls, dd, data, sl⟩ := o
    obtain ⟨t1, t2⟩ := t
    simp only at t1 t2 h3
    subst t1 t2 h3
    exact ⟨its.toList, n, sl, h5, by simpa using I.kIn a _ h1, by have := h5.length; simp at this; omega⟩
end
end Pyx
end
section
set_option maxRecDepth 100000
/-! the abstract values, the store, how they lie in the layer's heap -/
namespace Pyx
open PySem PySem.Spec PyProof.Rows L2

inductive AV where
  | non | bl (b : Bool) | int (i : Int) | str (x : Str)
  | tup (xs : List AV) | lst (xs : List AV) | ref (n : Nat)
  deriving Inhabited

inductive Slt where
  | val (v : AV) | own (xs : List AV)
  deriving Inhabited
inductive SObj where
  | lst (xs : List AV) | dic (kvs : List (Str × AV))
  deriving Inhabited
structure AS where
  ρ : List (Option Slt)
  S : List SObj
  deriving Inhabited

abbrev Hot := Addr → Prop
/-- a list of the module's own part -/
def KLst (K : PySem.W.Frag) (a : Addr) (xs : List V) : Prop := ∃ (o : PySem.Obj) (its : Array Value) (n : Nat), K.lookup a = some o ∧ o.cls = .type "list" ∧ o.dict = none ∧ o.data = .seq its n ∧ its.size ≤ sizeLine ∧ Vals xs its.toList
mutual
inductive Rp (K : PySem.W.Frag) (H : Hp) (hot : Hot) (m : List Addr) : V → AV → Prop
  | non : Rp K H hot m .non .non
  | bl (b : Bool) : Rp K H hot m (.bl b) (.bl b)
  | int (i : Int) : Rp K H hot m (.int i) (.int i)
  | str (x : Str) : Rp K H hot m (.str x) (.str x)
  | tup {a : Addr} {vs : List V} {xs : List AV} : TupZ K H a vs → Rps K H hot m vs xs → Rp K H hot m (.ref a) (.tup xs)
  | lst {a : Addr} {vs : List V} {xs : List AV} : Rd H a (.lst vs) → ¬ hot a → Rps K H hot m vs xs → Rp K H hot m (.ref a) (.lst xs)
  | lstK {a : Addr} {vs : List V} {xs : List AV} : KLst K a vs → Rps K H hot m vs xs → Rp K H hot m (.ref a) (.lst xs)
  | ref {a : Addr} {n : Nat} : m[n]? = some a → Rp K H hot m (.ref a) (.ref n)
inductive Rps (K : PySem.W.Frag) (H : Hp) (hot : Hot) (m : List Addr) : List V → List AV → Prop
  | nil : Rps K H hot m [] []
  | cons {x : V} {v : AV} {xs : List V} {vs : List AV} : Rp K H hot m x v → Rps K H hot m xs vs → Rps K H hot m (x :: xs) (v :: vs)
end

section
variable {K : PySem.W.Frag} {H H' : Hp} {hot hot' : Hot} {m m' : List Addr}
theorem Rps.length : ∀ {xs : List V} {vs : List AV}, Rps K H hot m xs vs → xs.length = vs.length
  | _, _, .nil => rfl
  | _, _, .cons _ t => by simp [Rps.length t]
theorem Rps.get : ∀ {xs : List V} {vs : List AV} {i : Nat} {v : AV}, Rps K H hot m xs vs → vs[i]? = some v → ∃ x, xs[i]? = some x ∧ Rp K H hot m x v
  | _, _, _, _, .nil, e => by simp at e
  | _, _, 0, _, .cons r _, e => by simp at e; subst e; exact ⟨_, rfl, r⟩
  | _, _, i + 1, v, .cons _ t, e => by
    obtain ⟨u, h1, h2⟩ := Rps.get (i := i) (v := v) t (by simpa using e)
    exact ⟨u, by simpa using h1, h2⟩
theorem Rps.append : ∀ {xs ys : List V} {us ws : List AV}, Rps K H hot m xs us → Rps K H hot m ys ws → Rps K H hot m (xs ++ ys) (us ++ ws)
  | _, _, _, _, .nil, s => s
  | _, _, _, _, .cons r t, s => .cons r (Rps.append t s)
theorem Rps.take : ∀ {xs : List V} {us : List AV} (n : Nat), Rps K H hot m xs us → Rps K H hot m (xs.take n) (us.take n)
  | _, _, 0, _ => .nil
  | _, _, _ + 1, .nil => .nil
  | _, _, n + 1, .cons r t => .cons r (Rps.take n t)
theorem Rps.drop : ∀ {xs : List V} {us : List AV} (n : Nat), Rps K H hot m xs us → Rps K H hot m (xs.drop n) (us.drop n)
  | _, _, 0, r => r
  | _, _, _ + 1, .nil => .nil
  | _, _, n + 1, .cons _ t => Rps.drop n t
theorem Rps.set {x : V} {v : AV} (r : Rp K H hot m x v) : ∀ {xs : List V} {us : List AV} (i : Nat), Rps K H hot m xs us → Rps K H hot m (xs.set i x) (us.set i v)
  | _, _, _, .nil => .nil
  | _, _, 0, .cons _ t => .cons r t
  | _, _, i + 1, .cons q t => .cons q (Rps.set r i t)
theorem Rps.eraseIdx : ∀ {xs : List V} {us : List AV} (i : Nat), Rps K H hot m xs us → Rps K H hot m (xs.eraseIdx i) (us.eraseIdx i)
  | _, _, _, .nil => .nil
  | _, _, 0, .cons _ t => t
  | _, _, i + 1, .cons q t => .cons q (Rps.eraseIdx i t)
theorem Rps.one {x : V} {v : AV} (r : Rp K H hot m x v) : Rps K H hot m [x] [v] := .cons r .nil
theorem Rps.snoc {xs : List V} {us : List AV} {x : V} {v : AV} (q : Rps K H hot m xs us) (r : Rp K H hot m x v) : Rps K H hot m (xs ++ [x]) (us ++ [v]) := q.append (.one r)
theorem Rps.rev : ∀ {xs : List V} {us : List AV}, Rps K H hot m xs us → Rps K H hot m xs.reverse us.reverse
  | _, _, .nil => .nil
  | _, _, .cons r t => by rw [List.reverse_cons, List.reverse_cons]; exact (Rps.rev t).snoc r
theorem Rps.ints : ∀ (ns : List Int), Rps K H hot m (ns.map V.int) (ns.map AV.int)
  | [] => .nil
  | n :: r => .cons (.int n) (Rps.ints r)
theorem Rps.of_ints : ∀ {xs : List V} {ns : List Int}, Rps K H hot m xs (ns.map AV.int) → xs = ns.map V.int
  | _, [], .nil => rfl
  | _, n :: r, .cons h t => by cases h; rw [List.map_cons, Rps.of_ints t]
theorem Rps.bls : ∀ (ns : List Bool), Rps K H hot m (ns.map V.bl) (ns.map AV.bl)
  | [] => .nil
  | n :: r => .cons (.bl n) (Rps.bls r)
theorem Rps.of_bls : ∀ {xs : List V} {ns : List Bool}, Rps K H hot m xs (ns.map AV.bl) → xs = ns.map V.bl
  | _, [], .nil => rfl
  | _, n :: r, .cons h t => by cases h; rw [List.map_cons, Rps.of_bls t]

/-- what keeps a reading: the tuples and the lists that are not hot stand, nothing of them becomes hot, the store's addresses go on -/
structure KeepR (K : PySem.W.Frag) (H H' : Hp) (hot hot' : Hot) (m m' : List Addr) : Prop where
  tup : ∀ a o vs, H a = some (.frz o (.tup vs)) → H' a = some (.frz o (.tup vs))
  lst : ∀ a vs, Rd H a (.lst vs) → ¬ hot a → Rd H' a (.lst vs) ∧ ¬ hot' a
  pre : ∀ (n : Nat) (a : Addr), m[n]? = some a → m'[n]? = some a
mutual
theorem Rp.keep (k : KeepR K H H' hot hot' m m') : ∀ {v : AV} {x : V}, Rp K H hot m x v → Rp K H' hot' m' x v
  | .non, _, .non => .non
  | .bl _, _, .bl b => .bl b
  | .int _, _, .int i => .int i
  | .str _, _, .str x => .str x
  | .tup xs, _, .tup h r => .tup (h.elim (fun ⟨o, h, t⟩ => .inl ⟨o, k.tup _ _ _ h, t⟩) .inr) (Rps.keep k r)
  | .lst xs, _, .lst h n r => .lst (k.lst _ _ h n).1 (k.lst _ _ h n).2 (Rps.keep k r)
  | .lst xs, _, .lstK h r => .lstK h (Rps.keep k r)
  | .ref _, _, .ref h => .ref (k.pre _ _ h)
theorem Rps.keep (k : KeepR K H H' hot hot' m m') : ∀ {vs : List AV} {xs : List V}, Rps K H hot m xs vs → Rps K H' hot' m' xs vs
  | [], _, .nil => .nil
  | _ :: _, _, .cons r t => .cons (Rp.keep k r) (Rps.keep k t)
end
end

/-- a hot thing is a tracked list or dict -/
def IsMut (H : Hp) (p : Addr) : Prop := (∃ vs, H p = some (.lst vs)) ∨ ∃ kvs, H p = some (.dK kvs)
def Own (ρ : List (Option Slt)) (σ : L2.St) (p : Addr) : Prop := ∃ (i : Nat) (xs : List AV), ρ[i]? = some (some (Slt.own xs)) ∧ σ[i]? = some (some (V.ref p))
def Loc' (m : List Addr) (a : AS) (σ : L2.St) (p : Addr) : Prop := p ∈ m ∨ Own a.ρ σ p
def hotOf (F : Hot) (m : List Addr) (a : AS) (σ : L2.St) : Hot := fun p => F p ∨ Loc' m a σ p

abbrev Rp' (K : PySem.W.Frag) (F : Hot) (m : List Addr) (a : AS) (σ : L2.St) (H : Hp) : V → AV → Prop := Rp K H (hotOf F m a σ) m
abbrev Rps' (K : PySem.W.Frag) (F : Hot) (m : List Addr) (a : AS) (σ : L2.St) (H : Hp) : List V → List AV → Prop := Rps K H (hotOf F m a σ) m
def RpD (K : PySem.W.Frag) (H : Hp) (hot : Hot) (m : List Addr) : List (Key × V) → List (Str × AV) → Prop
  | [], [] => True
  | (k, x) :: xs, (s, v) :: vs => k = .inr s ∧ Rp K H hot m x v ∧ RpD K H hot m xs vs
  | _, _ => False
theorem RpD.keep {K : PySem.W.Frag} {H H' : Hp} {hot hot' : Hot} {m m' : List Addr} (k : KeepR K H H' hot hot' m m') : ∀ {xs : List (Key × V)} {vs : List (Str × AV)}, RpD K H hot m xs vs → RpD K H' hot' m' xs vs
  | [], [], _ => trivial
  | (_, _) :: _, (_, _) :: _, ⟨e, r, t⟩ => ⟨e, r.keep k, RpD.keep k t⟩
  | [], _ :: _, h => h.elim
  | _ :: _, [], h => h.elim
def ObRp (K : PySem.W.Frag) (H : Hp) (hot : Hot) (m : List Addr) (p : Addr) : SObj → Prop
  | .lst xs => ∃ vs, H p = some (.lst vs) ∧ Rps K H hot m vs xs
  | .dic kvs => ∃ vs, H p = some (.dK vs) ∧ RpD K H hot m vs kvs

structure Rl (K : PySem.W.Frag) (F : Hot) (m : List Addr) (a : AS) (σ : L2.St) (H : Hp) : Prop where
  len : a.ρ.length = σ.length
  slot : ∀ (i : Nat) (v : AV), a.ρ[i]? = some (some (Slt.val v)) → ∃ x, σ[i]? = some (some x) ∧ Rp' K F m a σ H x v
  own : ∀ (i : Nat) (xs : List AV), a.ρ[i]? = some (some (Slt.own xs)) → ∃ p vs, σ[i]? = some (some (.ref p)) ∧ H p = some (.lst vs) ∧ Rps' K F m a σ H vs xs ∧ ¬ F p ∧ p ∉ m
  inj : ∀ (i j : Nat) (xs ys : List AV) (p : Addr), a.ρ[i]? = some (some (Slt.own xs)) → a.ρ[j]? = some (some (Slt.own ys)) → σ[i]? = some (some (V.ref p)) → σ[j]? = some (some (V.ref p)) → i = j
  mlen : m.length = a.S.length
  obj : ∀ (n : Nat) (o : SObj) (p : Addr), a.S[n]? = some o → m[n]? = some p → ObRp K H (hotOf F m a σ) m p o
  mnd : m.Nodup
  mF : ∀ p ∈ m, ¬ F p
  FH : ∀ p, F p → IsMut H p

/-- from one moment to a later one of the same frame -/
structure Stp (m : List Addr) (a : AS) (σ : L2.St) (H : Hp) (m' : List Addr) (a' : AS) (σ' : L2.St) (H' : Hp) : Prop where
  pre : ∀ (n : Nat) (p : Addr), m[n]? = some p → m'[n]? = some p
  keep : ∀ b o, H b = some o → ¬ Loc' m a σ b → H' b = some o
  dom : ∀ b, H b ≠ none → H' b ≠ none
  locs : ∀ b, Loc' m' a' σ' b → Loc' m a σ b ∨ H b = none

section
variable {K : PySem.W.Frag} {F : Hot} {m m1 m2 : List Addr} {a a1 a2 : AS} {σ σ1 σ2 : L2.St} {H H1 H2 : Hp}
theorem Stp.refl : Stp m a σ H m a σ H := ⟨fun _ _ e => e, fun _ _ e _ => e, fun _ e => e, fun _ e => .inl e⟩
theorem Stp.trans (s : Stp m a σ H m1 a1 σ1 H1) (t : Stp m1 a1 σ1 H1 m2 a2 σ2 H2) : Stp m a σ H m2 a2 σ2 H2 where
  pre := fun n p e => t.pre n p (s.pre n p e)
  keep := fun b o e n => t.keep b o (s.keep b o e n) fun l => (s.locs b l).elim n fun z => by rw [e] at z; cases z
  dom := fun b e => t.dom b (s.dom b e)
  locs := fun b l => by
    rcases t.locs b l with l | z
    · exact s.locs b l
    · refine .inr ?_
      cases q : H b with
      | none => rfl
      | some o => exact absurd z (s.dom b (by rw [q]; simp))
theorem Rl.hotMut (R : Rl K F m a σ H) {p : Addr} (h : hotOf F m a σ p) : IsMut H p := by
  rcases h with h | h | ⟨i, xs, e1, e2⟩
  · exact R.FH p h
  · obtain ⟨n, hn, e⟩ := List.getElem_of_mem h
    have e' : m[n]? = some p := by rw [List.getElem?_eq_getElem hn, e]
    have hs : n < a.S.length := by rw [← R.mlen]; exact hn
    have := R.obj n a.S[n] p (List.getElem?_eq_getElem hs) e'
    cases q : a.S[n] with
    | lst xs => rw [q] at this; obtain ⟨vs, h1, _⟩ := this; exact .inl ⟨vs, h1⟩
    | dic xs => rw [q] at this; obtain ⟨vs, h1, _⟩ := this; exact .inr ⟨vs, h1⟩
  · obtain ⟨p', vs, e3, h1, _⟩ := R.own i xs e1
    rw [e2] at e3; cases e3
    exact .inl ⟨vs, h1⟩
theorem IsMut.ne {p : Addr} {o : HO} (h : IsMut H p) (e : H p = some o) : (∃ vs, o = .lst vs) ∨ ∃ kvs, o = .dK kvs := by
  rcases h with ⟨vs, q⟩ | ⟨vs, q⟩
  · rw [e] at q; cases q; exact .inl ⟨_, rfl⟩
  · rw [e] at q; cases q; exact .inr ⟨_, rfl⟩
/-- a reading is kept over a step -/
theorem Rl.keeps (R : Rl K F m a σ H) (s : Stp m a σ H m1 a1 σ1 H1) : KeepR K H H1 (hotOf F m a σ) (hotOf F m1 a1 σ1) m m1 where
  tup := fun b o vs h => by
    refine s.keep b _ h fun l => ?_
    rcases (R.hotMut (.inr l)).ne h with ⟨_, e⟩ | ⟨_, e⟩ <;> cases e
  lst := fun b vs h n => by
    have nl : ¬ Loc' m a σ b := fun l => n (.inr l)
    refine ⟨?_, fun h1 => ?_⟩
    · rcases h with h | ⟨o, h⟩
      · exact .inl (s.keep b _ h nl)
      · exact .inr ⟨o, s.keep b _ h nl⟩
    · rcases h1 with h1 | h1
      · exact n (.inl h1)
      · rcases s.locs b h1 with l | z
        · exact nl l
        · rcases h with h | ⟨o, h⟩ <;> rw [z] at h <;> cases h
  pre := s.pre
theorem Rp.step (R : Rl K F m a σ H) (s : Stp m a σ H m1 a1 σ1 H1) {x : V} {v : AV} (r : Rp' K F m a σ H x v) : Rp' K F m1 a1 σ1 H1 x v := r.keep (R.keeps s)
theorem Rps.step (R : Rl K F m a σ H) (s : Stp m a σ H m1 a1 σ1 H1) {x : List V} {v : List AV} (r : Rps' K F m a σ H x v) : Rps' K F m1 a1 σ1 H1 x v := r.keep (R.keeps s)

/-- a new object that is not hot -/
theorem Stp.new {p : Addr} {o : HO} (hp : H p = none) : Stp m a σ H m a σ (upd H p o) where
  pre := fun _ _ e => e
  keep := fun b u e _ => by rw [upd_ne (ne_of_none e hp)]; exact e
  dom := fun b e => by
    by_cases q : b = p
    · subst q; exact absurd hp e
    · rw [upd_ne q]; exact e
  locs := fun b l => .inl l
theorem Rl.via (R : Rl K F m a σ H) (s : Stp m a σ H m a σ H1) (hl : ∀ b, Loc' m a σ b → H1 b = H b) : Rl K F m a σ H1 where
  len := R.len
  slot := fun i v e => let ⟨x, e1, r⟩ := R.slot i v e; ⟨x, e1, r.step R s⟩
  own := fun i xs e => by
    obtain ⟨p, vs, e1, h1, r, n1, n2⟩ := R.own i xs e
    exact ⟨p, vs, e1, by rw [hl p (.inr ⟨i, xs, e, e1⟩)]; exact h1, r.step R s, n1, n2⟩
  inj := R.inj
  mlen := R.mlen
  obj := fun n o p e1 e2 => by
    have h := R.obj n o p e1 e2
    have e : H1 p = H p := hl p (.inl (List.mem_of_getElem? e2))
    cases o with
    | lst xs => obtain ⟨vs, h1, r⟩ := h; exact ⟨vs, by rw [e]; exact h1, r.step R s⟩
    | dic xs => obtain ⟨vs, h1, r⟩ := h; exact ⟨vs, by rw [e]; exact h1, r.keep (R.keeps s)⟩
  mnd := R.mnd
  mF := R.mF
  FH := fun p h => by
    by_cases l : Loc' m a σ p
    · unfold IsMut
      rw [hl p l]
      exact R.FH p h
    · rcases R.FH p h with ⟨vs, q⟩ | ⟨vs, q⟩
      · exact .inl ⟨vs, s.keep p _ q l⟩
      · exact .inr ⟨vs, s.keep p _ q l⟩
theorem Rl.locSome (R : Rl K F m a σ H) {b : Addr} (l : Loc' m a σ b) : H b ≠ none := by
  rcases R.hotMut (.inr l) with ⟨_, q⟩ | ⟨_, q⟩ <;> rw [q] <;> simp
theorem Rl.new (R : Rl K F m a σ H) {p : Addr} {o : HO} (hp : H p = none) : Rl K F m a σ (upd H p o) :=
  R.via (.new hp) fun b l => upd_ne fun e => R.locSome l (e ▸ hp)
theorem Rl.notHot (R : Rl K F m a σ H) {p : Addr} (hp : H p = none) : ¬ hotOf F m a σ p := fun h => by
  rcases R.hotMut h with ⟨_, q⟩ | ⟨_, q⟩ <;> rw [hp] at q <;> cases q
/-- a new tuple, a new list that nobody changes -/
theorem Rl.newTup (R : Rl K F m a σ H) {p : Addr} {o : PySem.Obj} {vs : List V} {xs : List AV} (hp : H p = none) (ho : TupO o) (r : Rps' K F m a σ H vs xs) : Rp' K F m a σ (upd H p (.frz o (.tup vs))) (.ref p) (.tup xs) :=
  .tup (.inl ⟨o, upd_same, ho⟩) (r.step R (.new hp))
theorem Rl.newLst (R : Rl K F m a σ H) {p : Addr} {vs : List V} {xs : List AV} (hp : H p = none) (r : Rps' K F m a σ H vs xs) : Rp' K F m a σ (upd H p (.lst vs)) (.ref p) (.lst xs) :=
  .lst (Rd.of upd_same) (R.notHot hp) (r.step R (.new hp))
end
end Pyx
end
section
set_option maxRecDepth 100000
namespace Pyx
open PySem PySem.Spec PyProof.Rows L2
section
variable {K : PySem.W.Frag} {F : Hot} {m m1 m2 : List Addr} {a a1 a2 : AS} {σ σ1 σ2 : L2.St} {H H1 H2 : Hp}

theorem get_set {α : Type} {l : List α} {i j : Nat} {x y : α} (h : (l.set i x)[j]? = some y) : (j = i ∧ y = x ∧ i < l.length) ∨ (j ≠ i ∧ l[j]? = some y) := by
  by_cases e : j = i
  · subst e
    rw [List.getElem?_set_self'] at h
    cases q : l[j]? with
    | none => rw [q] at h; cases h
    | some z =>
      rw [q] at h
      cases h
      exact .inl ⟨rfl, rfl, (List.getElem?_eq_some_iff.mp q).1⟩
  · rw [List.getElem?_set_ne (Ne.symm e)] at h
    exact .inr ⟨e, h⟩
theorem set_get {α : Type} {l : List α} {i : Nat} {x : α} (h : i < l.length) : (l.set i x)[i]? = some x := List.getElem?_set_self h

/-- the store's or a frame's own lists elsewhere stand, as readings -/
theorem ObRp.keep {K : PySem.W.Frag} {H H' : Hp} {hot hot' : Hot} {m m' : List Addr} {p : Addr} {o : SObj} (k : KeepR K H H' hot hot' m m') (e : H' p = H p) (h : ObRp K H hot m p o) : ObRp K H' hot' m' p o := by
  cases o with
  | lst xs => obtain ⟨vs, h1, r⟩ := h; exact ⟨vs, e.trans h1, r.keep k⟩
  | dic xs => obtain ⟨vs, h1, r⟩ := h; exact ⟨vs, e.trans h1, r.keep k⟩

/-! ### a name of a list of one's own is read as a value: from now on nobody changes it -/
def AS.frz (a : AS) (i : Nat) (xs : List AV) : AS := { a with ρ := a.ρ.set i (some (.val (.lst xs))) }
theorem Rl.frzStp {i : Nat} {xs : List AV} (h : a.ρ[i]? = some (some (Slt.own xs))) : Stp m a σ H m (a.frz i xs) σ H where
  pre := fun _ _ e => e
  keep := fun _ _ e _ => e
  dom := fun _ e => e
  locs := fun b l => by
    rcases l with l | ⟨j, ys, e1, e2⟩
    · exact .inl (.inl l)
    · rcases get_set e1 with ⟨rfl, e, _⟩ | ⟨n, e⟩
      · cases e
      · exact .inl (.inr ⟨j, ys, e, e2⟩)
theorem Rl.frz (R : Rl K F m a σ H) {i : Nat} {xs : List AV} (h : a.ρ[i]? = some (some (Slt.own xs))) :
    Rl K F m (a.frz i xs) σ H ∧ ∃ p, σ[i]? = some (some (V.ref p)) ∧ Rp' K F m (a.frz i xs) σ H (.ref p) (.lst xs) := by
  have s := Rl.frzStp (m := m) (σ := σ) (H := H) h
  obtain ⟨p, vs, e1, h1, r, n1, n2⟩ := R.own i xs h
  have hr : Rp' K F m (a.frz i xs) σ H (.ref p) (.lst xs) := by
    refine .lst (Rd.of h1) (fun hh => ?_) (r.step R s)
    rcases hh with hh | hh | ⟨j, ys, e2, e3⟩
    · exact n1 hh
    · exact n2 hh
    · rcases get_set e2 with ⟨rfl, e, _⟩ | ⟨n, e⟩
      · cases e
      · exact n (R.inj j i ys xs p e h e3 e1)
  refine ⟨⟨by simp [AS.frz, R.len], fun j v e => ?_, fun j ys e => ?_, fun j k ys zs q e1 e2 e3 e4 => ?_, R.mlen, fun n o q e1 e2 => (R.obj n o q e1 e2).keep (R.keeps s) rfl, R.mnd, R.mF, R.FH⟩, p, e1, hr⟩
  · rcases get_set e with ⟨rfl, e, _⟩ | ⟨n, e⟩
    · cases e; exact ⟨_, e1, hr⟩
    · obtain ⟨x, e2, r2⟩ := R.slot j v e; exact ⟨x, e2, r2.step R s⟩
  · rcases get_set e with ⟨rfl, e, _⟩ | ⟨n, e⟩
    · cases e
    · obtain ⟨p', vs', q1, q2, q3, q4⟩ := R.own j ys e
      exact ⟨p', vs', q1, q2, q3.step R s, q4⟩
  · rcases get_set e1 with ⟨rfl, e, _⟩ | ⟨n, e1⟩
    · cases e
    · rcases get_set e2 with ⟨rfl, e, _⟩ | ⟨n, e2⟩
      · cases e
      · exact R.inj j k ys zs q e1 e2 e3 e4

/-! ### a name is stored -/
def AS.put (a : AS) (i : Nat) (v : AV) : AS := { a with ρ := a.ρ.set i (some (.val v)) }
theorem Rl.putStp {i : Nat} {x : V} {v : AV} (hl : a.ρ.length = σ.length) : Stp m a σ H m (a.put i v) (σ.set i (some x)) H where
  pre := fun _ _ e => e
  keep := fun _ _ e _ => e
  dom := fun _ e => e
  locs := fun b l => by
    rcases l with l | ⟨j, ys, e1, e2⟩
    · exact .inl (.inl l)
    · rcases get_set e1 with ⟨rfl, e, _⟩ | ⟨n, e⟩
      · cases e
      · rw [List.getElem?_set_ne (Ne.symm n)] at e2
        exact .inl (.inr ⟨j, ys, e, e2⟩)
theorem Rl.put (R : Rl K F m a σ H) {i : Nat} {x : V} {v : AV} (r : Rp' K F m a σ H x v) : Rl K F m (a.put i v) (σ.set i (some x)) H := by
  have s := Rl.putStp (m := m) (H := H) (i := i) (x := x) (v := v) R.len
  refine ⟨by simp [AS.put, R.len], fun j w e => ?_, fun j ys e => ?_, fun j k ys zs q e1 e2 e3 e4 => ?_, R.mlen, fun n o q e1 e2 => (R.obj n o q e1 e2).keep (R.keeps s) rfl, R.mnd, R.mF, R.FH⟩
  · rcases get_set e with ⟨rfl, e, hl⟩ | ⟨n, e⟩
    · cases e
      exact ⟨x, set_get (by rw [← R.len]; exact hl), r.step R s⟩
    · obtain ⟨y, e2, r2⟩ := R.slot j w e
      exact ⟨y, by rw [List.getElem?_set_ne (Ne.symm n)]; exact e2, r2.step R s⟩
  · rcases get_set e with ⟨rfl, e, _⟩ | ⟨n, e⟩
    · cases e
    · obtain ⟨p', vs', q1, q2, q3, q4⟩ := R.own j ys e
      exact ⟨p', vs', by rw [List.getElem?_set_ne (Ne.symm n)]; exact q1, q2, q3.step R s, q4⟩
  · rcases get_set e1 with ⟨rfl, e, _⟩ | ⟨n, e1⟩
    · cases e
    · rcases get_set e2 with ⟨rfl, e, _⟩ | ⟨n', e2⟩
      · cases e
      · rw [List.getElem?_set_ne (Ne.symm n)] at e3
        rw [List.getElem?_set_ne (Ne.symm n')] at e4
        exact R.inj j k ys zs q e1 e2 e3 e4

/-! ### a name is forgotten -/
def AS.drop (a : AS) (i : Nat) : AS := { a with ρ := a.ρ.set i none }
theorem Rl.dropStp {i : Nat} {x : Option V} : Stp m a σ H m (a.drop i) (σ.set i x) H where
  pre := fun _ _ e => e
  keep := fun _ _ e _ => e
  dom := fun _ e => e
  locs := fun b l => by
    rcases l with l | ⟨j, ys, e1, e2⟩
    · exact .inl (.inl l)
    · rcases get_set e1 with ⟨rfl, e, _⟩ | ⟨n, e⟩
      · cases e
      · rw [List.getElem?_set_ne (Ne.symm n)] at e2
        exact .inl (.inr ⟨j, ys, e, e2⟩)
theorem Rl.drop (R : Rl K F m a σ H) {i : Nat} {x : Option V} : Rl K F m (a.drop i) (σ.set i x) H := by
  have s := Rl.dropStp (m := m) (a := a) (σ := σ) (H := H) (i := i) (x := x)
  refine ⟨by simp [AS.drop, R.len], fun j w e => ?_, fun j ys e => ?_, fun j k ys zs q e1 e2 e3 e4 => ?_, R.mlen, fun n o q e1 e2 => (R.obj n o q e1 e2).keep (R.keeps s) rfl, R.mnd, R.mF, R.FH⟩
  · rcases get_set e with ⟨rfl, e, hl⟩ | ⟨n, e⟩
    · cases e
    · obtain ⟨y, e2, r2⟩ := R.slot j w e
      exact ⟨y, by rw [List.getElem?_set_ne (Ne.symm n)]; exact e2, r2.step R s⟩
  · rcases get_set e with ⟨rfl, e, _⟩ | ⟨n, e⟩
    · cases e
    · obtain ⟨p', vs', q1, q2, q3, q4⟩ := R.own j ys e
      exact ⟨p', vs', by rw [List.getElem?_set_ne (Ne.symm n)]; exact q1, q2, q3.step R s, q4⟩
  · rcases get_set e1 with ⟨rfl, e, _⟩ | ⟨n, e1⟩
    · cases e
    · rcases get_set e2 with ⟨rfl, e, _⟩ | ⟨n', e2⟩
      · cases e
      · rw [List.getElem?_set_ne (Ne.symm n)] at e3
        rw [List.getElem?_set_ne (Ne.symm n')] at e4
        exact R.inj j k ys zs q e1 e2 e3 e4

/-! ### a fresh list becomes a name's own -/
def AS.putOwn (a : AS) (i : Nat) (xs : List AV) : AS := { a with ρ := a.ρ.set i (some (.own xs)) }
theorem Rl.putOwnStp {i : Nat} {p : Addr} {vs : List V} {xs : List AV} (hp : H p = none) : Stp m a σ H m (a.putOwn i xs) (σ.set i (some (.ref p))) (upd H p (.lst vs)) where
  pre := fun _ _ e => e
  keep := fun b o e _ => by rw [upd_ne (ne_of_none e hp)]; exact e
  dom := fun b e => by
    by_cases q : b = p
    · rw [q, upd_same]; simp
    · rw [upd_ne q]; exact e
  locs := fun b l => by
    rcases l with l | ⟨j, ys, e1, e2⟩
    · exact .inl (.inl l)
    · rcases get_set e1 with ⟨rfl, e, hl⟩ | ⟨n, e⟩
      · rcases get_set e2 with ⟨_, e, _⟩ | ⟨n, _⟩
        · cases e; exact .inr hp
        · exact absurd rfl n
      · rw [List.getElem?_set_ne (Ne.symm n)] at e2
        exact .inl (.inr ⟨j, ys, e, e2⟩)
theorem Rl.putOwn (R : Rl K F m a σ H) {i : Nat} {p : Addr} {vs : List V} {xs : List AV} (hp : H p = none) (r : Rps' K F m a σ H vs xs) :
    Rl K F m (a.putOwn i xs) (σ.set i (some (.ref p))) (upd H p (.lst vs)) := by
  have s := Rl.putOwnStp (m := m) (a := a) (σ := σ) (i := i) (vs := vs) (xs := xs) hp
  have nloc : ∀ {b : Addr}, Loc' m a σ b → b ≠ p := fun l e => R.locSome l (e ▸ hp)
  have nF : ¬ F p := fun h => by rcases R.FH p h with ⟨_, q⟩ | ⟨_, q⟩ <;> rw [hp] at q <;> cases q
  refine ⟨by simp [AS.putOwn, R.len], fun j w e => ?_, fun j ys e => ?_, fun j k ys zs q e1 e2 e3 e4 => ?_, R.mlen, fun n o q e1 e2 => ?_, R.mnd, R.mF, fun q h => ?_⟩
  · rcases get_set e with ⟨rfl, e, hl⟩ | ⟨n, e⟩
    · cases e
    · obtain ⟨y, e2, r2⟩ := R.slot j w e
      exact ⟨y, by rw [List.getElem?_set_ne (Ne.symm n)]; exact e2, r2.step R s⟩
  · rcases get_set e with ⟨rfl, e, hl⟩ | ⟨n, e⟩
    · cases e
      exact ⟨p, vs, set_get (by rw [← R.len]; exact hl), upd_same, r.step R s, nF, fun h => nloc (.inl h) rfl⟩
    · obtain ⟨p', vs', q1, q2, q3, q4⟩ := R.own j ys e
      exact ⟨p', vs', by rw [List.getElem?_set_ne (Ne.symm n)]; exact q1, by rw [upd_ne (nloc (.inr ⟨j, ys, e, q1⟩))]; exact q2, q3.step R s, q4⟩
  · rcases get_set e1 with ⟨rfl, e, h1⟩ | ⟨n, e9⟩
    · rcases get_set e2 with ⟨rfl, e, _⟩ | ⟨n', e2⟩
      · rfl
      · rw [set_get (by rw [← R.len]; exact h1)] at e3
        rw [List.getElem?_set_ne (Ne.symm n')] at e4
        cases e3
        exact absurd rfl (nloc (.inr ⟨k, zs, e2, e4⟩))
    · rcases get_set e2 with ⟨rfl, e, h1⟩ | ⟨n', e2⟩
      · rw [set_get (by rw [← R.len]; exact h1)] at e4
        rw [List.getElem?_set_ne (Ne.symm n)] at e3
        cases e4
        exact absurd rfl (nloc (.inr ⟨j, ys, e9, e3⟩))
      · rw [List.getElem?_set_ne (Ne.symm n)] at e3
        rw [List.getElem?_set_ne (Ne.symm n')] at e4
        exact R.inj j k ys zs q e9 e2 e3 e4
  · exact (R.obj n o q e1 e2).keep (R.keeps s) (upd_ne (nloc (.inl (List.mem_of_getElem? e2))))
  · have nq : q ≠ p := fun e => nF (e ▸ h)
    unfold IsMut
    rw [upd_ne nq]
    exact R.FH q h

/-! ### a fresh object becomes one of the store -/
def AS.lay (a : AS) (o : SObj) : AS := { a with S := a.S ++ [o] }
theorem Rl.layStp {p : Addr} {u : HO} {o : SObj} (hp : H p = none) : Stp m a σ H (m ++ [p]) (a.lay o) σ (upd H p u) where
  pre := fun n q e => by
    rw [List.getElem?_append_left (List.getElem?_eq_some_iff.mp e).1]; exact e
  keep := fun b o e _ => by rw [upd_ne (ne_of_none e hp)]; exact e
  dom := fun b e => by
    by_cases q : b = p
    · rw [q, upd_same]; simp
    · rw [upd_ne q]; exact e
  locs := fun b l => by
    rcases l with l | l
    · rcases List.mem_append.mp l with l | l
      · exact .inl (.inl l)
      · have e : b = p := by simpa using l
        exact .inr (e ▸ hp)
    · exact .inl (.inr l)
theorem Rl.lay (R : Rl K F m a σ H) {p : Addr} {u : HO} {o : SObj} (hp : H p = none)
    (ho : Rl K F m a σ H → ObRp K (upd H p u) (hotOf F (m ++ [p]) (a.lay o) σ) (m ++ [p]) p o) : Rl K F (m ++ [p]) (a.lay o) σ (upd H p u) := by
  have s := Rl.layStp (m := m) (a := a) (σ := σ) (u := u) (o := o) hp
  have nloc : ∀ {b : Addr}, Loc' m a σ b → b ≠ p := fun l e => R.locSome l (e ▸ hp)
  have nF : ¬ F p := fun h => by rcases R.FH p h with ⟨_, q⟩ | ⟨_, q⟩ <;> rw [hp] at q <;> cases q
  refine ⟨R.len, fun j w e => ?_, fun j ys e => ?_, R.inj, by simp [AS.lay, R.mlen], fun n o' q e1 e2 => ?_, ?_, fun q h => ?_, fun q h => ?_⟩
  · obtain ⟨y, e2, r2⟩ := R.slot j w e
    exact ⟨y, e2, r2.step R s⟩
  · obtain ⟨p', vs', q1, q2, q3, q4, q5⟩ := R.own j ys e
    have np := nloc (.inr ⟨j, ys, e, q1⟩)
    exact ⟨p', vs', q1, by rw [upd_ne np]; exact q2, q3.step R s, q4, fun h => (List.mem_append.mp h).elim q5 fun h => np (by simpa using h)⟩
  · by_cases hn : n < a.S.length
    · have e1' : a.S[n]? = some o' := by
        have : (a.S ++ [o])[n]? = some o' := e1
        rwa [List.getElem?_append_left hn] at this
      rw [List.getElem?_append_left (by rw [R.mlen]; exact hn)] at e2
      exact (R.obj n o' q e1' e2).keep (R.keeps s) (upd_ne (nloc (.inl (List.mem_of_getElem? e2))))
    · have e1' : (a.S ++ [o])[n]? = some o' := e1
      have hn' : n = a.S.length := by
        have := (List.getElem?_eq_some_iff.mp e1').1
        simp at this
        omega
      subst hn'
      rw [List.getElem?_append_right (Nat.le_refl _)] at e1'
      rw [List.getElem?_append_right (by rw [R.mlen]; exact Nat.le_refl _)] at e2
      simp [R.mlen] at e1' e2
      subst e1' e2
      exact ho R
  · rw [List.nodup_append]
    exact ⟨R.mnd, by simp, fun x hx y hy e => by
      have : y = p := by simpa using hy
      exact nloc (.inl hx) (e.trans this)⟩
  · rcases List.mem_append.mp h with h | h
    · exact R.mF q h
    · have : q = p := by simpa using h
      rw [this]; exact nF
  · have nq : q ≠ p := fun e => nF (e ▸ h)
    unfold IsMut
    rw [upd_ne nq]
    exact R.FH q h
theorem Rl.layLst (R : Rl K F m a σ H) {p : Addr} {vs : List V} {xs : List AV} (hp : H p = none) (r : Rps' K F m a σ H vs xs) : Rl K F (m ++ [p]) (a.lay (.lst xs)) σ (upd H p (.lst vs)) :=
  R.lay hp fun R => ⟨vs, upd_same, r.step R (Rl.layStp hp)⟩
theorem Rl.layRef (R : Rl K F m a σ H) {p : Addr} {o : SObj} {H' : Hp} : Rp' K F (m ++ [p]) (a.lay o) σ H' (.ref p) (.ref a.S.length) :=
  .ref (by rw [← R.mlen]; simp)

/-! ### an own list, a store's object is changed -/
theorem Rl.setOwnStp {i : Nat} {p : Addr} {vs : List V} {xs ys : List AV} (h : a.ρ[i]? = some (some (Slt.own xs))) (hp : σ[i]? = some (some (V.ref p))) : Stp m a σ H m (a.putOwn i ys) σ (upd H p (.lst vs)) where
  pre := fun _ _ e => e
  keep := fun b o e n => by
    rw [upd_ne]
    · exact e
    · rintro rfl; exact n (.inr ⟨i, xs, h, hp⟩)
  dom := fun b e => by
    by_cases q : b = p
    · rw [q, upd_same]; simp
    · rw [upd_ne q]; exact e
  locs := fun b l => by
    rcases l with l | ⟨j, zs, e1, e2⟩
    · exact .inl (.inl l)
    · rcases get_set e1 with ⟨rfl, e, hl⟩ | ⟨n, e⟩
      · exact .inl (.inr ⟨j, xs, h, e2⟩)
      · exact .inl (.inr ⟨j, zs, e, e2⟩)
theorem Rl.setOwn (R : Rl K F m a σ H) {i : Nat} {p : Addr} {vs : List V} {xs ys : List AV} (h : a.ρ[i]? = some (some (Slt.own xs))) (hp : σ[i]? = some (some (V.ref p))) (r : Rps' K F m a σ H vs ys) :
    Rl K F m (a.putOwn i ys) σ (upd H p (.lst vs)) := by
  have s := Rl.setOwnStp (m := m) (H := H) (vs := vs) (ys := ys) h hp
  obtain ⟨p0, vs0, g1, g2, g3, g4, g5⟩ := R.own i xs h
  rw [hp] at g1; cases g1
  refine ⟨by simp [AS.putOwn, R.len], fun j w e => ?_, fun j zs e => ?_, fun j k us ws q e1 e2 e3 e4 => ?_, R.mlen, fun n o q e1 e2 => ?_, R.mnd, R.mF, fun q hq => ?_⟩
  · rcases get_set e with ⟨rfl, e, hl⟩ | ⟨n, e⟩
    · cases e
    · obtain ⟨y, e2, r2⟩ := R.slot j w e
      exact ⟨y, e2, r2.step R s⟩
  · rcases get_set e with ⟨rfl, e, hl⟩ | ⟨n, e⟩
    · cases e
      exact ⟨p, vs, hp, upd_same, r.step R s, g4, g5⟩
    · obtain ⟨p', vs', q1, q2, q3, q4⟩ := R.own j zs e
      refine ⟨p', vs', q1, ?_, q3.step R s, q4⟩
      rw [upd_ne]
      · exact q2
      · rintro rfl; exact n (R.inj j i zs xs _ e h q1 hp)
  · have old : ∀ {j : Nat} {us : List AV}, (a.putOwn i ys).ρ[j]? = some (some (Slt.own us)) → ∃ us', a.ρ[j]? = some (some (Slt.own us')) := by
      intro j us e
      rcases get_set e with ⟨rfl, _, _⟩ | ⟨_, e⟩
      · exact ⟨_, h⟩
      · exact ⟨_, e⟩
    obtain ⟨us', e1'⟩ := old e1
    obtain ⟨ws', e2'⟩ := old e2
    exact R.inj j k us' ws' q e1' e2' e3 e4
  · exact (R.obj n o q e1 e2).keep (R.keeps s) (upd_ne (by rintro rfl; exact g5 (List.mem_of_getElem? e2)))
  · unfold IsMut
    rw [upd_ne (by rintro rfl; exact g4 hq)]
    exact R.FH q hq
def AS.setS (a : AS) (n : Nat) (o : SObj) : AS := { a with S := a.S.set n o }
theorem Rl.setSStp {n : Nat} {p : Addr} {u : HO} {o : SObj} (hp : m[n]? = some p) : Stp m a σ H m (a.setS n o) σ (upd H p u) where
  pre := fun _ _ e => e
  keep := fun b o e nl => by
    rw [upd_ne]
    · exact e
    · rintro rfl; exact nl (.inl (List.mem_of_getElem? hp))
  dom := fun b e => by
    by_cases q : b = p
    · rw [q, upd_same]; simp
    · rw [upd_ne q]; exact e
  locs := fun b l => .inl l
theorem Rl.setS (R : Rl K F m a σ H) {n : Nat} {p : Addr} {u : HO} {o : SObj} (hp : m[n]? = some p) (ho : ObRp K (upd H p u) (hotOf F m (a.setS n o) σ) m p o) (hu : IsMut (upd H p u) p) :
    Rl K F m (a.setS n o) σ (upd H p u) := by
  have s := Rl.setSStp (m := m) (a := a) (σ := σ) (H := H) (u := u) (o := o) hp
  have pm := List.mem_of_getElem? hp
  refine ⟨R.len, fun j w e => ?_, fun j zs e => ?_, R.inj, by simp [AS.setS, R.mlen], fun k o' q e1 e2 => ?_, R.mnd, R.mF, fun q hq => ?_⟩
  · obtain ⟨y, e2, r2⟩ := R.slot j w e
    exact ⟨y, e2, r2.step R s⟩
  · obtain ⟨p', vs', q1, q2, q3, q4, q5⟩ := R.own j zs e
    exact ⟨p', vs', q1, by rw [upd_ne (by rintro rfl; exact q5 pm)]; exact q2, q3.step R s, q4, q5⟩
  · rcases get_set e1 with ⟨rfl, rfl, hl⟩ | ⟨ne, e1⟩
    · rw [hp] at e2; cases e2
      exact ho
    · refine (R.obj k o' q e1 e2).keep (R.keeps s) (upd_ne ?_)
      rintro rfl
      exact ne (nodup_ix_addr R.mnd e2 hp)
  · unfold IsMut
    rw [upd_ne (by rintro rfl; exact R.mF _ pm hq)]
    exact R.FH q hq
where
  nodup_ix_addr {N : List Addr} (hN : N.Nodup) {i j : Nat} {x : Addr} (a : N[i]? = some x) (b : N[j]? = some x) : i = j := by
    obtain ⟨h1, e1⟩ := List.getElem?_eq_some_iff.mp a
    obtain ⟨h2, e2⟩ := List.getElem?_eq_some_iff.mp b
    exact (List.getElem_inj hN).mp (e1.trans e2.symm)
theorem Rl.setLst (R : Rl K F m a σ H) {n : Nat} {p : Addr} {vs : List V} {xs : List AV} (hp : m[n]? = some p) (r : Rps' K F m a σ H vs xs) : Rl K F m (a.setS n (.lst xs)) σ (upd H p (.lst vs)) :=
  R.setS hp ⟨vs, upd_same, r.step R (Rl.setSStp hp)⟩ (.inl ⟨vs, upd_same⟩)
end
end Pyx
end
section
set_option maxRecDepth 100000
namespace Pyx
open PySem PySem.Spec PyProof.Rows L2

/-! ### the abstract values as plain data -/
mutual
def AV.pd : AV → PyData
  | .non => .none | .bl b => .bool b | .int i => .int i | .str x => .str x
  | .tup xs => .tuple (AV.pds xs) | .lst xs => .list (AV.pds xs) | .ref _ => .none
def AV.pds : List AV → List PyData
  | [] => [] | x :: xs => x.pd :: AV.pds xs
end
mutual
/-- no reference in it, its texts' signs are signs -/
def AV.okD : AV → Bool
  | .str x => PyData.strOk x
  | .tup xs => AV.okDs xs | .lst xs => AV.okDs xs | .ref _ => false
  | _ => true
def AV.okDs : List AV → Bool
  | [] => true | x :: xs => x.okD && AV.okDs xs
end
def AV.dep (x : AV) : Nat := x.pd.depth
def AV.eqb (x y : AV) : Bool := PyData.eqv x.pd y.pd
mutual
theorem AV.okD_lay : ∀ x : AV, x.okD = true → x.pd.canLay0 = true
  | .non, _ => rfl | .bl _, _ => rfl | .int _, _ => rfl
  | .str x, h => h
  | .tup xs, h => AV.okDs_lay xs h
  | .lst xs, h => AV.okDs_lay xs h
  | .ref _, h => by cases h
theorem AV.okDs_lay : ∀ xs : List AV, AV.okDs xs = true → PyData.canLayAll0 (AV.pds xs) = true
  | [], _ => rfl
  | x :: xs, h => by
    have h' : (x.okD && AV.okDs xs) = true := h
    rw [Bool.and_eq_true] at h'
    show (x.pd.canLay0 && PyData.canLayAll0 (AV.pds xs)) = true
    rw [AV.okD_lay x h'.1, AV.okDs_lay xs h'.2]; rfl
end
theorem AV.pds_map : ∀ xs : List AV, AV.pds xs = xs.map AV.pd
  | [] => rfl
  | x :: xs => by rw [AV.pds, AV.pds_map xs]; rfl
theorem AV.okDs_all : ∀ xs : List AV, AV.okDs xs = xs.all AV.okD
  | [] => rfl
  | x :: xs => by rw [AV.okDs, AV.okDs_all xs]; rfl

section
variable {K : PySem.W.Frag} {H : Hp} {hot : Hot} {m : List Addr}
mutual
theorem Rp.dp : ∀ {v : AV} {x : V}, Rp K H hot m x v → v.okD = true → Dp K H x v.pd
  | .non, _, .non, _ => .non
  | .bl _, _, .bl b, _ => .bl b
  | .int _, _, .int i, _ => .int i
  | .str _, _, .str x, _ => .str x
  | .tup xs, _, .tup h r, k => .tup h.sqT (Rps.dp r k)
  | .lst xs, _, .lst h n r, k => .lst (.inl h) (Rps.dp r k)
  | .lst xs, _, .lstK h r, k => .lst (.inr h) (Rps.dp r k)
theorem Rps.dp : ∀ {vs : List AV} {xs : List V}, Rps K H hot m xs vs → AV.okDs vs = true → DpAll K H xs (AV.pds vs)
  | [], _, .nil, _ => .nil
  | v :: vs, _, .cons r t, k => by
    have h' : (v.okD && AV.okDs vs) = true := k
    rw [Bool.and_eq_true] at h'
    exact .cons (Rp.dp r h'.1) (Rps.dp t h'.2)
end
end

/-! ### values that may be hot at their head: what an operation reads -/
def RB (K : PySem.W.Frag) (H : Hp) (hot : Hot) (m : List Addr) (x : V) (v : AV) : Prop :=
  Rp K H hot m x v ∨ ∃ p vs xs, x = .ref p ∧ v = .lst xs ∧ H p = some (.lst vs) ∧ Rps K H hot m vs xs
section
variable {K : PySem.W.Frag} {H : Hp} {hot : Hot} {m : List Addr} {x : V}
theorem RB.non (h : RB K H hot m x .non) : x = .non := by
  rcases h with h | ⟨_, _, _, _, e, _⟩
  · cases h; rfl
  · cases e
theorem RB.bl {b : Bool} (h : RB K H hot m x (.bl b)) : x = .bl b := by
  rcases h with h | ⟨_, _, _, _, e, _⟩
  · cases h; rfl
  · cases e
theorem RB.int {b : Int} (h : RB K H hot m x (.int b)) : x = .int b := by
  rcases h with h | ⟨_, _, _, _, e, _⟩
  · cases h; rfl
  · cases e
theorem RB.str {b : Str} (h : RB K H hot m x (.str b)) : x = .str b := by
  rcases h with h | ⟨_, _, _, _, e, _⟩
  · cases h; rfl
  · cases e
theorem RB.tup {xs : List AV} (h : RB K H hot m x (.tup xs)) : ∃ p vs, x = .ref p ∧ TupZ K H p vs ∧ Rps K H hot m vs xs := by
  rcases h with h | ⟨_, _, _, _, e, _⟩
  · cases h with | tup a b => exact ⟨_, _, rfl, a, b⟩
  · cases e
theorem RB.lst {xs : List AV} (h : RB K H hot m x (.lst xs)) : ∃ p vs, x = .ref p ∧ SqL K H p vs ∧ Rps K H hot m vs xs := by
  rcases h with h | ⟨p, vs, ys, e1, e, h1, r⟩
  · cases h with
    | lst a n b => exact ⟨_, _, rfl, .inl a, b⟩
    | lstK a b => exact ⟨_, _, rfl, .inr a, b⟩
  · cases e; exact ⟨p, vs, e1, .inl (.inl h1), r⟩
theorem RB.dp {v : AV} (h : RB K H hot m x v) (k : v.okD = true) : Dp K H x v.pd := by
  rcases h with h | ⟨p, vs, ys, e1, e, h1, r⟩
  · exact h.dp k
  · subst e e1; exact .lst (.inl (.inl h1)) (r.dp k)
end
/-- behind an operation: the value's reading in a heap that keeps all -/
def Aft (K : PySem.W.Frag) (F : Hot) (m : List Addr) (a : AS) (σ : L2.St) (H : Hp) (v : AV) (Q : VK) : Prop :=
  ∀ z H', Rl K F m a σ H' → Stp m a σ H m a σ H' → Rp' K F m a σ H' z v → Q z H'
section
variable {K : PySem.W.Frag} {F : Hot} {m : List Addr} {a : AS} {σ : L2.St} {H : Hp} {v : AV} {Q : VK} {x y : V}
theorem Aft.here (A : Aft K F m a σ H v Q) (R : Rl K F m a σ H) (r : Rp' K F m a σ H x v) : Q x H := A x H R .refl r
theorem Aft.tup {vs : List V} {xs : List AV} {p : Addr} {o : PySem.Obj} (A : Aft K F m a σ H (.tup xs) Q) (R : Rl K F m a σ H) (r : Rps' K F m a σ H vs xs) (hp : H p = none) (ho : TupO o) : Q (.ref p) (upd H p (.frz o (.tup vs))) :=
  A _ _ (R.new hp) (.new hp) (R.newTup hp ho r)
theorem Aft.lst {vs : List V} {xs : List AV} {p : Addr} (A : Aft K F m a σ H (.lst xs) Q) (R : Rl K F m a σ H) (r : Rps' K F m a σ H vs xs) (hp : H p = none) : Q (.ref p) (upd H p (.lst vs)) :=
  A _ _ (R.new hp) (.new hp) (R.newLst hp r)
end

abbrev Op2 := List SObj → AV → AV → Option AV
/-- an operation's reading by the abstract values -/
def rOp (K : PySem.W.Frag) (f : Op2) : R2 := fun x y H Q => ∃ F m a σ cx cy v, Rl K F m a σ H ∧ RB K H (hotOf F m a σ) m x cx ∧ RB K H (hotOf F m a σ) m y cy ∧ f a.S cx cy = some v ∧ Aft K F m a σ H v Q

/-! ### + - * // % ** -/
def opAdd : Op2
  | _, .int i, .int j => some (.int (i + j))
  | _, .str x, .str y => if x.length + y.length ≤ sizeLine then some (.str (x ++ y)) else none
  | _, .tup xs, .tup ys => if xs.length + ys.length ≤ sizeLine then some (.tup (xs ++ ys)) else none
  | _, .lst xs, .lst ys => if xs.length + ys.length ≤ sizeLine then some (.lst (xs ++ ys)) else none
  | _, _, _ => none
def opSub : Op2
  | _, .int i, .int j => some (.int (i - j))
  | _, _, _ => none
def opMul : Op2
  | _, .int i, .int j => if (-(2 ^ 64) < i ∧ i < 2 ^ 64) ∨ (-(2 ^ 64) < j ∧ j < 2 ^ 64) then some (.int (i * j)) else none
  | _, _, _ => none
def opFdiv : Op2
  | _, .int i, .int j => if 0 < j ∧ j < 1073741824 then some (.int (i / j)) else none
  | _, _, _ => none
def opMod : Op2
  | _, .int i, .int j => if 0 < j then some (.int (i % j)) else none
  | _, _, _ => none
def opPow : Op2
  | _, .int i, .int j => if 0 ≤ j ∧ j ≤ 1000000 ∧ i.natAbs < 2 ^ 64 then some (.int (i ^ j.toNat)) else none
  | _, _, _ => none

theorem sqlM {X : Cx} {pins : List (Addr × PySem.Obj)} {σ : L2.St} {H : Hp} {s : Shared} {l : Addr} {xs : List V} (I : Inv X pins σ H s) (h : SqL X.K H l xs) :
    xs.length ≤ sizeLine ∧ ∃ (its : List Value) (n : Nat) (dd : Option Addr) (sl : Array (Option Value)), Vals xs its ∧ xs.length = its.length ∧ s.heap.get? l = some { cls := .type "list", dict := dd, data := .seq its.toArray n, slots := sl } := by
  obtain ⟨its, r, ⟨⟨cls, dd, data, sl⟩, n, e, hc, hd, hq⟩, z⟩ := I.list h
  simp only at hc hd hq
  subst hc hd hq
  exact ⟨z, its, n, _, sl, r, r.length, e⟩
section
variable {X : Cx}
def rCatR (K : PySem.W.Frag) : R2 := fun x y H Q => ∃ l b xs zs, x = .ref l ∧ y = .ref b ∧ SqL K H l xs ∧ SqL K H b zs ∧ xs.length + zs.length ≤ sizeLine ∧ ∀ p, H p = none → Q (.ref p) (upd H p (.lst (xs ++ zs)))
theorem op_catR : OpR X (binaryOp .Add) (rCatR X.K) := by
  intro pins s σ H x y v u Q I rx ry h
  obtain ⟨l, b, xs, zs, rfl, rfl, hH, hB, hz, q⟩ := h
  cases rx
  cases ry
  obtain ⟨z, its, n, dd, sl, r, hl, e⟩ := sqlM I hH
  obtain ⟨z2, its2, n2, dd2, sl2, r2, hl2, e2⟩ := sqlM I hB
  refine concat_meets ⟨_, e, rfl⟩ ⟨_, e2, rfl⟩ noFill_list_add seq_list_add PySem.F.slot_list_add PySem.F.entry_list_add (PySem.F.args_list_add_2 _ _) (list_addW l b its.toArray its2.toArray n n2 dd dd2 sl sl2 (by rw [List.size_toArray, List.size_toArray]; omega)) ⟨e, e2, ?_⟩
  have ea : its.toArray ++ its2.toArray = (its ++ its2).toArray := by simp
  rw [ea]
  exact ⟨.ref _, _, I.lnew (t' := s.toks) (r.append r2) (by rw [List.length_append]; omega), rfl, q _ I.fresh⟩

theorem opAdd_ok : OpR X (binaryOp .Add) (rOp X.K opAdd) := by
  intro pins s σ H x y v u Q I rx ry ⟨F, m, a, σ', cx, cy, w, R, bx, by_, e, A⟩
  unfold opAdd at e
  split at e
  · cases e
    rw [bx.int] at rx; rw [by_.int] at ry
    exact op_add pins s σ H _ _ v u Q I rx ry ⟨_, _, rfl, rfl, A.here R (.int _)⟩
  · split at e
    · cases e
      rw [bx.str] at rx; rw [by_.str] at ry
      exact op_add_str pins s σ H _ _ v u Q I rx ry ⟨_, _, rfl, rfl, by assumption, A.here R (.str _)⟩
    · cases e
  · split at e
    · cases e
      rename_i xs ys hlen
      obtain ⟨p, vs, rfl, h1, r1⟩ := bx.tup
      obtain ⟨q, ws, rfl, h2, r2⟩ := by_.tup
      refine op_catZ pins s σ H _ _ v u Q I rx ry ⟨p, q, vs, ws, rfl, rfl, h1.sqT, h2.sqT, by rw [r1.length, r2.length]; exact hlen, fun e => ?_, fun _ e => ?_, fun _ _ p' o hp ho => A.tup R (r1.append r2) hp ho⟩
      · subst e
        cases r1
        exact A.here R (.tup h2 r2)
      · subst e
        cases r2
        rw [List.append_nil] at A
        exact A.here R (.tup h1 r1)
    · cases e
  · split at e
    · cases e
      rename_i xs ys hlen
      obtain ⟨p, vs, rfl, h1, r1⟩ := bx.lst
      obtain ⟨q, ws, rfl, h2, r2⟩ := by_.lst
      exact op_catR pins s σ H _ _ v u Q I rx ry ⟨p, q, vs, ws, rfl, rfl, h1, h2, by rw [r1.length, r2.length]; exact hlen, fun p' hp => A.lst R (r1.append r2) hp⟩
    · cases e
  · cases e
theorem opSub_ok : OpR X (binaryOp .Sub) (rOp X.K opSub) := by
  intro pins s σ H x y v u Q I rx ry ⟨F, m, a, σ', cx, cy, w, R, bx, by_, e, A⟩
  unfold opSub at e
  split at e
  · cases e
    rw [bx.int] at rx; rw [by_.int] at ry
    exact op_sub pins s σ H _ _ v u Q I rx ry ⟨_, _, rfl, rfl, A.here R (.int _)⟩
  · cases e
theorem opMul_ok : OpR X (binaryOp .Mult) (rOp X.K opMul) := by
  intro pins s σ H x y v u Q I rx ry ⟨F, m, a, σ', cx, cy, w, R, bx, by_, e, A⟩
  unfold opMul at e
  split at e
  · split at e
    · cases e
      rw [bx.int] at rx; rw [by_.int] at ry
      exact op_mul pins s σ H _ _ v u Q I rx ry ⟨_, _, rfl, rfl, by assumption, A.here R (.int _)⟩
    · cases e
  · cases e
theorem opFdiv_ok : OpR X (binaryOp .FloorDiv) (rOp X.K opFdiv) := by
  intro pins s σ H x y v u Q I rx ry ⟨F, m, a, σ', cx, cy, w, R, bx, by_, e, A⟩
  unfold opFdiv at e
  split at e
  · split at e
    · cases e
      rw [bx.int] at rx; rw [by_.int] at ry
      exact op_fdiv pins s σ H _ _ v u Q I rx ry ⟨_, _, rfl, rfl, by assumption, A.here R (.int _)⟩
    · cases e
  · cases e
theorem opMod_ok : OpR X (binaryOp .Mod) (rOp X.K opMod) := by
  intro pins s σ H x y v u Q I rx ry ⟨F, m, a, σ', cx, cy, w, R, bx, by_, e, A⟩
  unfold opMod at e
  split at e
  · split at e
    · cases e
      rw [bx.int] at rx; rw [by_.int] at ry
      exact op_mod pins s σ H _ _ v u Q I rx ry ⟨_, _, rfl, rfl, by assumption, A.here R (.int _)⟩
    · cases e
  · cases e
theorem opPow_ok : OpR X (binaryOp .Pow) (rOp X.K opPow) := by
  intro pins s σ H x y v u Q I rx ry ⟨F, m, a, σ', cx, cy, w, R, bx, by_, e, A⟩
  unfold opPow at e
  split at e
  · split at e
    · cases e
      rw [bx.int] at rx; rw [by_.int] at ry
      exact op_pow pins s σ H _ _ v u Q I rx ry ⟨_, _, rfl, rfl, by assumption, A.here R (.int _)⟩
    · cases e
  · cases e
/-- the binary operators of the fragment -/
def binF : Operator → Option Op2
  | .Add => some opAdd | .Sub => some opSub | .Mult => some opMul | .FloorDiv => some opFdiv | .Mod => some opMod | .Pow => some opPow
  | _ => none
theorem binF_ok {op : Operator} {f : Op2} (h : binF op = some f) : OpR X (binaryOp op) (rOp X.K f) := by
  cases op <;> simp [binF] at h <;> subst h
  · exact opAdd_ok
  · exact opSub_ok
  · exact opMul_ok
  · exact opMod_ok
  · exact opPow_ok
  · exact opFdiv_ok

/-! ### comparisons -/
def opEq : Op2 := fun _ x y => if x.okD = true ∧ y.okD = true ∧ min x.dep y.dep ≤ 64 then some (.bl (x.eqb y)) else none
def opNe : Op2 := fun _ x y => if x.okD = true ∧ y.okD = true ∧ min x.dep y.dep ≤ 64 then some (.bl (!x.eqb y)) else none
def opI (g : Int → Int → Bool) : Op2
  | _, .int i, .int j => some (.bl (g i j))
  | _, _, _ => none
def isNon : AV → Bool
  | .non => true | _ => false
def opIs : Op2
  | _, x, .non => some (.bl (isNon x))
  | _, _, _ => none
def opIsN : Op2
  | _, x, .non => some (.bl (!isNon x))
  | _, _, _ => none
def dHas (kvs : List (Str × AV)) (k : Str) : Bool := kvs.any fun kv => decide (kv.1 = k)
def inSeq (x : AV) (ys : List AV) : Option Bool :=
  if x.okD = true ∧ AV.okDs ys = true ∧ min (PyData.depthAll (AV.pds ys)) x.dep ≤ 64 then some (ys.any fun y => y.eqb x) else none
def inB : List SObj → AV → AV → Option Bool
  | _, x, .lst ys => inSeq x ys
  | _, x, .tup ys => inSeq x ys
  | S, .str k, .ref n => match S[n]? with
    | some (.dic kvs) => some (dHas kvs k)
    | _ => none
  | _, _, _ => none
def opIn : Op2 := fun S x y => (inB S x y).map .bl
def opNotIn : Op2 := fun S x y => (inB S x y).map fun b => .bl (!b)

theorem isNon_eq {K : PySem.W.Frag} {H : Hp} {hot : Hot} {m : List Addr} {x : V} {c : AV} (h : RB K H hot m x c) : decide (x = .non) = isNon c := by
  rcases h with h | ⟨_, _, _, e1, e2, _⟩
  · cases h <;> rfl
  · subst e1 e2; rfl
theorem opEq_ok (hu : X.A.units + 100 < cLine) : OpR X (compareOp .Eq) (rOp X.K opEq) := by
  intro pins s σ H x y v u Q I rx ry ⟨F, m, a, σ', cx, cy, w, R, bx, by_, e, A⟩
  unfold opEq at e
  split at e
  · rename_i h
    obtain ⟨h1, h2, h3⟩ := h
    cases e
    obtain ⟨as, r1⟩ := Dp.reads I _ _ _ (bx.dp h1) rx
    obtain ⟨bs, r2⟩ := Dp.reads I _ _ _ (by_.dp h2) ry
    exact SeqAt.compareEq_reads r1 r2 (AV.okD_lay _ h1) (AV.okD_lay _ h2) (by unfold AV.dep at h3; omega) ⟨.bl _, H, I, rfl, A.here R (.bl _)⟩
  · cases e
theorem opNe_ok (hu : X.A.units + 100 < cLine) : OpR X (compareOp .NotEq) (rOp X.K opNe) := by
  intro pins s σ H x y v u Q I rx ry ⟨F, m, a, σ', cx, cy, w, R, bx, by_, e, A⟩
  unfold opNe at e
  split at e
  · rename_i h
    obtain ⟨h1, h2, h3⟩ := h
    cases e
    obtain ⟨as, r1⟩ := Dp.reads I _ _ _ (bx.dp h1) rx
    obtain ⟨bs, r2⟩ := Dp.reads I _ _ _ (by_.dp h2) ry
    exact SeqAt.compareNe_reads r1 r2 (AV.okD_lay _ h1) (AV.okD_lay _ h2) (by unfold AV.dep at h3; omega) ⟨.bl _, H, I, rfl, A.here R (.bl _)⟩
  · cases e
theorem opI_ok {op : CmpOp} {g : Int → Int → Bool} (h : OpR X (compareOp op) (rI0 fun i j => .bl (g i j))) : OpR X (compareOp op) (rOp X.K (opI g)) := by
  intro pins s σ H x y v u Q I rx ry ⟨F, m, a, σ', cx, cy, w, R, bx, by_, e, A⟩
  unfold opI at e
  split at e
  · cases e
    rw [bx.int] at rx; rw [by_.int] at ry
    exact h pins s σ H _ _ v u Q I rx ry ⟨_, _, rfl, rfl, A.here R (.bl _)⟩
  · cases e
theorem opIs_ok : OpR X (compareOp .Is) (rOp X.K opIs) := by
  intro pins s σ H x y v u Q I rx ry ⟨F, m, a, σ', cx, cy, w, R, bx, by_, e, A⟩
  unfold opIs at e
  split at e
  · cases e
    rw [by_.non] at ry
    exact op_isN pins s σ H _ _ v u Q I rx ry ⟨rfl, by rw [isNon_eq bx]; exact A.here R (.bl _)⟩
  · cases e
theorem opIsN_ok : OpR X (compareOp .IsNot) (rOp X.K opIsN) := by
  intro pins s σ H x y v u Q I rx ry ⟨F, m, a, σ', cx, cy, w, R, bx, by_, e, A⟩
  unfold opIsN at e
  split at e
  · cases e
    rw [by_.non] at ry
    exact op_notN pins s σ H _ _ v u Q I rx ry ⟨rfl, by rw [isNon_eq bx]; exact A.here R (.bl _)⟩
  · cases e
theorem pds_any (x : AV) : ∀ ys : List AV, ((AV.pds ys).any fun z => PyData.eqv z x.pd) = ys.any fun y => y.eqb x
  | [] => rfl
  | y :: ys => by rw [AV.pds, List.any_cons, List.any_cons, pds_any x ys]; rfl
theorem RpD.has {K : PySem.W.Frag} {H : Hp} {hot : Hot} {m : List Addr} {k : Str} : ∀ {xs : List (Key × V)} {vs : List (Str × AV)}, RpD K H hot m xs vs → (valV xs (Sum.inr k)).isSome = dHas vs k
  | [], [], _ => rfl
  | (k', x) :: xs, (s, v) :: vs, ⟨e, r, t⟩ => by
    subst e
    by_cases h : s = k
    · rw [valV_pos (show ((Sum.inr s : Key), x).1 = Sum.inr k by rw [h])]
      simp [dHas, h]
    · rw [valV_neg (fun q => h (Sum.inr.inj q)), RpD.has t]
      simp [dHas, h]
theorem RB.dic {F : Hot} {m : List Addr} {a : AS} {σ : L2.St} {H : Hp} {y : V} {n : Nat} {kvs : List (Str × AV)} (R : Rl X.K F m a σ H) (b : RB X.K H (hotOf F m a σ) m y (.ref n)) (e : a.S[n]? = some (.dic kvs)) :
    ∃ p vs, y = .ref p ∧ m[n]? = some p ∧ H p = some (.dK vs) ∧ RpD X.K H (hotOf F m a σ) m vs kvs := by
  rcases b with b | ⟨_, _, _, _, e, _⟩
  · cases b with
    | ref h =>
      obtain ⟨vs, h1, r⟩ := R.obj n _ _ e h
      exact ⟨_, vs, rfl, h, h1, r⟩
  · cases e
theorem inB_ok (hu : X.A.units + 100 < cLine) {pins : List (Addr × PySem.Obj)} {s : Shared} {σ : L2.St} {H : Hp} {x y : V} {v u : Value} (I : Inv X pins σ H s) (rx : RelV x v) (ry : RelV y u)
    {F : Hot} {m : List Addr} {a : AS} {σ' : L2.St} {cx cy : AV} {b : Bool} (R : Rl X.K F m a σ' H) (bx : RB X.K H (hotOf F m a σ') m x cx) (by_ : RB X.K H (hotOf F m a σ') m y cy) (e : inB a.S cx cy = some b)
    {Q Q' : Value → Shared → Prop} (hQ : ∀ s', Inv X pins σ H s' → Q (.bool b) s') (hQ' : ∀ s', Inv X pins σ H s' → Q' (.bool (!b)) s') :
    wpAny (model X.prog X.w) X.A (compareOp .In v u) Q X.xe s ∧ wpAny (model X.prog X.w) X.A (compareOp .NotIn v u) Q' X.xe s := by
  unfold inB at e
  split at e
  · unfold inSeq at e
    split at e
    · rename_i h
      obtain ⟨h1, h2, h3⟩ := h
      cases e
      obtain ⟨as, r1⟩ := Dp.reads I _ _ _ (bx.dp h1) rx
      obtain ⟨bs, r2⟩ := Dp.reads I _ _ _ (by_.dp (show AV.okD (.lst _) = true from h2)) ry
      refine ⟨SeqAt.in_list_reads r2 r1 (AV.okDs_lay _ h2) (AV.okD_lay _ h1) (by unfold AV.dep at h3; omega) ?_, SeqAt.notIn_list_reads r2 r1 (AV.okDs_lay _ h2) (AV.okD_lay _ h1) (by unfold AV.dep at h3; omega) ?_⟩
      · rw [pds_any]; exact hQ _ I
      · rw [pds_any]; exact hQ' _ I
    · cases e
  · unfold inSeq at e
    split at e
    · rename_i h
      obtain ⟨h1, h2, h3⟩ := h
      cases e
      obtain ⟨as, r1⟩ := Dp.reads I _ _ _ (bx.dp h1) rx
      obtain ⟨bs, r2⟩ := Dp.reads I _ _ _ (by_.dp (show AV.okD (.tup _) = true from h2)) ry
      refine ⟨SeqAt.in_tuple_reads r2 r1 (AV.okDs_lay _ h2) (AV.okD_lay _ h1) (by unfold AV.dep at h3; omega) ?_, SeqAt.notIn_tuple_reads r2 r1 (AV.okDs_lay _ h2) (AV.okD_lay _ h1) (by unfold AV.dep at h3; omega) ?_⟩
      · rw [pds_any]; exact hQ _ I
      · rw [pds_any]; exact hQ' _ I
    · cases e
  · split at e
    · rename_i k n _ kvs es
      cases e
      obtain ⟨p, vs, rfl, hm, h1, r⟩ := by_.dic R es
      have := bx.str
      subst this
      cases ry
      have g : DGet H p (kV (Sum.inr k)) (valV vs (Sum.inr k)) := DGet.k h1
      refine ⟨d_in (o := valV vs (Sum.inr k)) (by omega) I g rx fun s' I' => ?_, d_notIn (o := valV vs (Sum.inr k)) (by omega) I g rx fun s' I' => ?_⟩
      · rw [r.has]; exact hQ _ I'
      · rw [r.has]; exact hQ' _ I'
    · cases e
  · cases e
theorem opIn_ok (hu : X.A.units + 100 < cLine) : OpR X (compareOp .In) (rOp X.K opIn) := by
  intro pins s σ H x y v u Q I rx ry ⟨F, m, a, σ', cx, cy, w, R, bx, by_, e, A⟩
  obtain ⟨b, e1, e2⟩ := Option.map_eq_some_iff.mp e
  subst e2
  exact (inB_ok hu I rx ry R bx by_ e1 (Q := EP X pins σ Q) (Q' := fun _ _ => True) (fun s' I' => ⟨.bl _, H, I', rfl, A.here R (.bl _)⟩) fun _ _ => trivial).1
theorem opNotIn_ok (hu : X.A.units + 100 < cLine) : OpR X (compareOp .NotIn) (rOp X.K opNotIn) := by
  intro pins s σ H x y v u Q I rx ry ⟨F, m, a, σ', cx, cy, w, R, bx, by_, e, A⟩
  obtain ⟨b, e1, e2⟩ := Option.map_eq_some_iff.mp e
  subst e2
  exact (inB_ok hu I rx ry R bx by_ e1 (Q := fun _ _ => True) (Q' := EP X pins σ Q) (fun _ _ => trivial) (fun s' I' => ⟨.bl _, H, I', rfl, A.here R (.bl _)⟩)).2
def cmpF : CmpOp → Option Op2
  | .Eq => some opEq | .NotEq => some opNe
  | .Lt => some (opI fun i j => decide (i < j)) | .LtE => some (opI fun i j => decide (i ≤ j)) | .Gt => some (opI fun i j => decide (j < i)) | .GtE => some (opI fun i j => decide (j ≤ i))
  | .Is => some opIs | .IsNot => some opIsN | .In => some opIn | .NotIn => some opNotIn
theorem cmpF_ok (hu : X.A.units + 100 < cLine) {op : CmpOp} {f : Op2} (h : cmpF op = some f) : OpR X (compareOp op) (rOp X.K f) := by
  cases op <;> simp [cmpF] at h <;> subst h
  · exact opEq_ok hu
  · exact opNe_ok hu
  · exact opI_ok op_lt
  · exact opI_ok op_le
  · exact opI_ok op_gt
  · exact opI_ok op_ge
  · exact opIs_ok
  · exact opIsN_ok
  · exact opIn_ok hu
  · exact opNotIn_ok hu
end
end Pyx
end
section
set_option maxRecDepth 100000
namespace Pyx
open PySem PySem.Spec PyProof.Rows L2

/-! ### the evaluator's kinds -/
abbrev Gm := Str → List AV → List SObj → Option (AV × List SObj)
abbrev ME := Gm → AS → Option (AV × AS)
inductive Hd where
  | val (v : AV) | slot (i : Nat)
  deriving Inhabited
abbrev MO := Gm → AS → Option (Hd × AS)
abbrev MOs := Gm → AS → Option (List Hd × AS)
abbrev MAs := Gm → AS → Option (List AV × AS)
abbrev MT := Gm → AS → Option (Bool × AS)

def resL (n : Nat) : Option SObj → AV
  | some (.lst xs) => .lst xs
  | _ => .ref n
def res (S : List SObj) : AV → AV
  | .ref n => resL n S[n]?
  | v => v
def slotV (S : List SObj) : Option (Option Slt) → Option AV
  | some (some (.own xs)) => some (.lst xs)
  | some (some (.val v)) => some (res S v)
  | _ => none
def cont (a : AS) : Hd → Option AV
  | .val v => some (res a.S v)
  | .slot i => slotV a.S a.ρ[i]?
def conts (a : AS) : List Hd → Option (List AV)
  | [] => some []
  | h :: hs => (cont a h).bind fun v => (conts a hs).map fun vs => v :: vs

def RHd (K : PySem.W.Frag) (F : Hot) (m : List Addr) (a : AS) (σ : L2.St) (H : Hp) (x : V) : Hd → Prop
  | .val v => Rp' K F m a σ H x v
  | .slot i => σ[i]? = some (some x)
def RHds (K : PySem.W.Frag) (F : Hot) (m : List Addr) (a : AS) (σ : L2.St) (H : Hp) : List V → List Hd → Prop
  | [], [] => True
  | x :: xs, h :: hs => RHd K F m a σ H x h ∧ RHds K F m a σ H xs hs
  | _, _ => False
def RBs (K : PySem.W.Frag) (H : Hp) (hot : Hot) (m : List Addr) : List V → List AV → Prop
  | [], [] => True
  | x :: xs, h :: hs => RB K H hot m x h ∧ RBs K H hot m xs hs
  | _, _ => False
section
variable {K : PySem.W.Frag} {F : Hot} {m m1 m2 : List Addr} {a a1 a2 : AS} {σ σ1 σ2 : L2.St} {H H1 H2 : Hp} {x : V}
theorem RHd.step (R : Rl K F m a σ H) (s : Stp m a σ H m1 a1 σ H1) : ∀ {h : Hd}, RHd K F m a σ H x h → RHd K F m1 a1 σ H1 x h
  | .val _, r => Rp.step R s r
  | .slot _, r => r
theorem RHds.step (R : Rl K F m a σ H) (s : Stp m a σ H m1 a1 σ H1) : ∀ {xs : List V} {h : List Hd}, RHds K F m a σ H xs h → RHds K F m1 a1 σ H1 xs h
  | [], [], r => trivial
  | _ :: _, _ :: _, ⟨r, t⟩ => ⟨r.step R s, RHds.step R s t⟩
  | [], _ :: _, h => h.elim
  | _ :: _, [], h => h.elim
theorem Rp.res (R : Rl K F m a σ H) {v : AV} (r : Rp' K F m a σ H x v) : RB K H (hotOf F m a σ) m x (res a.S v) := by
  cases v with
  | ref n =>
    cases r with
    | ref hm =>
      rename_i p
      show RB K H (hotOf F m a σ) m (.ref p) (resL n a.S[n]?)
      cases q : a.S[n]? with
      | none => exact .inl (.ref hm)
      | some o =>
        cases o with
        | lst xs =>
          obtain ⟨vs, h1, r1⟩ := R.obj n _ _ q hm
          exact .inr ⟨p, vs, xs, rfl, rfl, h1, r1⟩
        | dic kvs => exact .inl (.ref hm)
  | _ => exact .inl r
theorem RHd.cont (R : Rl K F m a σ H) : ∀ {h : Hd} {c : AV}, RHd K F m a σ H x h → Pyx.cont a h = some c → RB K H (hotOf F m a σ) m x c
  | .val v, c, r, e => by cases e; exact Rp.res R r
  | .slot i, c, r, e => by
    have r' : σ[i]? = some (some x) := r
    have e' : slotV a.S a.ρ[i]? = some c := e
    cases q : a.ρ[i]? with
    | none => rw [q] at e'; cases e'
    | some o =>
      cases o with
      | none => rw [q] at e'; cases e'
      | some sl =>
        rw [q] at e'
        cases sl with
        | own xs =>
          cases e'
          obtain ⟨p, vs, e1, h1, r1, _, _⟩ := R.own i _ q
          rw [r'] at e1; cases e1
          exact .inr ⟨p, vs, _, rfl, rfl, h1, r1⟩
        | val v =>
          cases e'
          obtain ⟨y, e1, r1⟩ := R.slot i _ q
          rw [r'] at e1; cases e1
          exact Rp.res R r1
theorem RHds.conts (R : Rl K F m a σ H) : ∀ {xs : List V} {h : List Hd} {c : List AV}, RHds K F m a σ H xs h → Pyx.conts a h = some c → RBs K H (hotOf F m a σ) m xs c
  | [], [], _, _, e => by cases e; trivial
  | _ :: _, h :: hs, c, ⟨r, t⟩, e => by
    obtain ⟨v, e1, e2⟩ := Option.bind_eq_some_iff.mp e
    obtain ⟨vs, e3, e4⟩ := Option.map_eq_some_iff.mp e2
    subst e4
    exact ⟨r.cont R e1, RHds.conts R t e3⟩
  | [], _ :: _, _, h, _ => h.elim
  | _ :: _, [], _, h, _ => h.elim
end

/-! ### readings -/
section
variable (K : PySem.W.Frag) (F : Hot) (G : Gm)
def tE (e : ME) : TE := fun σ H Q => ∃ m a r, Rl K F m a σ H ∧ e G a = some r ∧ ∀ x H' m', Rl K F m' r.2 σ H' → Stp m a σ H m' r.2 σ H' → Rp' K F m' r.2 σ H' x r.1 → Q x H'
def tO (e : MO) : TE := fun σ H Q => ∃ m a r, Rl K F m a σ H ∧ e G a = some r ∧ ∀ x H' m', Rl K F m' r.2 σ H' → Stp m a σ H m' r.2 σ H' → RHd K F m' r.2 σ H' x r.1 → Q x H'
def tOs (e : MOs) : TA := fun σ H Q => ∃ m a r, Rl K F m a σ H ∧ e G a = some r ∧ ∀ x H' m', Rl K F m' r.2 σ H' → Stp m a σ H m' r.2 σ H' → RHds K F m' r.2 σ H' x r.1 → Q x H'
def tAs (e : MAs) : TA := fun σ H Q => ∃ m a r, Rl K F m a σ H ∧ e G a = some r ∧ ∀ x H' m', Rl K F m' r.2 σ H' → Stp m a σ H m' r.2 σ H' → Rps' K F m' r.2 σ H' x r.1 → Q x H'
def tM (e : MT) : TT := fun σ H Q => ∃ m a r, Rl K F m a σ H ∧ e G a = some r ∧ ∀ H' m', Rl K F m' r.2 σ H' → Stp m a σ H m' r.2 σ H' → Q r.1 H'
/-- a fresh list -/
def tF (e : MAs) : TE := fun σ H Q => ∃ m a r, Rl K F m a σ H ∧ e G a = some r ∧ ∀ p vs H' m', Rl K F m' r.2 σ H' → Stp m a σ H m' r.2 σ H' → H' p = none → Rps' K F m' r.2 σ H' vs r.1 → Q (.ref p) (upd H' p (.lst vs))
end
theorem _root_.L2.PE.weak {X : Cx} {e : Expr} {t t' : TE} (h : PE X e t) (w : ∀ σ H Q, t' σ H Q → t σ H Q) : PE X e t' := ⟨fun pins s σ H Q I q => h.run pins s σ H Q I (w σ H Q q)⟩
theorem _root_.L2.PT.weak {X : Cx} {e : Expr} {t t' : TT} (h : PT X e t) (w : ∀ σ H Q, t' σ H Q → t σ H Q) : PT X e t' := ⟨fun pins s σ H Q I q => h.run pins s σ H Q I (w σ H Q q)⟩
theorem _root_.L2.PW.weak {X : Cx} {e : Expr} {t t' : TT} (h : PW X e t) (w : ∀ σ H Q, t' σ H Q → t σ H Q) : PW X e t' := ⟨fun wh pins s σ H Q I q => h.run wh pins s σ H Q I (w σ H Q q)⟩
theorem _root_.L2.PA.weak {X : Cx} {e : List Expr} {t t' : TA} (h : PA X e t) (w : ∀ σ H Q, t' σ H Q → t σ H Q) : PA X e t' := ⟨fun p pins s σ H Q I q => h.run p pins s σ H Q I (w σ H Q q)⟩
theorem _root_.L2.PS.weak {X : Cx} {e : Stmt} {t t' : TS} (h : PS X e t) (w : ∀ D σ H, t' D σ H → t D σ H) : PS X e t' := ⟨fun pins s σ H D I q => h.run pins s σ H D I (w D σ H q)⟩
theorem _root_.L2.PSs.weak {X : Cx} {e : List Stmt} {t t' : TS} (h : PSs X e t) (w : ∀ D σ H, t' D σ H → t D σ H) : PSs X e t' := ⟨fun pins s σ H D I q => h.run pins s σ H D I (w D σ H q)⟩

/-! ### names, constants -/
def oVar (i : Nat) : MO := fun _ a => match a.ρ[i]? with
  | some (some _) => some (.slot i, a)
  | _ => none
def eVar (i : Nat) : ME := fun _ a => match a.ρ[i]? with
  | some (some (.val v)) => some (v, a)
  | some (some (.own xs)) => some (.lst xs, a.frz i xs)
  | _ => none
def oE (e : ME) : MO := fun G a => (e G a).map fun r => (.val r.1, r.2)
def eCon (v : AV) : ME := fun _ a => some (v, a)
section
variable {X : Cx} {F : Hot} {G : Gm}
theorem pe_oVar {i : Nat} {x : Str} {pos : Pos} (hN : X.N[i]? = some x) (hv : Vis X.env.scope x) (hd : (x == ("__debug__" : Str)) = false) (hcd : (x == ("__classdict__" : Str)) = false) : PE X (.Name x pos) (tO X.K F G (oVar i)) := by
  refine PE.weak (pe_var hN hv hd hcd) fun σ H Q ⟨m, a, r, R, e, k⟩ => ?_
  unfold oVar at e
  split at e
  · rename_i s q
    cases e
    cases s with
    | val v =>
      obtain ⟨y, e1, r1⟩ := R.slot i v q
      exact ⟨y, e1, k y H m R .refl e1⟩
    | own xs =>
      obtain ⟨p, vs, e1, _⟩ := R.own i xs q
      exact ⟨_, e1, k _ H m R .refl e1⟩
  · cases e
theorem pe_eVar {i : Nat} {x : Str} {pos : Pos} (hN : X.N[i]? = some x) (hv : Vis X.env.scope x) (hd : (x == ("__debug__" : Str)) = false) (hcd : (x == ("__classdict__" : Str)) = false) : PE X (.Name x pos) (tE X.K F G (eVar i)) := by
  refine PE.weak (pe_var hN hv hd hcd) fun σ H Q ⟨m, a, r, R, e, k⟩ => ?_
  unfold eVar at e
  split at e
  · rename_i v q
    cases e
    obtain ⟨y, e1, r1⟩ := R.slot i v q
    exact ⟨y, e1, k y H m R .refl r1⟩
  · rename_i xs q
    cases e
    obtain ⟨R', p, e1, r1⟩ := R.frz q
    exact ⟨_, e1, k _ H m R' (Rl.frzStp q) r1⟩
  · cases e
theorem pe_oE {e : Expr} {me : ME} (h : PE X e (tE X.K F G me)) : PE X e (tO X.K F G (oE me)) := by
  refine h.weak fun σ H Q ⟨m, a, r, R, e, k⟩ => ?_
  obtain ⟨q, e1, e2⟩ := Option.map_eq_some_iff.mp e
  subst e2
  exact ⟨m, a, q, R, e1, fun x H' m' R' s r => k x H' m' R' s r⟩
/-- a constant's value, whatever the heap is -/
def ConV (K : PySem.W.Frag) (x : V) (v : AV) : Prop := ∀ H hot m, Rp K H hot m x v
theorem pe_con {e : Expr} {x : V} {v : AV} (h : PE X e (tC x)) (c : ConV X.K x v) : PE X e (tE X.K F G (eCon v)) := by
  refine h.weak fun σ H Q ⟨m, a, r, R, e, k⟩ => ?_
  cases e
  exact k x H m R .refl (c _ _ _)

/-! ### two operands -/
def eBin (f : Op2) (oa ob : MO) : ME := fun G a => (oa G a).bind fun r1 => (ob G r1.2).bind fun r2 => (cont r2.2 r1.1).bind fun x => (cont r2.2 r2.1).bind fun y => (f r2.2.S x y).map fun v => (v, r2.2)
theorem op2_read {f : Op2} {oa ob : MO} {σ : L2.St} {H : Hp} {Q : VK} (h : tE X.K F G (eBin f oa ob) σ H Q) : tOp (rOp X.K f) (tO X.K F G oa) (tO X.K F G ob) σ H Q := by
  obtain ⟨m, a, r, R, e, k⟩ := h
  obtain ⟨r1, e1, e⟩ := Option.bind_eq_some_iff.mp e
  obtain ⟨r2, e2, e⟩ := Option.bind_eq_some_iff.mp e
  obtain ⟨cx, e3, e⟩ := Option.bind_eq_some_iff.mp e
  obtain ⟨cy, e4, e⟩ := Option.bind_eq_some_iff.mp e
  obtain ⟨v, e5, e6⟩ := Option.map_eq_some_iff.mp e
  subst e6
  refine ⟨m, a, r1, R, e1, fun x H1 m1 R1 s1 h1 => ⟨m1, r1.2, r2, R1, e2, fun y H2 m2 R2 s2 h2 => ?_⟩⟩
  exact ⟨F, m2, r2.2, σ, cx, cy, v, R2, (h1.step R1 s2).cont R2 e3, h2.cont R2 e4, e5, fun z H' R' s' r' => k z H' m2 R' ((s1.trans s2).trans s') r'⟩
theorem pe_bin {op : Operator} {f : Op2} {x y : Expr} {oa ob : MO} {pos : Pos} (hf : binF op = some f) (ha : PE X x (tO X.K F G oa)) (hb : PE X y (tO X.K F G ob)) : PE X (.BinOp x op y pos) (tE X.K F G (eBin f oa ob)) :=
  (pe_op (binF_ok hf) ha hb).weak fun _ _ _ => op2_read
theorem pe_cmp2 {op : CmpOp} {f : Op2} {x y : Expr} {oa ob : MO} {pos : Pos} (hu : X.A.units + 100 < cLine) (hf : cmpF op = some f) (ha : PE X x (tO X.K F G oa)) (hb : PE X y (tO X.K F G ob)) (hm : behindInMarks op y = false) :
    PE X (.Compare x [op] [y] pos) (tE X.K F G (eBin f oa ob)) :=
  (pe_cmpR (cmpF_ok hu hf) ha hb hm).weak fun _ _ _ => op2_read
/-- as a test -/
def mBool (e : ME) : MT := fun G a => (e G a).bind fun r => match r.1 with
  | .bl b => some (b, r.2)
  | _ => none
theorem bool_read {e : ME} {σ : L2.St} {H : Hp} {Q : Bool → Hp → Prop} (h : tM X.K F G (mBool e) σ H Q) : tTest (tE X.K F G e) σ H Q := by
  obtain ⟨m, a, r, R, e, k⟩ := h
  obtain ⟨q, e1, e2⟩ := Option.bind_eq_some_iff.mp e
  split at e2
  · rename_i b hb
    cases e2
    refine ⟨m, a, q, R, e1, fun x H' m' R' s r => ?_⟩
    rw [hb] at r
    cases r
    exact ⟨_, rfl, k H' m' R' s⟩
  · cases e2
theorem pt_cmp2 {op : CmpOp} {f : Op2} {x y : Expr} {oa ob : MO} {pos : Pos} (hu : X.A.units + 100 < cLine) (hf : cmpF op = some f) (ha : PE X x (tO X.K F G oa)) (hb : PE X y (tO X.K F G ob)) (hm : behindInMarks op y = false) :
    PT X (.Compare x [op] [y] pos) (tM X.K F G (mBool (eBin f oa ob))) :=
  (pt_cmpR (cmpF_ok hu hf) ha hb hm).weak fun σ H Q h => by
    have h' := bool_read h
    obtain ⟨m, a, r, R, e, k⟩ := h'
    exact op2_read ⟨m, a, r, R, e, k⟩
/-- a < b < c -/
def eChain (f f' : Op2) (oa ob oc : MO) : ME := fun G a => (oa G a).bind fun r1 => (ob G r1.2).bind fun r2 => (cont r2.2 r1.1).bind fun x => (cont r2.2 r2.1).bind fun y => (f r2.2.S x y).bind fun v => match v with
  | .bl true => (oc G r2.2).bind fun r3 => (cont r3.2 r2.1).bind fun y' => (cont r3.2 r3.1).bind fun z => (f' r3.2.S y' z).map fun w => (w, r3.2)
  | .bl false => some (.bl false, r2.2)
  | _ => none
theorem chain_read {f f' : Op2} {oa ob oc : MO} {σ : L2.St} {H : Hp} {Q : VK} (h : tE X.K F G (eChain f f' oa ob oc) σ H Q) : tChain (rOp X.K f) (rOp X.K f') (tO X.K F G oa) (tO X.K F G ob) (tO X.K F G oc) σ H Q := by
  obtain ⟨m, a, r, R, e, k⟩ := h
  obtain ⟨r1, e1, e⟩ := Option.bind_eq_some_iff.mp e
  obtain ⟨r2, e2, e⟩ := Option.bind_eq_some_iff.mp e
  obtain ⟨cx, e3, e⟩ := Option.bind_eq_some_iff.mp e
  obtain ⟨cy, e4, e⟩ := Option.bind_eq_some_iff.mp e
  obtain ⟨v, e5, e⟩ := Option.bind_eq_some_iff.mp e
  refine ⟨m, a, r1, R, e1, fun x H1 m1 R1 s1 h1 => ⟨m1, r1.2, r2, R1, e2, fun y H2 m2 R2 s2 h2 => ?_⟩⟩
  refine ⟨F, m2, r2.2, σ, cx, cy, v, R2, (h1.step R1 s2).cont R2 e3, h2.cont R2 e4, e5, fun z H3 R3 s3 r3 => ?_⟩
  split at e
  · cases r3
    refine ⟨true, rfl, ?_⟩
    rw [if_pos rfl]
    obtain ⟨r3, e6, e⟩ := Option.bind_eq_some_iff.mp e
    obtain ⟨cy', e7, e⟩ := Option.bind_eq_some_iff.mp e
    obtain ⟨cz, e8, e⟩ := Option.bind_eq_some_iff.mp e
    obtain ⟨w, e9, e10⟩ := Option.map_eq_some_iff.mp e
    subst e10
    refine ⟨m2, r2.2, r3, R3, e6, fun w' H4 m4 R4 s4 h4 => ?_⟩
    exact ⟨F, m4, r3.2, σ, cy', cz, w, R4, ((h2.step R2 s3).step R3 s4).cont R4 e7, h4.cont R4 e8, e9, fun z H' R' s' r' => k z H' m4 R' ((((s1.trans s2).trans s3).trans s4).trans s') r'⟩
  · cases r3
    cases e
    refine ⟨false, rfl, ?_⟩
    rw [if_neg (by simp)]
    exact k _ H3 m2 R3 ((s1.trans s2).trans s3) (.bl _)
  · cases e
theorem pe_chn {op op' : CmpOp} {f f' : Op2} {x y z : Expr} {oa ob oc : MO} {pos : Pos} (hu : X.A.units + 100 < cLine) (hf : cmpF op = some f) (hf' : cmpF op' = some f') (ha : PE X x (tO X.K F G oa)) (hb : PE X y (tO X.K F G ob)) (hc : PE X z (tO X.K F G oc))
    (hm : lastMarks [op, op'] [y, z] = false) : PE X (.Compare x [op, op'] [y, z] pos) (tE X.K F G (eChain f f' oa ob oc)) :=
  (pe_chain (cmpF_ok hu hf) (cmpF_ok hu hf') ha hb hc hm).weak fun _ _ _ => chain_read
theorem pt_chn {op op' : CmpOp} {f f' : Op2} {x y z : Expr} {oa ob oc : MO} {pos : Pos} (hu : X.A.units + 100 < cLine) (hf : cmpF op = some f) (hf' : cmpF op' = some f') (ha : PE X x (tO X.K F G oa)) (hb : PE X y (tO X.K F G ob)) (hc : PE X z (tO X.K F G oc))
    (hm : lastMarks [op, op'] [y, z] = false) : PT X (.Compare x [op, op'] [y, z] pos) (tM X.K F G (mBool (eChain f f' oa ob oc))) :=
  (pt_chain (cmpF_ok hu hf) (cmpF_ok hu hf') ha hb hc hm).weak fun σ H Q h => by
    obtain ⟨m, a, r, R, e, k⟩ := bool_read h
    exact chain_read ⟨m, a, r, R, e, k⟩

/-! ### and, or, not, if else -/
def eAnd (e f : ME) : ME := fun G a => (e G a).bind fun r => match r.1 with
  | .bl true => f G r.2
  | .bl false => some (.bl false, r.2)
  | _ => none
def eOr (e f : ME) : ME := fun G a => (e G a).bind fun r => match r.1 with
  | .bl false => f G r.2
  | .bl true => some (.bl true, r.2)
  | _ => none
def eNot (e : ME) : ME := fun G a => (e G a).bind fun r => match r.1 with
  | .bl b => some (.bl (!b), r.2)
  | _ => none
def mAnd (e f : MT) : MT := fun G a => (e G a).bind fun r => if r.1 = true then f G r.2 else some (false, r.2)
def mOr (e f : MT) : MT := fun G a => (e G a).bind fun r => if r.1 = true then some (true, r.2) else f G r.2
def mNot (e : MT) : MT := fun G a => (e G a).map fun r => (!r.1, r.2)
def eIte (c : MT) (e f : ME) : ME := fun G a => (c G a).bind fun r => if r.1 = true then e G r.2 else f G r.2
variable {x y : Expr} {rest : List Expr} {pos : Pos} {e f : ME} {c t u : MT}
theorem pe_eAnd (ha : PE X x (tE X.K F G e)) (hb : PE X (.BoolOp .And (y :: rest) pos) (tE X.K F G f)) : PE X (.BoolOp .And (x :: y :: rest) pos) (tE X.K F G (eAnd e f)) := by
  refine (pe_and ha hb).weak fun σ H Q ⟨m, a, r, R, e, k⟩ => ?_
  obtain ⟨q, e1, e2⟩ := Option.bind_eq_some_iff.mp e
  refine ⟨m, a, q, R, e1, fun x H' m' R' s r' => ?_⟩
  split at e2
  · rename_i hb
    rw [hb] at r'; cases r'
    refine ⟨true, rfl, ?_⟩
    rw [if_pos rfl]
    exact ⟨m', q.2, r, R', e2, fun z H2 m2 R2 s2 r2 => k z H2 m2 R2 (s.trans s2) r2⟩
  · rename_i hb
    rw [hb] at r'; cases r'; cases e2
    refine ⟨false, rfl, ?_⟩
    rw [if_neg (by simp)]
    exact k _ H' m' R' s (.bl _)
  · cases e2
theorem pe_eOr (ha : PE X x (tE X.K F G e)) (hb : PE X (.BoolOp .Or (y :: rest) pos) (tE X.K F G f)) : PE X (.BoolOp .Or (x :: y :: rest) pos) (tE X.K F G (eOr e f)) := by
  refine (pe_or ha hb).weak fun σ H Q ⟨m, a, r, R, e, k⟩ => ?_
  obtain ⟨q, e1, e2⟩ := Option.bind_eq_some_iff.mp e
  refine ⟨m, a, q, R, e1, fun x H' m' R' s r' => ?_⟩
  split at e2
  · rename_i hb
    rw [hb] at r'; cases r'
    refine ⟨false, rfl, ?_⟩
    rw [if_neg (by simp)]
    exact ⟨m', q.2, r, R', e2, fun z H2 m2 R2 s2 r2 => k z H2 m2 R2 (s.trans s2) r2⟩
  · rename_i hb
    rw [hb] at r'; cases r'; cases e2
    refine ⟨true, rfl, ?_⟩
    rw [if_pos rfl]
    exact k _ H' m' R' s (.bl _)
  · cases e2
theorem pe_eNot (ha : PE X x (tE X.K F G e)) : PE X (.UnaryOp .Not x pos) (tE X.K F G (eNot e)) := by
  refine (pe_not ha).weak fun σ H Q ⟨m, a, r, R, e, k⟩ => ?_
  obtain ⟨q, e1, e2⟩ := Option.bind_eq_some_iff.mp e
  refine ⟨m, a, q, R, e1, fun x H' m' R' s r' => ?_⟩
  split at e2
  · rename_i b hb
    rw [hb] at r'; cases r'; cases e2
    exact ⟨b, rfl, k _ H' m' R' s (.bl _)⟩
  · cases e2
theorem pw_mAnd (ha : PT X x (tM X.K F G t)) (hb : PW X (.BoolOp .And (y :: rest) pos) (tM X.K F G u)) : PW X (.BoolOp .And (x :: y :: rest) pos) (tM X.K F G (mAnd t u)) := by
  refine (pw_and ha hb).weak fun σ H Q ⟨m, a, r, R, e, k⟩ => ?_
  obtain ⟨q, e1, e2⟩ := Option.bind_eq_some_iff.mp e
  refine ⟨m, a, q, R, e1, fun H' m' R' s => ?_⟩
  split at e2
  · rename_i hb
    rw [if_pos hb]
    exact ⟨m', q.2, r, R', e2, fun H2 m2 R2 s2 => k H2 m2 R2 (s.trans s2)⟩
  · rename_i hb
    rw [if_neg hb]
    cases e2
    exact k H' m' R' s
theorem pw_mOr (ha : PT X x (tM X.K F G t)) (hb : PW X (.BoolOp .Or (y :: rest) pos) (tM X.K F G u)) : PW X (.BoolOp .Or (x :: y :: rest) pos) (tM X.K F G (mOr t u)) := by
  refine (pw_or ha hb).weak fun σ H Q ⟨m, a, r, R, e, k⟩ => ?_
  obtain ⟨q, e1, e2⟩ := Option.bind_eq_some_iff.mp e
  refine ⟨m, a, q, R, e1, fun H' m' R' s => ?_⟩
  split at e2
  · rename_i hb
    rw [if_pos hb]
    cases e2
    exact k H' m' R' s
  · rename_i hb
    rw [if_neg hb]
    exact ⟨m', q.2, r, R', e2, fun H2 m2 R2 s2 => k H2 m2 R2 (s.trans s2)⟩
theorem pt_mNot (ha : PT X x (tM X.K F G t)) : PT X (.UnaryOp .Not x pos) (tM X.K F G (mNot t)) := by
  refine (pt_not ha).weak fun σ H Q ⟨m, a, r, R, e, k⟩ => ?_
  obtain ⟨q, e1, e2⟩ := Option.map_eq_some_iff.mp e
  subst e2
  exact ⟨m, a, q, R, e1, fun H' m' R' s => k H' m' R' s⟩
theorem pe_eIte {z : Expr} (hc : PT X z (tM X.K F G c)) (ha : PE X x (tE X.K F G e)) (hb : PE X y (tE X.K F G f)) : PE X (.IfExp z x y pos) (tE X.K F G (eIte c e f)) := by
  refine (pe_ifExp hc ha hb).weak fun σ H Q ⟨m, a, r, R, e, k⟩ => ?_
  obtain ⟨q, e1, e2⟩ := Option.bind_eq_some_iff.mp e
  refine ⟨m, a, q, R, e1, fun H' m' R' s => ?_⟩
  split at e2
  · rename_i hb
    rw [if_pos hb]
    exact ⟨m', q.2, r, R', e2, fun z H2 m2 R2 s2 r2 => k z H2 m2 R2 (s.trans s2) r2⟩
  · rename_i hb
    rw [if_neg hb]
    exact ⟨m', q.2, r, R', e2, fun z H2 m2 R2 s2 r2 => k z H2 m2 R2 (s.trans s2) r2⟩

/-! ### truth of a value -/
def truD : Option SObj → Option Bool
  | some (.dic kvs) => some (!kvs.isEmpty)
  | _ => none
def truV (S : List SObj) : AV → Option Bool
  | .non => some false
  | .bl b => some b
  | .int i => some (i != 0)
  | .str x => if x.length ≤ sizeLine then some ((x.length : Int) != 0) else none
  | .tup xs => some (!xs.isEmpty)
  | .lst xs => some (!xs.isEmpty)
  | .ref n => truD S[n]?
def mTru (o : MO) : MT := fun G a => (o G a).bind fun r => (cont r.2 r.1).bind fun c => (truV r.2.S c).map fun b => (b, r.2)
theorem Rps.empty {K : PySem.W.Frag} {H : Hp} {hot : Hot} {m : List Addr} {xs : List V} {vs : List AV} (r : Rps K H hot m xs vs) : xs.isEmpty = vs.isEmpty := by cases r <;> rfl
theorem RpD.empty {K : PySem.W.Frag} {H : Hp} {hot : Hot} {m : List Addr} : ∀ {xs : List (Key × V)} {vs : List (Str × AV)}, RpD K H hot m xs vs → xs.isEmpty = vs.isEmpty
  | [], [], _ => rfl
  | _ :: _, _ :: _, _ => rfl
  | [], _ :: _, h => h.elim
  | _ :: _, [], h => h.elim
theorem tru_read {a : AS} {m : List Addr} {σ : L2.St} {H : Hp} {v : AV} {x : V} {b : Bool} (R : Rl X.K F m a σ H) (h : RB X.K H (hotOf F m a σ) m x v) (e : truV a.S v = some b) : TruV X.K x H b := by
  cases v with
  | non => cases e; rw [h.non]; rfl
  | bl k => cases e; rw [h.bl]; rfl
  | int k => cases e; rw [h.int]; rfl
  | str k =>
    have e' : (if k.length ≤ sizeLine then some ((k.length : Int) != 0) else none) = some b := e
    split at e'
    · rename_i hl; cases e'; rw [h.str]; exact ⟨hl, rfl⟩
    · cases e'
  | tup xs =>
    cases e
    obtain ⟨p, vs, rfl, h1, r⟩ := h.tup
    exact .inr (.inl ⟨vs, h1.sqT, by rw [r.empty]⟩)
  | lst xs =>
    cases e
    obtain ⟨p, vs, rfl, h1, r⟩ := h.lst
    exact .inl ⟨vs, h1, by rw [r.empty]⟩
  | ref n =>
    have e' : truD a.S[n]? = some b := e
    cases q : a.S[n]? with
    | none => rw [q] at e'; cases e'
    | some o =>
      rw [q] at e'
      cases o with
      | lst _ => cases e'
      | dic kvs =>
        cases e'
        obtain ⟨p, vs, rfl, _, h1, r⟩ := RB.dic R h q
        exact .inr (.inr ⟨vs, h1, by rw [r.empty]⟩)
theorem pt_mTru {o : MO} (ha : PE X x (tO X.K F G o)) (he : ∀ whole, isTrue x X.env whole = (do let v ← whole; standAt x.pos; holding [v] (truthy v))) : PT X x (tM X.K F G (mTru o)) := by
  refine (pt_truth ha he).weak fun σ H Q ⟨m, a, r, R, e, k⟩ => ?_
  obtain ⟨q, e1, e⟩ := Option.bind_eq_some_iff.mp e
  obtain ⟨c, e2, e⟩ := Option.bind_eq_some_iff.mp e
  obtain ⟨b, e3, e4⟩ := Option.map_eq_some_iff.mp e
  subst e4
  exact ⟨m, a, q, R, e1, fun x H' m' R' s h => ⟨b, tru_read R' (h.cont R' e2) e3, k H' m' R' s⟩⟩

/-! ### argument lists -/
def aNil : MAs := fun _ a => some ([], a)
def aCons (e : ME) (t : MAs) : MAs := fun G a => (e G a).bind fun r => (t G r.2).map fun q => (r.1 :: q.1, q.2)
def osNil : MOs := fun _ a => some ([], a)
def osCons (e : MO) (t : MOs) : MOs := fun G a => (e G a).bind fun r => (t G r.2).map fun q => (r.1 :: q.1, q.2)
theorem pa_aNil : PA X [] (tAs X.K F G aNil) := pa_nil.weak fun σ H Q ⟨m, a, r, R, e, k⟩ => by cases e; exact k [] H m R .refl .nil
theorem pa_aCons {es : List Expr} {t : MAs} (ha : PE X x (tE X.K F G e)) (hr : PA X es (tAs X.K F G t)) (hs : starEach (x :: es) X.env = (false, eval x X.env) :: starEach es X.env) : PA X (x :: es) (tAs X.K F G (aCons e t)) := by
  refine (pa_cons ha hr hs).weak fun σ H Q ⟨m, a, r, R, e, k⟩ => ?_
  obtain ⟨q, e1, e⟩ := Option.bind_eq_some_iff.mp e
  obtain ⟨q', e2, e3⟩ := Option.map_eq_some_iff.mp e
  subst e3
  exact ⟨m, a, q, R, e1, fun x H1 m1 R1 s1 r1 => ⟨m1, q.2, q', R1, e2, fun xs H2 m2 R2 s2 r2 => k _ H2 m2 R2 (s1.trans s2) (.cons (r1.step R1 s2) r2)⟩⟩
theorem pa_osNil : PA X [] (tOs X.K F G osNil) := pa_nil.weak fun σ H Q ⟨m, a, r, R, e, k⟩ => by cases e; exact k [] H m R .refl trivial
theorem pa_osCons {es : List Expr} {o : MO} {t : MOs} (ha : PE X x (tO X.K F G o)) (hr : PA X es (tOs X.K F G t)) (hs : starEach (x :: es) X.env = (false, eval x X.env) :: starEach es X.env) : PA X (x :: es) (tOs X.K F G (osCons o t)) := by
  refine (pa_cons ha hr hs).weak fun σ H Q ⟨m, a, r, R, e, k⟩ => ?_
  obtain ⟨q, e1, e⟩ := Option.bind_eq_some_iff.mp e
  obtain ⟨q', e2, e3⟩ := Option.map_eq_some_iff.mp e
  subst e3
  exact ⟨m, a, q, R, e1, fun x H1 m1 R1 s1 r1 => ⟨m1, q.2, q', R1, e2, fun xs H2 m2 R2 s2 r2 => k _ H2 m2 R2 (s1.trans s2) ⟨r1.step R1 s2, r2⟩⟩⟩

/-! ### displays -/
def eTup (t : MAs) : ME := fun G a => (t G a).bind fun r => if r.1.length ≤ sizeLine then some (.tup r.1, r.2) else none
/-- a fresh list: frozen, or one of the store -/
def eFrz (t : MAs) : ME := fun G a => (t G a).map fun r => (.lst r.1, r.2)
def eLay (t : MAs) : ME := fun G a => (t G a).map fun r => (.ref r.2.S.length, r.2.lay (.lst r.1))
def fLst (t : MAs) : MAs := fun G a => (t G a).bind fun r => if r.1.length ≤ sizeLine then some r else none
theorem pe_eTup {es : List Expr} {t : MAs} {k : Nat} (h : PA X es (tAs X.K F G t)) : PE X (.Tuple es k pos) (tE X.K F G (eTup t)) := by
  refine (pe_tupZ h).weak fun σ H Q ⟨m, a, r, R, e, k⟩ => ?_
  obtain ⟨q, e1, e⟩ := Option.bind_eq_some_iff.mp e
  split at e
  · rename_i hl
    cases e
    exact ⟨m, a, q, R, e1, fun xs H1 m1 R1 s1 r1 => ⟨by rw [r1.length]; exact hl, fun p o hp ho => k _ _ m1 (R1.new hp) (s1.trans (.new hp)) (R1.newTup hp ho r1)⟩⟩
  · cases e
theorem pe_fLst {es : List Expr} {t : MAs} (h : PA X es (tAs X.K F G t)) : PE X (.List es pos) (tF X.K F G (fLst t)) := by
  refine (pe_lst h).weak fun σ H Q ⟨m, a, r, R, e, k⟩ => ?_
  obtain ⟨q, e1, e⟩ := Option.bind_eq_some_iff.mp e
  split at e
  · rename_i hl
    cases e
    exact ⟨m, a, r, R, e1, fun xs H1 m1 R1 s1 r1 => ⟨by rw [r1.length]; exact hl, fun p hp => k p xs H1 m1 R1 s1 hp r1⟩⟩
  · cases e
theorem pe_eFrz {t : MAs} (h : PE X x (tF X.K F G t)) : PE X x (tE X.K F G (eFrz t)) := by
  refine h.weak fun σ H Q ⟨m, a, r, R, e, k⟩ => ?_
  obtain ⟨q, e1, e2⟩ := Option.map_eq_some_iff.mp e
  subst e2
  exact ⟨m, a, q, R, e1, fun p vs H' m' R' s hp r => k _ _ m' (R'.new hp) (s.trans (.new hp)) (R'.newLst hp r)⟩
theorem pe_eLay {t : MAs} (h : PE X x (tF X.K F G t)) : PE X x (tE X.K F G (eLay t)) := by
  refine h.weak fun σ H Q ⟨m, a, r, R, e, k⟩ => ?_
  obtain ⟨q, e1, e2⟩ := Option.map_eq_some_iff.mp e
  subst e2
  exact ⟨m, a, q, R, e1, fun p vs H' m' R' s hp r => k _ _ (m' ++ [p]) (R'.layLst hp r) (s.trans (Rl.layStp hp)) R'.layRef⟩
end
end Pyx
end
section
set_option maxRecDepth 100000
namespace Pyx
open PySem PySem.Spec PyProof.Rows L2

/-! ### subscripts -/
def dGet (kvs : List (Str × AV)) (k : Str) : Option AV := (kvs.find? fun kv => decide (kv.1 = k)).map (·.2)
def ixD (k : Str) : Option SObj → Option AV
  | some (.dic kvs) => dGet kvs k
  | _ => none
def ixS (z : Str) (k : Int) : Option AV := if z.length ≤ sizeLine then (atI z.cps.toList k).map fun c => .str ⟨#[c]⟩ else none
def opIx : Op2
  | _, .lst xs, .int k => atI xs k
  | _, .tup xs, .int k => atI xs k
  | _, .str z, .int k => ixS z k
  | S, .ref n, .str k => ixD k S[n]?
  | _, _, _ => none
section
variable {X : Cx}
def rIxD : R2 := fun x y H Q => ∃ a v, x = .ref a ∧ DGet H a y (some v) ∧ Q v H
theorem ix_dict (hu : X.A.units + 1 < cLine) : IxR X rIxD := by
  intro value slice pins s σ H x y v u Q I rx ry h hs
  obtain ⟨a, z, rfl, g, q⟩ := h
  cases rx
  have hT := dict_typeIs I g
  unfold subscriptTail
  refine wpAny_bind ?_
  rw [getitemInPython_of_ne hT.not_modules]
  refine wpAny_bind (wpAny_specialOf hT PySem.F.slot_dict_getitem.lookup ?_)
  have fin : wpAny (model X.prog X.w) X.A (subscripted slice false (.ref a) u) (fun r s₃ => wpAny (model X.prog X.w) X.A (letTemporaryGo value (.ref a) r >>= fun _ => pure r) (EP X pins σ Q) X.xe s₃) X.xe s := by
    rw [hs]
    exact wpAny_operating (wpAny_mono (d_getItem (A := X.A) (E := X.xe) hu I g ry fun w' s3 I3 rw' => (⟨z, H, I3, rw', q⟩ : EP X pins σ Q w' s3)) (fun r s₃ h₃ => wpAny_bind (wpAny_letTemporaryGo (wpAny_pure h₃))) fun _ _ x => x)
  first
    | exact wpAny_pure (wpAny_bind fin)
    | exact wpAny_bind fin
    | exact fin
theorem atI_map {α β : Type} {xs : List α} {ys : List β} (hl : ys.length = xs.length) {i : Int} {v : α} (h : atI xs i = some v) : ∃ j : Nat, xs[j]? = some v ∧ ∀ w, ys[j]? = some w → atI ys i = some w := by
  unfold atI at h ⊢
  obtain ⟨j, e1, e2⟩ := Option.bind_eq_some_iff.mp h
  refine ⟨j, e2, fun w e3 => ?_⟩
  rw [hl, e1]
  exact e3
theorem Rps.atI {K : PySem.W.Frag} {H : Hp} {hot : Hot} {m : List Addr} {xs : List V} {vs : List AV} (r : Rps K H hot m xs vs) {i : Int} {v : AV} (h : L2.atI vs i = some v) : ∃ x, L2.atI xs i = some x ∧ Rp K H hot m x v := by
  obtain ⟨j, e1, e2⟩ := atI_map r.length h
  obtain ⟨x, e3, r1⟩ := r.get e1
  exact ⟨x, e2 x e3, r1⟩
theorem RpD.get {K : PySem.W.Frag} {H : Hp} {hot : Hot} {m : List Addr} {k : Str} {v : AV} : ∀ {xs : List (Key × V)} {vs : List (Str × AV)}, RpD K H hot m xs vs → dGet vs k = some v → ∃ x, valV xs (Sum.inr k) = some x ∧ Rp K H hot m x v
  | [], [], _, h => by cases h
  | (k', x) :: xs, (s, w) :: vs, ⟨e, r, t⟩, h => by
    subst e
    by_cases q : s = k
    · refine ⟨x, valV_pos (show ((Sum.inr s : Key), x).1 = Sum.inr k by rw [q]), ?_⟩
      have : w = v := by simpa [dGet, q] using h
      exact this ▸ r
    · rw [valV_neg (fun z => q (Sum.inr.inj z))]
      exact RpD.get t (by simpa [dGet, q] using h)
  | [], _ :: _, h, _ => h.elim
  | _ :: _, [], h, _ => h.elim
theorem opIx_ok (hu : X.A.units + 100 < cLine) : IxR X (rOp X.K opIx) := by
  intro value slice pins s σ H x y v u Q I rx ry ⟨F, m, a, σ', cx, cy, w, R, bx, by_, e, A⟩ hs
  have key : ∀ {c d}, cx = c → cy = d → True := fun _ _ => trivial
  cases cx with
  | lst xs =>
    cases cy with
    | int k =>
      have e' : L2.atI xs k = some w := e
      obtain ⟨p, vs, rfl, h1, r⟩ := bx.lst
      obtain ⟨z, h2, r2⟩ := r.atI e'
      rw [by_.int] at ry
      exact ix_list value slice pins s σ H _ _ v u Q I rx ry ⟨p, vs, k, z, rfl, rfl, h1, h2, A.here R r2⟩ hs
    | _ => cases e
  | tup xs =>
    cases cy with
    | int k =>
      have e' : L2.atI xs k = some w := e
      obtain ⟨p, vs, rfl, h1, r⟩ := bx.tup
      obtain ⟨z, h2, r2⟩ := r.atI e'
      rw [by_.int] at ry
      exact ix_tup value slice pins s σ H _ _ v u Q I rx ry ⟨p, vs, k, z, rfl, rfl, h1.sqT, h2, A.here R r2⟩ hs
    | _ => cases e
  | str z =>
    cases cy with
    | int k =>
      have e' : (if z.length ≤ sizeLine then (L2.atI z.cps.toList k).map fun c => AV.str ⟨#[c]⟩ else none) = some w := e
      split at e'
      · rename_i hl
        obtain ⟨c, e1, e2⟩ := Option.map_eq_some_iff.mp e'
        subst e2
        rw [bx.str] at rx
        rw [by_.int] at ry
        exact ix_str value slice pins s σ H _ _ v u Q I rx ry ⟨z, k, c, rfl, rfl, hl, e1, A.here R (.str _)⟩ hs
      · cases e'
    | _ => cases e
  | ref n =>
    cases cy with
    | str k =>
      have e' : ixD k a.S[n]? = some w := e
      cases q : a.S[n]? with
      | none => rw [q] at e'; cases e'
      | some o =>
        rw [q] at e'
        cases o with
        | lst _ => cases e'
        | dic kvs =>
          obtain ⟨p, vs, rfl, hm, h1, r⟩ := RB.dic R bx q
          obtain ⟨z, h2, r2⟩ := r.get e'
          have g : DGet H p (kV (Sum.inr k)) (valV vs (Sum.inr k)) := DGet.k h1
          rw [h2] at g
          rw [by_.str] at ry
          exact ix_dict (by omega) value slice pins s σ H _ _ v u Q I rx ry ⟨p, z, rfl, g, A.here R r2⟩ hs
    | _ => cases e
  | _ => cases e
variable {F : Hot} {G : Gm} {x y : Expr} {pos : Pos}
theorem pe_sub2 {oa ob : MO} (hu : X.A.units + 100 < cLine) (ha : PE X x (tO X.K F G oa)) (hb : PE X y (tO X.K F G ob)) (hs : PlainIx y) : PE X (.Subscript x y pos) (tE X.K F G (eBin opIx oa ob)) :=
  (pe_ix (opIx_ok hu) ha hb hs).weak fun _ _ _ => op2_read

/-! ### slices -/
def cutA (xs : List AV) (lo hi : Option Int) : List AV := (xs.drop (HT.sIx xs.length 0 lo)).take (HT.sIx xs.length xs.length hi - HT.sIx xs.length 0 lo)
theorem Rps.cut {K : PySem.W.Frag} {H : Hp} {hot : Hot} {m : List Addr} {xs : List V} {vs : List AV} (r : Rps K H hot m xs vs) (lo hi : Option Int) : Rps K H hot m (cutV xs lo hi) (cutA vs lo hi) := by
  unfold cutV cutA
  rw [r.length]
  exact (r.drop _).take _
abbrev MP := Gm → AS → Option (Option Int × AS)
def pNone : MP := fun _ a => some (none, a)
def asInt : AV → Option Int
  | .int i => some i
  | _ => none
def pSome (e : ME) : MP := fun G a => (e G a).bind fun r => (asInt r.1).map fun i => (some i, r.2)
def tP (K : PySem.W.Frag) (F : Hot) (G : Gm) (e : MP) : TO := fun σ H Q => ∃ m a r, Rl K F m a σ H ∧ e G a = some r ∧ ∀ H' m', Rl K F m' r.2 σ H' → Stp m a σ H m' r.2 σ H' → Q r.1 H'
theorem po_pNone : PO X none (tP X.K F G pNone) := ⟨fun pins s σ H Q I ⟨m, a, r, R, e, k⟩ => by
  cases e
  exact po_none.run pins s σ H Q I (k H m R .refl)⟩
theorem asInt_of {v : AV} {i : Int} (h : asInt v = some i) : v = .int i := by cases v <;> cases h; rfl
theorem po_pSome {e : ME} (h : PE X x (tE X.K F G e)) : PO X (some x) (tP X.K F G (pSome e)) := ⟨fun pins s σ H Q I ⟨m, a, r, R, e, k⟩ => by
  obtain ⟨q, e1, e2⟩ := Option.bind_eq_some_iff.mp e
  obtain ⟨i, e3, e4⟩ := Option.map_eq_some_iff.mp e2
  subst e4
  refine (po_some h).run pins s σ H Q I ⟨m, a, q, R, e1, fun x H' m' R' s r' => ?_⟩
  rw [asInt_of e3] at r'
  cases r'
  exact ⟨i, rfl, k H' m' R' s⟩⟩
def slF : AV → Option Int → Option Int → Option AV
  | .lst xs, lo, hi => some (.lst (cutA xs lo hi))
  | .tup xs, lo, hi => some (.tup (cutA xs lo hi))
  | _, _, _ => none
def eSl (o : MO) (lo hi : MP) : ME := fun G a => (o G a).bind fun r => (lo G r.2).bind fun r1 => (hi G r1.2).bind fun r2 => (cont r2.2 r.1).bind fun c => (slF c r1.1 r2.1).map fun v => (v, r2.2)
def slL : AV → Option Int → Option Int → Option (List AV)
  | .lst xs, lo, hi => some (cutA xs lo hi)
  | _, _, _ => none
def fSl (o : MO) (lo hi : MP) : MAs := fun G a => (o G a).bind fun r => (lo G r.2).bind fun r1 => (hi G r1.2).bind fun r2 => (cont r2.2 r.1).bind fun c => (slL c r1.1 r2.1).map fun v => (v, r2.2)
def rSlG (K : PySem.W.Frag) : V → Option Int → Option Int → Hp → VK → Prop := fun x lo hi H Q => rSlL K x lo hi H Q ∨ rSlZ K x lo hi H Q
theorem sl_g : SlR X (rSlG X.K) := sl_list.or sl_tupZ
theorem pe_eSl {o : MO} {lo hi : Option Expr} {ml mh : MP} {p2 : Pos} (ho : PE X x (tO X.K F G o)) (hl : PO X lo (tP X.K F G ml)) (hh : PO X hi (tP X.K F G mh)) : PE X (.Subscript x (.Slice lo hi none p2) pos) (tE X.K F G (eSl o ml mh)) := by
  refine (pe_slice sl_g ho hl hh).weak fun σ H Q ⟨m, a, r, R, e, k⟩ => ?_
  obtain ⟨q, e1, e⟩ := Option.bind_eq_some_iff.mp e
  obtain ⟨q1, e2, e⟩ := Option.bind_eq_some_iff.mp e
  obtain ⟨q2, e3, e⟩ := Option.bind_eq_some_iff.mp e
  obtain ⟨c, e4, e⟩ := Option.bind_eq_some_iff.mp e
  obtain ⟨v, e5, e6⟩ := Option.map_eq_some_iff.mp e
  subst e6
  refine ⟨m, a, q, R, e1, fun x H1 m1 R1 s1 r1 => ⟨m1, q.2, q1, R1, e2, fun H2 m2 R2 s2 => ⟨m2, q1.2, q2, R2, e3, fun H3 m3 R3 s3 => ?_⟩⟩⟩
  have bx := ((r1.step R1 s2).step R2 s3).cont R3 e4
  have s := (s1.trans s2).trans s3
  cases c with
  | lst xs =>
    cases e5
    obtain ⟨p, vs, rfl, h1, r⟩ := bx.lst
    exact .inl ⟨p, vs, rfl, h1, fun p' hp => k _ _ m3 (R3.new hp) (s.trans (.new hp)) (R3.newLst hp (r.cut _ _))⟩
  | tup xs =>
    cases e5
    obtain ⟨p, vs, rfl, h1, r⟩ := bx.tup
    refine .inr ⟨p, vs, rfl, h1.sqT, fun hw => ?_, fun _ p' o hp ho => k _ _ m3 (R3.new hp) (s.trans (.new hp)) (R3.newTup hp ho (r.cut _ _))⟩
    refine k _ _ m3 R3 s ?_
    have e7 : cutA xs q1.1 q2.1 = xs := by
      unfold cutA
      rw [r.length] at hw
      rw [hw.1, hw.2]
      simp
    rw [e7]
    exact .tup h1 r
  | _ => cases e5
theorem pe_fSl {o : MO} {lo hi : Option Expr} {ml mh : MP} {p2 : Pos} (ho : PE X x (tO X.K F G o)) (hl : PO X lo (tP X.K F G ml)) (hh : PO X hi (tP X.K F G mh)) : PE X (.Subscript x (.Slice lo hi none p2) pos) (tF X.K F G (fSl o ml mh)) := by
  refine (pe_slice sl_list ho hl hh).weak fun σ H Q ⟨m, a, r, R, e, k⟩ => ?_
  obtain ⟨q, e1, e⟩ := Option.bind_eq_some_iff.mp e
  obtain ⟨q1, e2, e⟩ := Option.bind_eq_some_iff.mp e
  obtain ⟨q2, e3, e⟩ := Option.bind_eq_some_iff.mp e
  obtain ⟨c, e4, e⟩ := Option.bind_eq_some_iff.mp e
  obtain ⟨v, e5, e6⟩ := Option.map_eq_some_iff.mp e
  subst e6
  refine ⟨m, a, q, R, e1, fun x H1 m1 R1 s1 r1 => ⟨m1, q.2, q1, R1, e2, fun H2 m2 R2 s2 => ⟨m2, q1.2, q2, R2, e3, fun H3 m3 R3 s3 => ?_⟩⟩⟩
  have bx := ((r1.step R1 s2).step R2 s3).cont R3 e4
  have s := (s1.trans s2).trans s3
  cases c with
  | lst xs =>
    cases e5
    obtain ⟨p, vs, rfl, h1, r⟩ := bx.lst
    exact ⟨p, vs, rfl, h1, fun p' hp => k _ _ _ m3 R3 s hp (r.cut _ _)⟩
  | _ => cases e5
/-- a sum of two lists, fresh -/
def catL : AV → AV → Option (List AV)
  | .lst xs, .lst ys => if xs.length + ys.length ≤ sizeLine then some (xs ++ ys) else none
  | _, _ => none
def fCat (oa ob : MO) : MAs := fun G a => (oa G a).bind fun r1 => (ob G r1.2).bind fun r2 => (cont r2.2 r1.1).bind fun x => (cont r2.2 r2.1).bind fun y => (catL x y).map fun v => (v, r2.2)
theorem pe_fCat {oa ob : MO} (ha : PE X x (tO X.K F G oa)) (hb : PE X y (tO X.K F G ob)) : PE X (.BinOp x .Add y pos) (tF X.K F G (fCat oa ob)) := by
  refine (pe_op op_catR ha hb).weak fun σ H Q ⟨m, a, r, R, e, k⟩ => ?_
  obtain ⟨r1, e1, e⟩ := Option.bind_eq_some_iff.mp e
  obtain ⟨r2, e2, e⟩ := Option.bind_eq_some_iff.mp e
  obtain ⟨cx, e3, e⟩ := Option.bind_eq_some_iff.mp e
  obtain ⟨cy, e4, e⟩ := Option.bind_eq_some_iff.mp e
  obtain ⟨v, e5, e6⟩ := Option.map_eq_some_iff.mp e
  subst e6
  refine ⟨m, a, r1, R, e1, fun x H1 m1 R1 s1 h1 => ⟨m1, r1.2, r2, R1, e2, fun y H2 m2 R2 s2 h2 => ?_⟩⟩
  have bx := (h1.step R1 s2).cont R2 e3
  have by_ := h2.cont R2 e4
  cases cx with
  | lst xs =>
    cases cy with
    | lst ys =>
      have e5' : (if xs.length + ys.length ≤ sizeLine then some (xs ++ ys) else none) = some v := e5
      split at e5'
      · rename_i hl
        cases e5'
        obtain ⟨p, vs, rfl, g1, q1⟩ := bx.lst
        obtain ⟨q, ws, rfl, g2, q2⟩ := by_.lst
        exact ⟨p, q, vs, ws, rfl, rfl, g1, g2, by rw [q1.length, q2.length]; exact hl, fun p' hp => k _ _ _ m2 R2 (s1.trans s2) hp (q1.append q2)⟩
      · cases e5'
    | _ => cases e5
  | _ => cases e5
end
end Pyx
end
section
set_option maxRecDepth 100000
namespace Pyx
open PySem PySem.Spec PyProof.Rows L2

/-! ### calls of built-ins, by the abstract values -/
abbrev Bi := List SObj → List AV → Option AV
abbrev BiF := List SObj → List AV → Option (List AV)
def rCa (K : PySem.W.Frag) (f : Bi) : List V → Hp → VK → Prop := fun xs H Q => ∃ F m a σ cs v, Rl K F m a σ H ∧ RBs K H (hotOf F m a σ) m xs cs ∧ f a.S cs = some v ∧ Aft K F m a σ H v Q
def rCaF (K : PySem.W.Frag) (f : BiF) : List V → Hp → VK → Prop := fun xs H Q => ∃ F m a σ cs v, Rl K F m a σ H ∧ RBs K H (hotOf F m a σ) m xs cs ∧ f a.S cs = some v ∧ ∀ p vs, H p = none → Rps' K F m a σ H vs v → Q (.ref p) (upd H p (.lst vs))
def eBi (f : Bi) (os : MOs) : ME := fun G a => (os G a).bind fun r => (conts r.2 r.1).bind fun cs => (f r.2.S cs).map fun v => (v, r.2)
def fBi (f : BiF) (os : MOs) : MAs := fun G a => (os G a).bind fun r => (conts r.2 r.1).bind fun cs => (f r.2.S cs).map fun v => (v, r.2)
section
variable {X : Cx} {F : Hot} {G : Gm}
theorem bi_read {f : Bi} {os : MOs} {σ : L2.St} {H : Hp} {Q : VK} (h : tE X.K F G (eBi f os) σ H Q) : tCB (rCa X.K f) (tOs X.K F G os) σ H Q := by
  obtain ⟨m, a, r, R, e, k⟩ := h
  obtain ⟨q, e1, e⟩ := Option.bind_eq_some_iff.mp e
  obtain ⟨cs, e2, e⟩ := Option.bind_eq_some_iff.mp e
  obtain ⟨v, e3, e4⟩ := Option.map_eq_some_iff.mp e
  subst e4
  exact ⟨m, a, q, R, e1, fun xs H1 m1 R1 s1 h1 => ⟨F, m1, q.2, σ, cs, v, R1, h1.conts R1 e2, e3, fun z H' R' s' r' => k z H' m1 R' (s1.trans s') r'⟩⟩
theorem fbi_read {f : BiF} {os : MOs} {σ : L2.St} {H : Hp} {Q : VK} (h : tF X.K F G (fBi f os) σ H Q) : tCB (rCaF X.K f) (tOs X.K F G os) σ H Q := by
  obtain ⟨m, a, r, R, e, k⟩ := h
  obtain ⟨q, e1, e⟩ := Option.bind_eq_some_iff.mp e
  obtain ⟨cs, e2, e⟩ := Option.bind_eq_some_iff.mp e
  obtain ⟨v, e3, e4⟩ := Option.map_eq_some_iff.mp e
  subst e4
  exact ⟨m, a, q, R, e1, fun xs H1 m1 R1 s1 h1 => ⟨F, m1, q.2, σ, cs, v, R1, h1.conts R1 e2, e3, fun p vs hp r => k p vs H1 m1 R1 s1 hp r⟩⟩
theorem RBs.one {K : PySem.W.Frag} {H : Hp} {hot : Hot} {m : List Addr} {xs : List V} {c : AV} (h : RBs K H hot m xs [c]) : ∃ x, xs = [x] ∧ RB K H hot m x c := by
  match xs, h with
  | [x], ⟨h, _⟩ => exact ⟨x, rfl, h⟩
  | x :: y :: r, ⟨_, h⟩ => exact h.elim
theorem RBs.two {K : PySem.W.Frag} {H : Hp} {hot : Hot} {m : List Addr} {xs : List V} {c d : AV} (h : RBs K H hot m xs [c, d]) : ∃ x y, xs = [x, y] ∧ RB K H hot m x c ∧ RB K H hot m y d := by
  match xs, h with
  | [x], ⟨_, h⟩ => exact h.elim
  | [x, y], ⟨h, h', _⟩ => exact ⟨x, y, rfl, h, h'⟩
  | x :: y :: z :: r, ⟨_, _, h⟩ => exact h.elim

/-! ### ints among the values -/
def asInts : List AV → Option (List Int)
  | [] => some []
  | .int i :: r => (asInts r).map (i :: ·)
  | _ => none
theorem asInts_of : ∀ {xs : List AV} {ns : List Int}, asInts xs = some ns → xs = ns.map AV.int
  | [], _, h => by cases h; rfl
  | .int i :: r, ns, h => by
    obtain ⟨ms, e1, e2⟩ := Option.map_eq_some_iff.mp h
    subst e2
    rw [asInts_of e1]; rfl
  | .non :: _, _, h | .bl _ :: _, _, h | .str _ :: _, _, h | .tup _ :: _, _, h | .lst _ :: _, _, h | .ref _ :: _, _, h => by cases h
theorem asInts_map : ∀ ns : List Int, asInts (ns.map AV.int) = some ns
  | [] => rfl
  | n :: r => by show (asInts (r.map AV.int)).map (n :: ·) = _; rw [asInts_map r]; rfl
def asBls : List AV → Option (List Bool)
  | [] => some []
  | .bl i :: r => (asBls r).map (i :: ·)
  | _ => none
theorem asBls_of : ∀ {xs : List AV} {ns : List Bool}, asBls xs = some ns → xs = ns.map AV.bl
  | [], _, h => by cases h; rfl
  | .bl i :: r, ns, h => by
    obtain ⟨ms, e1, e2⟩ := Option.map_eq_some_iff.mp h
    subst e2
    rw [asBls_of e1]; rfl
  | .non :: _, _, h | .int _ :: _, _, h | .str _ :: _, _, h | .tup _ :: _, _, h | .lst _ :: _, _, h | .ref _ :: _, _, h => by cases h
theorem asBls_map : ∀ ns : List Bool, asBls (ns.map AV.bl) = some ns
  | [] => rfl
  | n :: r => by show (asBls (r.map AV.bl)).map (n :: ·) = _; rw [asBls_map r]; rfl
def maxI : List Int → Int
  | [] => 0
  | x :: xs => xs.foldl max x
def minI : List Int → Int
  | [] => 0
  | x :: xs => xs.foldl min x
theorem foldl_max : ∀ (xs : List Int) (x : Int), (xs.foldl max x = x ∨ xs.foldl max x ∈ xs) ∧ x ≤ xs.foldl max x ∧ ∀ y ∈ xs, y ≤ xs.foldl max x
  | [], x => ⟨.inl rfl, Int.le_refl _, fun y h => by cases h⟩
  | z :: xs, x => by
    obtain ⟨h1, h2, h3⟩ := foldl_max xs (max x z)
    have e : (z :: xs).foldl max x = xs.foldl max (max x z) := rfl
    rw [e]
    refine ⟨?_, by omega, fun y hy => ?_⟩
    · rcases h1 with h1 | h1
      · rw [h1]
        by_cases q : x ≤ z
        · rw [Int.max_eq_right q]; exact .inr List.mem_cons_self
        · rw [Int.max_eq_left (by omega)]; exact .inl rfl
      · exact .inr (List.mem_cons_of_mem _ h1)
    · rcases List.mem_cons.mp hy with rfl | hy
      · omega
      · exact h3 y hy
theorem foldl_min : ∀ (xs : List Int) (x : Int), (xs.foldl min x = x ∨ xs.foldl min x ∈ xs) ∧ xs.foldl min x ≤ x ∧ ∀ y ∈ xs, xs.foldl min x ≤ y
  | [], x => ⟨.inl rfl, Int.le_refl _, fun y h => by cases h⟩
  | z :: xs, x => by
    obtain ⟨h1, h2, h3⟩ := foldl_min xs (min x z)
    have e : (z :: xs).foldl min x = xs.foldl min (min x z) := rfl
    rw [e]
    refine ⟨?_, by omega, fun y hy => ?_⟩
    · rcases h1 with h1 | h1
      · rw [h1]
        by_cases q : x ≤ z
        · rw [Int.min_eq_left q]; exact .inl rfl
        · rw [Int.min_eq_right (by omega)]; exact .inr List.mem_cons_self
      · exact .inr (List.mem_cons_of_mem _ h1)
    · rcases List.mem_cons.mp hy with rfl | hy
      · omega
      · exact h3 y hy
theorem maxI_mem {ns : List Int} (h : ns ≠ []) : maxI ns ∈ ns := by
  cases ns with
  | nil => exact absurd rfl h
  | cons x xs =>
    rcases (foldl_max xs x).1 with e | e
    · show List.foldl max x xs ∈ _
      rw [e]; exact List.mem_cons_self
    · exact List.mem_cons_of_mem _ e
theorem maxI_ge {ns : List Int} : ∀ y ∈ ns, y ≤ maxI ns := by
  cases ns with
  | nil => intro y h; cases h
  | cons x xs =>
    intro y hy
    rcases List.mem_cons.mp hy with rfl | hy
    · exact (foldl_max xs y).2.1
    · exact (foldl_max xs x).2.2 y hy
theorem minI_mem {ns : List Int} (h : ns ≠ []) : minI ns ∈ ns := by
  cases ns with
  | nil => exact absurd rfl h
  | cons x xs =>
    rcases (foldl_min xs x).1 with e | e
    · show List.foldl min x xs ∈ _
      rw [e]; exact List.mem_cons_self
    · exact List.mem_cons_of_mem _ e
theorem minI_le {ns : List Int} : ∀ y ∈ ns, minI ns ≤ y := by
  cases ns with
  | nil => intro y h; cases h
  | cons x xs =>
    intro y hy
    rcases List.mem_cons.mp hy with rfl | hy
    · exact (foldl_min xs y).2.1
    · exact (foldl_min xs x).2.2 y hy
theorem maxI_uniq {ns : List Int} {m : Int} (h : m ∈ ns) (g : ∀ y ∈ ns, y ≤ m) : m = maxI ns :=
  Int.le_antisymm (maxI_ge m h) (g _ (maxI_mem fun e => by subst e; cases h))
theorem minI_uniq {ns : List Int} {m : Int} (h : m ∈ ns) (g : ∀ y ∈ ns, m ≤ y) : m = minI ns :=
  Int.le_antisymm (g _ (minI_mem fun e => by subst e; cases h)) (minI_le m h)

/-! ### len, int, abs, sum, max, min, any, all, tuple -/
def biLen : Bi
  | _, [.lst xs] => some (.int xs.length)
  | _, [.tup xs] => some (.int xs.length)
  | _, [.str z] => if z.length ≤ sizeLine then some (.int z.length) else none
  | _, _ => none
def biInt : Bi
  | _, [.int i] => some (.int i)
  | _, [.bl b] => some (.int (if b then 1 else 0))
  | _, _ => none
def biAbs : Bi
  | _, [.int i] => some (.int (if i < 0 then -i else i))
  | _, _ => none
def biSum : Bi
  | _, [.lst xs] => (asInts xs).map fun ns => .int ns.sum
  | _, [.tup xs] => (asInts xs).map fun ns => .int ns.sum
  | _, _ => none
def pickI (f : List Int → Int) (xs : List AV) : Option AV := (asInts xs).bind fun ns => if ns.isEmpty then none else some (.int (f ns))
def biMax : Bi
  | _, [.int i, .int j] => some (.int (if j > i then j else i))
  | _, [.lst xs] => pickI maxI xs
  | _, [.tup xs] => pickI maxI xs
  | _, _ => none
def biMin : Bi
  | _, [.int i, .int j] => some (.int (if j < i then j else i))
  | _, [.lst xs] => pickI minI xs
  | _, _ => none
def biAny : Bi
  | _, [.lst xs] => (asBls xs).map fun bs => .bl (bs.any id)
  | _, _ => none
def biAll : Bi
  | _, [.lst xs] => (asBls xs).map fun bs => .bl (bs.all id)
  | _, _ => none
def biTuple : Bi
  | _, [.lst xs] => some (.tup xs)
  | _, [.tup xs] => some (.tup xs)
  | _, _ => none

theorem biLen_ok : CallR X (.builtin "len") (rCa X.K biLen) := by
  intro pins s σ H xs us Q I r ⟨F, m, a, σ', cs, v, R, b, e, A⟩
  unfold biLen at e
  split at e
  · cases e
    obtain ⟨x, rfl, b1⟩ := b.one
    obtain ⟨p, vs, rfl, h1, r1⟩ := b1.lst
    exact call_len pins s σ H _ us Q I r ⟨_, _, rfl, .inl ⟨vs, h1, r1.length.symm⟩, A.here R (.int _)⟩
  · cases e
    obtain ⟨x, rfl, b1⟩ := b.one
    obtain ⟨p, vs, rfl, h1, r1⟩ := b1.tup
    exact call_len pins s σ H _ us Q I r ⟨_, _, rfl, .inr ⟨vs, h1.sqT, r1.length.symm⟩, A.here R (.int _)⟩
  · split at e
    · rename_i hl
      cases e
      obtain ⟨x, rfl, b1⟩ := b.one
      rw [b1.str] at r
      exact call_len pins s σ H _ us Q I r ⟨_, _, rfl, ⟨hl, rfl⟩, A.here R (.int _)⟩
    · cases e
  · cases e
theorem biInt_ok : CallR X (.type "int") (rCa X.K biInt) := by
  intro pins s σ H xs us Q I r ⟨F, m, a, σ', cs, v, R, b, e, A⟩
  unfold biInt at e
  split at e
  · cases e
    obtain ⟨x, rfl, b1⟩ := b.one
    rw [b1.int] at r
    exact call_int1 pins s σ H _ us Q I r (.inl ⟨_, rfl, A.here R (.int _)⟩)
  · cases e
    obtain ⟨x, rfl, b1⟩ := b.one
    rw [b1.bl] at r
    exact call_int1 pins s σ H _ us Q I r (.inr ⟨_, rfl, A.here R (.int _)⟩)
  · cases e
theorem biAbs_ok : CallR X (.builtin "abs") (rCa X.K biAbs) := by
  intro pins s σ H xs us Q I r ⟨F, m, a, σ', cs, v, R, b, e, A⟩
  unfold biAbs at e
  split at e
  · cases e
    obtain ⟨x, rfl, b1⟩ := b.one
    rw [b1.int] at r
    exact call_abs pins s σ H _ us Q I r ⟨_, rfl, A.here R (.int _)⟩
  · cases e
theorem sum_tup (hc : X.calm = true) {pins : List (Addr × PySem.Obj)} {s : Shared} {σ : L2.St} {H : Hp} {p : Addr} {ns : List Int} {Q : Value → Shared → Prop} (I : Inv X pins σ H s) (h : SqT X.K H p (ns.map V.int))
    (hQ : ∀ s' t, Inv X pins σ H s' → Q (.int ns.sum t) s') : wpAny (model X.prog X.w) X.A (call (.builtin "sum") [.ref p]) Q X.xe s := by
  obtain ⟨its, rv, ht, _⟩ := I.tuple h
  have hi := rv.ints
  obtain ⟨xs, hx⟩ := hi.allInts.items
  have hn : numsOf its.toArray.toList = ns := by rw [show its.toArray.toList = its from rfl, hi.numsOf]
  obtain ⟨o, ho, hcl, n, hd⟩ := ht
  have hl : s.heap.IsTuple p its.toArray := ⟨o, ho, hcl, n, hd⟩
  rw [hx] at hl hn
  rw [nums_intItems] at hn
  refine PySem.W.ktm_sumG (I.ok.hd hc) hl fun h' tk t' hk => ?_
  rw [preSum_eq, List.take_of_length_le (by simp), hn]
  exact hQ _ t' (I.kept (t' := tk) hk)
theorem biSum_ok (hc : X.calm = true) : CallR X (.builtin "sum") (rCa X.K biSum) := by
  intro pins s σ H xs us Q I r ⟨F, m, a, σ', cs, v, R, b, e, A⟩
  unfold biSum at e
  split at e
  · obtain ⟨ns, e1, e2⟩ := Option.map_eq_some_iff.mp e
    subst e2
    have := asInts_of e1; subst this
    obtain ⟨x, rfl, b1⟩ := b.one
    obtain ⟨p, vs, rfl, h1, r1⟩ := b1.lst
    rw [r1.of_ints] at h1
    exact cr_sum hc pins s σ H _ us Q I r ⟨p, ns, rfl, h1, A.here R (.int _)⟩
  · obtain ⟨ns, e1, e2⟩ := Option.map_eq_some_iff.mp e
    subst e2
    have := asInts_of e1; subst this
    obtain ⟨x, rfl, b1⟩ := b.one
    obtain ⟨p, vs, rfl, h1, r1⟩ := b1.tup
    rw [r1.of_ints] at h1
    rw [Vals.ref1 r]
    exact sum_tup hc I h1.sqT fun s' t I' => ⟨.int _, H, I', ⟨_, rfl⟩, A.here R (.int _)⟩
  · cases e
theorem dpAll_ints {K : PySem.W.Frag} {H : Hp} : ∀ ns : List Int, DpAll K H (ns.map V.int) (ns.map PyData.int)
  | [] => .nil
  | n :: r => .cons (.int n) (dpAll_ints r)
theorem depthAll_ints : ∀ ns : List Int, PyData.depthAll (ns.map PyData.int) = 0
  | [] => rfl
  | n :: r => by rw [List.map_cons, PyData.depthAll, depthAll_ints r]; rfl
theorem alike_ints (ns : List Int) : PySem.W.AlikeAll (ns.map PyData.int) :=
  ⟨fun x hx y hy => by
    obtain ⟨i, _, rfl⟩ := List.mem_map.mp hx
    obtain ⟨j, _, rfl⟩ := List.mem_map.mp hy
    rfl, fun x hx e => by
    obtain ⟨i, _, rfl⟩ := List.mem_map.mp hx
    cases e⟩
theorem max_tup (hc : X.calm = true) (hu : X.A.units + 100 < cLine) {pins : List (Addr × PySem.Obj)} {s : Shared} {σ : L2.St} {H : Hp} {p : Addr} {ns : List Int} {Q : Value → Shared → Prop} (I : Inv X pins σ H s) (h : SqT X.K H p (ns.map V.int)) (hne : ns ≠ [])
    (hQ : ∀ s' t, Inv X pins σ H s' → Q (.int (maxI ns) t) s') : wpAny (model X.prog X.w) X.A (call (.builtin "max") [.ref p]) Q X.xe s := by
  obtain ⟨its, rv, ⟨o, ho, hcl, n, hd⟩, _⟩ := I.tuple h
  have hl : s.heap.IsTuple p its.toArray := ⟨o, ho, hcl, n, hd⟩
  obtain ⟨as, hr⟩ := Dp.readsAll I _ _ _ (dpAll_ints (K := X.K) (H := H) ns) rv
  cases ns with
  | nil => exact absurd rfl hne
  | cons x xs =>
    refine PySem.W.max_tuple_data (I.ok.hd hc) hl hr (alike_ints (x :: xs)) (by rw [show (PyData.int x :: xs.map PyData.int) = (x :: xs).map PyData.int from rfl, depthAll_ints]; omega) fun i v h' tk bs _ hv hk => ?_
    rw [PySem.W.maxD_ints] at hv
    cases hv
    exact hQ _ _ (I.kept (t' := tk) hk)
theorem biMax_ok (hc : X.calm = true) (hu : X.A.units + 100 < cLine) : CallR X (.builtin "max") (rCa X.K biMax) := by
  intro pins s σ H xs us Q I r ⟨F, m, a, σ', cs, v, R, b, e, A⟩
  unfold biMax at e
  split at e
  · cases e
    obtain ⟨x, y, rfl, b1, b2⟩ := b.two
    rw [b1.int, b2.int] at r
    exact call_max2 hc pins s σ H _ us Q I r ⟨_, _, rfl, A.here R (.int _)⟩
  · obtain ⟨ns, e1, e2⟩ := Option.bind_eq_some_iff.mp e
    split at e2
    · cases e2
    · rename_i hne
      cases e2
      have := asInts_of e1; subst this
      obtain ⟨x, rfl, b1⟩ := b.one
      obtain ⟨p, vs, rfl, h1, r1⟩ := b1.lst
      rw [r1.of_ints] at h1
      refine cr_max hc pins s σ H _ us Q I r ⟨p, ns, rfl, h1, ?_, fun k h1 h2 => ?_⟩
      · cases ns with
        | nil => simp at hne
        | cons _ _ => simp
      · rw [maxI_uniq h1 h2]; exact A.here R (.int _)
  · obtain ⟨ns, e1, e2⟩ := Option.bind_eq_some_iff.mp e
    split at e2
    · cases e2
    · rename_i hne
      cases e2
      have := asInts_of e1; subst this
      obtain ⟨x, rfl, b1⟩ := b.one
      obtain ⟨p, vs, rfl, h1, r1⟩ := b1.tup
      rw [r1.of_ints] at h1
      rw [Vals.ref1 r]
      exact max_tup hc hu I h1.sqT (fun e => by subst e; simp at hne) fun s' t I' => ⟨.int _, H, I', ⟨_, rfl⟩, A.here R (.int _)⟩
  · cases e
theorem biMin_ok (hc : X.calm = true) : CallR X (.builtin "min") (rCa X.K biMin) := by
  intro pins s σ H xs us Q I r ⟨F, m, a, σ', cs, v, R, b, e, A⟩
  unfold biMin at e
  split at e
  · cases e
    obtain ⟨x, y, rfl, b1, b2⟩ := b.two
    rw [b1.int, b2.int] at r
    exact call_min2 hc pins s σ H _ us Q I r ⟨_, _, rfl, A.here R (.int _)⟩
  · obtain ⟨ns, e1, e2⟩ := Option.bind_eq_some_iff.mp e
    split at e2
    · cases e2
    · rename_i hne
      cases e2
      have := asInts_of e1; subst this
      obtain ⟨x, rfl, b1⟩ := b.one
      obtain ⟨p, vs, rfl, h1, r1⟩ := b1.lst
      rw [r1.of_ints] at h1
      refine cr_min hc pins s σ H _ us Q I r ⟨p, ns, rfl, h1, ?_, fun k h1 h2 => ?_⟩
      · cases ns with
        | nil => simp at hne
        | cons _ _ => simp
      · rw [minI_uniq h1 h2]; exact A.here R (.int _)
  · cases e
theorem biAny_ok (hc : X.calm = true) : CallR X (.builtin "any") (rCa X.K biAny) := by
  intro pins s σ H xs us Q I r ⟨F, m, a, σ', cs, v, R, b, e, A⟩
  unfold biAny at e
  split at e
  · obtain ⟨ns, e1, e2⟩ := Option.map_eq_some_iff.mp e
    subst e2
    have := asBls_of e1; subst this
    obtain ⟨x, rfl, b1⟩ := b.one
    obtain ⟨p, vs, rfl, h1, r1⟩ := b1.lst
    rw [r1.of_bls] at h1
    exact cr_any hc pins s σ H _ us Q I r ⟨p, ns, rfl, h1, A.here R (.bl _)⟩
  · cases e
theorem biAll_ok (hc : X.calm = true) : CallR X (.builtin "all") (rCa X.K biAll) := by
  intro pins s σ H xs us Q I r ⟨F, m, a, σ', cs, v, R, b, e, A⟩
  unfold biAll at e
  split at e
  · obtain ⟨ns, e1, e2⟩ := Option.map_eq_some_iff.mp e
    subst e2
    have := asBls_of e1; subst this
    obtain ⟨x, rfl, b1⟩ := b.one
    obtain ⟨p, vs, rfl, h1, r1⟩ := b1.lst
    rw [r1.of_bls] at h1
    exact cr_all hc pins s σ H _ us Q I r ⟨p, ns, rfl, h1, A.here R (.bl _)⟩
  · cases e
theorem biTuple_ok : CallR X (.type "tuple") (rCa X.K biTuple) := by
  intro pins s σ H xs us Q I r ⟨F, m, a, σ', cs, v, R, b, e, A⟩
  unfold biTuple at e
  split at e
  · cases e
    obtain ⟨x, rfl, b1⟩ := b.one
    obtain ⟨p, vs, rfl, h1, r1⟩ := b1.lst
    exact call_tupleZ pins s σ H _ us Q I r ⟨p, vs, rfl, .inl ⟨h1, fun l o hl ho => A.tup R r1 hl ho⟩⟩
  · cases e
    obtain ⟨x, rfl, b1⟩ := b.one
    obtain ⟨p, vs, rfl, h1, r1⟩ := b1.tup
    exact call_tupleZ pins s σ H _ us Q I r ⟨p, vs, rfl, .inr ⟨h1.sqT, A.here R (.tup h1 r1)⟩⟩
  · cases e
/-- list(..), sorted(..): fresh -/
def bfList : BiF
  | _, [.lst xs] => some xs
  | _, [.tup xs] => some xs
  | _, _ => none
theorem bfList_ok : CallR X (.type "list") (rCaF X.K bfList) := by
  intro pins s σ H xs us Q I r ⟨F, m, a, σ', cs, v, R, b, e, A⟩
  unfold bfList at e
  split at e
  · cases e
    obtain ⟨x, rfl, b1⟩ := b.one
    obtain ⟨p, vs, rfl, h1, r1⟩ := b1.lst
    exact call_list_of pins s σ H _ us Q I r ⟨p, vs, rfl, .inl h1, fun l hl => A l vs hl r1⟩
  · cases e
    obtain ⟨x, rfl, b1⟩ := b.one
    obtain ⟨p, vs, rfl, h1, r1⟩ := b1.tup
    exact call_list_of pins s σ H _ us Q I r ⟨p, vs, rfl, .inr h1.sqT, fun l hl => A l vs hl r1⟩
  · cases e
def insI (x : Int) : List Int → List Int
  | [] => [x]
  | y :: r => if x ≤ y then x :: y :: r else y :: insI x r
def sortI : List Int → List Int
  | [] => []
  | x :: r => insI x (sortI r)
theorem insI_perm (x : Int) : ∀ ys : List Int, (insI x ys).Perm (x :: ys)
  | [] => .refl _
  | y :: r => by
    unfold insI
    split
    · exact .refl _
    · exact (List.Perm.cons y (insI_perm x r)).trans (List.Perm.swap x y r)
theorem sortI_perm : ∀ xs : List Int, (sortI xs).Perm xs
  | [] => .refl _
  | x :: r => (insI_perm x _).trans (.cons x (sortI_perm r))
theorem insI_sorted (x : Int) : ∀ ys : List Int, ys.Pairwise (· ≤ ·) → (insI x ys).Pairwise (· ≤ ·)
  | [], _ => by simp [insI]
  | y :: r, h => by
    unfold insI
    obtain ⟨h1, h2⟩ := List.pairwise_cons.mp h
    split
    · rename_i hx
      refine List.pairwise_cons.mpr ⟨fun z hz => ?_, h⟩
      rcases List.mem_cons.mp hz with rfl | hz
      · exact hx
      · exact Int.le_trans hx (h1 z hz)
    · rename_i hx
      refine List.pairwise_cons.mpr ⟨fun z hz => ?_, insI_sorted x r h2⟩
      have := (insI_perm x r).mem_iff.mp hz
      rcases List.mem_cons.mp this with rfl | hz
      · omega
      · exact h1 z hz
theorem sortI_sorted : ∀ xs : List Int, (sortI xs).Pairwise (· ≤ ·)
  | [] => .nil
  | x :: r => insI_sorted x _ (sortI_sorted r)
theorem sorted_uniq : ∀ {xs ys : List Int}, xs.Perm ys → xs.Pairwise (· ≤ ·) → ys.Pairwise (· ≤ ·) → xs = ys
  | [], ys, p, _, _ => by rw [List.nil_perm.mp p]
  | x :: xs, ys, p, h1, h2 => by
    cases ys with
    | nil => exact absurd (List.perm_nil.mp p) (by simp)
    | cons y ys =>
      obtain ⟨a1, a2⟩ := List.pairwise_cons.mp h1
      obtain ⟨b1, b2⟩ := List.pairwise_cons.mp h2
      have hx : y ≤ x := by
        rcases List.mem_cons.mp (p.mem_iff.mp (List.mem_cons_self (a := x) (l := xs))) with e | e
        · rw [e]; exact Int.le_refl _
        · exact b1 x e
      have hy : x ≤ y := by
        rcases List.mem_cons.mp (p.mem_iff.mpr (List.mem_cons_self (a := y) (l := ys))) with e | e
        · rw [e]; exact Int.le_refl _
        · exact a1 y e
      have e : x = y := Int.le_antisymm hy hx
      subst e
      rw [sorted_uniq (List.Perm.cons_inv p) a2 b2]
def bfSorted : BiF
  | _, [.lst xs] => (asInts xs).map fun ns => (sortI ns).map .int
  | _, _ => none
theorem bfSorted_ok : CallR X (.builtin "sorted") (rCaF X.K bfSorted) := by
  intro pins s σ H xs us Q I r ⟨F, m, a, σ', cs, v, R, b, e, A⟩
  unfold bfSorted at e
  split at e
  · obtain ⟨ns, e1, e2⟩ := Option.map_eq_some_iff.mp e
    subst e2
    have := asInts_of e1; subst this
    obtain ⟨x, rfl, b1⟩ := b.one
    obtain ⟨p, vs, rfl, h1, r1⟩ := b1.lst
    rw [r1.of_ints] at h1
    refine cr_sortedI pins s σ H _ us Q I r ⟨p, ns, rfl, h1, fun ns' q hp hs hq => ?_⟩
    rw [sorted_uniq (hp.trans (sortI_perm ns).symm) hs (sortI_sorted ns)]
    exact A q _ hq (.ints _)
  · cases e

/-! ### isinstance with one built-in class -/
def tyN : AV → Option String
  | .non => some "NoneType" | .bl _ => some "bool" | .int _ => some "int" | .str _ => some "str" | .tup _ => some "tuple" | .lst _ => none
  | .ref _ => none
def isiB (t T : String) : Bool := t == T || (t == "bool" && T == "int")
def isiOk (T : String) : Bool := T == "tuple" || T == "int" || T == "bool" || T == "str" || T == "list"
def eIsi (T : String) (o : MO) : ME := fun G a => (o G a).bind fun r => (cont r.2 r.1).bind fun c => (tyN c).map fun t => (.bl (isiB t T), r.2)
theorem kit_isi {K : PySem.W.Frag} {c : AV} {t T : String} (h : tyN c = some t) (hT : isiOk T = true) : PySem.W.kitOne K (.type t) (.type T) = some (isiB t T) := by
  have hT' : T = "tuple" ∨ T = "int" ∨ T = "bool" ∨ T = "str" ∨ T = "list" := by simpa [isiOk, or_assoc] using hT
  apply kit_ty
  cases c <;> cases h <;> rcases hT' with rfl | rfl | rfl | rfl | rfl <;> decide +kernel
theorem tyX_of {F : Hot} {m : List Addr} {a : AS} {σ : L2.St} {H : Hp} {x : V} {c : AV} {t : String} (b : RB X.K H (hotOf F m a σ) m x c) (h : tyN c = some t) : TyX X.K H x (.type t) := by
  cases c with
  | non => cases h; rw [b.non]; exact .base .non
  | bl _ => cases h; rw [b.bl]; exact .base (.bl _)
  | int _ => cases h; rw [b.int]; exact .base (.int _)
  | str _ => cases h; rw [b.str]; exact .base (.str _)
  | tup xs =>
    cases h
    obtain ⟨p, vs, rfl, h1, r⟩ := b.tup
    rcases h1 with ⟨o, h1, t⟩ | ⟨o, its, n, h1, t, _⟩
    · exact .fTuple h1
    · exact .kTuple h1 t.1
  | lst xs => cases h
  | ref _ => cases h
end
end Pyx
end
section
set_option maxRecDepth 100000
namespace Pyx
open PySem PySem.Spec PyProof.Rows L2

/-! ### written argument lists -/
def notStar : Expr → Bool
  | .Starred _ _ => false
  | _ => true
theorem star_cons {e : Expr} {es : List Expr} {env : Env} (h : notStar e = true) : starEach (e :: es) env = (false, eval e env) :: starEach es env := by
  cases e <;> first | rfl | cases h
theorem star_any {pos : Pos} {env : Env} : ∀ {es : List Expr}, es.all notStar = true → (backTo pos (starEach es env)).any (·.1) = false
  | [], _ => rfl
  | e :: es, h => by
    rw [List.all_cons, Bool.and_eq_true] at h
    rw [star_cons h.1]
    show (false || (backTo pos (starEach es env)).any (·.1)) = false
    rw [star_any h.2]; rfl
theorem star_all {pos : Pos} {env : Env} : ∀ {es : List Expr}, es.all notStar = true → (backTo pos (starEach es env)).all (fun x => !x.1) = true
  | [], _ => rfl
  | e :: es, h => by
    rw [List.all_cons, Bool.and_eq_true] at h
    rw [star_cons h.1]
    show (true && (backTo pos (starEach es env)).all (fun x => !x.1)) = true
    rw [star_all h.2]; rfl
def notCall : Expr → Bool
  | .Call _ _ _ _ => false
  | _ => true
theorem base_ok {o : Expr} {name : Str} {env : Env} (h : notCall o = true) : attributeBase o name env (eval o env) = eval o env := by
  cases o <;> first | rfl | cases h

section
variable {X : Cx} {F : Hot} {G : Gm} {x y : Expr} {pos apos : Pos}
theorem few_ok {es : List Expr} (h : es.all notStar = true) (hl : es.length < 30) :
    ((backTo pos (starEach es X.env)).all (fun x => !x.1) && (backToKw pos (keywordEach [] X.env)).all (fun x => x.1.isSome) && decide (es.length + ([] : List Keyword).length + (if ([] : List Keyword).isEmpty then 0 else 1) < 30)) = true := by
  rw [star_all h]
  show (true && true && decide (es.length + 0 + 0 < 30)) = true
  simpa using hl

/-! ### isinstance -/
theorem pe_eIsi {T : Str} {pt : Pos} {Ts : String} {o : MO} (hT : isiOk Ts = true) (hg : Gl X "isinstance") (hm : X.mg "isinstance" = none) (gT : Gl X T) (mT : X.mg T = none) (bT : bootBuiltins T = some (.type Ts)) (nT : T ≠ "__name__") (dT : (T == ("__debug__" : Str)) = false)
    (ho : PE X x (tO X.K F G o)) (hx : notStar x = true) : PE X (.Call (.Name "isinstance" pt) [x, .Name T pos] [] apos) (tE X.K F G (eIsi Ts o)) := by
  have hs : starEach [x, .Name T pos] X.env = (false, eval x X.env) :: starEach [.Name T pos] X.env := star_cons hx
  refine (pe_callB call_isi hg hm boot_isinstance (pa_cons ho (pa_cons (pe_bltn (v := .ty Ts) gT mT bT rfl nT dT) pa_nil rfl) hs) (by decide) (by decide) hs rfl).weak fun σ H Q ⟨m, a, r, R, e, k⟩ => ?_
  obtain ⟨q, e1, e⟩ := Option.bind_eq_some_iff.mp e
  obtain ⟨c, e2, e⟩ := Option.bind_eq_some_iff.mp e
  obtain ⟨t, e3, e4⟩ := Option.map_eq_some_iff.mp e
  subst e4
  refine ⟨m, a, q, R, e1, fun x H1 m1 R1 s1 h1 => ?_⟩
  exact ⟨x, .ty Ts, .type t, .type Ts, isiB t Ts, rfl, .ty Ts, tyX_of (h1.cont R1 e2) e3, kit_isi e3 hT, k _ H1 m1 R1 s1 (.bl _)⟩

/-! ### a def's call -/
def spG (K : PySem.W.Frag) (G : Gm) (name : Str) (n : Nat) : Sp := fun vs H Q _ => vs.length = n ∧ ∃ F m S args r, Rl K F m ⟨[], S⟩ [] H ∧ Rps' K F m ⟨[], S⟩ [] H vs args ∧ G name args S = some r ∧
  ∀ x H' m', Rl K F m' ⟨[], r.2⟩ [] H' → Stp m ⟨[], S⟩ [] H m' ⟨[], r.2⟩ [] H' → Rp' K F m' ⟨[], r.2⟩ [] H' x r.1 → Q x H'
def AS.wS (a : AS) (S : List SObj) : AS := ⟨a.ρ, S⟩
def inF (F : Hot) (a : AS) (σ : L2.St) : Hot := fun p => F p ∨ Own a.ρ σ p
theorem own_nil {p : Addr} : ¬ Own [] [] p := fun ⟨i, xs, e, _⟩ => by simp at e
theorem hot_in {m' : List Addr} {a : AS} {σ : L2.St} {S : List SObj} {p : Addr} : hotOf (inF F a σ) m' ⟨[], S⟩ [] p ↔ (F p ∨ p ∈ m' ∨ Own a.ρ σ p) := by
  constructor
  · rintro ((h | h) | h | h)
    · exact .inl h
    · exact .inr (.inr h)
    · exact .inr (.inl h)
    · exact absurd h own_nil
  · rintro (h | h | h)
    · exact .inl (.inl h)
    · exact .inr (.inl h)
    · exact .inl (.inr h)
theorem KeepR.hot {K : PySem.W.Frag} {H : Hp} {hot hot' : Hot} {m : List Addr} (h : ∀ p, hot' p → hot p) : KeepR K H H hot hot' m m := ⟨fun _ _ _ e => e, fun _ _ e n => ⟨e, fun z => n (h _ z)⟩, fun _ _ e => e⟩
theorem Rl.enter {K : PySem.W.Frag} {m : List Addr} {a : AS} {σ : L2.St} {H : Hp} (R : Rl K F m a σ H) : Rl K (inF F a σ) m ⟨[], a.S⟩ [] H where
  len := rfl
  slot := fun i v e => by simp at e
  own := fun i v e => by simp at e
  inj := fun i j v w p e => by simp at e
  mlen := R.mlen
  obj := fun n o p e1 e2 => (R.obj n o p e1 e2).keep (KeepR.hot fun p h => hot_in.mp h) rfl
  mnd := R.mnd
  mF := fun p hp h => h.elim (R.mF p hp) fun ⟨i, xs, e1, e2⟩ => by
    obtain ⟨p', vs, e3, _, _, _, n⟩ := R.own i xs e1
    rw [e2] at e3; cases e3
    exact n hp
  FH := fun p h => h.elim (R.FH p) fun h => R.hotMut (.inr (.inr h))
theorem Rl.leave {K : PySem.W.Frag} {m m' : List Addr} {a : AS} {σ : L2.St} {H H' : Hp} {S' : List SObj} (R : Rl K F m a σ H) (R' : Rl K (inF F a σ) m' ⟨[], S'⟩ [] H') (s : Stp m ⟨[], a.S⟩ [] H m' ⟨[], S'⟩ [] H') :
    Rl K F m' (a.wS S') σ H' ∧ Stp m a σ H m' (a.wS S') σ H' ∧ ∀ x v, Rp' K (inF F a σ) m' ⟨[], S'⟩ [] H' x v → Rp' K F m' (a.wS S') σ H' x v := by
  have nl : ∀ b, ¬ Loc' m a σ b → ¬ Loc' m ⟨[], a.S⟩ [] b := fun b n h => h.elim (fun h => n (.inl h)) fun h => own_nil h
  have st : Stp m a σ H m' (a.wS S') σ H' := by
    refine ⟨s.pre, fun b o e n => s.keep b o e (nl b n), s.dom, fun b h => ?_⟩
    rcases h with h | h
    · rcases s.locs b (.inl h) with h | h
      · rcases h with h | h
        · exact .inl (.inl h)
        · exact absurd h own_nil
      · exact .inr h
    · exact .inl (.inr h)
  have hk : KeepR K H' H' (hotOf (inF F a σ) m' ⟨[], S'⟩ []) (hotOf F m' (a.wS S') σ) m' m' := KeepR.hot fun p h => hot_in.mpr h
  refine ⟨⟨R.len, fun i v e => ?_, fun i xs e => ?_, R.inj, R'.mlen, fun n o p e1 e2 => (R'.obj n o p e1 e2).keep hk rfl, R'.mnd, fun p hp h => R'.mF p hp (.inl h), fun p h => R'.FH p (.inl h)⟩, st, fun x v r => r.keep hk⟩
  · obtain ⟨x, e1, r⟩ := R.slot i v e
    exact ⟨x, e1, r.step R st⟩
  · obtain ⟨p, vs, e1, h1, r, n1, n2⟩ := R.own i xs e
    have np : p ∉ m' := fun h => by
      rcases s.locs p (.inl h) with h | h
      · exact h.elim n2 fun h => own_nil h
      · rw [h1] at h; cases h
    exact ⟨p, vs, e1, s.keep p _ h1 fun h => h.elim n2 fun h => own_nil h, r.step R st, n1, np⟩
def eCall (name : Str) (t : MAs) : ME := fun G a => (t G a).bind fun r => (G name r.1 r.2.S).map fun q => (q.1, r.2.wS q.2)
theorem call_read {name : Str} {n : Nat} {t : MAs} {σ : L2.St} {H : Hp} {Q : VK} (hn : ∀ as S r, G name as S = some r → as.length = n) (h : tE X.K F G (eCall name t) σ H Q) : tCall (spG X.K G name n) [] E0 (tAs X.K F G t) σ H Q := by
  obtain ⟨m, a, r, R, e, k⟩ := h
  obtain ⟨q, e1, e⟩ := Option.bind_eq_some_iff.mp e
  obtain ⟨v, e2, e3⟩ := Option.map_eq_some_iff.mp e
  subst e3
  refine ⟨m, a, q, R, e1, fun xs H1 m1 R1 s1 r1 => ?_⟩
  show spG X.K G name n (xs ++ []) H1 Q E0
  rw [List.append_nil]
  refine ⟨r1.length.trans (hn _ _ _ e2), inF F q.2 σ, m1, q.2.S, q.1, v, R1.enter, r1.keep (KeepR.hot fun p h => hot_in.mp h), e2, fun x H' m' R' s' r' => ?_⟩
  obtain ⟨a1, a2, a3⟩ := R1.leave R' s'
  exact k x H' m' a1 (s1.trans a2) (a3 x v.1 r')
/-- what is known of a def of the text -/
structure FnG (X : Cx) (G : Gm) (d : Nat) (name : Str) (n : Nat) : Prop where
  ex : ∃ (f : Addr) (fd : FuncData) (ps : List Str), X.mg name = some (.ref f) ∧ PySem.W.keepIn X.K (.ref f) = true ∧ Binds X.K fd ps [] ∧ FnOk X.prog X.w X.K X.mg X.base CX0 d f fd ps (spG X.K G name n)
  ar : ∀ as S r, G name as S = some r → as.length = n
theorem pe_eCall0 {name : Str} {n d : Nat} {p : Pos} (f : FnG X G d name n) (hr : Room d X.A) (hg : Gl X name) (hd : (name == ("__debug__" : Str)) = false) : PE X (.Call (.Name name p) [] [] pos) (tE X.K F G (eCall name aNil)) := by
  obtain ⟨f1, fd, ps, h1, h2, h3, h4⟩ := f.ex
  refine (pe_call0 h4 hr hg h1 h2 h3 .nil pass0 hd).weak fun σ H Q h => ?_
  obtain ⟨m, a, r, R, e, k⟩ := call_read f.ar h
  cases e
  exact k [] H m R .refl .nil
theorem pe_eCall {name : Str} {n d : Nat} {t : MAs} {e : Expr} {es : List Expr} {p : Pos} (f : FnG X G d name n) (hr : Room d X.A) (hg : Gl X name) (hd : (name == ("__debug__" : Str)) = false) (ha : PA X (e :: es) (tAs X.K F G t)) (hs : (e :: es).all notStar = true) :
    PE X (.Call (.Name name p) (e :: es) [] pos) (tE X.K F G (eCall name t)) := by
  obtain ⟨f1, fd, ps, h1, h2, h3, h4⟩ := f.ex
  rw [List.all_cons, Bool.and_eq_true] at hs
  exact (pe_call h4 hr hg h1 h2 h3 .nil pass0 ha hd (star_cons hs.1) (star_any hs.2)).weak fun _ _ _ => call_read f.ar

/-! ### a call to which lists that will be changed again are lent: it answers a plain value and touches no store -/
mutual
def AV.nr : AV → Bool
  | .ref _ => false
  | .tup xs => AV.nrs xs | .lst xs => AV.nrs xs
  | _ => true
def AV.nrs : List AV → Bool
  | [] => true | x :: xs => x.nr && AV.nrs xs
end
section
variable {K : PySem.W.Frag} {H : Hp} {hot hot' : Hot} {m m' : List Addr}
mutual
theorem Rp.plain (k : ∀ p, hot' p → hot p) : ∀ {v : AV} {x : V}, Rp K H hot m x v → v.nr = true → Rp K H hot' m' x v
  | .non, _, .non, _ => .non
  | .bl _, _, .bl b, _ => .bl b
  | .int _, _, .int i, _ => .int i
  | .str _, _, .str x, _ => .str x
  | .tup xs, _, .tup h r, e => .tup h (Rps.plain k r e)
  | .lst xs, _, .lst h n r, e => .lst h (fun z => n (k _ z)) (Rps.plain k r e)
  | .lst xs, _, .lstK h r, e => .lstK h (Rps.plain k r e)
theorem Rps.plain (k : ∀ p, hot' p → hot p) : ∀ {vs : List AV} {xs : List V}, Rps K H hot m xs vs → AV.nrs vs = true → Rps K H hot' m' xs vs
  | [], _, .nil, _ => .nil
  | v :: vs, _, .cons r t, e => by
    have h' : (v.nr && AV.nrs vs) = true := e
    rw [Bool.and_eq_true] at h'
    exact .cons (Rp.plain k r h'.1) (Rps.plain k t h'.2)
end
end
def isSc : AV → Bool
  | .non | .bl _ | .int _ | .str _ => true
  | _ => false
theorem sc_rp {K : PySem.W.Frag} {H H' : Hp} {hot hot' : Hot} {m m' : List Addr} {x : V} : ∀ {v : AV}, isSc v = true → Rp K H hot m x v → Rp K H' hot' m' x v
  | .non, _, .non => .non
  | .bl _, _, .bl b => .bl b
  | .int _, _, .int b => .int b
  | .str _, _, .str b => .str b
  | .tup _, h, _ => by cases h
  | .lst _, h, _ => by cases h
  | .ref _, h, _ => by cases h
def eLend (name : Str) (t : MOs) : ME := fun G a => (t G a).bind fun r => (conts r.2 r.1).bind fun cs => if AV.nrs cs = true then (G name cs []).bind fun q => if isSc q.1 = true then some (q.1, r.2) else none else none
/-- the heads that are lent -/
def headA : V → Option Addr
  | .ref p => some p
  | _ => none
def lent (F : Hot) (m : List Addr) (a : AS) (σ : L2.St) (L : List V) : Hot := fun p => hotOf F m a σ p ∧ ∀ x ∈ L, headA x ≠ some p
theorem rbs_lent {K : PySem.W.Frag} {F : Hot} {m : List Addr} {a : AS} {σ : L2.St} {H : Hp} (L : List V) : ∀ {xs : List V} {cs : List AV}, (∀ x ∈ xs, x ∈ L) → RBs K H (hotOf F m a σ) m xs cs → AV.nrs cs = true → Rps K H (hotOf (lent F m a σ L) [] ⟨[], []⟩ []) [] xs cs
  | [], [], _, _, _ => .nil
  | x :: xs, c :: cs, hL, ⟨r, t⟩, e => by
    have h' : (c.nr && AV.nrs cs) = true := e
    rw [Bool.and_eq_true] at h'
    have hh : ∀ p, hotOf (lent F m a σ L) [] ⟨[], []⟩ [] p → lent F m a σ L p := fun p h => h.elim id fun h => h.elim (fun h => by cases h) fun h => absurd h own_nil
    refine .cons ?_ (rbs_lent L (fun y hy => hL y (List.mem_cons_of_mem _ hy)) t h'.2)
    rcases r with r | ⟨p, vs, ys, e1, e2, h1, r⟩
    · exact Rp.plain (fun p h => (hh p h).1) r h'.1
    · subst e1 e2
      exact .lst (.inl h1) (fun h => (hh p h).2 (.ref p) (hL _ List.mem_cons_self) rfl) (Rps.plain (fun p h => (hh p h).1) r h'.1)
  | [], _ :: _, _, h, _ => h.elim
  | _ :: _, [], _, h, _ => h.elim
theorem lentRl {K : PySem.W.Frag} {F : Hot} {m : List Addr} {a : AS} {σ : L2.St} {H : Hp} (R : Rl K F m a σ H) (L : List V) : Rl K (lent F m a σ L) [] ⟨[], []⟩ [] H where
  len := rfl
  slot := fun i v e => by simp at e
  own := fun i v e => by simp at e
  inj := fun i j v w p e => by simp at e
  mlen := rfl
  obj := fun n o p e => by simp at e
  mnd := .nil
  mF := fun p h => by cases h
  FH := fun p h => R.hotMut h.1
theorem lend_read {name : Str} {n : Nat} {t : MOs} {σ : L2.St} {H : Hp} {Q : VK} (hn : ∀ as S r, G name as S = some r → as.length = n) (h : tE X.K F G (eLend name t) σ H Q) : tCall (spG X.K G name n) [] E0 (tOs X.K F G t) σ H Q := by
  obtain ⟨m, a, r, R, e, k⟩ := h
  obtain ⟨q, e1, e⟩ := Option.bind_eq_some_iff.mp e
  obtain ⟨cs, e2, e⟩ := Option.bind_eq_some_iff.mp e
  split at e
  · rename_i hnr
    obtain ⟨v, e3, e⟩ := Option.bind_eq_some_iff.mp e
    split at e
    · rename_i hsc
      cases e
      refine ⟨m, a, q, R, e1, fun xs H1 m1 R1 s1 r1 => ?_⟩
      have b := r1.conts R1 e2
      show spG X.K G name n (xs ++ []) H1 Q E0
      rw [List.append_nil]
      have r2 := rbs_lent xs (fun _ h => h) b hnr
      refine ⟨r2.length.trans (hn _ _ _ e3), lent F m1 q.2 σ xs, [], [], cs, v, lentRl R1 xs, r2, e3, fun x H' m' R' s' r' => ?_⟩
      have st : Stp m1 q.2 σ H1 m1 q.2 σ H' := ⟨fun _ _ e => e, fun b o e _ => s'.keep b o e fun h => h.elim (fun h => by cases h) fun h => absurd h own_nil, s'.dom, fun b h => .inl h⟩
      have all : ∀ b o, H1 b = some o → H' b = some o := fun b o e => s'.keep b o e fun h => h.elim (fun h => by cases h) fun h => absurd h own_nil
      have R2 := R1.via st fun b l => by
        cases q : H1 b with
        | none => exact absurd q (R1.locSome l)
        | some o => exact all b o q
      exact k x H' m1 R2 (s1.trans st) (sc_rp hsc r')
    · cases e
  · cases e
theorem pe_eLend {name : Str} {n d : Nat} {t : MOs} {e : Expr} {es : List Expr} {p : Pos} (f : FnG X G d name n) (hr : Room d X.A) (hg : Gl X name) (hd : (name == ("__debug__" : Str)) = false) (ha : PA X (e :: es) (tOs X.K F G t)) (hs : (e :: es).all notStar = true) :
    PE X (.Call (.Name name p) (e :: es) [] pos) (tE X.K F G (eLend name t)) := by
  obtain ⟨f1, fd, ps, h1, h2, h3, h4⟩ := f.ex
  rw [List.all_cons, Bool.and_eq_true] at hs
  exact (pe_call h4 hr hg h1 h2 h3 .nil pass0 ha hd (star_cons hs.1) (star_any hs.2)).weak fun _ _ _ => lend_read f.ar
end
end Pyx
end
section
set_option maxRecDepth 100000
namespace Pyx
open PySem PySem.Spec PyProof.Rows L2

/-! ### a list is changed in its place -/
def mutR (a : AS) (n : Nat) (f : List AV → Option (List AV)) : Option SObj → Option AS
  | some (.lst xs) => (f xs).map fun ys => a.setS n (.lst ys)
  | _ => none
def mutV (a : AS) (f : List AV → Option (List AV)) : AV → Option AS
  | .ref n => mutR a n f a.S[n]?
  | _ => none
def mutO (a : AS) (i : Nat) (f : List AV → Option (List AV)) : Option (Option Slt) → Option AS
  | some (some (.own xs)) => (f xs).map fun ys => a.putOwn i ys
  | some (some (.val v)) => mutV a f v
  | _ => none
def mutL (a : AS) (f : List AV → Option (List AV)) : Hd → Option AS
  | .slot i => mutO a i f a.ρ[i]?
  | .val v => mutV a f v
section
variable {K : PySem.W.Frag} {F : Hot} {m : List Addr} {a a' : AS} {σ : L2.St} {H : Hp} {x : V} {f : List AV → Option (List AV)}
/-- what a change of a list asks and gives -/
def MutOk (K : PySem.W.Frag) (F : Hot) (m : List Addr) (a a' : AS) (σ : L2.St) (H : Hp) (x : V) (f : List AV → Option (List AV)) (c : Option AV) : Prop :=
  ∃ p vs xs ys, x = .ref p ∧ H p = some (.lst vs) ∧ Rps' K F m a σ H vs xs ∧ f xs = some ys ∧
    (∀ vs', Rps' K F m a σ H vs' ys → Rl K F m a' σ (upd H p (.lst vs')) ∧ Stp m a σ H m a' σ (upd H p (.lst vs'))) ∧ c = some (.lst xs)
theorem mutV_ok (R : Rl K F m a σ H) : ∀ {v : AV}, Rp' K F m a σ H x v → mutV a f v = some a' → MutOk K F m a a' σ H x f (some (res a.S v))
  | .ref n, r, e => by
    cases r with
    | ref hm =>
      rename_i p
      have e' : mutR a n f a.S[n]? = some a' := e
      cases q : a.S[n]? with
      | none => rw [q] at e'; cases e'
      | some o =>
        rw [q] at e'
        cases o with
        | dic _ => cases e'
        | lst xs =>
          obtain ⟨ys, e1, e2⟩ := Option.map_eq_some_iff.mp e'
          subst e2
          obtain ⟨vs, h1, r1⟩ := R.obj n _ _ q hm
          exact ⟨p, vs, xs, ys, rfl, h1, r1, e1, fun vs' r' => ⟨R.setLst hm r', Rl.setSStp hm⟩, by show some (resL n a.S[n]?) = _; rw [q]; rfl⟩
  | .non, _, e | .bl _, _, e | .int _, _, e | .str _, _, e | .tup _, _, e | .lst _, _, e => by cases e
theorem mutL_ok (R : Rl K F m a σ H) : ∀ {h : Hd}, RHd K F m a σ H x h → mutL a f h = some a' → MutOk K F m a a' σ H x f (cont a h)
  | .val v, r, e => mutV_ok R r e
  | .slot i, r, e => by
    have r' : σ[i]? = some (some x) := r
    have e' : mutO a i f a.ρ[i]? = some a' := e
    cases q : a.ρ[i]? with
    | none => rw [q] at e'; cases e'
    | some o =>
      cases o with
      | none => rw [q] at e'; cases e'
      | some sl =>
        rw [q] at e'
        cases sl with
        | own xs =>
          obtain ⟨ys, e1, e2⟩ := Option.map_eq_some_iff.mp e'
          subst e2
          obtain ⟨p, vs, e3, h1, r1, _, _⟩ := R.own i _ q
          rw [r'] at e3; cases e3
          exact ⟨p, vs, xs, ys, rfl, h1, r1, e1, fun vs' r2 => ⟨R.setOwn q r' r2, Rl.setOwnStp q r'⟩, by show slotV a.S a.ρ[i]? = _; rw [q]; rfl⟩
        | val v =>
          obtain ⟨y, e1, r1⟩ := R.slot i _ q
          rw [r'] at e1; cases e1
          have := mutV_ok R r1 e'
          have e2 : cont a (.slot i) = some (res a.S v) := by show slotV a.S a.ρ[i]? = _; rw [q]; rfl
          rw [e2]; exact this
end
def isLst : AV → Bool
  | .lst _ => true
  | _ => false
def isTupA : AV → Bool
  | .tup _ => true
  | _ => false
section
variable {X : Cx} {F : Hot} {G : Gm} {x y : Expr} {pos apos : Pos}
theorem tyL {m : List Addr} {a : AS} {σ : L2.St} {H : Hp} {v : V} {c : AV} (b : RB X.K H (hotOf F m a σ) m v c) (h : isLst c = true) : tyV X.K "list" v H := by
  cases c with
  | lst xs =>
    obtain ⟨p, vs, rfl, h1, _⟩ := b.lst
    exact .inl ⟨rfl, vs, h1⟩
  | _ => cases h
/-- xs.append(e) -/
def appL (v : AV) (xs : List AV) : Option (List AV) := if xs.length < sizeLine then some (xs ++ [v]) else none
def eApp (o : MO) (e : ME) : ME := fun G a => (o G a).bind fun r => (cont r.2 r.1).bind fun c => if isLst c = true then (e G r.2).bind fun q => (mutL q.2 (appL q.1) r.1).map fun a' => (.non, a') else none
theorem pe_eApp {o : MO} {e : ME} (ho : PE X x (tO X.K F G o)) (he : PE X y (tE X.K F G e)) (hx : notCall x = true) (hy : notStar y = true) (hl : (apos.endLine == pos.line) = true) : PE X (.Call (.Attribute x "append" apos) [y] [] pos) (tE X.K F G (eApp o e)) := by
  have ha : PA X [y] (tCons (tE X.K F G e) tNil) := pa_cons he pa_nil (star_cons hy)
  refine (pe_bm PySem.F.plainAttrs_list PySem.F.slot_list_append PySem.F.type_list_append mt_append ho ha (base_ok hx) (few_ok (by simp [hy]) (by simp)) hl (star_cons hy) rfl).weak fun σ H Q ⟨m, a, r, R, e, k⟩ => ?_
  obtain ⟨q, e1, e⟩ := Option.bind_eq_some_iff.mp e
  obtain ⟨c, e2, e⟩ := Option.bind_eq_some_iff.mp e
  split at e
  · rename_i hc
    obtain ⟨q2, e3, e⟩ := Option.bind_eq_some_iff.mp e
    obtain ⟨a', e4, e5⟩ := Option.map_eq_some_iff.mp e
    subst e5
    refine ⟨m, a, q, R, e1, fun x H1 m1 R1 s1 h1 => ⟨tyL (h1.cont R1 e2) hc, m1, q.2, q2, R1, e3, fun y H2 m2 R2 s2 r2 => ?_⟩⟩
    obtain ⟨p, vs, xs, ys, rfl, g1, g2, g3, g4, g5⟩ := mutL_ok R2 (h1.step R1 s2) e4
    unfold appL at g3
    split at g3
    · rename_i hlen
      cases g3
      obtain ⟨w1, w2⟩ := g4 (vs ++ [y]) (g2.snoc r2)
      exact ⟨p, vs, y, rfl, rfl, g1, by rw [g2.length]; exact hlen, k _ _ m2 w1 ((s1.trans s2).trans w2) .non⟩
    · cases g3
  · cases e
/-- xs.pop() -/
def ePop (o : MO) : ME := fun G a => (o G a).bind fun r => (cont r.2 r.1).bind fun c => match c with
  | .lst xs => xs[xs.length - 1]?.bind fun y => (mutL r.2 (fun xs => some xs.dropLast) r.1).map fun a' => (y, a')
  | _ => none
theorem Rps.dropLast {K : PySem.W.Frag} {H : Hp} {hot : Hot} {m : List Addr} {xs : List V} {vs : List AV} (r : Rps K H hot m xs vs) : Rps K H hot m xs.dropLast vs.dropLast := by
  rw [List.dropLast_eq_take, List.dropLast_eq_take, r.length]
  exact r.take _
theorem pe_ePop {o : MO} (ho : PE X x (tO X.K F G o)) (hx : notCall x = true) (hl : (apos.endLine == pos.line) = true) : PE X (.Call (.Attribute x "pop" apos) [] [] pos) (tE X.K F G (ePop o)) := by
  refine (pe_bm0 PySem.F.plainAttrs_list PySem.F.slot_list_pop PySem.F.type_list_pop mt_pop ho (base_ok hx) hl).weak fun σ H Q ⟨m, a, r, R, e, k⟩ => ?_
  obtain ⟨q, e1, e⟩ := Option.bind_eq_some_iff.mp e
  obtain ⟨c, e2, e⟩ := Option.bind_eq_some_iff.mp e
  cases c with
  | lst xs =>
    obtain ⟨y, e3, e⟩ := Option.bind_eq_some_iff.mp (show (xs[xs.length - 1]?.bind fun y => (mutL q.2 (fun xs => some xs.dropLast) q.1).map fun a' => (y, a')) = some r from e)
    obtain ⟨a', e4, e5⟩ := Option.map_eq_some_iff.mp e
    subst e5
    refine ⟨m, a, q, R, e1, fun x H1 m1 R1 s1 h1 => ?_⟩
    have b := h1.cont R1 e2
    refine ⟨tyL b rfl, ?_⟩
    obtain ⟨p, vs, xs', ys, rfl, g1, g2, g3, g4, g5⟩ := mutL_ok R1 h1 e4
    have rx := g2
    rw [e2] at g5
    cases g5
    obtain ⟨z, e6, rz⟩ := rx.get e3
    cases g3
    obtain ⟨w1, w2⟩ := g4 vs.dropLast g2.dropLast
    exact ⟨p, vs, z, rfl, rfl, g1, by rw [rx.length]; exact e6, k _ _ m1 w1 (s1.trans w2) (rz.step R1 w2)⟩
  | _ => cases e
/-- xs.pop(i), 0 ≤ i -/
def ePopAt (o : MO) (e : ME) : ME := fun G a => (o G a).bind fun r => (cont r.2 r.1).bind fun c0 => if isLst c0 = true then (e G r.2).bind fun q => (cont q.2 r.1).bind fun c => match c, q.1 with
  | .lst xs, .int i => if 0 ≤ i ∧ i < 2 ^ 63 then xs[i.toNat]?.bind fun y => (mutL q.2 (fun xs => some (xs.eraseIdx i.toNat)) r.1).map fun a' => (y, a') else none
  | _, _ => none else none
theorem pe_ePopAt {o : MO} {e : ME} (ho : PE X x (tO X.K F G o)) (he : PE X y (tE X.K F G e)) (hx : notCall x = true) (hy : notStar y = true) (hl : (apos.endLine == pos.line) = true) : PE X (.Call (.Attribute x "pop" apos) [y] [] pos) (tE X.K F G (ePopAt o e)) := by
  have ha : PA X [y] (tCons (tE X.K F G e) tNil) := pa_cons he pa_nil (star_cons hy)
  refine (pe_bm PySem.F.plainAttrs_list PySem.F.slot_list_pop PySem.F.type_list_pop mt_popAt ho ha (base_ok hx) (few_ok (by simp [hy]) (by simp)) hl (star_cons hy) rfl).weak fun σ H Q ⟨m, a, r, R, e, k⟩ => ?_
  obtain ⟨q, e1, e⟩ := Option.bind_eq_some_iff.mp e
  obtain ⟨c0, e2, e⟩ := Option.bind_eq_some_iff.mp e
  split at e
  · rename_i hc
    obtain ⟨q2, e3, e⟩ := Option.bind_eq_some_iff.mp e
    obtain ⟨c, e4, e⟩ := Option.bind_eq_some_iff.mp e
    split at e
    · rename_i xs i hi
      split at e
      · rename_i hb
        obtain ⟨y, e5, e⟩ := Option.bind_eq_some_iff.mp e
        obtain ⟨a', e6, e7⟩ := Option.map_eq_some_iff.mp e
        subst e7
        refine ⟨m, a, q, R, e1, fun x H1 m1 R1 s1 h1 => ⟨tyL (h1.cont R1 e2) hc, m1, q.2, q2, R1, e3, fun y' H2 m2 R2 s2 r2 => ?_⟩⟩
        rw [hi] at r2; cases r2
        have h2 := h1.step R1 s2
        have b := h2.cont R2 e4
        obtain ⟨p, vs, xs', ys, rfl, g1, g2, g3, g4, g5⟩ := mutL_ok R2 h2 e6
        have rx := g2
        rw [e4] at g5
        cases g5
        obtain ⟨z, e8, rz⟩ := rx.get e5
        cases g3
        obtain ⟨w1, w2⟩ := g4 (vs.eraseIdx i.toNat) (g2.eraseIdx i.toNat)
        have hlt : i.toNat < vs.length := (List.getElem?_eq_some_iff.mp e8).1
        exact ⟨p, vs, i, i.toNat, z, rfl, rfl, g1, by omega, hb.2, seqIndex_of hb.1 (by omega), e8, k _ _ m2 w1 ((s1.trans s2).trans w2) (rz.step R2 w2)⟩
      · cases e
    · cases e
  · cases e
/-- xs.extend(ys), ys another list -/
def extL (S : List AV) (xs : List AV) : Option (List AV) := if xs.length + S.length ≤ sizeLine then some (xs ++ S) else none
end
end Pyx
end
section
set_option maxRecDepth 100000
namespace Pyx
open PySem PySem.Spec PyProof.Rows L2

/-! ### xs.index(y), xs.count(y), d.get(k, v), s.join(xs) -/
def okFor (ys : List AV) (y : AV) : Prop := y.okD = true ∧ AV.okDs ys = true ∧ min (PyData.depthAll (AV.pds ys)) y.dep ≤ 64
instance {ys : List AV} {y : AV} : Decidable (okFor ys y) := by unfold okFor; infer_instance
def idxA (ys : List AV) (y : AV) : Option AV := if okFor ys y then (ys.findIdx? fun z => z.eqb y).map fun (j : Nat) => .int j else none
def cntA (ys : List AV) (y : AV) : Option AV := if okFor ys y then some (.int ((ys.countP fun z => z.eqb y : Nat))) else none
def kind : AV → Nat
  | .lst _ => 1 | .tup _ => 2 | _ => 0
def seqF (f : List AV → AV → Option AV) : AV → AV → Option AV
  | .lst xs, y => f xs y
  | .tup xs, y => f xs y
  | _, _ => none
def eSeqM (f : List AV → AV → Option AV) (ks : List Nat) (o : MO) (e : MO) : ME := fun G a => (o G a).bind fun r => (cont r.2 r.1).bind fun c0 => if kind c0 ∈ ks then (e G r.2).bind fun q => (cont q.2 r.1).bind fun c => (cont q.2 q.1).bind fun y => if kind c = kind c0 then (seqF f c y).map fun v => (v, q.2) else none else none
section
variable {X : Cx} {F : Hot} {G : Gm} {x y : Expr} {pos apos : Pos}
theorem readOf_at {s : Shared} {its : List Value} {ds : List PyData} {as : List Addr} (hxs : PyData.canLayAll0 ds = true) (h : ReadsAll s.heap its ds as) {m : Nat} (hm : m < its.length) {z : PyData} (hz : ds[m]? = some z) : SeqAt.readOf s.heap its[m] = z := by
  have hmap : its.map (SeqAt.readOf s.heap) = ds := SeqAt.readsAll_map ds its as hxs h
  rw [← hmap, List.getElem?_map, List.getElem?_eq_getElem hm] at hz
  exact Option.some.inj (show some (SeqAt.readOf s.heap its[m]) = some z from hz)
theorem pds_get (ys : List AV) (j : Nat) : (AV.pds ys)[j]? = ys[j]?.map AV.pd := by rw [AV.pds_map, List.getElem?_map]
/-- the items of a written, tracked or plain sequence as data -/
theorem seq_items (hu : X.A.units + 100 < cLine) {pins : List (Addr × PySem.Obj)} {s : Shared} {σ : L2.St} {H : Hp} {us : List V} {its : List Value} {ys : List AV} {c : AV} {v : V} {u : Value} (I : Inv X pins σ H s) (rv : Vals us its) (ru : RelV v u)
    (d1 : DpAll X.K H us (AV.pds ys)) (d2 : Dp X.K H v c.pd) (ok : okFor ys c) :
    its.length = ys.length ∧ (∀ z, z ∈ its.toArray → SeqAt.EqAt X.A.in1 s z u (PyData.eqv (SeqAt.readOf s.heap z) c.pd)) ∧ ∀ (m : Nat) (hm : m < its.length) (z : AV), ys[m]? = some z → PyData.eqv (SeqAt.readOf s.heap its[m]) c.pd = z.eqb c := by
  obtain ⟨k1, k2, k3⟩ := ok
  obtain ⟨as, h4⟩ := Dp.readsAll I _ us its d1 rv
  obtain ⟨bs, r1⟩ := Dp.reads I _ v u d2 ru
  have hl : its.length = ys.length := by
    have := SeqAt.ReadsAll.length _ its as h4
    rw [AV.pds_map, List.length_map] at this
    exact this
  refine ⟨hl, SeqAt.items_eqAt (vs := its.toArray) (show ReadsAll s.heap its.toArray.toList (AV.pds ys) as from h4) r1 (AV.okDs_lay _ k2) (AV.okD_lay _ k1) (by unfold AV.dep at k3; omega), fun m hm z hz => ?_⟩
  rw [readOf_at (AV.okDs_lay _ k2) h4 hm (z := z.pd) (by rw [pds_get, hz]; rfl)]
  rfl
theorem idx_spec {ys : List AV} {y : AV} {v : AV} (h : idxA ys y = some v) : okFor ys y ∧ ∃ (j : Nat) (z : AV), v = .int (j : Nat) ∧ ys[j]? = some z ∧ z.eqb y = true ∧ ∀ (m : Nat) (w : AV), m < j → ys[m]? = some w → w.eqb y = false := by
  unfold idxA at h
  split at h
  · rename_i ok
    obtain ⟨j, e1, e2⟩ := Option.map_eq_some_iff.mp h
    obtain ⟨hj, h1, h2⟩ := List.findIdx?_eq_some_iff_getElem.mp e1
    refine ⟨ok, j, ys[j], e2.symm, List.getElem?_eq_getElem hj, h1, fun m w hm hw => ?_⟩
    have hm' : m < ys.length := by omega
    rw [List.getElem?_eq_getElem hm'] at hw
    cases hw
    have := h2 m hm
    simpa using this
  · cases h
def rSeqM (K : PySem.W.Frag) (T : AV → Prop) (f : List AV → AV → Option AV) : V → List V → Hp → VK → Prop := fun x xs H Q => ∃ y F m a σ c d v, xs = [y] ∧ Rl K F m a σ H ∧ T c ∧ RB K H (hotOf F m a σ) m x c ∧ RB K H (hotOf F m a σ) m y d ∧ seqF f c d = some v ∧ Aft K F m a σ H v Q
theorem mt_idxL (hu : X.A.units + 100 < cLine) : MtR X "list.index" (rSeqM X.K (fun c => kind c = 1) idxA) := by
  intro pins s σ H x xs v us Q I rx rxs ⟨y, F, m, a, σ', c, d, w, e, R, hT, bx, bd, ef, A⟩
  subst e
  cases c with
  | lst ys =>
    obtain ⟨p, vs, rfl, h1, r⟩ := bx.lst
    cases rx
    obtain ⟨u, rfl, ru⟩ := rxs.one
    obtain ⟨ok, j, z, rfl, hz, hzj, hno⟩ := idx_spec (show idxA ys d = some w from ef)
    obtain ⟨its, rv, ⟨⟨cls, dd, data, sls⟩, n, ho, hc, hdn, hdt⟩, hlen⟩ := I.list h1
    simp only at hc hdt
    subst hc hdt
    obtain ⟨hl, hE, hR⟩ := seq_items hu I rv ru (r.dp ok.2.1) (bd.dp ok.1) ok
    have hsl := sizeLine_eq
    obtain ⟨hjd, _⟩ := List.getElem?_eq_some_iff.mp hz
    have hjl : j < its.length := by omega
    have hvl := rv.length
    refine call_meets PySem.F.slot_list_index ⟨_, ho, rfl⟩ PySem.F.entry_list_index (PySem.F.args_list_index_2 _ _)
      (SeqAt.list_indexAt p its.toArray n dd sls u (fun u => PyData.eqv (SeqAt.readOf s.heap u) d.pd) j (by simpa using hjl) (by omega) ?_ ?_) ⟨ho, hE, ⟨.int (j : Nat), H, I.tok _, ⟨_, rfl⟩, A.here R (.int _)⟩⟩
    · show PyData.eqv (SeqAt.readOf s.heap its.toArray[j]) d.pd = true
      have := hR j hjl z hz
      rw [hzj] at this
      simpa using this
    · intro k hk hkj
      have hk' : k < its.length := by simpa using hk
      have hz' : ys[k]? = some ys[k] := List.getElem?_eq_getElem (by omega)
      show PyData.eqv (SeqAt.readOf s.heap its.toArray[k]) d.pd = false
      have := hR k hk' _ hz'
      rw [hno k _ hkj hz'] at this
      simpa using this
  | _ => cases hT
theorem mt_idxT (hu : X.A.units + 100 < cLine) : MtR X "tuple.index" (rSeqM X.K (fun c => kind c = 2) idxA) := by
  intro pins s σ H x xs v us Q I rx rxs ⟨y, F, m, a, σ', c, d, w, e, R, hT, bx, bd, ef, A⟩
  subst e
  cases c with
  | tup ys =>
    obtain ⟨p, vs, rfl, h1, r⟩ := bx.tup
    cases rx
    obtain ⟨u, rfl, ru⟩ := rxs.one
    obtain ⟨ok, j, z, rfl, hz, hzj, hno⟩ := idx_spec (show idxA ys d = some w from ef)
    obtain ⟨its, n, sls, rv, ho, hlen⟩ := TupZ.obj I h1
    obtain ⟨hl, hE, hR⟩ := seq_items hu I rv ru (r.dp ok.2.1) (bd.dp ok.1) ok
    obtain ⟨hjd, _⟩ := List.getElem?_eq_some_iff.mp hz
    have hjl : j < its.length := by omega
    refine call_meets PySem.F.slot_tuple_index ⟨_, ho, rfl⟩ PySem.F.entry_tuple_index (PySem.F.args_tuple_index_2 _ _)
      (TI.tuple_indexAt p its.toArray n none sls u (fun u => PyData.eqv (SeqAt.readOf s.heap u) d.pd) j (by simpa using hjl) ?_ ?_) ⟨ho, hE, ⟨.int (j : Nat), H, I.tok _, ⟨_, rfl⟩, A.here R (.int _)⟩⟩
    · show PyData.eqv (SeqAt.readOf s.heap its.toArray[j]) d.pd = true
      have := hR j hjl z hz
      rw [hzj] at this
      simpa using this
    · intro k hk hkj
      have hk' : k < its.length := by simpa using hk
      have hz' : ys[k]? = some ys[k] := List.getElem?_eq_getElem (by omega)
      show PyData.eqv (SeqAt.readOf s.heap its.toArray[k]) d.pd = false
      have := hR k hk' _ hz'
      rw [hno k _ hkj hz'] at this
      simpa using this
  | _ => cases hT
theorem mt_cntL (hu : X.A.units + 100 < cLine) : MtR X "list.count" (rSeqM X.K (fun c => kind c = 1) cntA) := by
  intro pins s σ H x xs v us Q I rx rxs ⟨y, F, m, a, σ', c, d, w, e, R, hT, bx, bd, ef, A⟩
  subst e
  cases c with
  | lst ys =>
    obtain ⟨p, vs, rfl, h1, r⟩ := bx.lst
    cases rx
    obtain ⟨u, rfl, ru⟩ := rxs.one
    have ef' : (if okFor ys d then some (AV.int ((ys.countP fun z => z.eqb d : Nat))) else none) = some w := ef
    split at ef'
    · rename_i ok
      cases ef'
      obtain ⟨its, rv, ⟨⟨cls, dd, data, sls⟩, n, ho, hc, hdn, hdt⟩, hlen⟩ := I.list h1
      simp only at hc hdt
      subst hc hdt
      obtain ⟨hl, hE, hR⟩ := seq_items hu I rv ru (r.dp ok.2.1) (bd.dp ok.1) ok
      refine call_meets PySem.F.slot_list_count ⟨_, ho, rfl⟩ PySem.F.entry_list_count (PySem.F.args_list_count_2 _ _)
        (SeqAt.list_countAt p its.toArray n dd sls u (fun u => PyData.eqv (SeqAt.readOf s.heap u) d.pd)) ⟨ho, hE, ⟨.int _, H, I.tok _, ⟨_, rfl⟩, ?_⟩⟩
      have e : (its.toArray.toList.countP fun u => PyData.eqv (SeqAt.readOf s.heap u) d.pd) = ys.countP fun z => z.eqb d := by
        have e1 : its.map (fun u => PyData.eqv (SeqAt.readOf s.heap u) d.pd) = ys.map fun z => z.eqb d := by
          apply List.ext_getElem?
          intro k
          rw [List.getElem?_map, List.getElem?_map]
          by_cases hk : k < its.length
          · rw [List.getElem?_eq_getElem hk, List.getElem?_eq_getElem (show k < ys.length by omega)]
            exact congrArg some (hR k hk _ (List.getElem?_eq_getElem (by omega)))
          · rw [List.getElem?_eq_none (by omega), List.getElem?_eq_none (by omega)]
            rfl
        have h1 := congrArg (List.countP id) e1
        rw [List.countP_map, List.countP_map] at h1
        exact h1
      rw [e]
      exact A.here R (.int _)
    · cases ef'
  | _ => cases hT

/-- a tuple's method -/
def tBMT (K : PySem.W.Frag) (r : V → List V → Hp → VK → Prop) (to : TE) (t : TA) : TE := fun σ H Q => to σ H fun x H1 => (∃ p vs, x = .ref p ∧ TupZ K H1 p vs) ∧ t σ H1 fun xs H2 => r x xs H2 Q
theorem pe_bmT {name : Str} {id : String} {r : V → List V → Hp → VK → Prop} {to : TE} {t : TA} (pa : PlainAttrs "tuple") (slot : Slot "tuple" name id) (hty : typeOf (.builtin id) = pure (.type "method_descriptor")) (hm : MtR X id r) (ho : PE X x to) (ha : PA X [y] t)
    (hbase : attributeBase x name X.env (eval x X.env) = eval x X.env) (hy : notStar y = true) (hline : (apos.endLine == pos.line) = true) : PE X (.Call (.Attribute x name apos) [y] [] pos) (tBMT X.K r to t) := by
  refine ⟨fun pins s σ H Q I h => ?_⟩
  refine wpAny_Call_method_late hbase (few_ok (by simp [hy]) (by simp)) hline rfl (thn (ho.run pins s σ H _ I h) fun v s1 ⟨x, H1, I1, r1, ⟨p, vs, e, ty⟩, q1⟩ => ?_)
  subst e
  obtain ⟨its, n, sl, rv, hob, hlen⟩ := TupZ.obj I1 ty
  cases r1
  refine ⟨"tuple", id, pa, slot, hty, ⟨_, hob, rfl⟩, fun a e => by cases e; exact ⟨_, hob, rfl⟩, ?_⟩
  have hA := ha.run pos pins s1 σ H1 _ I1 q1
  rw [star_cons hy] at hA ⊢
  refine Calls.callWith_builtin rfl (Calls.evalArgs_plain ?_)
  exact thn hA fun us s2 ⟨vs, H2, I2, r2, q2⟩ => hm pins s2 σ H2 (.ref p) vs (.ref p) us Q I2 rfl r2 q2
theorem _root_.L2.PE.or {X : Cx} {e : Expr} {t u : TE} (h : PE X e t) (h' : PE X e u) : PE X e (fun σ H Q => t σ H Q ∨ u σ H Q) :=
  ⟨fun pins s σ H Q I q => q.elim (h.run pins s σ H Q I) (h'.run pins s σ H Q I)⟩
theorem seqM_read {f : List AV → AV → Option AV} {ks : List Nat} {o e : MO} {σ : L2.St} {H : Hp} {Q : VK} (h : tE X.K F G (eSeqM f ks o e) σ H Q) :
    (1 ∈ ks ∧ tBM X.K "list" (rSeqM X.K (fun c => kind c = 1) f) (tO X.K F G o) (tCons (tO X.K F G e) tNil) σ H Q) ∨ (2 ∈ ks ∧ tBMT X.K (rSeqM X.K (fun c => kind c = 2) f) (tO X.K F G o) (tCons (tO X.K F G e) tNil) σ H Q) := by
  obtain ⟨m, a, r, R, e, k⟩ := h
  obtain ⟨q, e1, e⟩ := Option.bind_eq_some_iff.mp e
  obtain ⟨c0, e2, e⟩ := Option.bind_eq_some_iff.mp e
  split at e
  · rename_i hk
    obtain ⟨q2, e3, e⟩ := Option.bind_eq_some_iff.mp e
    obtain ⟨c, e4, e⟩ := Option.bind_eq_some_iff.mp e
    obtain ⟨d, e5, e⟩ := Option.bind_eq_some_iff.mp e
    split at e
    · rename_i hkk
      obtain ⟨v, e6, e7⟩ := Option.map_eq_some_iff.mp e
      subst e7
      cases c0 with
      | lst xs0 =>
        refine .inl ⟨hk, m, a, q, R, e1, fun x H1 m1 R1 s1 h1 => ⟨tyL (h1.cont R1 e2) rfl, m1, q.2, q2, R1, e3, fun y H2 m2 R2 s2 h2 => ?_⟩⟩
        exact ⟨y, F, m2, q2.2, σ, c, d, v, rfl, R2, hkk, (h1.step R1 s2).cont R2 e4, h2.cont R2 e5, e6, fun z H' R' s' r' => k z H' m2 R' ((s1.trans s2).trans s') r'⟩
      | tup xs0 =>
        refine .inr ⟨hk, m, a, q, R, e1, fun x H1 m1 R1 s1 h1 => ⟨?_, m1, q.2, q2, R1, e3, fun y H2 m2 R2 s2 h2 => ?_⟩⟩
        · obtain ⟨p, vs, rfl, t, _⟩ := (h1.cont R1 e2).tup
          exact ⟨p, vs, rfl, t⟩
        · exact ⟨y, F, m2, q2.2, σ, c, d, v, rfl, R2, hkk, (h1.step R1 s2).cont R2 e4, h2.cont R2 e5, e6, fun z H' R' s' r' => k z H' m2 R' ((s1.trans s2).trans s') r'⟩
      | _ =>
        exfalso
        cases c <;> first | (cases hkk; done) | (cases e6; done) | cases hkk
    · cases e
  · cases e
theorem pe_eIdx {o e : MO} (hu : X.A.units + 100 < cLine) (ho : PE X x (tO X.K F G o)) (he : PE X y (tO X.K F G e)) (hx : notCall x = true) (hy : notStar y = true) (hl : (apos.endLine == pos.line) = true) : PE X (.Call (.Attribute x "index" apos) [y] [] pos) (tE X.K F G (eSeqM idxA [1, 2] o e)) := by
  have ha : PA X [y] (tCons (tO X.K F G e) tNil) := pa_cons he pa_nil (star_cons hy)
  exact (PE.or (pe_bm PySem.F.plainAttrs_list PySem.F.slot_list_index PySem.F.type_list_index (mt_idxL hu) ho ha (base_ok hx) (few_ok (by simp [hy]) (by simp)) hl (star_cons hy) rfl)
    (pe_bmT PySem.F.plainAttrs_tuple PySem.F.slot_tuple_index PySem.F.type_tuple_index (mt_idxT hu) ho ha (base_ok hx) hy hl)).weak fun σ H Q h => (seqM_read h).elim (fun h => .inl h.2) fun h => .inr h.2
theorem pe_eCnt {o e : MO} (hu : X.A.units + 100 < cLine) (ho : PE X x (tO X.K F G o)) (he : PE X y (tO X.K F G e)) (hx : notCall x = true) (hy : notStar y = true) (hl : (apos.endLine == pos.line) = true) : PE X (.Call (.Attribute x "count" apos) [y] [] pos) (tE X.K F G (eSeqM cntA [1] o e)) := by
  have ha : PA X [y] (tCons (tO X.K F G e) tNil) := pa_cons he pa_nil (star_cons hy)
  exact (pe_bm PySem.F.plainAttrs_list PySem.F.slot_list_count PySem.F.type_list_count (mt_cntL hu) ho ha (base_ok hx) (few_ok (by simp [hy]) (by simp)) hl (star_cons hy) rfl).weak fun σ H Q h => (seqM_read h).elim (fun h => h.2) fun h => absurd h.1 (by decide)
end
end Pyx
end
section
set_option maxRecDepth 100000
namespace Pyx
open PySem PySem.Spec PyProof.Rows L2

/-! ### statements -/
inductive Out where
  | nx | rt (v : AV) | bk | ct
  deriving Inhabited
abbrev MS := Gm → AS → Option (Out × AS)
section
variable (K : PySem.W.Frag) (F : Hot) (G : Gm)
def EndS (m : List Addr) (a : AS) (σ : L2.St) (H : Hp) (D : Ends) : Out → AS → Prop
  | .nx, a' => ∀ σ' H' m', Rl K F m' a' σ' H' → Stp m a σ H m' a' σ' H' → D.nx σ' H'
  | .rt v, a' => ∀ x σ' H' m', Rl K F m' a' σ' H' → Stp m a σ H m' a' σ' H' → Rp' K F m' a' σ' H' x v → D.rt x H'
  | .bk, a' => ∀ σ' H' m', Rl K F m' a' σ' H' → Stp m a σ H m' a' σ' H' → D.bk σ' H'
  | .ct, a' => ∀ σ' H' m', Rl K F m' a' σ' H' → Stp m a σ H m' a' σ' H' → D.ct σ' H'
def tS (e : MS) : TS := fun D σ H => ∃ m a r, Rl K F m a σ H ∧ e G a = some r ∧ EndS K F m a σ H D r.1 r.2
end
section
variable {K : PySem.W.Frag} {F : Hot} {G : Gm} {m m1 : List Addr} {a a1 a2 : AS} {σ σ1 : L2.St} {H H1 : Hp} {D D' : Ends} {o : Out}
theorem EndS.after (h : EndS K F m a σ H D o a2) (s : Stp m a σ H m1 a1 σ1 H1) : EndS K F m1 a1 σ1 H1 D o a2 := by
  cases o with
  | nx => exact fun σ' H' m' R t => h σ' H' m' R (s.trans t)
  | rt v => exact fun x σ' H' m' R t r => h x σ' H' m' R (s.trans t) r
  | bk => exact fun σ' H' m' R t => h σ' H' m' R (s.trans t)
  | ct => exact fun σ' H' m' R t => h σ' H' m' R (s.trans t)
end
def sSkip : MS := fun _ a => some (.nx, a)
def sSeq (s t : MS) : MS := fun G a => (s G a).bind fun r => match r.1 with
  | .nx => t G r.2
  | o => some (o, r.2)
def sExpr (e : ME) : MS := fun G a => (e G a).map fun r => (.nx, r.2)
def sRet (e : ME) : MS := fun G a => (e G a).map fun r => (.rt r.1, r.2)
def sRetN : MS := fun _ a => some (.rt .non, a)
def sBreak : MS := fun _ a => some (.bk, a)
def sCont : MS := fun _ a => some (.ct, a)
def sIf (c : MT) (s t : MS) : MS := fun G a => (c G a).bind fun r => if r.1 = true then s G r.2 else t G r.2
def sAsg (i : Nat) (e : ME) : MS := fun G a => (e G a).map fun r => (.nx, r.2.put i r.1)
def sOwn (i : Nat) (e : MAs) : MS := fun G a => (e G a).map fun r => (.nx, r.2.putOwn i r.1)
section
variable {X : Cx} {F : Hot} {G : Gm} {st : Stmt} {rest : List Stmt} {pos : Pos} {x : Expr} {e : ME} {s t : MS} {c : MT}
theorem pss_skip : PSs X [] (tS X.K F G sSkip) := pss_nil.weak fun D σ H ⟨m, a, r, R, e, k⟩ => by cases e; exact k σ H m R .refl
theorem pss_seq (h1 : PS X st (tS X.K F G s)) (h2 : PSs X rest (tS X.K F G t)) : PSs X (st :: rest) (tS X.K F G (sSeq s t)) := by
  refine (pss_cons h1 h2).weak fun D σ H ⟨m, a, r, R, e, k⟩ => ?_
  obtain ⟨q, e1, e2⟩ := Option.bind_eq_some_iff.mp e
  refine ⟨m, a, q, R, e1, ?_⟩
  split at e2
  · rename_i h
    rw [h]
    exact fun σ' H' m' R' s' => ⟨m', q.2, r, R', e2, k.after s'⟩
  · rename_i o h
    cases e2
    cases ho : q.1 with
    | nx => exact absurd ho h
    | rt v => rw [ho] at k; exact k
    | bk => rw [ho] at k; exact k
    | ct => rw [ho] at k; exact k
def notComp : Expr → Bool
  | .ListComp _ _ _ _ | .SetComp _ _ _ _ | .DictComp _ _ _ _ _ => false
  | _ => true
theorem swaps_no {v : Expr} {tg : Option Expr} {l : Nat} {env : Env} (h : notComp v = true) : swapsWith v tg l env = pure false := by
  cases v <;> first | rfl | cases h
theorem ps_sExpr (h : PE X x (tE X.K F G e)) (hc : notComp x = true) : PS X (.Expr x pos) (tS X.K F G (sExpr e)) := by
  refine (ps_expr h (swaps_no hc)).weak fun D σ H ⟨m, a, r, R, e, k⟩ => ?_
  obtain ⟨q, e1, e2⟩ := Option.map_eq_some_iff.mp e
  subst e2
  exact ⟨m, a, q, R, e1, fun _ H' m' R' s' _ => k σ H' m' R' s'⟩
theorem ps_sRet (h : PE X x (tE X.K F G e)) : PS X (.Return (some x) pos) (tS X.K F G (sRet e)) := by
  refine (ps_ret h).weak fun D σ H ⟨m, a, r, R, e, k⟩ => ?_
  obtain ⟨q, e1, e2⟩ := Option.map_eq_some_iff.mp e
  subst e2
  exact ⟨m, a, q, R, e1, fun x H' m' R' s' r' => k x σ H' m' R' s' r'⟩
theorem ps_sRetN : PS X (.Return none pos) (tS X.K F G sRetN) := ps_retN.weak fun D σ H ⟨m, a, r, R, e, k⟩ => by cases e; exact k .non σ H m R .refl .non
theorem ps_sBreak : PS X (.Break pos) (tS X.K F G sBreak) := ps_break.weak fun D σ H ⟨m, a, r, R, e, k⟩ => by cases e; exact k σ H m R .refl
theorem ps_sCont : PS X (.Continue pos) (tS X.K F G sCont) := ps_continue.weak fun D σ H ⟨m, a, r, R, e, k⟩ => by cases e; exact k σ H m R .refl
theorem ps_sPass : PS X (.Pass pos) (tS X.K F G sSkip) := ps_pass.weak fun D σ H ⟨m, a, r, R, e, k⟩ => by cases e; exact k σ H m R .refl
theorem ps_sIf {b1 b2 : List Stmt} (hc : PT X x (tM X.K F G c)) (h1 : PSs X b1 (tS X.K F G s)) (h2 : PSs X b2 (tS X.K F G t)) : PS X (.If x b1 b2 pos) (tS X.K F G (sIf c s t)) := by
  refine (ps_if hc h1 h2).weak fun D σ H ⟨m, a, r, R, e, k⟩ => ?_
  obtain ⟨q, e1, e2⟩ := Option.bind_eq_some_iff.mp e
  refine ⟨m, a, q, R, e1, fun H' m' R' s' => ?_⟩
  split at e2
  · rename_i hb
    rw [if_pos hb]
    exact ⟨m', q.2, r, R', e2, k.after s'⟩
  · rename_i hb
    rw [if_neg hb]
    exact ⟨m', q.2, r, R', e2, k.after s'⟩
theorem ps_sAsg {i : Nat} {y : Str} {py : Pos} (hN : X.N.Nodup) (hi : X.N[i]? = some y) (hy : Loc X.env.scope y) (hf : X.fn y = true ∨ X.env.scope.names.lookup y = some .local) (h : PE X x (tE X.K F G e)) (hc : notComp x = true) :
    PS X (.Assign [.Name y py] x pos) (tS X.K F G (sAsg i e)) := by
  refine (ps_set hN hi hy h (swaps_no hc) hf).weak fun D σ H ⟨m, a, r, R, e, k⟩ => ?_
  obtain ⟨q, e1, e2⟩ := Option.map_eq_some_iff.mp e
  subst e2
  exact ⟨m, a, q, R, e1, fun x H' m' R' s' r' => k _ H' m' (R'.put r') (s'.trans (Rl.putStp R'.len))⟩
theorem ps_sOwn {f : MAs} {i : Nat} {y : Str} {py : Pos} (hN : X.N.Nodup) (hi : X.N[i]? = some y) (hy : Loc X.env.scope y) (hf : X.fn y = true ∨ X.env.scope.names.lookup y = some .local) (h : PE X x (tF X.K F G f)) (hc : notComp x = true) :
    PS X (.Assign [.Name y py] x pos) (tS X.K F G (sOwn i f)) := by
  refine (ps_set hN hi hy h (swaps_no hc) hf).weak fun D σ H ⟨m, a, r, R, e, k⟩ => ?_
  obtain ⟨q, e1, e2⟩ := Option.map_eq_some_iff.mp e
  subst e2
  exact ⟨m, a, q, R, e1, fun p vs H' m' R' s' hp r' => k _ _ m' (R'.putOwn hp r') (s'.trans (Rl.putOwnStp hp))⟩

/-! ### targets of an unpacking -/
abbrev MG := List AV → AS → Option AS
/-- names, from the left -/
def gNs : List Nat → MG
  | [], [], a => some a
  | i :: is, v :: vs, a => gNs is vs (a.put i v)
  | _, _, _ => none
/-- only these slots change -/
def SetIn (is : List Nat) (σ σ' : L2.St) : Prop := σ'.length = σ.length ∧ ∀ j, j ∉ is → σ'[j]? = σ[j]?
def tGs (K : PySem.W.Frag) (F : Hot) (is : List Nat) : TGs := fun vs σ H Q => ∃ m a cs a', Rl K F m a σ H ∧ Rps' K F m a σ H vs cs ∧ gNs is cs a = some a' ∧ ∀ σ', SetIn is σ σ' → Rl K F m a' σ' H → Stp m a σ H m a' σ' H → Q σ' H
/-- the written targets are the names of these slots -/
def NamesAt (X : Cx) : List Expr → List Nat → Prop
  | [], [] => True
  | .Name y _ :: es, i :: is => X.N[i]? = some y ∧ Loc X.env.scope y ∧ (X.fn y = true ∨ X.env.scope.names.lookup y = some .local) ∧ NamesAt X es is
  | _, _ => False
theorem pgs_names (hN : X.N.Nodup) : ∀ {es : List Expr} {is : List Nat}, NamesAt X es is → PGs X es (tGs X.K F is) ∧ (assignEach es X.env).length = is.length ∧ (assignEach es X.env).findIdx? (·.1) = none
  | [], [], _ => ⟨⟨fun pins s σ H vs us Q I r ⟨m, a, cs, a', R, rr, e, k⟩ => pgs_nil.run pins s σ H vs us Q I r (by
      cases cs with
      | nil => cases rr; cases e; exact ⟨rfl, k σ ⟨rfl, fun _ _ => rfl⟩ R .refl⟩
      | cons c cs => cases e)⟩, rfl, rfl⟩
  | .Name y py :: es, i :: is, ⟨h1, h2, h3, h4⟩ => by
    obtain ⟨p, l, f⟩ := pgs_names hN h4
    refine ⟨⟨fun pins s σ H vs us Q I r ⟨m, a, cs, a', R, rr, e, k⟩ => (pgs_cons (pg_name hN h1 h2 h3) p).run pins s σ H vs us Q I r ?_⟩, by simpa [assignEach] using l, by simpa [assignEach, List.findIdx?_cons] using f⟩
    cases cs with
    | nil => cases e
    | cons c cs =>
      cases rr with
      | @cons v0 _ vs0 _ r1 rr =>
        refine ⟨v0, vs0, rfl, m, a.put i c, cs, a', R.put r1, rr.step R (Rl.putStp R.len), e, fun σ' hs R' s' => k σ' ⟨by rw [hs.1]; simp, fun j hj => ?_⟩ R' ((Rl.putStp R.len).trans s')⟩
        rw [hs.2 j fun h => hj (List.mem_cons_of_mem _ h)]
        exact List.getElem?_set_ne fun e => hj (by rw [← e]; exact List.mem_cons_self)
/-- a tuple or a list of that length is unpacked -/
def seqOf (S : List SObj) (v : AV) : Option (List AV) := match res S v with
  | .lst xs => some xs
  | .tup xs => some xs
  | _ => none
def sUnp (is : List Nat) (e : ME) : MS := fun G a => (e G a).bind fun r => (seqOf r.2.S r.1).bind fun xs => (gNs is xs r.2).map fun a' => (.nx, a')
theorem gNs_len : ∀ {is : List Nat} {xs : List AV} {a a' : AS}, gNs is xs a = some a' → xs.length = is.length
  | [], [], _, _, _ => rfl
  | _ :: _, _ :: _, _, _, h => congrArg Nat.succ (gNs_len h)
  | [], _ :: _, _, _, h => by cases h
  | _ :: _, [], _, _, h => by cases h
theorem pg_unp (hc : X.calm = true) (hN : X.N.Nodup) {es : List Expr} {is : List Nat} {k : Nat} (h : NamesAt X es is) :
    PG X (.Tuple es k pos) (fun v σ H Q => ∃ m a c xs a', Rl X.K F m a σ H ∧ Rp' X.K F m a σ H v c ∧ seqOf a.S c = some xs ∧ gNs is xs a = some a' ∧ ∀ σ', SetIn is σ σ' → Rl X.K F m a' σ' H → Stp m a σ H m a' σ' H → Q σ' H) := by
  obtain ⟨p, l, f⟩ := pgs_names (F := F) hN h
  refine ⟨fun pins s σ H v u Q I r ⟨m, a, c, xs, a', R, rr, e, e2, k⟩ => ?_⟩
  have b := Rp.res R rr
  unfold seqOf at e
  split at e
  · rename_i ys hy
    cases e
    rw [hy] at b
    obtain ⟨q, vs, rfl, h1, r1⟩ := b.lst
    exact (pg_unl hc p l f).run pins s σ H _ u Q I r ⟨q, vs, rfl, h1, r1.length.trans (gNs_len e2), m, a, _, a', R, r1, e2, k⟩
  · rename_i ys hy
    cases e
    rw [hy] at b
    obtain ⟨q, vs, rfl, h1, r1⟩ := b.tup
    exact (pg_tup hc p l f).run pins s σ H _ u Q I r ⟨q, vs, rfl, h1.sqT, r1.length.trans (gNs_len e2), m, a, _, a', R, r1, e2, k⟩
  · cases e
/-- what swaps no stores -/
def noSwap (ts : List Expr) : Expr → Bool
  | .Tuple _ _ _ => decide (3 < ts.length)
  | _ => true
theorem swapped_no {ts : List Expr} {k : Nat} {pt : Pos} {v : Expr} {env : Env} (h : noSwap ts v = true) : swappedStores [.Tuple ts k pt] v env = pure none := by
  cases v with
  | Tuple es k2 p2 =>
    have hl : 3 < ts.length := of_decide_eq_true h
    have h2 : (ts.length == 2) = false := by simp; omega
    have h3 : (ts.length == 3) = false := by simp; omega
    unfold swappedStores
    simp [h2, h3]
  | _ => rfl
theorem ps_sUnp {es : List Expr} {is : List Nat} {k : Nat} {pt : Pos} (hc : X.calm = true) (hN : X.N.Nodup) (hes : NamesAt X es is) (h : PE X x (tE X.K F G e)) (hx : notComp x = true) (hs : noSwap es x = true) :
    PS X (.Assign [.Tuple es k pt] x pos) (tS X.K F G (sUnp is e)) := by
  refine (ps_asg (pos := pos) h (pg_unp (F := F) hc hN hes) (by unfold swapsWithSole; exact swaps_no hx) (swapped_no hs)).weak fun D σ H ⟨m, a, r, R, e, k⟩ => ?_
  obtain ⟨q, e1, e⟩ := Option.bind_eq_some_iff.mp e
  obtain ⟨xs, e2, e⟩ := Option.bind_eq_some_iff.mp e
  obtain ⟨a', e3, e4⟩ := Option.map_eq_some_iff.mp e
  subst e4
  exact ⟨m, a, q, R, e1, fun x H' m' R' s' r' => ⟨m', q.2, q.1, xs, a', R', r', e2, e3, fun σ' _ R2 s2 => k σ' H' m' R2 (s'.trans s2)⟩⟩
/-- a, b = x, y; a, b, c = x, y, z: all values ahead of the stores -/
def sPar (is : List Nat) (t : MAs) : MS := fun G a => (t G a).bind fun r => (gNs is r.1 r.2).map fun a' => (.nx, a')
theorem isStar_no : ∀ e : Expr, notStar e = true → (match e with | .Starred .. => true | _ => false) = false := fun e h => by cases e <;> first | rfl | cases h
theorem swapped2 {n1 n2 : Str} {p1 p2 pt pv : Pos} {kt kv : Nat} {a b : Expr} {env : Env} (hk : env.scope.kind = .function) (h1 : env.scope.names.lookup n1 = some .local) (h2 : env.scope.names.lookup n2 = some .local) (hp : (p2.line == p1.line) = true) (hn : n1 ≠ n2)
    (sa : notStar a = true) (sb : notStar b = true) (hf : ([a, b].all (foldedForSure 8)) = false) (hc : ([a, b].all (constantsAlone 8)) = false) :
    swappedStores [.Tuple [.Name n1 p1, .Name n2 p2] kt pt] (.Tuple [a, b] kv pv) env = pure (some [n1, n2]) := by
  have e1 : env.kindOf n1 = some .local := h1
  have e2 : env.kindOf n2 = some .local := h2
  have hb : (env.blockKind != .function) = false := by unfold Env.blockKind; rw [hk]; rfl
  have h4 : ¬ n2 = n1 := fun e => hn e.symm
  have hp' : p2.line = p1.line := by simpa using hp
  unfold swappedStores
  simp [hb, e1, e2, hp', hf, hc, Expr.pos, List.eraseDups_cons, h4]
  rintro (h | h) <;> exfalso
  · split at h
    · cases sa
    · cases h
  · split at h
    · cases sb
    · cases h
theorem swapped3 {n1 n2 n3 : Str} {p1 p2 p3 pt pv : Pos} {kt kv : Nat} {a b c : Expr} {env : Env} (hk : env.scope.kind = .function) (h1 : env.scope.names.lookup n1 = some .local) (h2 : env.scope.names.lookup n2 = some .local) (h3 : env.scope.names.lookup n3 = some .local) (hp : (p2.line == p1.line) = true) (hp3 : (p3.line == p1.line) = true)
    (hn : n1 ≠ n2) (hn1 : n1 ≠ n3) (hn2 : n2 ≠ n3)
    (sa : notStar a = true) (sb : notStar b = true) (sc : notStar c = true) (hf : ([a, b, c].all (foldedForSure 8)) = false) (hc : ([a, b, c].all (constantsAlone 8)) = false) :
    swappedStores [.Tuple [.Name n1 p1, .Name n2 p2, .Name n3 p3] kt pt] (.Tuple [a, b, c] kv pv) env = pure (some [n1, n2, n3]) := by
  have e1 : env.kindOf n1 = some .local := h1
  have e2 : env.kindOf n2 = some .local := h2
  have e3 : env.kindOf n3 = some .local := h3
  have hb : (env.blockKind != .function) = false := by unfold Env.blockKind; rw [hk]; rfl
  have h4 : ¬ n2 = n1 := fun e => hn e.symm
  have h5 : ¬ n3 = n1 := fun e => hn1 e.symm
  have h6 : ¬ n3 = n2 := fun e => hn2 e.symm
  have hp' : p2.line = p1.line := by simpa using hp
  have hp3' : p3.line = p1.line := by simpa using hp3
  unfold swappedStores
  simp [hb, e1, e2, e3, hp', hp3', hf, hc, Expr.pos, List.eraseDups_cons, h4, h5, h6]
  rintro (h | h | h) <;> exfalso
  · split at h
    · cases sa
    · cases h
  · split at h
    · cases sb
    · cases h
  · split at h
    · cases sc
    · cases h
theorem set_put {K : PySem.W.Frag} {m : List Addr} {a a' : AS} {σ : L2.St} {H : Hp} : ∀ {is : List Nat} {vs : List V} {cs : List AV}, Rl K F m a σ H → Rps' K F m a σ H vs cs → gNs is cs a = some a' →
    Rl K F m a' ((is.zip vs).foldl (fun σ p => σ.set p.1 (some p.2)) σ) H ∧ Stp m a σ H m a' ((is.zip vs).foldl (fun σ p => σ.set p.1 (some p.2)) σ) H
  | [], [], [], R, _, e => by cases e; exact ⟨R, .refl⟩
  | i :: is, _ :: vs, c :: cs, R, .cons r rr, e => by
    obtain ⟨h1, h2⟩ := set_put (R.put r) (rr.step R (Rl.putStp R.len)) e
    exact ⟨h1, (Rl.putStp R.len).trans h2⟩
  | [], _ :: _, _ :: _, _, _, e => by cases e
  | _ :: _, [], [], _, _, e => by cases e
theorem ps_sPar2 {i j : Nat} {n1 n2 : Str} {p1 p2 pt pv : Pos} {kt kv : Nat} {x y : Expr} {t : MAs} (hc : X.calm = true) (hN : X.N.Nodup) (hk : X.env.scope.kind = .function) (hi : X.N[i]? = some n1) (hj : X.N[j]? = some n2) (hij : i ≠ j)
    (h1 : X.env.scope.names.lookup n1 = some .local) (h2 : X.env.scope.names.lookup n2 = some .local) (hp : (p2.line == p1.line) = true) (hn : n1 ≠ n2) (sa : notStar x = true) (sb : notStar y = true) (hf : ([x, y].all (foldedForSure 8)) = false) (hcc : ([x, y].all (constantsAlone 8)) = false)
    (ha : PA X [x, y] (tAs X.K F G t)) : PS X (.Assign [.Tuple [.Name n1 p1, .Name n2 p2] kt pt] (.Tuple [x, y] kv pv) pos) (tS X.K F G (sPar [i, j] t)) := by
  refine (ps_par hc hN hi hj hij h1 h2 ha (swapped2 hk h1 h2 hp hn sa sb hf hcc)).weak fun D σ H ⟨m, a, r, R, e, k⟩ => ?_
  obtain ⟨q, e1, e⟩ := Option.bind_eq_some_iff.mp e
  obtain ⟨a', e2, e3⟩ := Option.map_eq_some_iff.mp e
  subst e3
  refine ⟨m, a, q, R, e1, fun vs H1 m1 R1 s1 r1 => ?_⟩
  have hl : vs.length = 2 := r1.length.trans (gNs_len e2)
  match vs, hl with
  | [u, v], _ =>
    obtain ⟨w1, w2⟩ := set_put R1 r1 e2
    exact ⟨u, v, rfl, k _ H1 m1 w1 (s1.trans w2)⟩
theorem ps_sPar3 {i j l : Nat} {n1 n2 n3 : Str} {p1 p2 p3 pt pv : Pos} {kt kv : Nat} {x y z : Expr} {t : MAs} (hc : X.calm = true) (hN : X.N.Nodup) (hk : X.env.scope.kind = .function) (hi : X.N[i]? = some n1) (hj : X.N[j]? = some n2) (hl : X.N[l]? = some n3) (hij : i ≠ j) (hil : i ≠ l) (hjl : j ≠ l)
    (h1 : X.env.scope.names.lookup n1 = some .local) (h2 : X.env.scope.names.lookup n2 = some .local) (h3 : X.env.scope.names.lookup n3 = some .local) (hp : (p2.line == p1.line) = true) (hp3 : (p3.line == p1.line) = true) (hn : n1 ≠ n2) (hn1 : n1 ≠ n3) (hn2 : n2 ≠ n3)
    (sa : notStar x = true) (sb : notStar y = true) (sc : notStar z = true) (hf : ([x, y, z].all (foldedForSure 8)) = false) (hcc : ([x, y, z].all (constantsAlone 8)) = false)
    (ha : PA X [x, y, z] (tAs X.K F G t)) : PS X (.Assign [.Tuple [.Name n1 p1, .Name n2 p2, .Name n3 p3] kt pt] (.Tuple [x, y, z] kv pv) pos) (tS X.K F G (sPar [i, j, l] t)) := by
  refine (ps_par3 hc hN hi hj hl hij hil hjl h1 h2 h3 ha (swapped3 hk h1 h2 h3 hp hp3 hn hn1 hn2 sa sb sc hf hcc)).weak fun D σ H ⟨m, a, r, R, e, k⟩ => ?_
  obtain ⟨q, e1, e⟩ := Option.bind_eq_some_iff.mp e
  obtain ⟨a', e2, e3⟩ := Option.map_eq_some_iff.mp e
  subst e3
  refine ⟨m, a, q, R, e1, fun vs H1 m1 R1 s1 r1 => ?_⟩
  have hl : vs.length = 3 := r1.length.trans (gNs_len e2)
  match vs, hl with
  | [u, v, w], _ =>
    obtain ⟨w1, w2⟩ := set_put R1 r1 e2
    exact ⟨u, v, w, rfl, k _ H1 m1 w1 (s1.trans w2)⟩

/-! ### x += e, x -= e of whole numbers -/
def sAug (i : Nat) (f : Op2) (o : MO) : MS := fun G a => (slotV a.S a.ρ[i]?).bind fun c0 => (o G a).bind fun r => (cont r.2 r.1).bind fun c => match c0, c with
  | .int x, .int y => (f r.2.S (.int x) (.int y)).bind fun v => match v with
    | .int z => some (.nx, r.2.put i (.int z))
    | _ => none
  | _, _ => none
theorem ps_sAug {op : Operator} {f : Op2} {i : Nat} {y : Str} {py : Pos} {o : MO} (hN : X.N.Nodup) (hi : X.N[i]? = some y) (hy : Loc X.env.scope y) (hf : X.fn y = true ∨ X.env.scope.names.lookup y = some .local) (h : PE X x (tO X.K F G o))
    (ho : (op = .Add ∧ f = opAdd) ∨ (op = .Sub ∧ f = opSub)) : PS X (.AugAssign (.Name y py) op x pos) (tS X.K F G (sAug i f o)) := by
  have main : ∀ (g : Int → Int → Int), PIp X op (ipI g) → (∀ S (a b : Int), f S (.int a) (.int b) = some (.int (g a b))) → PS X (.AugAssign (.Name y py) op x pos) (tS X.K F G (sAug i f o)) := by
    intro g hg hfg
    refine (ps_aug hN hi hy h hg hf).weak fun D σ H ⟨m, a, r, R, e, k⟩ => ?_
    obtain ⟨c0, e0, e⟩ := Option.bind_eq_some_iff.mp e
    obtain ⟨q, e1, e⟩ := Option.bind_eq_some_iff.mp e
    obtain ⟨c, e2, e⟩ := Option.bind_eq_some_iff.mp e
    obtain ⟨u, w, rfl, rfl⟩ : ∃ u w, c0 = .int u ∧ c = .int w := by
      cases c0 <;> cases c <;> first | exact ⟨_, _, rfl, rfl⟩ | cases e
    have e9 : ((f q.2.S (.int u) (.int w)).bind fun v => match v with | .int z => some (Out.nx, q.2.put i (.int z)) | _ => none) = some r := e
    rw [hfg] at e9
    cases e9
    · skip
      have hx : σ[i]? = some (some (.int u)) := by
        cases q : a.ρ[i]? with
        | none => rw [q] at e0; cases e0
        | some s0 =>
          rw [q] at e0
          cases s0 with
          | none => cases e0
          | some sl =>
            cases sl with
            | own xs => cases e0
            | val v =>
              obtain ⟨z, z1, z2⟩ := R.slot i v q
              have b := Rp.res R z2
              rw [show res a.S v = .int u from Option.some.inj e0] at b
              rw [z1, b.int]
      refine ⟨_, hx, m, a, q, R, e1, fun x H' m' R' s' r' => ?_⟩
      have b := r'.cont R' e2
      rw [b.int]
      exact ⟨u, w, rfl, rfl, k _ H' m' (R'.put (.int _)) (s'.trans (Rl.putStp R'.len))⟩
  rcases ho with ⟨rfl, rfl⟩ | ⟨rfl, rfl⟩
  · exact main _ ip_add fun _ _ _ => rfl
  · exact main _ ip_sub fun _ _ _ => rfl

/-! ### o[i] = e -/
def dPut (kvs : List (Str × AV)) (k : Str) (v : AV) : List (Str × AV) :=
  if (kvs.any fun kv => decide (kv.1 = k)) = true then kvs.map (fun kv => if kv.1 = k then (kv.1, v) else kv) else kvs ++ [(k, v)]
def putD (a : AS) (n : Nat) (k : Str) (v : AV) : Option SObj → Option AS
  | some (.dic kvs) => if kvs.length < sizeLine then some (a.setS n (.dic (dPut kvs k v))) else none
  | _ => none
def setL (j : Int) (v : AV) (xs : List AV) : Option (List AV) := (ixN xs.length j).map fun k => xs.set k v
def hdRef (a : AS) : Hd → Option Nat
  | .val (.ref n) => some n
  | .slot i => match a.ρ[i]? with
    | some (some (.val (.ref n))) => some n
    | _ => none
  | _ => none
def storeI (a : AS) (h : Hd) (i v : AV) : Option AS := match i with
  | .int j => mutL a (setL j v) h
  | .str k => (hdRef a h).bind fun n => putD a n k v a.S[n]?
  | _ => none
def sSet (o : MO) (i e : ME) : MS := fun G a => (e G a).bind fun r => (o G r.2).bind fun r1 => (i G r1.2).bind fun r2 => (storeI r2.2 r1.1 r2.1 r.1).map fun a' => (.nx, a')
def rSetG : V → V → V → Hp → (Hp → Prop) → Prop := fun o i v H Q => rSetL o i v H Q ∨ ∃ a H', o = .ref a ∧ DPut H a i v H' ∧ Q H'
theorem set_g (hu : X.A.units + 1 < cLine) : PSet X rSetG := by
  intro pins s σ H o i v ov iv u Q I ro ri rv h
  rcases h with h | ⟨a, H', rfl, g, q⟩
  · exact set_list pins s σ H o i v ov iv u Q I ro ri rv h
  · cases ro
    exact d_setItem hu I g ri rv fun s' I' => ⟨H', I', q⟩
theorem RpD.length {K : PySem.W.Frag} {H : Hp} {hot : Hot} {m : List Addr} : ∀ {xs : List (Key × V)} {vs : List (Str × AV)}, RpD K H hot m xs vs → xs.length = vs.length
  | [], [], _ => rfl
  | _ :: _, _ :: _, ⟨_, _, t⟩ => congrArg Nat.succ (RpD.length t)
  | [], _ :: _, h => h.elim
  | _ :: _, [], h => h.elim
theorem RpD.put {K : PySem.W.Frag} {H : Hp} {hot : Hot} {m : List Addr} {k : Str} {v : AV} {x : V} {xs : List (Key × V)} {vs : List (Str × AV)} (r : RpD K H hot m xs vs) (rv : Rp K H hot m x v) : RpD K H hot m (putK xs (Sum.inr k) x) (dPut vs k v) := by
  have hany : ∀ {xs : List (Key × V)} {vs : List (Str × AV)}, RpD K H hot m xs vs → (xs.any fun kv => decide (kv.1 = Sum.inr k)) = vs.any fun kv => decide (kv.1 = k) := by
    intro xs vs r
    induction xs generalizing vs with
    | nil => cases vs with
      | nil => rfl
      | cons _ _ => exact r.elim
    | cons p xs ih => cases vs with
      | nil => exact r.elim
      | cons q vs =>
        obtain ⟨k', x'⟩ := p
        obtain ⟨s, v'⟩ := q
        obtain ⟨e, _, t⟩ := r
        subst e
        rw [List.any_cons, List.any_cons, ih t]
        congr 1
        by_cases h : s = k
        · simp [h]
        · simp [h]
  have hmap : ∀ {xs : List (Key × V)} {vs : List (Str × AV)}, RpD K H hot m xs vs → RpD K H hot m (xs.map fun kv => if kv.1 = Sum.inr k then (kv.1, x) else kv) (vs.map fun kv => if kv.1 = k then (kv.1, v) else kv) := by
    intro xs vs r
    induction xs generalizing vs with
    | nil => cases vs with
      | nil => trivial
      | cons _ _ => exact r.elim
    | cons p xs ih => cases vs with
      | nil => exact r.elim
      | cons q vs =>
        obtain ⟨k', x'⟩ := p
        obtain ⟨s, v'⟩ := q
        obtain ⟨e, r1, t⟩ := r
        subst e
        rw [List.map_cons, List.map_cons]
        by_cases h : s = k
        · subst h
          rw [if_pos rfl, if_pos rfl]
          exact ⟨rfl, rv, ih t⟩
        · rw [if_neg (fun e => h (Sum.inr.inj e)), if_neg h]
          exact ⟨rfl, r1, ih t⟩
  have happ : ∀ {xs : List (Key × V)} {vs : List (Str × AV)}, RpD K H hot m xs vs → RpD K H hot m (xs ++ [(Sum.inr k, x)]) (vs ++ [(k, v)]) := by
    intro xs vs r
    induction xs generalizing vs with
    | nil => cases vs with
      | nil => exact ⟨rfl, rv, trivial⟩
      | cons _ _ => exact r.elim
    | cons p xs ih => cases vs with
      | nil => exact r.elim
      | cons q vs => exact ⟨r.1, r.2.1, ih r.2.2⟩
  unfold putK dPut
  rw [hany r]
  split
  · exact hmap r
  · exact happ r
theorem ps_sSet {o : MO} {i : ME} {ob ix : Expr} {pt : Pos} (hu : X.A.units + 100 < cLine) (he : PE X x (tE X.K F G e)) (ho : PE X ob (tO X.K F G o)) (hi : PE X ix (tE X.K F G i)) (hx : notComp x = true)
    (ha : ∀ v, assign (.Subscript ob ix pt) X.env v = (do
      let ov ← holding [v] (eval ob X.env)
      let iv ← holding [v, ov] (eval ix X.env)
      standAt pt
      holding [v, ov, iv] (setItem ov iv v)
      release [v, ov, iv] [])) : PS X (.Assign [.Subscript ob ix pt] x pos) (tS X.K F G (sSet o i e)) := by
  refine (ps_asg (pos := pos) he (pg_sub ho hi (set_g (by omega)) ha) (by unfold swapsWithSole; exact swaps_no hx)).weak fun D σ H ⟨m, a, r, R, e, k⟩ => ?_
  obtain ⟨q, e1, e⟩ := Option.bind_eq_some_iff.mp e
  obtain ⟨q1, e2, e⟩ := Option.bind_eq_some_iff.mp e
  obtain ⟨q2, e3, e⟩ := Option.bind_eq_some_iff.mp e
  obtain ⟨a', e4, e5⟩ := Option.map_eq_some_iff.mp e
  subst e5
  refine ⟨m, a, q, R, e1, fun v H1 m1 R1 s1 r1 => ⟨m1, q.2, q1, R1, e2, fun ov H2 m2 R2 s2 h2 => ⟨m2, q1.2, q2, R2, e3, fun iv H3 m3 R3 s3 r3 => ?_⟩⟩⟩
  have rv := (r1.step R1 s2).step R2 s3
  have h3 := h2.step R2 s3
  have s := (s1.trans s2).trans s3
  unfold storeI at e4
  split at e4
  · rename_i j hj
    rw [hj] at r3; cases r3
    obtain ⟨p, vs, xs, ys, rfl, g1, g2, g3, g4, g5⟩ := mutL_ok R3 h3 e4
    obtain ⟨kk, g5, g6⟩ := Option.map_eq_some_iff.mp g3
    subst g6
    obtain ⟨w1, w2⟩ := g4 (vs.set kk v) (Rps.set rv kk g2)
    exact .inl ⟨p, vs, j, kk, rfl, rfl, g1, by rw [g2.length]; exact g5, k _ _ m3 w1 (s.trans w2)⟩
  · rename_i kk hj
    rw [hj] at r3; cases r3
    obtain ⟨n, e6, e7⟩ := Option.bind_eq_some_iff.mp e4
    have rn : Rp' X.K F m3 q2.2 σ H3 ov (.ref n) := by
      cases hq : q1.1 with
      | val w =>
        rw [hq] at e6 h3
        cases w with
        | ref n' => cases e6; exact h3
        | _ => cases e6
      | slot l =>
        rw [hq] at e6 h3
        have h3' : σ[l]? = some (some ov) := h3
        unfold hdRef at e6
        simp only at e6
        split at e6
        · rename_i n' hz
          cases e6
          obtain ⟨z, z1, z2⟩ := R3.slot l _ hz
          rw [h3'] at z1; cases z1
          exact z2
        · cases e6
    cases hz : q2.2.S[n]? with
    | none => rw [hz] at e7; cases e7
    | some ob =>
      rw [hz] at e7
      cases ob with
      | lst _ => cases e7
      | dic kvs =>
        have e7' : (if kvs.length < sizeLine then some (q2.2.setS n (.dic (dPut kvs kk q.1))) else none) = some a' := e7
        split at e7'
        · rename_i hl
          cases e7'
          cases rn with
          | ref hm =>
            rename_i p
            obtain ⟨vs, g1, g2⟩ := R3.obj n _ _ hz hm
            have hlen : vs.length = kvs.length := g2.length
            have st : Stp m3 q2.2 σ H3 m3 (q2.2.setS n (.dic (dPut kvs kk q.1))) σ (upd H3 p (.dK (putK vs (Sum.inr kk) v))) := Rl.setSStp hm
            refine .inr ⟨p, _, rfl, DPut.k (k := Sum.inr kk) g1 (by rw [hlen]; exact hl), k _ _ m3 (R3.setS hm ⟨_, upd_same, (g2.put rv).keep (R3.keeps st)⟩ (.inr ⟨_, upd_same⟩)) (s.trans st)⟩
        · cases e7'
  · cases e4
end
end Pyx
end
section
set_option maxRecDepth 100000
namespace Pyx
open PySem PySem.Spec PyProof.Rows L2

/-! ### loops -/
/-- behind a turn: on, out, away -/
def turn (next : AS → Option (Out × AS)) (q : Out × AS) : Option (Out × AS) := match q.1 with
  | .nx => next q.2
  | .ct => next q.2
  | .bk => some (.nx, q.2)
  | .rt v => some (.rt v, q.2)
inductive Tg where
  | one (i : Nat) | many (is : List Nat)
def Tg.slots : Tg → List Nat
  | .one i => [i]
  | .many is => is
def asgT : Tg → AV → AS → Option AS
  | .one i, v, a => some (a.put i v)
  | .many is, v, a => (seqOf a.S v).bind fun xs => gNs is xs a
def loopL (tg : Tg) (body : AS → Option (Out × AS)) : List AV → AS → Option (Out × AS)
  | [], a => some (.nx, a)
  | x :: xs, a => (asgT tg x a).bind fun a' => (body a').bind (turn (loopL tg body xs))
/-- over a list of the store, as it stands at each turn; its length stays -/
def lenIs (a : AS) (n len : Nat) : Bool := match a.S[n]? with
  | some (.lst xs) => xs.length == len
  | _ => false
def itemAt (a : AS) (n len i : Nat) : Option AV := match a.S[n]? with
  | some (.lst xs) => if xs.length = len then xs[i]? else none
  | _ => none
def loopR (tg : Tg) (body : AS → Option (Out × AS)) (n len : Nat) : Nat → AS → Option (Out × AS)
  | 0, a => if lenIs a n len = true then some (.nx, a) else none
  | k + 1, a => (itemAt a n len (len - (k + 1))).bind fun x => (asgT tg x a).bind fun a' => (body a').bind (turn (loopR tg body n len k))

section
variable {X : Cx} {F : Hot} {G : Gm}
theorem for_gen {J : It} {g : TG} {body : MS} {D : Ends} {n : Nat} {m0 : List Addr} {a0 : AS} {σ0 : L2.St} {H0 : Hp} {rF : Out × AS} (run : Nat → AS → Option (Out × AS)) (asg : Nat → AS → Option AS)
    (R0 : Rl X.K F m0 a0 σ0 H0) (h0 : run 0 a0 = some rF) (hD : EndS X.K F m0 a0 σ0 H0 D rF.1 rF.2)
    (hrun : ∀ i a r, i < n → run i a = some r → ∃ a' q, asg i a = some a' ∧ body G a' = some q ∧ turn (run (i + 1)) q = some r)
    (hend : ∀ a r, run n a = some r → r = (.nx, a))
    (hstop : ∀ m a σ H r, Rl X.K F m a σ H → Stp m0 a0 σ0 H0 m a σ H → run n a = some r → J.stop n H)
    (hgo : ∀ i m a σ H a', i < n → Rl X.K F m a σ H → Stp m0 a0 σ0 H0 m a σ H → asg i a = some a' → J.go i H ∧ ∀ x H', J.yld i H x H' → ∀ Q : L2.St → Hp → Prop, (∀ σ' H'' m', Rl X.K F m' a' σ' H'' → Stp m a σ H m' a' σ' H'' → Q σ' H'') → g x σ H' Q) :
    ∃ W : Nat → Nat → L2.St → Hp → Prop, (∃ k, W 0 k σ0 H0) ∧ ∀ i k σ H, W i k σ H →
      (J.stop i H ∧ D.nx σ H) ∨ (J.go i H ∧ ∃ N : L2.St → Hp → Prop, (∀ σ' H', N σ' H' → ∃ m', m' < k ∧ W (i + 1) m' σ' H') ∧ ∀ x H', J.yld i H x H' → g x σ H' fun σ2 H2 => tS X.K F G body { D with nx := N, ct := N, bk := D.nx } σ2 H2) := by
  refine ⟨fun i k σ H => i + k = n ∧ ∃ m a, Rl X.K F m a σ H ∧ Stp m0 a0 σ0 H0 m a σ H ∧ run i a = some rF, ⟨n, by omega, m0, a0, R0, .refl, h0⟩, ?_⟩
  rintro i k σ H ⟨hik, m, a, R, s, hr⟩
  by_cases hi : i < n
  · refine .inr ?_
    obtain ⟨a', q, e1, e2, e3⟩ := hrun i a rF hi hr
    obtain ⟨h1, h2⟩ := hgo i m a σ H a' hi R s e1
    refine ⟨h1, fun σ' H' => ∃ m', Rl X.K F m' q.2 σ' H' ∧ Stp m0 a0 σ0 H0 m' q.2 σ' H' ∧ run (i + 1) q.2 = some rF, ?_, fun x H' hy => h2 x H' hy _ fun σ' H'' m' R' s' => ⟨m', a', q, R', e2, ?_⟩⟩
    · rintro σ' H' ⟨m', R', s', hr'⟩
      exact ⟨k - 1, by omega, by omega, m', q.2, R', s', hr'⟩
    · have st := s.trans s'
      obtain ⟨o, a2⟩ := q
      cases o with
      | nx => exact fun σ2 H2 m2 R2 s2 => ⟨m2, R2, st.trans s2, e3⟩
      | ct => exact fun σ2 H2 m2 R2 s2 => ⟨m2, R2, st.trans s2, e3⟩
      | bk =>
        cases e3
        exact fun σ2 H2 m2 R2 s2 => hD σ2 H2 m2 R2 (st.trans s2)
      | rt v =>
        cases e3
        exact fun x σ2 H2 m2 R2 s2 r2 => hD x σ2 H2 m2 R2 (st.trans s2) r2
  · refine .inl ?_
    have e : i = n := by omega
    subst e
    have e := hend a rF hr
    subst e
    exact ⟨hstop m a σ H _ R s hr, hD σ H m R s⟩

/-! ### targets -/
def TgOk (X : Cx) : Expr → Tg → Prop
  | .Name y p, .one i => NamesAt X [.Name y p] [i]
  | .Tuple es _ _, .many is => NamesAt X es is
  | _, _ => False
def tG (K : PySem.W.Frag) (F : Hot) (tg : Tg) : TG := fun v σ H Q => ∃ m a c a', Rl K F m a σ H ∧ Rp' K F m a σ H v c ∧ asgT tg c a = some a' ∧ ∀ σ', SetIn tg.slots σ σ' → Rl K F m a' σ' H → Stp m a σ H m a' σ' H → Q σ' H
theorem pg_tg (hc : X.calm = true) (hN : X.N.Nodup) : ∀ {t : Expr} {tg : Tg}, TgOk X t tg → PG X t (tG X.K F tg)
  | .Name y p, .one i, ⟨h1, h2, h3, _⟩ => ⟨fun pins s σ H v u Q I r ⟨m, a, c, a', R, rr, e, k⟩ => (pg_name hN h1 h2 h3).run pins s σ H v u Q I r (by
      cases e
      refine k _ ⟨by simp, fun j hj => ?_⟩ (R.put rr) (Rl.putStp R.len)
      exact List.getElem?_set_ne fun e => hj (by rw [e]; exact List.mem_cons_self))⟩
  | .Tuple es k p, .many is, h => ⟨fun pins s σ H v u Q I r ⟨m, a, c, a', R, rr, e, k⟩ => (pg_unp (F := F) hc hN h).run pins s σ H v u Q I r (by
      obtain ⟨xs, e1, e2⟩ := Option.bind_eq_some_iff.mp e
      exact ⟨m, a, c, xs, a', R, rr, e1, e2, k⟩)⟩

/-! ### for over a list or a tuple -/
def sForV (it : ME) (tg : Tg) (body : MS) : MS := fun G a => (it G a).bind fun r => match r.1 with
  | .lst xs => loopL tg (body G) xs r.2
  | .tup xs => loopL tg (body G) xs r.2
  | .ref n => match r.2.S[n]? with
    | some (.lst xs) => loopR tg (body G) n xs.length xs.length r.2
    | _ => none
  | _ => none
theorem loopL_step {tg : Tg} {body : MS} {xs : List AV} {i : Nat} {a : AS} {r : Out × AS} (hi : i < xs.length) (h : loopL tg (body G) (xs.drop i) a = some r) :
    ∃ a' q, (xs[i]?.bind fun x => asgT tg x a) = some a' ∧ body G a' = some q ∧ turn (fun a => loopL tg (body G) (xs.drop (i + 1)) a) q = some r := by
  rw [List.drop_eq_getElem_cons hi] at h
  obtain ⟨a', e1, e2⟩ := Option.bind_eq_some_iff.mp h
  obtain ⟨q, e3, e4⟩ := Option.bind_eq_some_iff.mp e2
  exact ⟨a', q, by rw [List.getElem?_eq_getElem hi]; exact e1, e3, e4⟩
def notSet : Expr → Bool
  | .Set _ _ _ => false
  | _ => true
theorem foldedSet_no {iter : Expr} {env : Env} (h : notSet iter = true) : ∀ x, foldedSetIterable iter env x = pure x := fun x => by
  cases iter <;> first | rfl | cases h
theorem Rd.stay {m : List Addr} {a : AS} {σ : L2.St} {H : Hp} {m0 : List Addr} {a0 : AS} {σ0 : L2.St} {H0 : Hp} {p : Addr} {vs : List V} (s : Stp m0 a0 σ0 H0 m a σ H) (h : Rd H0 p (.lst vs)) (n : ¬ Loc' m0 a0 σ0 p) : Rd H p (.lst vs) := by
  rcases h with h | ⟨o, h⟩
  · exact .inl (s.keep p _ h n)
  · exact .inr ⟨o, s.keep p _ h n⟩
theorem Rp.lstI {K : PySem.W.Frag} {F : Hot} {m : List Addr} {a : AS} {σ : L2.St} {H : Hp} {x : V} {xs : List AV} (r : Rp' K F m a σ H x (.lst xs)) : ∃ p vs, x = .ref p ∧ Rps' K F m a σ H vs xs ∧ ∀ {m' a' σ' H'}, Stp m a σ H m' a' σ' H' → SqL K H' p vs := by
  cases r with
  | lst hl hn rr => exact ⟨_, _, rfl, rr, fun s => .inl (Rd.stay s hl fun l => hn (.inr l))⟩
  | lstK hl rr => exact ⟨_, _, rfl, rr, fun s => .inr hl⟩
theorem TupZ.stay {K : PySem.W.Frag} {m : List Addr} {a : AS} {σ : L2.St} {H : Hp} {m0 : List Addr} {a0 : AS} {σ0 : L2.St} {H0 : Hp} {p : Addr} {vs : List V} (R : Rl K F m0 a0 σ0 H0) (s : Stp m0 a0 σ0 H0 m a σ H) (h : TupZ K H0 p vs) : TupZ K H p vs := by
  rcases h with ⟨o, h, t⟩ | h
  · exact .inl ⟨o, (R.keeps s).tup _ _ _ h, t⟩
  · exact .inr h
theorem ps_sForV {it : Expr} {t : Expr} {tg : Tg} {e : ME} {body : MS} {sb : List Stmt} {pos : Pos} (hc : X.calm = true) (hxe : X.xe = fun _ _ => False) (hN : X.N.Nodup) (ht : TgOk X t tg) (he : PE X it (tE X.K F G e)) (hb : PSs X sb (tS X.K F G body))
    (hs : notSet it = true) : PS X (.For t it sb [] pos) (tS X.K F G (sForV e tg body)) := by
  have hp : PassesOwn (model X.prog X.w) X.A X.env X.xe := by rw [hxe]; exact PassesOwn.never
  have PL := ps_for (pos := pos) hp hc (pi_list (tg := t) he) (pg_tg (F := F) hc hN ht) hb (foldedSet_no hs)
  have PT := ps_for (pos := pos) hp hc (pi_tup (tg := t) he) (pg_tg (F := F) hc hN ht) hb (foldedSet_no hs)
  have both : PS X (.For t it sb [] pos) (fun D σ H => tFor (iList X.K (tE X.K F G e)) (tG X.K F tg) (tS X.K F G body) D σ H ∨ tFor (iTup X.K (tE X.K F G e)) (tG X.K F tg) (tS X.K F G body) D σ H) :=
    ⟨fun pins s σ H D I h => h.elim (PL.run pins s σ H D I) (PT.run pins s σ H D I)⟩
  refine both.weak fun D σ H ⟨m, a, r, R, e, k⟩ => ?_
  obtain ⟨q, e1, e2⟩ := Option.bind_eq_some_iff.mp e
  obtain ⟨v, a1⟩ := q
  cases v with
  | lst xs =>
    have e2' : loopL tg (body G) xs a1 = some r := e2
    refine .inl ⟨m, a, (.lst xs, a1), R, e1, fun x H1 m1 R1 s1 r1 => ?_⟩
    obtain ⟨p, vs, rfl, rr, hst⟩ := r1.lstI
    · refine ⟨p, rfl, ⟨vs, hst .refl⟩, ?_⟩
      refine for_gen (n := xs.length) (fun i a => loopL tg (body G) (xs.drop i) a) (fun i a => xs[i]?.bind fun x => asgT tg x a) R1 (by simpa using e2') (k.after s1) (fun i a r hi h => loopL_step hi h) (fun a r h => by rw [List.drop_length] at h; cases h; rfl) (fun m a σ H r R s h => ?_) (fun i m a σ H a' hi R s h => ?_)
      · exact ⟨vs, hst s, by rw [rr.length]; exact Nat.le_refl _⟩
      · have hl' := hst s
        obtain ⟨c, e3, e4⟩ := Option.bind_eq_some_iff.mp h
        have rr' := rr.step R1 s
        obtain ⟨x, e5, e6⟩ := rr'.get e3
        refine ⟨⟨vs, x, hl', e5⟩, fun y H' hy Q hQ => ?_⟩
        obtain ⟨rfl, hy⟩ := hy
        have := hy vs hl'
        rw [e5] at this; cases this
        exact ⟨m, a, c, a', R, e6, e4, fun σ' _ R' s' => hQ σ' _ m R' s'⟩
  | tup xs =>
    have e2' : loopL tg (body G) xs a1 = some r := e2
    refine .inr ⟨m, a, (.tup xs, a1), R, e1, fun x H1 m1 R1 s1 r1 => ?_⟩
    cases r1 with
    | tup hl rr =>
      rename_i p vs
      refine ⟨p, rfl, ⟨vs, hl.sqT⟩, ?_⟩
      refine for_gen (n := xs.length) (fun i a => loopL tg (body G) (xs.drop i) a) (fun i a => xs[i]?.bind fun x => asgT tg x a) R1 (by simpa using e2') (k.after s1) (fun i a r hi h => loopL_step hi h) (fun a r h => by rw [List.drop_length] at h; cases h; rfl) (fun m a σ H r R s h => ?_) (fun i m a σ H a' hi R s h => ?_)
      · exact ⟨vs, (TupZ.stay R1 s hl).sqT, by rw [rr.length]; exact Nat.le_refl _⟩
      · have hl' := (TupZ.stay R1 s hl).sqT
        obtain ⟨c, e3, e4⟩ := Option.bind_eq_some_iff.mp h
        have rr' := rr.step R1 s
        obtain ⟨x, e5, e6⟩ := rr'.get e3
        refine ⟨⟨vs, x, hl', e5⟩, fun y H' hy Q hQ => ?_⟩
        obtain ⟨rfl, hy⟩ := hy
        have := hy vs hl'
        rw [e5] at this; cases this
        exact ⟨m, a, c, a', R, e6, e4, fun σ' _ R' s' => hQ σ' _ m R' s'⟩
  | ref n =>
    have e2' : (match a1.S[n]? with | some (.lst xs) => loopR tg (body G) n xs.length xs.length a1 | _ => none) = some r := e2
    split at e2'
    · rename_i xs hxs
      refine .inl ⟨m, a, (.ref n, a1), R, e1, fun x H1 m1 R1 s1 r1 => ?_⟩
      cases r1 with
      | ref hm =>
        rename_i p
        obtain ⟨vs, g1, g2⟩ := R1.obj n _ _ hxs hm
        refine ⟨p, rfl, ⟨vs, .inl (.inl g1)⟩, ?_⟩
        have at_ : ∀ {m a σ' H} {ys : List AV}, Rl X.K F m a σ' H → Stp m1 a1 σ H1 m a σ' H → a.S[n]? = some (.lst ys) → ∃ vs, H p = some (.lst vs) ∧ Rps' X.K F m a σ' H vs ys := fun R s h => R.obj n _ _ h (s.pre _ _ hm)
        refine for_gen (n := xs.length) (fun i a => loopR tg (body G) n xs.length (xs.length - i) a) (fun i a => (itemAt a n xs.length i).bind fun x => asgT tg x a) R1 (by simpa using e2') (k.after s1) (fun i a r hi h => ?_) (fun a r h => ?_) (fun m a σ H r R s h => ?_) (fun i m a σ H a' hi R s h => ?_)
        · have e : xs.length - i = (xs.length - (i + 1)) + 1 := by omega
          rw [e] at h
          obtain ⟨x, e3, h⟩ := Option.bind_eq_some_iff.mp h
          obtain ⟨a', e4, h⟩ := Option.bind_eq_some_iff.mp h
          obtain ⟨q, e5, h⟩ := Option.bind_eq_some_iff.mp h
          have e6 : xs.length - (xs.length - (i + 1) + 1) = i := by omega
          rw [e6] at e3
          exact ⟨a', q, by rw [e3]; exact e4, e5, h⟩
        · rw [Nat.sub_self] at h
          have h' : (if lenIs a n xs.length = true then some (Out.nx, a) else none) = some r := h
          split at h' <;> cases h'
          rfl
        · rw [Nat.sub_self] at h
          have h' : (if lenIs a n xs.length = true then some (Out.nx, a) else none) = some r := h
          split at h'
          · rename_i hl
            unfold lenIs at hl
            split at hl
            · rename_i ys hy
              obtain ⟨vs', g3, g4⟩ := at_ R s hy
              exact ⟨vs', .inl (.inl g3), by rw [g4.length]; exact Nat.le_of_eq (by simpa using hl)⟩
            · cases hl
          · cases h'
        · obtain ⟨c, e3, e4⟩ := Option.bind_eq_some_iff.mp h
          unfold itemAt at e3
          split at e3
          · rename_i ys hy
            split at e3
            · obtain ⟨vs', g3, g4⟩ := at_ R s hy
              obtain ⟨x, e5, e6⟩ := g4.get e3
              refine ⟨⟨vs', x, .inl (.inl g3), e5⟩, fun y H' hy Q hQ => ?_⟩
              obtain ⟨rfl, hy⟩ := hy
              have := hy vs' (.inl (.inl g3))
              rw [e5] at this; cases this
              exact ⟨m, a, c, a', R, e6, e4, fun σ' _ R' s' => hQ σ' _ m R' s'⟩
            · cases e3
          · cases e3
    · cases e2'
  | _ => cases e2

/-! ### for over a range -/
def asR1 : List AV → Option (Int × Nat)
  | [.int j] => if -(2 ^ 62) ≤ j ∧ j < 2 ^ 62 then some (0, j.toNat) else none
  | _ => none
def asR2 : List AV → Option (Int × Nat)
  | [.int i, .int j] => if -(2 ^ 62) ≤ i ∧ i < 2 ^ 62 ∧ -(2 ^ 62) ≤ j ∧ j < 2 ^ 62 then some (i, (j - i).toNat) else none
  | _ => none
def rgA (lo : Int) (n : Nat) : List AV := (List.range n).map fun (i : Nat) => .int (lo + (i : Int))
theorem rgA_length (lo : Int) (n : Nat) : (rgA lo n).length = n := by simp [rgA]
theorem rgA_get {lo : Int} {n i : Nat} (h : i < n) : (rgA lo n)[i]? = some (.int (lo + i)) := by simp [rgA, h]
def sForR (rg : List AV → Option (Int × Nat)) (t : MAs) (tg : Tg) (body : MS) : MS := fun G a => (t G a).bind fun r => (rg r.1).bind fun p => loopL tg (body G) (rgA p.1 p.2) r.2
theorem asR1_of {l : List AV} {p : Int × Nat} (h : asR1 l = some p) : ∃ j : Int, l = [.int j] ∧ -(2 ^ 62) ≤ j ∧ j < 2 ^ 62 ∧ p = (0, j.toNat) := by
  match l, h with
  | [.int j], h =>
    have h' : (if -(2 ^ 62) ≤ j ∧ j < 2 ^ 62 then some ((0 : Int), j.toNat) else none) = some p := h
    split at h'
    · rename_i hj; cases h'; exact ⟨j, rfl, hj.1, hj.2, rfl⟩
    · cases h'
theorem asR2_of {l : List AV} {p : Int × Nat} (h : asR2 l = some p) : ∃ i j : Int, l = [.int i, .int j] ∧ (-(2 ^ 62) ≤ i ∧ i < 2 ^ 62 ∧ -(2 ^ 62) ≤ j ∧ j < 2 ^ 62) ∧ p = (i, (j - i).toNat) := by
  match l, h with
  | [.int i, .int j], h =>
    have h' : (if -(2 ^ 62) ≤ i ∧ i < 2 ^ 62 ∧ -(2 ^ 62) ≤ j ∧ j < 2 ^ 62 then some (i, (j - i).toNat) else none) = some p := h
    split at h'
    · rename_i hj; cases h'; exact ⟨i, j, rfl, hj, rfl⟩
    · cases h'
theorem range_loop {J : It} {tg : Tg} {body : MS} {D : Ends} {lo : Int} {n : Nat} {m : List Addr} {a : AS} {σ : L2.St} {H : Hp} {r : Out × AS} (hJ : J = Itr lo n) (R : Rl X.K F m a σ H) (e : loopL tg (body G) (rgA lo n) a = some r) (k : EndS X.K F m a σ H D r.1 r.2) :
    ∃ W : Nat → Nat → L2.St → Hp → Prop, (∃ k, W 0 k σ H) ∧ ∀ i k σ H, W i k σ H →
      (J.stop i H ∧ D.nx σ H) ∨ (J.go i H ∧ ∃ N : L2.St → Hp → Prop, (∀ σ' H', N σ' H' → ∃ m', m' < k ∧ W (i + 1) m' σ' H') ∧ ∀ x H', J.yld i H x H' → tG X.K F tg x σ H' fun σ2 H2 => tS X.K F G body { D with nx := N, ct := N, bk := D.nx } σ2 H2) := by
  subst hJ
  refine for_gen (n := n) (fun i a => loopL tg (body G) ((rgA lo n).drop i) a) (fun i a => (rgA lo n)[i]?.bind fun x => asgT tg x a) R (by simpa using e) k (fun i a r hi h => loopL_step (by rw [rgA_length]; exact hi) h) (fun a r h => ?_) (fun m a σ H r R s h => Nat.le_refl _) (fun i m a σ H a' hi R s h => ⟨hi, fun x H' hy Q hQ => ?_⟩)
  · rw [List.drop_eq_nil_of_le (by rw [rgA_length]; exact Nat.le_refl _)] at h
    cases h; rfl
  · obtain ⟨rfl, rfl⟩ := hy
    rw [rgA_get hi] at h
    exact ⟨m, a, _, a', R, .int _, h, fun σ' _ R' s' => hQ σ' _ m R' s'⟩
theorem rps_ints1 {K : PySem.W.Frag} {H : Hp} {hot : Hot} {m : List Addr} {xs : List V} {j : Int} (r : Rps K H hot m xs [.int j]) : xs = [.int j] := by cases r with | cons r t => cases r; cases t; rfl
theorem rps_ints2 {K : PySem.W.Frag} {H : Hp} {hot : Hot} {m : List Addr} {xs : List V} {i j : Int} (r : Rps K H hot m xs [.int i, .int j]) : xs = [.int i, .int j] := by cases r with | cons r t => cases r; cases t with | cons r t => cases r; cases t; rfl
theorem ps_sForR1 {x : Expr} {t : Expr} {tg : Tg} {u : MAs} {body : MS} {sb : List Stmt} {p p2 pos : Pos} (hc : X.calm = true) (hxe : X.xe = fun _ _ => False) (hN : X.N.Nodup) (ht : TgOk X t tg) (hg : Gl X "range") (hm : X.mg "range" = none) (he : PA X [x] (tAs X.K F G u)) (hx : notStar x = true) (hb : PSs X sb (tS X.K F G body)) :
    PS X (.For t (.Call (.Name "range" p) [x] [] p2) sb [] pos) (tS X.K F G (sForR asR1 u tg body)) := by
  have hp : PassesOwn (model X.prog X.w) X.A X.env X.xe := by rw [hxe]; exact PassesOwn.never
  refine (ps_for (pos := pos) hp hc (pi_range1 hg hm he (star_cons hx)) (pg_tg (F := F) hc hN ht) hb).weak fun D σ H ⟨m, a, r, R, e, k⟩ => ?_
  obtain ⟨q, e1, e⟩ := Option.bind_eq_some_iff.mp e
  obtain ⟨b, e2, e⟩ := Option.bind_eq_some_iff.mp e
  obtain ⟨l, a1⟩ := q
  obtain ⟨j, rfl, h1, h2, rfl⟩ := asR1_of e2
  exact ⟨m, a, _, R, e1, fun xs H1 m1 R1 s1 r1 => ⟨j, rps_ints1 r1, h1, h2, range_loop rfl R1 e (k.after s1)⟩⟩
theorem ps_sForR2 {x y : Expr} {t : Expr} {tg : Tg} {u : MAs} {body : MS} {sb : List Stmt} {p p2 pos : Pos} (hc : X.calm = true) (hxe : X.xe = fun _ _ => False) (hN : X.N.Nodup) (ht : TgOk X t tg) (hg : Gl X "range") (hm : X.mg "range" = none) (he : PA X [x, y] (tAs X.K F G u)) (hx : notStar x = true) (hy : notStar y = true) (hb : PSs X sb (tS X.K F G body)) :
    PS X (.For t (.Call (.Name "range" p) [x, y] [] p2) sb [] pos) (tS X.K F G (sForR asR2 u tg body)) := by
  have hp : PassesOwn (model X.prog X.w) X.A X.env X.xe := by rw [hxe]; exact PassesOwn.never
  have hs2 : starEach [y] X.env = [(false, eval y X.env)] := star_cons hy
  have hs : starEach [x, y] X.env = [(false, eval x X.env), (false, eval y X.env)] := by rw [star_cons hx, hs2]
  refine (ps_for (pos := pos) hp hc (pi_range2 hg hm he hs hs2) (pg_tg (F := F) hc hN ht) hb).weak fun D σ H ⟨m, a, r, R, e, k⟩ => ?_
  obtain ⟨q, e1, e⟩ := Option.bind_eq_some_iff.mp e
  obtain ⟨b, e2, e⟩ := Option.bind_eq_some_iff.mp e
  obtain ⟨l, a1⟩ := q
  obtain ⟨i, j, rfl, h1, rfl⟩ := asR2_of e2
  exact ⟨m, a, _, R, e1, fun xs H1 m1 R1 s1 r1 => ⟨i, j, rps_ints2 r1, h1, range_loop rfl R1 e (k.after s1)⟩⟩

/-! ### while, with a bound of turns -/
def whN (c : AS → Option (Bool × AS)) (body : AS → Option (Out × AS)) : Nat → AS → Option (Out × AS)
  | 0, _ => none
  | n + 1, a => (c a).bind fun r => if r.1 = true then (body r.2).bind (turn (whN c body n)) else some (.nx, r.2)
def sWhile (fuel : Nat) (c : MT) (body : MS) : MS := fun G a => whN (c G) (body G) fuel a
theorem ps_sWhile {x : Expr} {c : MT} {body : MS} {sb : List Stmt} {fuel : Nat} {pos : Pos} (hxe : X.xe = fun _ _ => False) (h : PT X x (tM X.K F G c)) (hb : PSs X sb (tS X.K F G body)) : PS X (.While x sb [] pos) (tS X.K F G (sWhile fuel c body)) := by
  have hp : PassesOwn (model X.prog X.w) X.A X.env X.xe := by rw [hxe]; exact PassesOwn.never
  refine (ps_while hp h hb).weak fun D σ0 H0 ⟨m0, a0, rF, R0, e, k⟩ => ?_
  refine ⟨fun n σ H => ∃ m a, Rl X.K F m a σ H ∧ Stp m0 a0 σ0 H0 m a σ H ∧ whN (c G) (body G) n a = some rF, ⟨fuel, m0, a0, R0, .refl, e⟩, ?_⟩
  rintro n σ H ⟨m, a, R, s, hr⟩
  cases n with
  | zero => cases hr
  | succ n =>
    obtain ⟨q, e1, e2⟩ := Option.bind_eq_some_iff.mp hr
    refine ⟨m, a, q, R, e1, fun H' m' R' s' => ?_⟩
    split at e2
    · rename_i hq
      rw [if_pos hq]
      obtain ⟨q2, e3, e4⟩ := Option.bind_eq_some_iff.mp e2
      refine ⟨fun σ' H' => ∃ m a, Rl X.K F m a σ' H' ∧ Stp m0 a0 σ0 H0 m a σ' H' ∧ whN (c G) (body G) n a = some rF, fun σ' H' hN => ⟨n, Nat.lt_succ_self n, hN⟩, m', q.2, q2, R', e3, ?_⟩
      have st := s.trans s'
      obtain ⟨o, a2⟩ := q2
      cases o with
      | nx => exact fun σ2 H2 m2 R2 s2 => ⟨m2, a2, R2, st.trans s2, e4⟩
      | ct => exact fun σ2 H2 m2 R2 s2 => ⟨m2, a2, R2, st.trans s2, e4⟩
      | bk =>
        cases e4
        exact fun σ2 H2 m2 R2 s2 => k σ2 H2 m2 R2 (st.trans s2)
      | rt v =>
        cases e4
        exact fun x σ2 H2 m2 R2 s2 r2 => k x σ2 H2 m2 R2 (st.trans s2) r2
    · rename_i hq
      rw [if_neg hq]
      cases e2
      exact k σ H' m' R' (s.trans s')
end
end Pyx
end
section
set_option maxRecDepth 100000
namespace Pyx
open PySem PySem.Spec PyProof.Rows L2

/-! ### list comprehensions -/
/-- the names of the block are forgotten; behind the block they are as they were -/
def clr (a : AS) : List Nat → AS
  | [] => a
  | v :: vs => (clr a vs).drop v
def rst (a0 a : AS) : List Nat → AS
  | [] => a
  | v :: vs => ⟨(rst a0 a vs).ρ.set v ((a0.ρ[v]?).getD none), (rst a0 a vs).S⟩
def noOwn (a : AS) (vs : List Nat) : Bool := vs.all fun v => match a.ρ[v]? with
  | some (some (.own _)) => false
  | _ => true
section
variable {K : PySem.W.Frag} {F : Hot} {m m0 m' : List Addr} {a a0 a' : AS} {σ σ' : L2.St} {H H0 H' : Hp}
theorem Rl.clr (R : Rl K F m a σ H) : ∀ vs : List Nat, Rl K F m (Pyx.clr a vs) (wipe σ vs) H ∧ Stp m a σ H m (Pyx.clr a vs) (wipe σ vs) H
  | [] => ⟨R, .refl⟩
  | v :: vs => by
    obtain ⟨h1, h2⟩ := Rl.clr R vs
    exact ⟨h1.drop, h2.trans Rl.dropStp⟩
theorem rst_len (a0 a : AS) : ∀ vs : List Nat, (rst a0 a vs).ρ.length = a.ρ.length
  | [] => rfl
  | v :: vs => by simp [rst, rst_len a0 a vs]
theorem rst_S (a0 a : AS) : ∀ vs : List Nat, (rst a0 a vs).S = a.S
  | [] => rfl
  | v :: vs => by simp [rst, rst_S a0 a vs]
theorem rst_get (hl : a.ρ.length = a0.ρ.length) {j : Nat} : ∀ vs : List Nat, (rst a0 a vs).ρ[j]? = if j ∈ vs then a0.ρ[j]? else a.ρ[j]?
  | [] => by simp [rst]
  | v :: vs => by
    have ih := rst_get hl (j := j) vs
    show ((rst a0 a vs).ρ.set v ((a0.ρ[v]?).getD none))[j]? = _
    by_cases e : j = v
    · subst e
      rw [if_pos List.mem_cons_self]
      by_cases hj : j < a0.ρ.length
      · rw [List.getElem?_set_self (by rw [rst_len, hl]; exact hj), List.getElem?_eq_getElem hj]
        rfl
      · rw [List.getElem?_eq_none (by simp [rst_len, hl]; omega), List.getElem?_eq_none (by omega)]
    · rw [List.getElem?_set_ne (Ne.symm e), ih]
      by_cases h : j ∈ vs
      · rw [if_pos h, if_pos (List.mem_cons_of_mem _ h)]
      · rw [if_neg h, if_neg (fun q => (List.mem_cons.mp q).elim e h)]
theorem wipe_in {σ : L2.St} {i : Nat} {x : V} : ∀ {vs : List Nat}, i ∈ vs → (wipe σ vs)[i]? ≠ some (some x) := fun {vs} h e => (wipe_some e).2 h
theorem Rl.rst {vs : List Nat} (R0 : Rl K F m0 a0 σ H0) (R : Rl K F m a (wipe σ vs) H) (s : Stp m0 a0 σ H0 m a (wipe σ vs) H) (no : noOwn a0 vs = true) :
    Rl K F m (Pyx.rst a0 a vs) σ H ∧ Stp m0 a0 σ H0 m (Pyx.rst a0 a vs) σ H ∧ ∀ x v, Rp' K F m a (wipe σ vs) H x v → Rp' K F m (Pyx.rst a0 a vs) σ H x v := by
  have hl : a.ρ.length = a0.ρ.length := by rw [R.len, R0.len, wipe_length]
  have hno : ∀ v ∈ vs, ∀ xs, a0.ρ[v]? ≠ some (some (Slt.own xs)) := fun v hv xs e => by
    have := List.all_eq_true.mp no v hv
    rw [e] at this
    cases this
  have hown : ∀ {j : Nat} {xs : List AV}, (Pyx.rst a0 a vs).ρ[j]? = some (some (Slt.own xs)) → j ∉ vs ∧ a.ρ[j]? = some (some (Slt.own xs)) := fun {j xs} e => by
    rw [rst_get hl] at e
    by_cases h : j ∈ vs
    · rw [if_pos h] at e; exact absurd e (hno j h xs)
    · rw [if_neg h] at e; exact ⟨h, e⟩
  have hO : ∀ {p : Addr}, Own (Pyx.rst a0 a vs).ρ σ p → Own a.ρ (wipe σ vs) p := fun ⟨j, xs, e1, e2⟩ => by
    obtain ⟨h1, h2⟩ := hown e1
    exact ⟨j, xs, h2, by rw [wipe_out h1]; exact e2⟩
  have hot : ∀ p, hotOf F m (Pyx.rst a0 a vs) σ p → hotOf F m a (wipe σ vs) p := fun p h => h.elim .inl fun h => h.elim (fun h => .inr (.inl h)) fun h => .inr (.inr (hO h))
  have hk : KeepR K H H (hotOf F m a (wipe σ vs)) (hotOf F m (Pyx.rst a0 a vs) σ) m m := KeepR.hot hot
  have st : Stp m0 a0 σ H0 m (Pyx.rst a0 a vs) σ H := ⟨s.pre, s.keep, s.dom, fun b h => s.locs b (h.elim .inl fun h => .inr (hO h))⟩
  refine ⟨⟨?_, fun j v e => ?_, fun j xs e => ?_, fun i j xs ys p e1 e2 e3 e4 => ?_, ?_, fun n o p e1 e2 => ?_, R.mnd, R.mF, R.FH⟩, st, fun x v r => r.keep hk⟩
  · rw [rst_len, R.len, wipe_length]
  · rw [rst_get hl] at e
    by_cases h : j ∈ vs
    · rw [if_pos h] at e
      obtain ⟨x, e1, r⟩ := R0.slot j v e
      exact ⟨x, e1, r.step R0 st⟩
    · rw [if_neg h] at e
      obtain ⟨x, e1, r⟩ := R.slot j v e
      exact ⟨x, by rw [wipe_out h] at e1; exact e1, r.keep hk⟩
  · obtain ⟨h1, h2⟩ := hown e
    obtain ⟨p, us, e1, e2, r, n⟩ := R.own j xs h2
    exact ⟨p, us, by rw [wipe_out h1] at e1; exact e1, e2, r.keep hk, n⟩
  · obtain ⟨h1, h2⟩ := hown e1
    obtain ⟨h3, h4⟩ := hown e2
    exact R.inj i j xs ys p h2 h4 (by rw [wipe_out h1]; exact e3) (by rw [wipe_out h3]; exact e4)
  · rw [rst_S]; exact R.mlen
  · rw [rst_S] at e1
    exact (R.obj n o p e1 e2).keep hk rfl
/-- one more hot thing outside of all that is written here -/
def addF (F : Hot) (D : Addr) : Hot := fun p => F p ∨ p = D
theorem Rl.outer {D : Addr} {us ws : List V} (R : Rl K (addF F D) m a σ H) (hD : H D = some (.lst us)) : Rl K (addF F D) m a σ (upd H D (.lst ws)) ∧ ∀ xs vs, Rps' K (addF F D) m a σ H xs vs → Rps' K (addF F D) m a σ (upd H D (.lst ws)) xs vs := by
  have hk : KeepR K H (upd H D (.lst ws)) (hotOf (addF F D) m a σ) (hotOf (addF F D) m a σ) m m := by
    refine ⟨fun b o vs e => ?_, fun b vs e n => ⟨?_, n⟩, fun _ _ e => e⟩
    · rw [upd_ne (fun q => by rw [q, hD] at e; cases e)]; exact e
    · have nb : b ≠ D := fun q => n (.inl (.inr q))
      rcases e with e | ⟨o, e⟩
      · exact .inl (by rw [upd_ne nb]; exact e)
      · exact .inr ⟨o, by rw [upd_ne nb]; exact e⟩
  refine ⟨⟨R.len, fun j v e => let ⟨x, e1, r⟩ := R.slot j v e; ⟨x, e1, r.keep hk⟩, fun j xs e => ?_, R.inj, R.mlen, fun n o p e1 e2 => (R.obj n o p e1 e2).keep hk (upd_ne fun q => R.mF p (List.mem_of_getElem? e2) (.inr q)), R.mnd, R.mF, fun p h => ?_⟩, fun xs vs r => r.keep hk⟩
  · obtain ⟨p, vs, e1, e2, r, n1, n2⟩ := R.own j xs e
    exact ⟨p, vs, e1, by rw [upd_ne fun q => n1 (.inr q)]; exact e2, r.keep hk, n1, n2⟩
  · by_cases q : p = D
    · rw [q]; exact .inl ⟨ws, upd_same⟩
    · unfold IsMut; rw [upd_ne q]; exact R.FH p h
/-- a new list becomes such a thing -/
theorem Rl.addNew {D : Addr} (R : Rl K F m a σ H) (hD : H D = none) : Rl K (addF F D) m a σ (upd H D (.lst [])) := by
  have R1 := R.new (o := .lst []) hD
  have nD : ∀ {b}, Loc' m a σ b → b ≠ D := fun l e => R.locSome l (e ▸ hD)
  have hk : KeepR K H (upd H D (.lst [])) (hotOf F m a σ) (hotOf (addF F D) m a σ) m m := by
    refine ⟨fun b o vs e => by rw [upd_ne (ne_of_none e hD)]; exact e, fun b vs e n => ?_, fun _ _ e => e⟩
    have nb : b ≠ D := fun q => by rcases e with e | ⟨o, e⟩ <;> rw [q, hD] at e <;> cases e
    refine ⟨?_, fun h => h.elim (fun h => h.elim (fun h => n (.inl h)) nb) fun h => n (.inr h)⟩
    rcases e with e | ⟨o, e⟩
    · exact .inl (by rw [upd_ne nb]; exact e)
    · exact .inr ⟨o, by rw [upd_ne nb]; exact e⟩
  refine ⟨R.len, fun j v e => let ⟨x, e1, r⟩ := R.slot j v e; ⟨x, e1, r.keep hk⟩, fun j xs e => ?_, R.inj, R.mlen, fun n o p e1 e2 => (R.obj n o p e1 e2).keep hk (upd_ne (nD (.inl (List.mem_of_getElem? e2)))), R.mnd, fun p hp h => h.elim (R.mF p hp) (nD (.inl hp)), fun p h => ?_⟩
  · obtain ⟨p, vs, e1, e2, r, n1, n2⟩ := R.own j xs e
    have np := nD (.inr ⟨j, xs, e, e1⟩)
    exact ⟨p, vs, e1, by rw [upd_ne np]; exact e2, r.keep hk, fun h => h.elim n1 np, n2⟩
  · rcases h with h | h
    · have np : p ≠ D := fun q => by rcases R.FH p h with ⟨_, z⟩ | ⟨_, z⟩ <;> rw [q, hD] at z <;> cases z
      unfold IsMut; rw [upd_ne np]; exact R.FH p h
    · rw [h]; exact .inl ⟨_, upd_same⟩
def del (H : Hp) (D : Addr) : Hp := fun b => if b = D then none else H b
theorem del_same {H : Hp} {D : Addr} : del H D D = none := by unfold del; rw [if_pos rfl]
theorem del_ne {H : Hp} {D b : Addr} (h : b ≠ D) : del H D b = H b := by unfold del; rw [if_neg h]
theorem upd_del {H : Hp} {D : Addr} {o : HO} (h : H D = some o) : upd (del H D) D o = H := by
  funext b
  by_cases e : b = D
  · rw [e, upd_same, h]
  · rw [upd_ne e, del_ne e]
theorem Rl.unhot {D : Addr} (nF : ¬ F D) (R : Rl K (addF F D) m a σ H) (hm : ∃ vs, H D = some (.lst vs)) : Rl K F m a σ (del H D) ∧ ∀ xs vs, Rps' K (addF F D) m a σ H xs vs → Rps' K F m a σ (del H D) xs vs := by
  obtain ⟨ws, hD⟩ := hm
  have hk : KeepR K H (del H D) (hotOf (addF F D) m a σ) (hotOf F m a σ) m m := by
    refine ⟨fun b o vs e => ?_, fun b vs e n => ?_, fun _ _ e => e⟩
    · rw [del_ne (fun q => by rw [q, hD] at e; cases e)]; exact e
    · have nb : b ≠ D := fun q => n (.inl (.inr q))
      refine ⟨?_, fun h => n (h.elim (fun h => .inl (.inl h)) .inr)⟩
      rcases e with e | ⟨o, e⟩
      · exact .inl (by rw [del_ne nb]; exact e)
      · exact .inr ⟨o, by rw [del_ne nb]; exact e⟩
  refine ⟨⟨R.len, fun j v e => let ⟨x, e1, r⟩ := R.slot j v e; ⟨x, e1, r.keep hk⟩, fun j xs e => ?_, R.inj, R.mlen, fun n o p e1 e2 => (R.obj n o p e1 e2).keep hk (del_ne fun q => R.mF p (List.mem_of_getElem? e2) (.inr q)), R.mnd, fun p hp h => R.mF p hp (.inl h), fun p h => ?_⟩, fun xs vs r => r.keep hk⟩
  · obtain ⟨p, vs, e1, e2, r, n1, n2⟩ := R.own j xs e
    exact ⟨p, vs, e1, by rw [del_ne fun q => n1 (.inr q)]; exact e2, r.keep hk, fun h => n1 (.inl h), n2⟩
  · have np : p ≠ D := fun q => nF (q ▸ h)
    unfold IsMut; rw [del_ne np]; exact R.FH p (.inl h)
end
/-- one target's slots are set: nothing else of the frame -/
theorem wipe_setIn {vs is : List Nat} {σ σ2 : L2.St} (h : SetIn is (wipe σ vs) σ2) (hs : ∀ i ∈ is, i ∈ vs) : wipe σ2 vs = wipe σ vs := by
  have one : ∀ (us : List Nat) (τ : L2.St) (j : Nat), (wipe τ us)[j]? = if j ∈ us ∧ j < τ.length then some none else τ[j]? := by
    intro us
    induction us with
    | nil => intro τ j; simp [wipe]
    | cons u us ih =>
      intro τ j
      show ((wipe τ us).set u none)[j]? = _
      by_cases e : j = u
      · subst e
        by_cases hj : j < τ.length
        · rw [List.getElem?_set_self (by rw [wipe_length]; exact hj), if_pos ⟨List.mem_cons_self, hj⟩]
        · rw [List.getElem?_eq_none (by simp [wipe_length]; omega), if_neg (fun q => hj q.2), List.getElem?_eq_none (by omega)]
      · rw [List.getElem?_set_ne (Ne.symm e), ih]
        by_cases h : j ∈ us ∧ j < τ.length
        · rw [if_pos h, if_pos ⟨List.mem_cons_of_mem _ h.1, h.2⟩]
        · rw [if_neg h, if_neg (fun q => h ⟨(List.mem_cons.mp q.1).elim (fun z => absurd z e) id, q.2⟩)]
  apply List.ext_getElem?
  intro j
  have hl : σ2.length = σ.length := h.1.trans (wipe_length _ _)
  rw [one, one]
  by_cases hj : j ∈ vs
  · by_cases hlt : j < σ.length
    · rw [if_pos ⟨hj, by rw [hl]; exact hlt⟩, if_pos ⟨hj, hlt⟩]
    · rw [if_neg (fun q => hlt (hl ▸ q.2)), if_neg (fun q => hlt q.2), List.getElem?_eq_none (by omega), List.getElem?_eq_none (by omega)]
  · rw [if_neg (fun q => hj q.1), if_neg (fun q => hj q.1), h.2 j (fun q => hj (hs j q)), wipe_out hj]
/-- behind a turn's target: the test, the element -/
def compT (tst : AS → Option (Bool × AS)) (elt : AS → Option (AV × AS)) (next : List AV → AS → Option (List AV × AS)) (acc : List AV) (a1 : AS) : Option (List AV × AS) :=
  (tst a1).bind fun r => if r.1 = true then (if acc.length < sizeLine then (elt r.2).bind fun q => next (acc ++ [q.1]) q.2 else none) else next acc r.2
def compL (vs : List Nat) (tg : Tg) (tst : AS → Option (Bool × AS)) (elt : AS → Option (AV × AS)) : List AV → List AV → AS → Option (List AV × AS)
  | [], acc, a => some (acc, a)
  | x :: xs, acc, a => (asgT tg x (clr a vs)).bind fun a1 => compT tst elt (compL vs tg tst elt xs) acc a1
def compR (vs : List Nat) (tg : Tg) (tst : AS → Option (Bool × AS)) (elt : AS → Option (AV × AS)) (n len : Nat) : Nat → List AV → AS → Option (List AV × AS)
  | 0, acc, a => if lenIs a n len = true then some (acc, a) else none
  | k + 1, acc, a => (itemAt a n len (len - (k + 1))).bind fun x => (asgT tg x (clr a vs)).bind fun a1 => compT tst elt (compR vs tg tst elt n len k) acc a1
theorem clr_S (a : AS) : ∀ vs : List Nat, (clr a vs).S = a.S
  | [] => rfl
  | v :: vs => clr_S a vs
/-- readings with any hot things outside -/
def xE (K : PySem.W.Frag) (G : Gm) (e : ME) : TE := fun σ H Q => ∃ F, tE K F G e σ H Q
def xM (K : PySem.W.Frag) (G : Gm) (e : MT) : TT := fun σ H Q => ∃ F, tM K F G e σ H Q
def xG (K : PySem.W.Frag) (tg : Tg) : TG := fun v σ H Q => ∃ F, tG K F tg v σ H Q
section
variable {X : Cx} {F : Hot} {G : Gm}
theorem pe_xE {x : Expr} {e : ME} (h : ∀ F, PE X x (tE X.K F G e)) : PE X x (xE X.K G e) := ⟨fun pins s σ H Q I ⟨F, q⟩ => (h F).run pins s σ H Q I q⟩
theorem pt_xM {x : Expr} {e : MT} (h : ∀ F, PT X x (tM X.K F G e)) : PT X x (xM X.K G e) := ⟨fun pins s σ H Q I ⟨F, q⟩ => (h F).run pins s σ H Q I q⟩
theorem pg_xG {x : Expr} {tg : Tg} (hc : X.calm = true) (hN : X.N.Nodup) (h : TgOk X x tg) : PG X x (xG X.K tg) := ⟨fun pins s σ H v u Q I r ⟨F, q⟩ => (pg_tg (F := F) hc hN h).run pins s σ H v u Q I r q⟩
theorem lc_gen {J : It} {g : TG} {n : Nat} {vs : List Nat} {tst : MT} {elt : ME} {m1 : List Addr} {a1 : AS} {σ : L2.St} {H1 : Hp} {rF : List AV × AS} {D : Addr} {Q : VK} (run : Nat → List AV → AS → Option (List AV × AS)) (asg : Nat → AS → Option AS)
    (R1 : Rl X.K F m1 a1 σ H1) (no : noOwn a1 vs = true) (hD : H1 D = none) (h0 : run 0 [] a1 = some rF)
    (kQ : ∀ p us H' m', Rl X.K F m' (rst a1 (clr rF.2 vs) vs) σ H' → Stp m1 a1 σ H1 m' (rst a1 (clr rF.2 vs) vs) σ H' → H' p = none → Rps' X.K F m' (rst a1 (clr rF.2 vs) vs) σ H' us rF.1 → Q (.ref p) (upd H' p (.lst us)))
    (hrun : ∀ i acc a r, i < n → run i acc a = some r → ∃ a', asg i a = some a' ∧ compT (tst G) (elt G) (run (i + 1)) acc a' = some r)
    (hend : ∀ acc a r, run n acc a = some r → r = (acc, a))
    (hstop : ∀ m a H acc r, Rl X.K (addF F D) m (clr a vs) (wipe σ vs) H → Stp m1 a1 σ H1 m (clr a vs) (wipe σ vs) H → run n acc a = some r → J.stop n H)
    (hgo : ∀ i m a H a', i < n → Rl X.K (addF F D) m (clr a vs) (wipe σ vs) H → Stp m1 a1 σ H1 m (clr a vs) (wipe σ vs) H → asg i a = some a' → J.go i H ∧ ∀ x H', J.yld i H x H' → ∀ Q : L2.St → Hp → Prop,
      (∀ σ' H'' m', wipe σ' vs = wipe σ vs → Rl X.K (addF F D) m' a' σ' H'' → Stp m (clr a vs) (wipe σ vs) H m' a' σ' H'' → Q σ' H'') → g x (wipe σ vs) H' Q) :
    ∃ W : Nat → Nat → Hp → Prop, (∃ m, W 0 m (upd H1 D (.lst []))) ∧ ∀ i m H, W i m H →
      (J.stop i H ∧ Q (.ref D) H) ∨ (J.go i H ∧ ∃ Nx : Hp → Prop, (∀ H', Nx H' → ∃ m', m' < m ∧ W (i + 1) m' H') ∧ ∀ x H', J.yld i H x H' → g x (wipe σ vs) H' fun σ2 H2 => wipe σ2 vs = wipe σ vs ∧ xM X.K G tst σ2 H2 fun b H3 =>
        if b = true then xE X.K G elt σ2 H3 fun y H4 => ∃ acc, H4 D = some (.lst acc) ∧ acc.length < sizeLine ∧ Nx (upd H4 D (.lst (acc ++ [y]))) else Nx H3) := by
  have nFD : ¬ F D := fun h => by rcases R1.FH D h with ⟨_, q⟩ | ⟨_, q⟩ <;> rw [hD] at q <;> cases q
  let Wm (m : List Addr) (a : AS) (us : List V) (acc : List AV) (i : Nat) (H : Hp) : Prop :=
    Rl X.K (addF F D) m (clr a vs) (wipe σ vs) H ∧ H D = some (.lst us) ∧ Rps' X.K (addF F D) m (clr a vs) (wipe σ vs) H us acc ∧ Stp m1 a1 σ H1 m (clr a vs) (wipe σ vs) H ∧ run i acc a = some rF
  refine ⟨fun i k H => i + k = n ∧ ∃ m a us acc, Wm m a us acc i H, ⟨n, by omega, m1, a1, [], [], ?_⟩, ?_⟩
  · obtain ⟨R2, s2⟩ := (R1.addNew hD).clr vs
    refine ⟨R2, upd_same, .nil, ?_, h0⟩
    obtain ⟨_, s3⟩ := R1.clr vs
    exact s3.trans (.new hD)
  · rintro i k H ⟨hik, m, a, us, acc, R, hus, hr, s, hrn⟩
    by_cases hi : i < n
    · refine .inr ?_
      obtain ⟨a', e1, e2⟩ := hrun i acc a rF hi hrn
      obtain ⟨h1, h2⟩ := hgo i m a H a' hi R s e1
      refine ⟨h1, fun H' => ∃ m a us acc, Wm m a us acc (i + 1) H', ?_, fun x H' hy => h2 x H' hy _ fun σ2 H2 m2 hw R2 s2 => ⟨hw, ?_⟩⟩
      · rintro H' ⟨m', a2, us', acc', hW⟩
        exact ⟨k - 1, by omega, by omega, m', a2, us', acc', hW⟩
      · obtain ⟨q, e3, e4⟩ := Option.bind_eq_some_iff.mp e2
        refine ⟨addF F D, m2, a', q, R2, e3, fun H3 m3 R3 s3 => ?_⟩
        have nloc : ∀ {m a σ H}, Rl X.K (addF F D) m a σ H → ¬ Loc' m a σ D := fun R l => l.elim (fun h => R.mF D h (.inr rfl)) fun ⟨j, xs, f1, f2⟩ => by
          obtain ⟨p, ws, f3, _, _, f4, _⟩ := R.own j xs f1
          rw [f2] at f3; cases f3
          exact f4 (.inr rfl)
        have hD3 : H3 D = some (.lst us) := (s2.trans s3).keep D _ hus (nloc R)
        have hr3 := hr.step R (s2.trans s3)
        have st3 := s.trans (s2.trans s3)
        split at e4
        · rename_i hb
          dsimp only
          rw [if_pos hb]
          split at e4
          · rename_i hlen
            obtain ⟨q2, e5, e6⟩ := Option.bind_eq_some_iff.mp e4
            refine ⟨addF F D, m3, q.2, q2, R3, e5, fun y H4 m4 R4 s4 r4 => ⟨us, s4.keep D _ hD3 (nloc R3), by rw [hr.length]; exact hlen, m4, q2.2, us ++ [y], acc ++ [q2.1], ?_⟩⟩
            have hD4 := s4.keep D _ hD3 (nloc R3)
            obtain ⟨R5, k5⟩ := R4.outer (ws := us ++ [y]) hD4
            obtain ⟨R6, s6⟩ := R5.clr vs
            have hr4 : Rps' X.K (addF F D) m4 q2.2 σ2 H4 (us ++ [y]) (acc ++ [q2.1]) := (hr3.step R3 s4).snoc r4
            have st4 := st3.trans s4
            rw [hw] at R6 s6
            refine ⟨R6, upd_same, (k5 _ _ hr4).step R5 s6, ?_, e6⟩
            have st5 : Stp m1 a1 σ H1 m4 q2.2 σ2 (upd H4 D (.lst (us ++ [y]))) := by
              refine ⟨st4.pre, fun b o e nl => ?_, fun b e => ?_, st4.locs⟩
              · rw [upd_ne (ne_of_none e hD)]; exact st4.keep b o e nl
              · by_cases q : b = D
                · rw [q, upd_same]; simp
                · rw [upd_ne q]; exact st4.dom b e
            exact st5.trans s6
          · cases e4
        · rename_i hb
          dsimp only
          rw [if_neg hb]
          refine ⟨m3, q.2, us, acc, ?_⟩
          obtain ⟨R6, s6⟩ := R3.clr vs
          rw [hw] at R6 s6
          exact ⟨R6, hD3, hr3.step R3 s6, st3.trans s6, e4⟩
    · have e : i = n := by omega
      subst e
      refine .inl ⟨hstop m a H acc _ R s hrn, ?_⟩
      have e := hend acc a rF hrn
      subst e
      obtain ⟨R2, k2⟩ := R.unhot nFD ⟨us, hus⟩
      have hr2 := k2 _ _ hr
      have s2 : Stp m1 a1 σ H1 m (clr a vs) (wipe σ vs) (del H D) := by
        refine ⟨s.pre, fun b o e nl => ?_, fun b e => ?_, s.locs⟩
        · rw [del_ne (ne_of_none e hD)]; exact s.keep b o e nl
        · rw [del_ne (fun q => e (by rw [q]; exact hD))]; exact s.dom b e
      obtain ⟨R3, s3, k3⟩ := Rl.rst R1 R2 s2 no
      have hr3 : Rps' X.K F m (rst a1 (clr a vs) vs) σ (del H D) us acc := by
        have all : ∀ {us : List V} {acc : List AV}, Rps' X.K F m (clr a vs) (wipe σ vs) (del H D) us acc → Rps' X.K F m (rst a1 (clr a vs) vs) σ (del H D) us acc := by
          intro us acc r
          induction acc generalizing us with
          | nil => cases r; exact .nil
          | cons c acc ih => cases r with | cons r t => exact .cons (k3 _ _ r) (ih t)
        exact all hr2
      have := kQ D us (del H D) m R3 s3 del_same hr3
      rw [upd_del hus] at this
      exact this

def compV (vs : List Nat) (tg : Tg) (tst : AS → Option (Bool × AS)) (elt : AS → Option (AV × AS)) (a : AS) : AV → Option (List AV × AS)
  | .lst xs => compL vs tg tst elt xs [] a
  | .tup xs => compL vs tg tst elt xs [] a
  | .ref n => match a.S[n]? with
    | some (.lst xs) => compR vs tg tst elt n xs.length xs.length [] a
    | _ => none
  | _ => none
def fComp (it : ME) (vs : List Nat) (tg : Tg) (tst : MT) (elt : ME) : MAs := fun G a => (it G a).bind fun r => if noOwn r.2 vs = true then (compV vs tg (tst G) (elt G) r.2 r.1).map fun q => (q.1, rst r.2 (clr q.2 vs) vs) else none
def fCompR (rg : List AV → Option (Int × Nat)) (t : MAs) (vs : List Nat) (tg : Tg) (tst : MT) (elt : ME) : MAs := fun G a => (t G a).bind fun r => if noOwn r.2 vs = true then (rg r.1).bind fun p => (compL vs tg (tst G) (elt G) (rgA p.1 p.2) [] r.2).map fun q => (q.1, rst r.2 (clr q.2 vs) vs) else none
theorem compL_step {vs : List Nat} {tg : Tg} {tst : AS → Option (Bool × AS)} {elt : AS → Option (AV × AS)} {xs acc : List AV} {i : Nat} {a : AS} {r : List AV × AS} (hi : i < xs.length) (h : compL vs tg tst elt (xs.drop i) acc a = some r) :
    ∃ a', (xs[i]?.bind fun x => asgT tg x (clr a vs)) = some a' ∧ compT tst elt (compL vs tg tst elt (xs.drop (i + 1))) acc a' = some r := by
  rw [List.drop_eq_getElem_cons hi] at h
  obtain ⟨a', e1, e2⟩ := Option.bind_eq_some_iff.mp h
  exact ⟨a', by rw [List.getElem?_eq_getElem hi]; exact e1, e2⟩
/-- what the block's own target gives -/
theorem tg_turn {tg : Tg} {vs : List Nat} (hsl : ∀ i ∈ tg.slots, i ∈ vs) {D : Addr} {m : List Addr} {a a' : AS} {σ : L2.St} {H : Hp} {x : V} {c : AV} {Q : L2.St → Hp → Prop} (R : Rl X.K (addF F D) m (clr a vs) (wipe σ vs) H) (r : Rp' X.K (addF F D) m (clr a vs) (wipe σ vs) H x c) (e : asgT tg c (clr a vs) = some a')
    (hQ : ∀ σ' H'' m', wipe σ' vs = wipe σ vs → Rl X.K (addF F D) m' a' σ' H'' → Stp m (clr a vs) (wipe σ vs) H m' a' σ' H'' → Q σ' H'') : xG X.K tg x (wipe σ vs) H Q :=
  ⟨addF F D, m, clr a vs, c, a', R, r, e, fun σ' hs R' s' => hQ σ' H m (wipe_setIn hs hsl) R' s'⟩
section
variable {it elt tgE : Expr} {ifs : List Expr} {scope : Scope} {own : List (Str × Nat)} {pos : Pos} {tg : Tg} {tst : MT} {me : ME}
/-- what is known of the block: its names, its target, its tests and its element, wherever it runs -/
structure BlkG (X : Cx) (G : Gm) (scope : Scope) (own : List (Str × Nat)) (tgE : Expr) (ifs : List Expr) (elt : Expr) (tg : Tg) (tst : MT) (me : ME) : Prop where
  ok : BlkOk X.N X.env.scope scope own
  hg : ∀ (s : Shared) (H : Hp) (C : Addr) (cl : List (Str × Addr)) (fp : List Addr), PG (X.blk s H scope (compEnvC scope cl C X.env) fp) tgE (xG X.K tg)
  ht : ∀ (s : Shared) (H : Hp) (C : Addr) (cl : List (Str × Addr)) (fp : List Addr), PTs (X.blk s H scope (compEnvC scope cl C X.env) fp) ifs (xM X.K G tst)
  he : ∀ (s : Shared) (H : Hp) (C : Addr) (cl : List (Str × Addr)) (fp : List Addr), PE (X.blk s H scope (compEnvC scope cl C X.env) fp) elt (xE X.K G me)
  sl : ∀ i ∈ tg.slots, i ∈ own.map (·.2)
def tComp (K : PySem.W.Frag) (G : Gm) (wi : TI) (tg : Tg) (tst : MT) (me : ME) (vs : List Nat) : TE := tLc wi (xG K tg) (xM K G tst) (xE K G me) vs
theorem Rps.stepD {K : PySem.W.Frag} {D : Addr} {m m1 : List Addr} {a a1 : AS} {σ σ1 : L2.St} {H H1 : Hp} (R : Rl K F m a σ H) (s : Stp m a σ H m1 a1 σ1 H1) (hD : H D = none) {x : List V} {v : List AV} (r : Rps' K F m a σ H x v) : Rps' K (addF F D) m1 a1 σ1 H1 x v := by
  have k := R.keeps s
  refine Rps.keep ⟨k.tup, fun b vs e n => ⟨(k.lst b vs e n).1, fun h => ?_⟩, k.pre⟩ r
  rcases h with (h | h) | h
  · exact (k.lst b vs e n).2 (.inl h)
  · rcases e with e | ⟨o, e⟩ <;> rw [h, hD] at e <;> cases e
  · exact (k.lst b vs e n).2 (.inr h)
theorem comp_read {e : ME} {vs : List Nat} {σ : L2.St} {H : Hp} {Q : VK} (hsl : ∀ i ∈ tg.slots, i ∈ vs) (h : tF X.K F G (fComp e vs tg tst me) σ H Q) :
    tComp X.K G (iList X.K (tE X.K F G e)) tg tst me vs σ H Q ∨ tComp X.K G (iTup X.K (tE X.K F G e)) tg tst me vs σ H Q := by
  obtain ⟨m, a, r, R, e, k⟩ := h
  obtain ⟨q, e1, e2⟩ := Option.bind_eq_some_iff.mp e
  split at e2
  · rename_i no
    obtain ⟨rF, e3, e4⟩ := Option.map_eq_some_iff.mp e2
    subst e4
    obtain ⟨v, a1⟩ := q
    cases v with
    | lst xs =>
      have e3' : compL vs tg (tst G) (me G) xs [] a1 = some rF := e3
      refine .inl ⟨m, a, (.lst xs, a1), R, e1, fun x H1 m1 R1 s1 r1 => ?_⟩
      obtain ⟨p, us, rfl, rr, hst⟩ := r1.lstI
      · refine ⟨p, rfl, ⟨us, hst .refl⟩, fun D hD => ?_⟩
        refine lc_gen (F := F) (n := xs.length) (fun i acc a => compL vs tg (tst G) (me G) (xs.drop i) acc a) (fun i a => xs[i]?.bind fun x => asgT tg x (clr a vs)) R1 no hD (by simpa using e3') (fun p us H' m' R' s' hp r' => k p us H' m' R' (s1.trans s') hp r') (fun i acc a r hi h => compL_step hi h) (fun acc a r h => by rw [List.drop_length] at h; cases h; rfl) (fun m a H acc r R s h => ?_) (fun i m a H a' hi R s h => ?_)
        · exact ⟨us, hst s, by rw [rr.length]; exact Nat.le_refl _⟩
        · have hl' := hst s
          obtain ⟨c, e5, e6⟩ := Option.bind_eq_some_iff.mp h
          obtain ⟨x, e7, rx⟩ := (rr.stepD R1 s hD).get e5
          refine ⟨⟨us, x, hl', e7⟩, fun y H' hy Q hQ => ?_⟩
          obtain ⟨rfl, hy⟩ := hy
          have := hy us hl'
          rw [e7] at this; cases this
          exact tg_turn hsl R rx e6 hQ
    | tup xs =>
      have e3' : compL vs tg (tst G) (me G) xs [] a1 = some rF := e3
      refine .inr ⟨m, a, (.tup xs, a1), R, e1, fun x H1 m1 R1 s1 r1 => ?_⟩
      cases r1 with
      | tup hl rr =>
        rename_i p us
        refine ⟨p, rfl, ⟨us, hl.sqT⟩, fun D hD => ?_⟩
        refine lc_gen (F := F) (n := xs.length) (fun i acc a => compL vs tg (tst G) (me G) (xs.drop i) acc a) (fun i a => xs[i]?.bind fun x => asgT tg x (clr a vs)) R1 no hD (by simpa using e3') (fun p us H' m' R' s' hp r' => k p us H' m' R' (s1.trans s') hp r') (fun i acc a r hi h => compL_step hi h) (fun acc a r h => by rw [List.drop_length] at h; cases h; rfl) (fun m a H acc r R s h => ?_) (fun i m a H a' hi R s h => ?_)
        · exact ⟨us, (TupZ.stay R1 s hl).sqT, by rw [rr.length]; exact Nat.le_refl _⟩
        · have hl' := (TupZ.stay R1 s hl).sqT
          obtain ⟨c, e5, e6⟩ := Option.bind_eq_some_iff.mp h
          obtain ⟨x, e7, rx⟩ := (rr.stepD R1 s hD).get e5
          refine ⟨⟨us, x, hl', e7⟩, fun y H' hy Q hQ => ?_⟩
          obtain ⟨rfl, hy⟩ := hy
          have := hy us hl'
          rw [e7] at this; cases this
          exact tg_turn hsl R rx e6 hQ
    | ref n =>
      have e3' : (match a1.S[n]? with | some (.lst xs) => compR vs tg (tst G) (me G) n xs.length xs.length [] a1 | _ => none) = some rF := e3
      split at e3'
      · rename_i xs hxs
        refine .inl ⟨m, a, (.ref n, a1), R, e1, fun x H1 m1 R1 s1 r1 => ?_⟩
        cases r1 with
        | ref hm =>
          rename_i p
          obtain ⟨us, g1, g2⟩ := R1.obj n _ _ hxs hm
          refine ⟨p, rfl, ⟨us, .inl (.inl g1)⟩, fun D hD => ?_⟩
          have at_ : ∀ {m a σ' H} {ys : List AV}, Rl X.K (addF F D) m (clr a vs) σ' H → Stp m1 a1 σ H1 m (clr a vs) σ' H → a.S[n]? = some (.lst ys) → ∃ us, H p = some (.lst us) ∧ Rps' X.K (addF F D) m (clr a vs) σ' H us ys := fun R s h => R.obj n (.lst _) _ (by rw [clr_S]; exact h) (s.pre _ _ hm)
          refine lc_gen (F := F) (n := xs.length) (fun i acc a => compR vs tg (tst G) (me G) n xs.length (xs.length - i) acc a) (fun i a => (itemAt a n xs.length i).bind fun x => asgT tg x (clr a vs)) R1 no hD (by simpa using e3') (fun p us H' m' R' s' hp r' => k p us H' m' R' (s1.trans s') hp r') (fun i acc a r hi h => ?_) (fun acc a r h => ?_) (fun m a H acc r R s h => ?_) (fun i m a H a' hi R s h => ?_)
          · have e : xs.length - i = (xs.length - (i + 1)) + 1 := by omega
            rw [e] at h
            obtain ⟨x, e5, h⟩ := Option.bind_eq_some_iff.mp h
            obtain ⟨a', e6, h⟩ := Option.bind_eq_some_iff.mp h
            have e7 : xs.length - (xs.length - (i + 1) + 1) = i := by omega
            rw [e7] at e5
            exact ⟨a', by rw [e5]; exact e6, h⟩
          · rw [Nat.sub_self] at h
            have h' : (if lenIs a n xs.length = true then some (acc, a) else none) = some r := h
            split at h' <;> cases h'
            rfl
          · rw [Nat.sub_self] at h
            have h' : (if lenIs a n xs.length = true then some (acc, a) else none) = some r := h
            split at h'
            · rename_i hl
              unfold lenIs at hl
              split at hl
              · rename_i ys hy
                obtain ⟨us', g3, g4⟩ := at_ R s hy
                exact ⟨us', .inl (.inl g3), by rw [g4.length]; exact Nat.le_of_eq (by simpa using hl)⟩
              · cases hl
            · cases h'
          · obtain ⟨c, e5, e6⟩ := Option.bind_eq_some_iff.mp h
            unfold itemAt at e5
            split at e5
            · rename_i ys hy
              split at e5
              · obtain ⟨us', g3, g4⟩ := at_ R s hy
                obtain ⟨x, e7, rx⟩ := g4.get e5
                refine ⟨⟨us', x, .inl (.inl g3), e7⟩, fun y H' hy Q hQ => ?_⟩
                obtain ⟨rfl, hy⟩ := hy
                have := hy us' (.inl (.inl g3))
                rw [e7] at this; cases this
                exact tg_turn hsl R rx e6 hQ
              · cases e5
            · cases e5
      · cases e3'
    | _ => cases e3
  · cases e2
theorem compR_read {u : MAs} {rg : List AV → Option (Int × Nat)} {vs : List Nat} {σ : L2.St} {H : Hp} {Q : VK} {wi : TI} (hsl : ∀ i ∈ tg.slots, i ∈ vs) (h : tF X.K F G (fCompR rg u vs tg tst me) σ H Q)
    (hw : ∀ R : It → Hp → Prop, (∃ m a r p, Rl X.K F m a σ H ∧ u G a = some r ∧ rg r.1 = some p ∧ ∀ xs H' m', Rl X.K F m' r.2 σ H' → Stp m a σ H m' r.2 σ H' → Rps' X.K F m' r.2 σ H' xs r.1 → R (Itr p.1 p.2) H') → wi σ H R) : tComp X.K G wi tg tst me vs σ H Q := by
  obtain ⟨m, a, r, R, e, k⟩ := h
  obtain ⟨q, e1, e2⟩ := Option.bind_eq_some_iff.mp e
  split at e2
  · rename_i no
    obtain ⟨b, e3, e4⟩ := Option.bind_eq_some_iff.mp e2
    obtain ⟨rF, e5, e6⟩ := Option.map_eq_some_iff.mp e4
    subst e6
    refine hw _ ⟨m, a, q, b, R, e1, e3, fun xs H1 m1 R1 s1 r1 => ?_⟩
    intro D hD
    refine lc_gen (F := F) (n := b.2) (fun i acc a => compL vs tg (tst G) (me G) ((rgA b.1 b.2).drop i) acc a) (fun i a => (rgA b.1 b.2)[i]?.bind fun x => asgT tg x (clr a vs)) R1 no hD (by simpa using e5) (fun p us H' m' R' s' hp r' => k p us H' m' R' (s1.trans s') hp r') (fun i acc a r hi h => compL_step (by rw [rgA_length]; exact hi) h) (fun acc a r h => ?_) (fun m a H acc r R s h => Nat.le_refl _) (fun i m a H a' hi R s h => ⟨hi, fun x H' hy Q hQ => ?_⟩)
    · rw [List.drop_eq_nil_of_le (by rw [rgA_length]; exact Nat.le_refl _)] at h
      cases h; rfl
    · obtain ⟨rfl, rfl⟩ := hy
      rw [rgA_get hi] at h
      exact tg_turn hsl R (.int _) h hQ
  · cases e2
/-- over a list or a tuple -/
theorem pe_fComp {e : ME} (hc : X.calm = true) (hN : X.N.Nodup) (hi : PE X it (tE X.K F G e)) (B : BlkG X G scope own tgE ifs elt tg tst me) (hs : notSet it = true) :
    PE X (.ListComp elt [⟨tgE, it, ifs, 0⟩] scope pos) (tF X.K F G (fComp e (own.map (·.2)) tg tst me)) :=
  (PE.or (pe_lc hc hN (pi_list hi) B.ok B.hg B.ht B.he (foldedSet_no hs)) (pe_lc hc hN (pi_tup hi) B.ok B.hg B.ht B.he (foldedSet_no hs))).weak fun _ _ _ h => comp_read B.sl h
theorem pe_fCompR1 {x : Expr} {u : MAs} {p p2 : Pos} (hc : X.calm = true) (hN : X.N.Nodup) (hg : Gl X "range") (hm : X.mg "range" = none) (he : PA X [x] (tAs X.K F G u)) (hx : notStar x = true) (B : BlkG X G scope own tgE ifs elt tg tst me) :
    PE X (.ListComp elt [⟨tgE, .Call (.Name "range" p) [x] [] p2, ifs, 0⟩] scope pos) (tF X.K F G (fCompR asR1 u (own.map (·.2)) tg tst me)) :=
  (pe_lc hc hN (pi_range1 hg hm he (star_cons hx)) B.ok B.hg B.ht B.he).weak fun σ H Q h => compR_read B.sl h fun R ⟨m, a, r, p, R0, e, hp, k⟩ => by
    obtain ⟨l, a1⟩ := r
    obtain ⟨j, rfl, h1, h2, rfl⟩ := asR1_of hp
    exact ⟨m, a, _, R0, e, fun xs H1 m1 R1 s1 r1 => ⟨j, rps_ints1 r1, h1, h2, k xs H1 m1 R1 s1 r1⟩⟩
theorem pe_fCompR2 {x y : Expr} {u : MAs} {p p2 : Pos} (hc : X.calm = true) (hN : X.N.Nodup) (hg : Gl X "range") (hm : X.mg "range" = none) (he : PA X [x, y] (tAs X.K F G u)) (hx : notStar x = true) (hy : notStar y = true) (B : BlkG X G scope own tgE ifs elt tg tst me) :
    PE X (.ListComp elt [⟨tgE, .Call (.Name "range" p) [x, y] [] p2, ifs, 0⟩] scope pos) (tF X.K F G (fCompR asR2 u (own.map (·.2)) tg tst me)) := by
  have hs2 : starEach [y] X.env = [(false, eval y X.env)] := star_cons hy
  have hs : starEach [x, y] X.env = [(false, eval x X.env), (false, eval y X.env)] := by rw [star_cons hx, hs2]
  exact (pe_lc hc hN (pi_range2 hg hm he hs hs2) B.ok B.hg B.ht B.he).weak fun σ H Q h => compR_read B.sl h fun R ⟨m, a, r, p, R0, e, hp, k⟩ => by
    obtain ⟨l, a1⟩ := r
    obtain ⟨i, j, rfl, h1, rfl⟩ := asR2_of hp
    exact ⟨m, a, _, R0, e, fun xs H1 m1 R1 s1 r1 => ⟨i, j, rps_ints2 r1, h1, k xs H1 m1 R1 s1 r1⟩⟩
/-- name = [..] on one line: the same, by the layer's own rule -/
theorem setLc_of {i : Nat} {y : Str} {py spos : Pos} {wi : TI} {f : MAs} {vs : List Nat} (h : PS X (.Assign [.Name y py] (.ListComp elt [⟨tgE, it, ifs, 0⟩] scope pos) spos) (tAsg (tComp X.K G wi tg tst me vs) (gName i)))
    (hw : ∀ σ H Q, tF X.K F G f σ H Q → tComp X.K G wi tg tst me vs σ H Q) :
    PS X (.Assign [.Name y py] (.ListComp elt [⟨tgE, it, ifs, 0⟩] scope pos) spos) (tS X.K F G (sOwn i f)) ∧ PS X (.Assign [.Name y py] (.ListComp elt [⟨tgE, it, ifs, 0⟩] scope pos) spos) (tS X.K F G (sAsg i (eFrz f))) ∧ PS X (.Assign [.Name y py] (.ListComp elt [⟨tgE, it, ifs, 0⟩] scope pos) spos) (tS X.K F G (sAsg i (eLay f))) := by
  refine ⟨h.weak fun D σ H ⟨m, a, r, R, e, k⟩ => ?_, h.weak fun D σ H ⟨m, a, r, R, e, k⟩ => ?_, h.weak fun D σ H ⟨m, a, r, R, e, k⟩ => ?_⟩
  · obtain ⟨q, e1, e2⟩ := Option.map_eq_some_iff.mp e
    subst e2
    exact hw σ H _ ⟨m, a, q, R, e1, fun p vs H' m' R' s' hp r' => k _ _ m' (R'.putOwn hp r') (s'.trans (Rl.putOwnStp hp))⟩
  · obtain ⟨q, e1, e2⟩ := Option.map_eq_some_iff.mp e
    subst e2
    obtain ⟨q', e3, e4⟩ := Option.map_eq_some_iff.mp e1
    subst e4
    exact hw σ H _ ⟨m, a, q', R, e3, fun p vs H' m' R' s' hp r' => k _ _ m' ((R'.new hp).put (R'.newLst hp r')) ((s'.trans (.new hp)).trans (Rl.putStp (R'.new (o := .lst vs) hp).len))⟩
  · obtain ⟨q, e1, e2⟩ := Option.map_eq_some_iff.mp e
    subst e2
    obtain ⟨q', e3, e4⟩ := Option.map_eq_some_iff.mp e1
    subst e4
    exact hw σ H _ ⟨m, a, q', R, e3, fun p vs H' m' R' s' hp r' => k _ _ (m' ++ [p]) ((R'.layLst hp r').put R'.layRef) ((s'.trans (Rl.layStp hp)).trans (Rl.putStp (R'.layLst hp r').len))⟩
end
end
end Pyx
end
section
set_option maxRecDepth 100000
set_option maxHeartbeats 5000000
namespace Pyx
open PySem L2
open PySem.Spec PyProof.Rows

/-! ### set(xs), xs a list of whole numbers: what stands behind the call -/
section
variable {P : Program} {w : World} {A : Around}
/-- an empty set as it is made -/
abbrev mtSet (w : World) : Obj := { cls := .type "set", data := .set #[] 0 (.fresh 0 0 (!w.params.followText "set-order")), dict := none }
abbrev withMt (w : World) (s : Shared) : Shared := { s with heap := s.heap.push (mtSet w) }
/-- s' is s with the set of ns behind its objects -/
def SetBehind (w : World) (s : Shared) (ns : List Int) (s' : Shared) : Prop :=
  ∃ (h : Heap) (k c : Nat), s' = { s with heap := h, toks := k } ∧ c ≤ ns.length ∧
    SetR w h s.heap.objs.size (fun z => decide (z ∈ ns)) c ∧ ∀ b o, s.heap.get? b = some o → h.get? b = some o
theorem list_lt {h : Heap} {l : Addr} {its : Array Value} (a : h.IsList l its) : l < h.objs.size := let ⟨_, e, _⟩ := a; Heap.lt_size e
theorem put_all {s : Shared} {l : Addr} {its : Array Value} {ns : List Int} {R : Result → Shared → Prop} (free : A.in1.handled = none)
    (a : s.heap.IsList l its) (zs : IntsAre its.toList ns) (few : ns.length + 1 < scanBound) (done : ∀ s', SetBehind w s ns s' → R (.ok (.ret .none)) s') :
    codeAny (model P w) A (.builtin "set.update.loop" ⟨[.ref s.heap.objs.size, .ref (withMt w s).heap.objs.size], []⟩) R
      { withMt w s with heap := (withMt w s).heap.push { cls := .type "list_iterator", data := .fields #[.ref l, .int 0 0] } } := by
  have lt := list_lt a
  have sz : (withMt w s).heap.objs.size = s.heap.objs.size + 1 := Heap.size_push ..
  have size : its.size = ns.length := by simpa using zs.length
  have ne : l ≠ (withMt w s).heap.objs.size := Nat.ne_of_lt (by rw [sz]; exact Nat.lt_succ_of_lt lt)
  have vals : ∀ (i : Nat) (v : Value), its[i]? = some v → ∃ k t, ns[i]? = some k ∧ v = Value.int k t := by
    intro i v e
    have lt : i < ns.length := size ▸ (Array.getElem?_eq_some_iff.mp e).1
    obtain ⟨t, e'⟩ := zs.int_at i v (by simpa using e)
    exact ⟨ns[i], t, List.getElem?_eq_getElem lt, by simpa [lt] using e'⟩
  have out : s.heap.objs.size ∉ [(withMt w s).heap.objs.size, l] := by
    intro h
    rcases List.mem_cons.mp h with h | h
    · rw [sz] at h; exact Nat.succ_ne_self _ h.symm
    · exact Nat.ne_of_gt lt (List.mem_singleton.mp h)
  apply set_update_ints (Walks.list free _ l ne its).toS _ out ns size few vals its.size 0 _ (by omega) (Nat.zero_le _)
  · exact ⟨⟨_, Heap.get?_push_size _ rfl, rfl, rfl⟩, (a.push _).push _⟩
  · exact ⟨0, Nat.le_refl _, setR_new_at (Heap.get?_push_of_some _ (Heap.get?_push_size _ rfl))⟩
  · intro s' c m hc S
    refine done s' ⟨s'.heap, s'.toks, c, m.eq_with, size ▸ hc, S, fun b o e => m.heap b o (fun hb => ?_) ?_⟩
    · have l1 := Heap.lt_size e
      rcases List.mem_cons.mp hb with hb | hb
      · exact Nat.ne_of_lt l1 hb
      · exact Nat.ne_of_lt (by rw [sz]; exact Nat.lt_succ_of_lt l1) (List.mem_singleton.mp hb)
    · exact Heap.get?_push_of_some _ (Heap.get?_push_of_some _ e)
theorem init_ok {s : Shared} {l : Addr} {its : Array Value} {ns : List Int} {R : PySem.Fin → Shared → Prop} {E : Value → Shared → Prop} (free : A.handled = none)
    (a : s.heap.IsList l its) (zs : IntsAre its.toList ns) (few : ns.length + 1 < scanBound) (done : ∀ s', SetBehind w s ns s' → R (.done (.ret .none)) s') :
    wpAny (model P w) A (Builtin.«set.__init__» ⟨[.ref s.heap.objs.size] ++ [.ref l], []⟩) R E (withMt w s) := by
  have a1 : (withMt w s).heap.IsList l its := a.push _
  obtain ⟨⟨_, d, _, slots⟩, e, rfl, n, rfl⟩ := a
  have e1 : (withMt w s).heap.get? l = some { cls := .type "list", dict := d, data := .seq its n, slots := slots } := Heap.get?_push_of_some _ e
  have s1 := F.sub_list_set; have s2 := F.sub_list_frozenset
  have nd : (Value.type "list" == .type "dict") = false := by rfl
  unfold Builtin.«set.__init__» noKeywords
  unfold Builtin.Frozenset.updateFrom
  generalize eI : pyIter = it
  wp_walk
  subst eI
  apply wpAny_pyIter_list a1
  apply wpAny_bind (wpAny_runValue _)
  refine put_all (by simp [free]) ⟨_, e, rfl, n, rfl⟩ zs few fun s' h => ?_
  exact wpAny_pure (wpAny_pure (done s' h))
theorem call_set_lstI {s : Shared} {l : Addr} {its : Array Value} (ns : List Int) {Q E : Value → Shared → Prop} (free : A.handled = none)
    (a : s.heap.IsList l its) (zs : IntsAre its.toList ns) (few : ns.length + 1 < scanBound) (done : ∀ s', SetBehind w s ns s' → Q (.ref s.heap.objs.size) s') :
    wpAny (model P w) A (PySem.call (Value.type "set") [Value.ref l]) Q E s := by
  have ⟨_, _, mro⟩ := F.called_set.mro
  have c1 := F.called_set.made; have c2 := F.called_set.sub; have c3 := F.called_set.notType
  have c4 := F.called_set.canCreate; have c5 := F.typeCall_set_1 (.ref l)
  have c6 := F.called_set.init.lookup; have c7 := F.called_set.init.bind (.ref s.heap.objs.size)
  apply wpAny_call
  apply codeAny_of_tree
  show wpAny _ _ (callAny (.type "set") ⟨[.ref l], []⟩) _ _ _
  refine wpAny_pure (And.intro (Code.quiet_builtin _ (by decide +kernel)) ?_)
  refine codeAny_builtin F.entry_type_call ?_
  rw [A.under_plain (weight_type_call_type _ _ _) rfl]
  repeat any_goals first | assumption | wp_step
  refine codeAny_mono (code_set_led1 (.ref l) (E := E) (Q₁ := fun v t => v = .ref s.heap.objs.size ∧ t = withMt w s) ⟨rfl, rfl⟩) fun r t hr => ?_
  rcases r with e | f
  · exact hr
  rcases f with f | _ | _ | v
  any_goals exact hr.elim
  obtain ⟨rfl, rfl⟩ := hr
  have ty : (withMt w s).TypeIs (.ref s.heap.objs.size) "set" := ⟨_, Heap.get?_push_size _ rfl, rfl⟩
  repeat any_goals first | assumption | wp_step
  refine codeAny_mono (codeAny_call_builtin (R := wants (fun v t => v = .none ∧ SetBehind w s ns t) E) F.called_set.init.plain F.entry_set_init
    (check_set_init_1 ty (init_ok (by simp [free]) a zs few fun _ h => ⟨rfl, h⟩))) fun r t hr => ?_
  rcases r with e | f
  · exact hr
  rcases f with f | _ | _ | v
  any_goals exact hr.elim
  obtain ⟨rfl, hb⟩ := hr
  repeat any_goals first | assumption | wp_step
  exact done t hb
end
end Pyx
end
section
set_option maxRecDepth 100000
namespace Pyx
open PySem PySem.Spec PyProof.Rows L2

/-! ### sorted(set(xs)) of whole numbers: the rule -/
def insD (x : Int) : List Int → List Int
  | [] => [x]
  | y :: r => if x < y then x :: y :: r else if x = y then y :: r else y :: insD x r
def ssI : List Int → List Int
  | [] => []
  | x :: r => insD x (ssI r)
theorem insD_mem {x k : Int} : ∀ l : List Int, k ∈ insD x l ↔ k = x ∨ k ∈ l
  | [] => by simp [insD]
  | y :: r => by
    unfold insD
    split
    · simp
    · split
      · rename_i h; subst h; simp
      · rw [List.mem_cons, insD_mem r, List.mem_cons]
        constructor
        · rintro (h | h | h)
          · exact .inr (.inl h)
          · exact .inl h
          · exact .inr (.inr h)
        · rintro (h | h | h)
          · exact .inr (.inl h)
          · exact .inl h
          · exact .inr (.inr h)
theorem insD_sorted {x : Int} : ∀ l : List Int, l.Pairwise (· < ·) → (insD x l).Pairwise (· < ·)
  | [], _ => by simp [insD]
  | y :: r, h => by
    rw [List.pairwise_cons] at h
    unfold insD
    split
    · rename_i hx
      refine List.pairwise_cons.mpr ⟨fun k hk => ?_, List.pairwise_cons.mpr h⟩
      rcases List.mem_cons.mp hk with rfl | hk
      · exact hx
      · exact Int.lt_trans hx (h.1 k hk)
    · split
      · exact List.pairwise_cons.mpr h
      · refine List.pairwise_cons.mpr ⟨fun k hk => ?_, insD_sorted r h.2⟩
        rcases (insD_mem r).mp hk with rfl | hk
        · omega
        · exact h.1 k hk
theorem ssI_mem {k : Int} : ∀ l : List Int, k ∈ ssI l ↔ k ∈ l
  | [] => Iff.rfl
  | x :: r => by
    show k ∈ insD x (ssI r) ↔ _
    rw [insD_mem, ssI_mem r, List.mem_cons]
theorem ssI_sorted : ∀ l : List Int, (ssI l).Pairwise (· < ·)
  | [] => .nil
  | x :: r => insD_sorted _ (ssI_sorted r)
theorem strict_uniq : ∀ {a b : List Int}, a.Pairwise (· < ·) → b.Pairwise (· < ·) → (∀ k, k ∈ a ↔ k ∈ b) → a = b
  | [], [], _, _, _ => rfl
  | [], y :: b, _, _, h => by have := (h y).mpr List.mem_cons_self; cases this
  | x :: a, [], _, _, h => by have := (h x).mp List.mem_cons_self; cases this
  | x :: a, y :: b, ha, hb, h => by
    rw [List.pairwise_cons] at ha hb
    have e : x = y := by
      rcases List.mem_cons.mp ((h x).mp List.mem_cons_self) with e | e
      · exact e
      · rcases List.mem_cons.mp ((h y).mpr List.mem_cons_self) with e2 | e2
        · exact e2.symm
        · have h1 := hb.1 x e
          have h2 := ha.1 y e2
          omega
    subst e
    rw [strict_uniq ha.2 hb.2 fun k => ?_]
    constructor
    · intro hk
      rcases List.mem_cons.mp ((h k).mp (List.mem_cons_of_mem _ hk)) with e | e
      · have := ha.1 k hk; omega
      · exact e
    · intro hk
      rcases List.mem_cons.mp ((h k).mpr (List.mem_cons_of_mem _ hk)) with e | e
      · have := hb.1 k hk; omega
      · exact e
def rSetLI (K : PySem.W.Frag) (w : World) : List V → Hp → VK → Prop := fun vs H Q => ∃ (a : Addr) (ns : List Int), vs = [V.ref a] ∧ SqL K H a (ns.map V.int) ∧ ns.length < 64 ∧
  ∀ (p : Addr) (c : Nat), H p = none → c ≤ ns.length → Q (.ref p) (upd H p (SetO w p (fun j => decide (j ∈ ns)) c))
theorem cr_setLI {X : Cx} (hc : X.calm = true) : CallR X (.type "set") (rSetLI X.K X.w) := by
  intro pins s σ H vs us Q I r h
  obtain ⟨a, ns, rfl, hs, h64, q⟩ := h
  obtain ⟨its, rv, hl, hz⟩ := I.list hs
  rw [Vals.ref1 r]
  refine call_set_lstI ns (I.ok.hd hc) hl.isList (by simpa using rv.ints) (by unfold scanBound; omega) fun _ ⟨h', tk, c, es, hcl, hS, hk⟩ => ?_
  subst es
  exact ⟨.ref _, upd H s.heap.objs.size (SetO X.w s.heap.objs.size (fun j => decide (j ∈ ns)) c), I.laid (t' := tk) hk (Nat.le_refl _) (setO_new hS), rfl, q _ c (I.hok.fresh (Nat.le_refl _)) hcl⟩
def fSS (o : MO) : MAs := fun G a => (o G a).bind fun r => (cont r.2 r.1).bind fun c => match c with
  | .lst xs => (asInts xs).bind fun ns => if ns.length < 64 then some ((ssI ns).map .int, r.2) else none
  | _ => none
section
variable {X : Cx} {F : Hot} {G : Gm}
theorem ss_read {o : MO} {σ : L2.St} {H : Hp} {Q : VK} (h : tF X.K F G (fSS o) σ H Q) : tCB (rSortedSet X.w) (tCons (tCB (rSetLI X.K X.w) (tCons (tO X.K F G o) tNil)) tNil) σ H Q := by
  obtain ⟨m, a, r, R, e, k⟩ := h
  obtain ⟨q, e1, e⟩ := Option.bind_eq_some_iff.mp e
  obtain ⟨c, e2, e⟩ := Option.bind_eq_some_iff.mp e
  split at e
  · rename_i xs
    obtain ⟨ns, e3, e⟩ := Option.bind_eq_some_iff.mp e
    split at e
    · rename_i h64
      cases e
      have := asInts_of e3; subst this
      refine ⟨m, a, q, R, e1, fun x H1 m1 R1 s1 h1 => ?_⟩
      obtain ⟨p, vs, rfl, hs, r1⟩ := (h1.cont R1 e2).lst
      rw [r1.of_ints] at hs
      refine ⟨p, ns, rfl, hs, h64, fun p' c hp hcl => ⟨p', _, c, rfl, upd_same, by omega, fun ns' q' hs' hm hl hq => ?_⟩⟩
      have e9 : ns' = ssI ns := strict_uniq hs' (ssI_sorted ns) fun k => by rw [hm k, ssI_mem]; simp
      subst e9
      exact k q' _ _ m1 (R1.new hp) (s1.trans (.new hp)) hq (.ints _)
    · cases e
  · cases e
end
end Pyx
end
section
set_option maxRecDepth 100000
namespace Pyx
open PySem PySem.Spec PyProof.Rows L2

/-! ### from the text to the evaluator -/
/-- the names by slot, the scope's names, which cells may be stored, the marks (1: a name's own list, 2: laid into the store, 3: lent), the defs, the constants -/
structure CC where
  N : List Str
  names : List (Str × NameKind)
  fnc : Str → Bool
  marks : List ((Nat × Nat) × Nat)
  defs : List (Str × Nat)
  consts : List (Str × AV)
def idx (x : Str) : List Str → Option Nat
  | [] => none
  | y :: r => if y = x then some 0 else (idx x r).map (· + 1)
theorem idx_get {x : Str} : ∀ {N : List Str} {i : Nat}, idx x N = some i → N[i]? = some x
  | y :: r, i, h => by
    unfold idx at h
    split at h
    · rename_i e; cases h; rw [e]; rfl
    · obtain ⟨j, e1, e2⟩ := Option.map_eq_some_iff.mp h
      subst e2
      simpa using idx_get e1
  | [], _, h => by cases h
def grd {α : Type} (b : Bool) (x : Option α) : Option α := if b = true then x else none
theorem grd_of {α : Type} {b : Bool} {x : Option α} {y : α} (h : grd b x = some y) : b = true ∧ x = some y := by
  unfold grd at h
  split at h
  · exact ⟨by assumption, h⟩
  · cases h
def CC.mark (C : CC) (p : Pos) : Nat := (C.marks.lookup (p.line, p.col)).getD 0
def CC.vis (C : CC) (x : Str) : Bool := match C.names.lookup x with
  | some .local | some .cell | some .free => true
  | _ => false
def CC.loc (C : CC) (x : Str) : Bool := match C.names.lookup x with
  | some .local => true
  | some .cell => C.fnc x
  | _ => false
def CC.isLocal (C : CC) (x : Str) : Bool := match C.names.lookup x with
  | some .local => true
  | _ => false
def CC.glob (C : CC) (x : Str) : Bool := match C.names.lookup x with
  | some .globalImplicit => true
  | _ => false
def okName (x : Str) : Bool := !(x == ("__debug__" : Str)) && !(x == ("__classdict__" : Str)) && !(x == ("__name__" : Str))
def CC.var (C : CC) (x : Str) : Option Nat := grd (C.vis x && okName x) (idx x C.N)
def conOf : Const → Option AV
  | .none => some .non
  | .bool b => some (.bl b)
  | .int i => some (.int i)
  | .str x => some (.str x)
  | _ => none
/-- built-ins by name -/
structure BiE where
  isTy : Bool
  id : String
  f : Bi
structure BfE where
  isTy : Bool
  id : String
  f : BiF
def biTab : List (Str × BiE) := [("len", ⟨false, "len", biLen⟩), ("int", ⟨true, "int", biInt⟩), ("abs", ⟨false, "abs", biAbs⟩), ("sum", ⟨false, "sum", biSum⟩), ("max", ⟨false, "max", biMax⟩), ("min", ⟨false, "min", biMin⟩), ("any", ⟨false, "any", biAny⟩),
  ("all", ⟨false, "all", biAll⟩), ("tuple", ⟨true, "tuple", biTuple⟩)]
def bfTab : List (Str × BfE) := [("list", ⟨true, "list", bfList⟩), ("sorted", ⟨false, "sorted", bfSorted⟩)]
def tyTab : List (Str × String) := [("tuple", "tuple"), ("int", "int"), ("bool", "bool"), ("str", "str"), ("list", "list")]
def bltNames : List Str := ["len", "int", "abs", "sum", "max", "min", "any", "all", "tuple", "list", "sorted", "isinstance", "range", "bool", "str", "set", "enumerate", "zip"]
def opNeg : List SObj → AV → Option AV
  | _, .int i => some (.int (-i))
  | _, _ => none
def eNeg (o : MO) : ME := fun G a => (o G a).bind fun r => (cont r.2 r.1).bind fun c => (opNeg r.2.S c).map fun v => (v, r.2)
def isSlice : Expr → Bool
  | .Slice _ _ _ _ => true
  | _ => false
/-- the names of a block that are its own, with their slots -/
def ownOf (N : List Str) : List (Str × NameKind) → List (Str × Nat)
  | [] => []
  | (y, k) :: r => match k, idx y N with
    | .local, some i => (y, i) :: ownOf N r
    | .cell, some i => (y, i) :: ownOf N r
    | _, _ => ownOf N r
def blkB (N : List Str) (names : List (Str × NameKind)) (scope : Scope) (own : List (Str × Nat)) : Bool :=
  (match scope.kind with | .function => true | _ => false) && (scope.names.all fun y => decide (scope.names.lookup y.1 = some y.2)) && (own.all fun p => decide (N[p.2]? = some p.1)) &&
    (scope.names.all fun y => match y.2 with
      | .free => (match names.lookup y.1 with | some .cell => true | some .free => true | _ => false)
      | .local => decide (y.1 ∈ own.map (·.1)) || decide (y.1 ∉ N)
      | .cell => decide (y.1 ∈ own.map (·.1)) || decide (y.1 ∉ N)
      | _ => true)
def CC.blk (C : CC) (scope : Scope) : CC := { C with
  names := scope.names.map fun (n, k) => if (k == .free && C.names.lookup n == some .cell) then (n, .cell) else (n, k)
  fnc := fun x => scope.names.lookup x == some .cell }
/-- a target's slots -/
def cNs (C : CC) : List Expr → Option (List Nat)
  | [] => some []
  | .Name y _ :: es => (grd (C.loc y) (idx y C.N)).bind fun i => (cNs C es).map (i :: ·)
  | _ => none
def cTg (C : CC) : Expr → Option Tg
  | .Name y _ => (grd (C.loc y) (idx y C.N)).map .one
  | .Tuple es _ _ => (cNs C es).map .many
  | _ => none
def mTrue : MT := fun _ a => some (true, a)
/-- isinstance, or what makes a fresh list -/
def cIsi (C : CC) (x : Str) (args : List Expr) (rO : Expr → Option MO) (fr : Option ME) : Option ME := match args with
  | [e, .Name T _] => if x = ("isinstance" : Str) then grd (C.glob T && okName T && (C.defs.lookup T).isNone) ((tyTab.lookup T).bind fun s => (rO e).map (eIsi s)) else none
  | _ => fr
/-- a built-in's call -/
def cBi (C : CC) (x : Str) (args : List Expr) (b : Option BiE) (rO : Expr → Option MO) (os : Option MOs) (fr : Option ME) : Option ME := match b with
  | some b => if args.isEmpty = true then none else os.map (eBi b.f)
  | none => cIsi C x args rO fr
/-- sorted(set(e)): e -/
def setArg (C : CC) (x : Str) : Expr → Option Expr
  | .Call (.Name y _) [e] [] _ => grd (decide (x = ("sorted" : Str)) && decide (y = ("set" : Str)) && C.glob y && (C.defs.lookup y).isNone && notStar e) (some e)
  | _ => none
mutual
def cE : Nat → CC → Expr → Option ME
  | 0, _, _ => none
  | n + 1, C, .Name x _ => match C.var x with
    | some i => some (eVar i)
    | none => grd (C.glob x && okName x) ((C.consts.lookup x).map eCon)
  | n + 1, C, .Constant c _ _ => (conOf c).map eCon
  | n + 1, C, .BinOp x op y pos => if C.mark pos = 2 then (cF n C (.BinOp x op y pos)).map eLay else (binF op).bind fun f => (cO n C x).bind fun a => (cO n C y).map fun b => eBin f a b
  | n + 1, C, .UnaryOp op x _ => match op with
    | .Not => (cE n C x).map eNot
    | .USub => (cO n C x).map eNeg
    | _ => none
  | n + 1, C, .BoolOp op vs pos => match vs with
    | [x] => cE n C x
    | x :: y :: rest => (cE n C x).bind fun a => (cE n C (.BoolOp op (y :: rest) pos)).map fun b => match op with
      | .And => eAnd a b
      | .Or => eOr a b
    | [] => none
  | n + 1, C, .IfExp t x y _ => (cM n C t).bind fun c => (cE n C x).bind fun a => (cE n C y).map fun b => eIte c a b
  | n + 1, C, .Compare x ops ys _ => match ops, ys with
    | [op], [y] => grd (!behindInMarks op y) ((cmpF op).bind fun f => (cO n C x).bind fun a => (cO n C y).map fun b => eBin f a b)
    | [op, op'], [y, z] => grd (!lastMarks [op, op'] [y, z]) ((cmpF op).bind fun f => (cmpF op').bind fun f' => (cO n C x).bind fun a => (cO n C y).bind fun b => (cO n C z).map fun c => eChain f f' a b c)
    | _, _ => none
  | n + 1, C, .Tuple es _ _ => (cA n C es).map eTup
  | n + 1, C, .List es pos => (cF n C (.List es pos)).map fun f => if C.mark pos = 2 then eLay f else eFrz f
  | n + 1, C, .ListComp elt gs sc pos => (cF n C (.ListComp elt gs sc pos)).map fun f => if C.mark pos = 2 then eLay f else eFrz f
  | n + 1, C, .Subscript x i pos => match i with
    | .Slice lo hi st p2 => if C.mark pos = 2 then (cF n C (.Subscript x (.Slice lo hi st p2) pos)).map eLay else match st with
      | none => (cO n C x).bind fun o => (cP n C lo).bind fun l => (cP n C hi).map fun h => eSl o l h
      | some _ => none
    | i => (cO n C x).bind fun a => (cO n C i).map fun b => eBin opIx a b
  | n + 1, C, .Call f args kws pos => match f, kws with
    | .Name x px, [] => grd (C.glob x && okName x && args.all notStar) (match C.defs.lookup x with
      | some _ => match args with
        | [] => some (eCall x aNil)
        | e :: es => if C.mark pos = 3 then (cOs n C (e :: es)).map (eLend x) else (cA n C (e :: es)).map (eCall x)
      | none => cBi C x args (biTab.lookup x) (cO n C) (cOs n C args) ((cF n C (.Call (.Name x px) args [] pos)).map fun f => if C.mark pos = 2 then eLay f else eFrz f))
    | .Attribute o m apos, [] => grd (notCall o && args.all notStar && (apos.endLine == pos.line)) (match args with
      | [] => if m = ("pop" : Str) then (cO n C o).map ePop else none
      | [y] => if m = ("append" : Str) then (cO n C o).bind fun a => (cE n C y).map (eApp a)
        else if m = ("pop" : Str) then (cO n C o).bind fun a => (cE n C y).map (ePopAt a)
        else if m = ("index" : Str) then (cO n C o).bind fun a => (cO n C y).map (eSeqM idxA [1, 2] a)
        else if m = ("count" : Str) then (cO n C o).bind fun a => (cO n C y).map (eSeqM cntA [1] a)
        else none
      | _ => none)
    | _, _ => none
  | _ + 1, _, _ => none
def cO : Nat → CC → Expr → Option MO
  | 0, _, _ => none
  | n + 1, C, .Name x p => match C.var x with
    | some i => some (oVar i)
    | none => (cE n C (.Name x p)).map oE
  | n + 1, C, e => (cE n C e).map oE
def cF : Nat → CC → Expr → Option MAs
  | 0, _, _ => none
  | n + 1, C, .List es _ => (cA n C es).map fLst
  | n + 1, C, .BinOp x op y _ => match op with
    | .Add => (cO n C x).bind fun a => (cO n C y).map fun b => fCat a b
    | _ => none
  | n + 1, C, .Subscript x i _ => match i with
    | .Slice lo hi none _ => (cO n C x).bind fun o => (cP n C lo).bind fun l => (cP n C hi).map fun h => fSl o l h
    | _ => none
  | n + 1, C, .Call f args kws _ => match f, kws, args with
    | .Name x _, [], [e] => grd (C.glob x && okName x && notStar e && (C.defs.lookup x).isNone) (match setArg C x e with
      | some e2 => (cO n C e2).map fSS
      | none => (bfTab.lookup x).bind fun b => (cOs n C [e]).map (fBi b.f))
    | _, _, _ => none
  | n + 1, C, .ListComp elt gs sc _ => match gs with
    | [⟨tg, it, ifs, asy⟩] => grd (asy == 0 && blkB C.N C.names sc (ownOf C.N sc.names) && notSet it) ((cTg (C.blk sc) tg).bind fun t => grd (t.slots.all fun i => decide (i ∈ (ownOf C.N sc.names).map Prod.snd)) ((cE n (C.blk sc) elt).bind fun me => (match ifs with
        | [] => some mTrue
        | [c] => cM n (C.blk sc) c
        | _ => none).bind fun tst => match it with
          | .Call (.Name r _) args [] _ => if r = ("range" : Str) then grd (C.glob r && (C.defs.lookup r).isNone) (match args with
              | [x] => grd (notStar x) ((cA n C [x]).map fun u => fCompR asR1 u ((ownOf C.N sc.names).map Prod.snd) t tst me)
              | [x, y] => grd (notStar x && notStar y) ((cA n C [x, y]).map fun u => fCompR asR2 u ((ownOf C.N sc.names).map Prod.snd) t tst me)
              | _ => none) else (cE n C it).map fun e => fComp e ((ownOf C.N sc.names).map Prod.snd) t tst me
          | _ => (cE n C it).map fun e => fComp e ((ownOf C.N sc.names).map Prod.snd) t tst me))
    | _ => none
  | _ + 1, _, _ => none
def cM : Nat → CC → Expr → Option MT
  | 0, _, _ => none
  | n + 1, C, .UnaryOp op x _ => match op with
    | .Not => (cM n C x).map mNot
    | _ => none
  | n + 1, C, .BoolOp op vs _ => cW n C op vs
  | n + 1, C, .IfExp _ _ _ _ => none
  | n + 1, C, .Compare x ops ys _ => match ops, ys with
    | [op], [y] => grd (!behindInMarks op y) ((cmpF op).bind fun f => (cO n C x).bind fun a => (cO n C y).map fun b => mBool (eBin f a b))
    | [op, op'], [y, z] => grd (!lastMarks [op, op'] [y, z]) ((cmpF op).bind fun f => (cmpF op').bind fun f' => (cO n C x).bind fun a => (cO n C y).bind fun b => (cO n C z).map fun c => mBool (eChain f f' a b c))
    | _, _ => none
  | n + 1, C, e => (cO n C e).map mTru
def cW : Nat → CC → BoolOp → List Expr → Option MT
  | 0, _, _, _ => none
  | n + 1, C, op, vs => match vs with
    | [x] => cM n C x
    | x :: y :: rest => (cM n C x).bind fun a => (cW n C op (y :: rest)).map fun b => match op with
      | .And => mAnd a b
      | .Or => mOr a b
    | [] => none
def cA : Nat → CC → List Expr → Option MAs
  | 0, _, _ => none
  | n + 1, C, es => match es with
    | [] => some aNil
    | e :: es => grd (notStar e) ((cE n C e).bind fun a => (cA n C es).map fun b => aCons a b)
def cOs : Nat → CC → List Expr → Option MOs
  | 0, _, _ => none
  | n + 1, C, es => match es with
    | [] => some osNil
    | e :: es => grd (notStar e) ((cO n C e).bind fun a => (cOs n C es).map fun b => osCons a b)
def cP : Nat → CC → Option Expr → Option MP
  | 0, _, _ => none
  | n + 1, C, e => match e with
    | none => some pNone
    | some e => (cE n C e).map pSome
end
end Pyx
end
section
set_option maxRecDepth 100000
namespace Pyx
open PySem PySem.Spec PyProof.Rows L2

structure Good (G : Gm) (d : Nat) (C : CC) (X : Cx) : Prop where
  calm : X.calm = true
  xe : X.xe = fun _ _ => False
  N : X.N = C.N
  nd : X.N.Nodup
  kind : X.env.scope.kind = .function
  names : X.env.scope.names = C.names
  fnc : ∀ x, C.fnc x = true → X.fn x = true
  room : Room d X.A
  blt : ∀ x ∈ bltNames, X.mg x = none
  fns : ∀ p ∈ C.defs, FnG X G d p.1 p.2
  con : ∀ p ∈ C.consts, ∃ u xv, X.mg p.1 = some u ∧ RelV xv u ∧ ConV X.K xv p.2

theorem lookup_mem {α : Type} : ∀ {l : List (Str × α)} {x : Str} {v : α}, l.lookup x = some v → (x, v) ∈ l
  | (y, w) :: r, x, v, h => by
    rw [List.lookup_cons] at h
    split at h
    · rename_i e
      cases h
      rw [eq_of_beq e]
      exact List.mem_cons_self
    · exact List.mem_cons_of_mem _ (lookup_mem h)
  | [], _, _, h => by cases h
section
variable {G : Gm} {d : Nat} {C : CC} {X : Cx} {F : Hot}
theorem Good.vis (g : Good G d C X) {x : Str} (h : C.vis x = true) : Vis X.env.scope x := by
  unfold Vis
  rw [g.names]
  unfold CC.vis at h
  split at h
  · rename_i e; exact .inl e
  · rename_i e; exact .inr (.inl e)
  · rename_i e; exact .inr (.inr e)
  · cases h
theorem Good.glob (g : Good G d C X) {x : Str} (h : C.glob x = true) : Gl X x := by
  show X.env.scope.names.lookup x = _
  rw [g.names]
  unfold CC.glob at h
  split at h
  · assumption
  · cases h
theorem Good.locV (g : Good G d C X) {x : Str} (h : C.loc x = true) : Loc X.env.scope x ∧ (X.fn x = true ∨ X.env.scope.names.lookup x = some .local) := by
  unfold L2.Loc
  rw [g.names]
  unfold CC.loc at h
  split at h
  · rename_i e; exact ⟨.inl e, .inr e⟩
  · rename_i e; exact ⟨.inr e, .inl (g.fnc x h)⟩
  · cases h
theorem okName_of {x : Str} (h : okName x = true) : (x == ("__debug__" : Str)) = false ∧ (x == ("__classdict__" : Str)) = false ∧ x ≠ "__name__" := by
  unfold okName at h
  simp only [Bool.and_eq_true, Bool.not_eq_true'] at h
  refine ⟨h.1.1, h.1.2, fun e => ?_⟩
  have := h.2
  rw [e] at this
  simp at this
theorem CC.var_of {x : Str} {i : Nat} (h : C.var x = some i) : C.vis x = true ∧ okName x = true ∧ C.N[i]? = some x := by
  obtain ⟨h1, h2⟩ := grd_of h
  rw [Bool.and_eq_true] at h1
  exact ⟨h1.1, h1.2, idx_get h2⟩
theorem Good.pvO (g : Good G d C X) {x : Str} {i : Nat} {p : Pos} (h : C.var x = some i) : PE X (.Name x p) (tO X.K F G (oVar i)) := by
  obtain ⟨h1, h2, h3⟩ := CC.var_of h
  obtain ⟨o1, o2, _⟩ := okName_of h2
  exact pe_oVar (by rw [g.N]; exact h3) (g.vis h1) o1 o2
theorem Good.pvE (g : Good G d C X) {x : Str} {i : Nat} {p : Pos} (h : C.var x = some i) : PE X (.Name x p) (tE X.K F G (eVar i)) := by
  obtain ⟨h1, h2, h3⟩ := CC.var_of h
  obtain ⟨o1, o2, _⟩ := okName_of h2
  exact pe_eVar (by rw [g.N]; exact h3) (g.vis h1) o1 o2
theorem Good.hu (g : Good G d C X) : X.A.units + 100 < cLine := by
  have := g.room.un
  omega
theorem plainIx {b : Expr} (h : isSlice b = false) : PlainIx b := fun o i => by cases b <;> first | rfl | cases h
theorem isTrue_plain {x : Expr} {env : Env} (h : (match x with | .UnaryOp .Not _ _ | .BoolOp _ _ _ | .IfExp _ _ _ _ | .Compare _ _ _ _ => false | _ => true) = true) (whole : Sem Value) :
    isTrue x env whole = (do let v ← whole; standAt x.pos; holding [v] (truthy v)) := by
  cases x with
  | UnaryOp op e p => cases op <;> first | rfl | cases h
  | BoolOp _ _ _ => cases h
  | IfExp _ _ _ _ => cases h
  | Compare _ _ _ _ => cases h
  | _ => rfl
theorem biTab_ok (g : Good G d C X) : ∀ {x : Str} {b : BiE}, biTab.lookup x = some b → X.mg x = none ∧ ((b.isTy = true ∧ bootBuiltins x = some (.type b.id) ∧ CallR X (.type b.id) (rCa X.K b.f)) ∨ (b.isTy = false ∧ bootBuiltins x = some (.builtin b.id) ∧ CallR X (.builtin b.id) (rCa X.K b.f))) := by
  intro x b h
  have h' := lookup_mem h
  simp only [biTab, List.mem_cons, Prod.mk.injEq, List.not_mem_nil, or_false] at h'
  rcases h' with ⟨rfl, rfl⟩ | ⟨rfl, rfl⟩ | ⟨rfl, rfl⟩ | ⟨rfl, rfl⟩ | ⟨rfl, rfl⟩ | ⟨rfl, rfl⟩ | ⟨rfl, rfl⟩ | ⟨rfl, rfl⟩ | ⟨rfl, rfl⟩ <;> refine ⟨g.blt _ (by decide), ?_⟩
  · exact .inr ⟨rfl, by decide +kernel, biLen_ok⟩
  · exact .inl ⟨rfl, by decide +kernel, biInt_ok⟩
  · exact .inr ⟨rfl, by decide +kernel, biAbs_ok⟩
  · exact .inr ⟨rfl, by decide +kernel, biSum_ok g.calm⟩
  · exact .inr ⟨rfl, by decide +kernel, biMax_ok g.calm g.hu⟩
  · exact .inr ⟨rfl, by decide +kernel, biMin_ok g.calm⟩
  · exact .inr ⟨rfl, by decide +kernel, biAny_ok g.calm⟩
  · exact .inr ⟨rfl, by decide +kernel, biAll_ok g.calm⟩
  · exact .inl ⟨rfl, by decide +kernel, biTuple_ok⟩
theorem bfTab_ok (g : Good G d C X) : ∀ {x : Str} {b : BfE}, bfTab.lookup x = some b → X.mg x = none ∧ ((b.isTy = true ∧ bootBuiltins x = some (.type b.id) ∧ CallR X (.type b.id) (rCaF X.K b.f)) ∨ (b.isTy = false ∧ bootBuiltins x = some (.builtin b.id) ∧ CallR X (.builtin b.id) (rCaF X.K b.f))) := by
  intro x b h
  have h' := lookup_mem h
  simp only [bfTab, List.mem_cons, Prod.mk.injEq, List.not_mem_nil, or_false] at h'
  rcases h' with ⟨rfl, rfl⟩ | ⟨rfl, rfl⟩ <;> refine ⟨g.blt _ (by decide), ?_⟩
  · exact .inl ⟨rfl, by decide +kernel, bfList_ok⟩
  · exact .inr ⟨rfl, by decide +kernel, bfSorted_ok⟩
theorem tyTab_ok {x : Str} {s : String} (h : tyTab.lookup x = some s) : x ∈ bltNames ∧ bootBuiltins x = some (.type s) ∧ isiOk s = true := by
  have h' := lookup_mem h
  simp only [tyTab, List.mem_cons, Prod.mk.injEq, List.not_mem_nil, or_false] at h'
  rcases h' with ⟨rfl, rfl⟩ | ⟨rfl, rfl⟩ | ⟨rfl, rfl⟩ | ⟨rfl, rfl⟩ | ⟨rfl, rfl⟩ <;> exact ⟨by decide, by decide +kernel, by decide⟩
theorem pe_callBi {r : List V → Hp → VK → Prop} {x : Str} {p pos : Pos} {e : Expr} {es : List Expr} {t : TA} {b : Bool} {id : String} (h : (b = true ∧ bootBuiltins x = some (.type id) ∧ CallR X (.type id) r) ∨ (b = false ∧ bootBuiltins x = some (.builtin id) ∧ CallR X (.builtin id) r))
    (hg : Gl X x) (hm : X.mg x = none) (ho : okName x = true) (ha : PA X (e :: es) t) (hs : (e :: es).all notStar = true) : PE X (.Call (.Name x p) (e :: es) [] pos) (tCB r t) := by
  obtain ⟨o1, _, o3⟩ := okName_of ho
  rw [List.all_cons, Bool.and_eq_true] at hs
  rcases h with ⟨_, h1, h2⟩ | ⟨_, h1, h2⟩
  · exact pe_callTy h2 hg hm h1 ha o3 o1 (star_cons hs.1) (star_any hs.2)
  · exact pe_callB h2 hg hm h1 ha o3 o1 (star_cons hs.1) (star_any hs.2)
theorem pe_eNeg {x : Expr} {o : MO} {pos : Pos} (h : PE X x (tO X.K F G o)) : PE X (.UnaryOp .USub x pos) (tE X.K F G (eNeg o)) := by
  refine (pe_un un_neg h).weak fun σ H Q ⟨m, a, r, R, e, k⟩ => ?_
  obtain ⟨q, e1, e⟩ := Option.bind_eq_some_iff.mp e
  obtain ⟨c, e2, e⟩ := Option.bind_eq_some_iff.mp e
  obtain ⟨v, e3, e4⟩ := Option.map_eq_some_iff.mp e
  subst e4
  refine ⟨m, a, q, R, e1, fun x H' m' R' s r' => ?_⟩
  have b := r'.cont R' e2
  cases c <;> cases e3
  rw [b.int]
  exact ⟨_, rfl, k _ H' m' R' s (.int _)⟩
theorem conOf_ok {c : Const} {v : AV} {k : Nat} {p : Pos} (h : conOf c = some v) : PE X (.Constant c k p) (tE X.K F G (eCon v)) := by
  cases c <;> cases h
  · exact pe_con pe_non fun _ _ _ => .non
  · exact pe_con pe_bl fun _ _ _ => .bl _
  · exact pe_con pe_int fun _ _ _ => .int _
  · exact pe_con pe_str fun _ _ _ => .str _
theorem pts_true : PTs X [] (xM X.K G mTrue) := ⟨fun pins s σ H Q I ⟨F, m, a, r, R, e, k⟩ => by
  cases e
  exact pts_nil.run pins s σ H Q I (k H m R .refl)⟩
theorem Good.tg (g : Good G d C X) : ∀ {es : List Expr} {is : List Nat}, cNs C es = some is → NamesAt X es is
  | [], _, h => by cases h; trivial
  | .Name y p :: es, is, h => by
    obtain ⟨i, h1, h2⟩ := Option.bind_eq_some_iff.mp h
    obtain ⟨js, h3, h4⟩ := Option.map_eq_some_iff.mp h2
    subst h4
    obtain ⟨h5, h6⟩ := grd_of h1
    obtain ⟨h7, h8⟩ := g.locV h5
    exact ⟨by rw [g.N]; exact idx_get h6, h7, h8, g.tg h3⟩
theorem Good.tgt (g : Good G d C X) {e : Expr} {t : Tg} (h : cTg C e = some t) : TgOk X e t := by
  cases e with
  | Name y p =>
    obtain ⟨i, h1, h2⟩ := Option.map_eq_some_iff.mp h
    subst h2
    obtain ⟨h5, h6⟩ := grd_of h1
    obtain ⟨h7, h8⟩ := g.locV h5
    exact ⟨by rw [g.N]; exact idx_get h6, h7, h8, trivial⟩
  | Tuple es k p =>
    obtain ⟨is, h1, h2⟩ := Option.map_eq_some_iff.mp h
    subst h2
    exact g.tg h1
  | _ => cases h
/-- the block of a comprehension -/
theorem Good.blk (g : Good G d C X) {scope : Scope} (hk : scope.kind = .function) (s : Shared) (H : Hp) (Cc : Addr) (cl : List (Str × Addr)) (fp : List Addr) : Good G d (C.blk scope) (X.blk s H scope (compEnvC scope cl Cc X.env) fp) where
  calm := g.calm
  xe := rfl
  N := g.N
  nd := g.nd
  kind := hk
  names := by
    show (relabel scope X.env).names = _
    unfold relabel CC.blk
    simp only
    congr 1
    funext ⟨n, k⟩
    have e1 : (X.env.scope.kind == ScopeKind.function) = true := by rw [g.kind]; rfl
    have e2 : X.env.kindOf n = C.names.lookup n := by show X.env.scope.names.lookup n = _; rw [g.names]
    rw [e1, e2, Bool.and_true]
  fnc := fun x h => h
  room := g.room
  blt := g.blt
  fns := fun p hp => let ⟨h1, h2⟩ := g.fns p hp; ⟨h1, h2⟩
  con := g.con
theorem blkB_ok (g : Good G d C X) {scope : Scope} {own : List (Str × Nat)} (h : blkB C.N C.names scope own = true) : BlkOk X.N X.env.scope scope own := by
  apply blkOk_by
  unfold blkC
  rw [g.N, g.names]
  exact h
end
end Pyx
end
section
set_option maxRecDepth 100000
namespace Pyx
open PySem PySem.Spec PyProof.Rows L2

structure Snd (G : Gm) (d : Nat) (n : Nat) : Prop where
  e : ∀ {C : CC} {X : Cx} {F : Hot}, Good G d C X → ∀ {x : Expr} {me : ME}, cE n C x = some me → PE X x (tE X.K F G me)
  o : ∀ {C : CC} {X : Cx} {F : Hot}, Good G d C X → ∀ {x : Expr} {mo : MO}, cO n C x = some mo → PE X x (tO X.K F G mo)
  f : ∀ {C : CC} {X : Cx} {F : Hot}, Good G d C X → ∀ {x : Expr} {mf : MAs}, cF n C x = some mf → PE X x (tF X.K F G mf)
  m : ∀ {C : CC} {X : Cx} {F : Hot}, Good G d C X → ∀ {x : Expr} {mt : MT}, cM n C x = some mt → PT X x (tM X.K F G mt)
  w : ∀ {C : CC} {X : Cx} {F : Hot}, Good G d C X → ∀ {op : BoolOp} {vs : List Expr} {p : Pos} {mt : MT}, cW n C op vs = some mt → PW X (.BoolOp op vs p) (tM X.K F G mt)
  a : ∀ {C : CC} {X : Cx} {F : Hot}, Good G d C X → ∀ {es : List Expr} {ma : MAs}, cA n C es = some ma → PA X es (tAs X.K F G ma)
  s : ∀ {C : CC} {X : Cx} {F : Hot}, Good G d C X → ∀ {es : List Expr} {ma : MOs}, cOs n C es = some ma → PA X es (tOs X.K F G ma)
  p : ∀ {C : CC} {X : Cx} {F : Hot}, Good G d C X → ∀ {x : Option Expr} {mp : MP}, cP n C x = some mp → PO X x (tP X.K F G mp)
section
variable {G : Gm} {d n : Nat} {C : CC} {X : Cx} {F : Hot}
theorem snd_o (S : Snd G d n) (g : Good G d C X) {x : Expr} {mo : MO} (h : cO (n + 1) C x = some mo) : PE X x (tO X.K F G mo) := by
  have gen : ∀ {x : Expr}, ((cE n C x).map oE) = some mo → PE X x (tO X.K F G mo) := fun h => by
    obtain ⟨e, h1, h2⟩ := Option.map_eq_some_iff.mp h
    subst h2
    exact pe_oE (S.e g h1)
  cases x with
  | Name y p =>
    have h' : (match C.var y with | some i => some (oVar i) | none => (cE n C (.Name y p)).map oE) = some mo := h
    split at h'
    · rename_i i hi
      cases h'
      exact g.pvO hi
    · exact gen h'
  | _ => exact gen h
theorem snd_a (S : Snd G d n) (g : Good G d C X) {es : List Expr} {ma : MAs} (h : cA (n + 1) C es = some ma) : PA X es (tAs X.K F G ma) := by
  cases es with
  | nil => cases h; exact pa_aNil
  | cons e es =>
    obtain ⟨h1, h2⟩ := grd_of h
    obtain ⟨a, h3, h4⟩ := Option.bind_eq_some_iff.mp h2
    obtain ⟨b, h5, h6⟩ := Option.map_eq_some_iff.mp h4
    subst h6
    exact pa_aCons (S.e g h3) (S.a g h5) (star_cons h1)
theorem snd_s (S : Snd G d n) (g : Good G d C X) {es : List Expr} {ma : MOs} (h : cOs (n + 1) C es = some ma) : PA X es (tOs X.K F G ma) := by
  cases es with
  | nil => cases h; exact pa_osNil
  | cons e es =>
    obtain ⟨h1, h2⟩ := grd_of h
    obtain ⟨a, h3, h4⟩ := Option.bind_eq_some_iff.mp h2
    obtain ⟨b, h5, h6⟩ := Option.map_eq_some_iff.mp h4
    subst h6
    exact pa_osCons (S.o g h3) (S.s g h5) (star_cons h1)
theorem snd_p (S : Snd G d n) (g : Good G d C X) {x : Option Expr} {mp : MP} (h : cP (n + 1) C x = some mp) : PO X x (tP X.K F G mp) := by
  cases x with
  | none => cases h; exact po_pNone
  | some e =>
    obtain ⟨a, h1, h2⟩ := Option.map_eq_some_iff.mp (show (cE n C e).map pSome = some mp from h)
    subst h2
    exact po_pSome (S.e g h1)
theorem snd_w (S : Snd G d n) (g : Good G d C X) {op : BoolOp} {vs : List Expr} {p : Pos} {mt : MT} (h : cW (n + 1) C op vs = some mt) : PW X (.BoolOp op vs p) (tM X.K F G mt) := by
  match vs, h with
  | [x], h =>
    have h' : cM n C x = some mt := h
    cases op
    · exact pw_and1 (S.m g h')
    · exact pw_or1 (S.m g h')
  | x :: y :: rest, h =>
    obtain ⟨a, h1, h2⟩ := Option.bind_eq_some_iff.mp h
    obtain ⟨b, h3, h4⟩ := Option.map_eq_some_iff.mp h2
    subst h4
    cases op
    · exact pw_mAnd (S.m g h1) (S.w g h3)
    · exact pw_mOr (S.m g h1) (S.w g h3)
theorem snd_m (S : Snd G d n) (g : Good G d C X) {x : Expr} {mt : MT} (h : cM (n + 1) C x = some mt) : PT X x (tM X.K F G mt) := by
  have gen : ∀ {x : Expr}, (∀ whole, isTrue x X.env whole = (do let v ← whole; standAt x.pos; holding [v] (truthy v))) → ((cO n C x).map mTru) = some mt → PT X x (tM X.K F G mt) := fun he h => by
    obtain ⟨e, h1, h2⟩ := Option.map_eq_some_iff.mp h
    subst h2
    exact pt_mTru (S.o g h1) he
  cases x with
  | UnaryOp op y p =>
    cases op with
    | Not =>
      obtain ⟨a, h1, h2⟩ := Option.map_eq_some_iff.mp (show (cM n C y).map mNot = some mt from h)
      subst h2
      exact pt_mNot (S.m g h1)
    | _ => cases h
  | BoolOp op vs p => exact (S.w (p := p) g (show cW n C op vs = some mt from h)).pt
  | IfExp _ _ _ _ => cases h
  | Compare x ops ys p =>
    match ops, ys, h with
    | [op], [y], h =>
      obtain ⟨h1, h2⟩ := grd_of h
      obtain ⟨f, h3, h4⟩ := Option.bind_eq_some_iff.mp h2
      obtain ⟨a, h5, h6⟩ := Option.bind_eq_some_iff.mp h4
      obtain ⟨b, h7, h8⟩ := Option.map_eq_some_iff.mp h6
      subst h8
      exact pt_cmp2 g.hu h3 (S.o g h5) (S.o g h7) (by simpa using h1)
    | [op, op'], [y, z], h =>
      obtain ⟨h1, h2⟩ := grd_of h
      obtain ⟨f, h3, h4⟩ := Option.bind_eq_some_iff.mp h2
      obtain ⟨f', h3', h4⟩ := Option.bind_eq_some_iff.mp h4
      obtain ⟨a, h5, h6⟩ := Option.bind_eq_some_iff.mp h4
      obtain ⟨b, h7, h8⟩ := Option.bind_eq_some_iff.mp h6
      obtain ⟨c, h9, h10⟩ := Option.map_eq_some_iff.mp h8
      subst h10
      exact pt_chn g.hu h3 h3' (S.o g h5) (S.o g h7) (S.o g h9) (by simpa using h1)
  | _ => exact gen (isTrue_plain rfl) h
theorem snd_f (S : Snd G d n) (g : Good G d C X) {x : Expr} {mf : MAs} (h : cF (n + 1) C x = some mf) : PE X x (tF X.K F G mf) := by
  cases x with
  | List es p =>
    obtain ⟨a, h1, h2⟩ := Option.map_eq_some_iff.mp (show (cA n C es).map fLst = some mf from h)
    subst h2
    exact pe_fLst (S.a g h1)
  | BinOp x op y p =>
    cases op with
    | Add =>
      obtain ⟨a, h1, h2⟩ := Option.bind_eq_some_iff.mp (show ((cO n C x).bind fun a => (cO n C y).map fun b => fCat a b) = some mf from h)
      obtain ⟨b, h3, h4⟩ := Option.map_eq_some_iff.mp h2
      subst h4
      exact pe_fCat (S.o g h1) (S.o g h3)
    | _ => cases h
  | Subscript x i p =>
    cases i with
    | Slice lo hi st p2 =>
      cases st with
      | none =>
        obtain ⟨a, h1, h2⟩ := Option.bind_eq_some_iff.mp (show ((cO n C x).bind fun o => (cP n C lo).bind fun l => (cP n C hi).map fun h => fSl o l h) = some mf from h)
        obtain ⟨b, h3, h4⟩ := Option.bind_eq_some_iff.mp h2
        obtain ⟨c, h5, h6⟩ := Option.map_eq_some_iff.mp h4
        subst h6
        exact pe_fSl (S.o g h1) (S.p g h3) (S.p g h5)
      | some _ => cases h
    | _ => cases h
  | Call f args kws p =>
    match f, kws, args, h with
    | .Name x px, [], [e], h =>
      obtain ⟨h1, h2⟩ := grd_of h
      simp only [Bool.and_eq_true] at h1
      cases hsa : setArg C x e with
      | some e2 =>
        rw [hsa] at h2
        obtain ⟨mo, h3, h4⟩ := Option.map_eq_some_iff.mp (show (cO n C e2).map fSS = some mf from h2)
        subst h4
        unfold setArg at hsa
        split at hsa
        · rename_i y py e0 pe
          obtain ⟨q1, q2⟩ := grd_of hsa
          cases q2
          simp only [Bool.and_eq_true, decide_eq_true_eq] at q1
          obtain ⟨⟨⟨⟨rfl, rfl⟩, q3⟩, _⟩, q4⟩ := q1
          have inner : PE X (.Call (.Name "set" py) [e2] [] pe) (tCB (rSetLI X.K X.w) (tCons (tO X.K F G mo) tNil)) :=
            pe_callTy (cr_setLI g.calm) (g.glob q3) (g.blt "set" (by decide)) (by decide +kernel) (pa_cons (S.o g h3) pa_nil (star_cons q4)) (by decide) (by decide) (star_cons q4)
          exact (pe_callB (cr_sortedSet g.calm) (g.glob h1.1.1.1) (g.blt "sorted" (by decide)) (by decide +kernel) (pa_cons inner pa_nil) (by decide) (by decide)).weak fun _ _ _ => ss_read
        · cases hsa
      | none =>
      rw [hsa] at h2
      have h2 : ((bfTab.lookup x).bind fun b => (cOs n C [e]).map (fBi b.f)) = some mf := h2
      obtain ⟨b, h3, h4⟩ := Option.bind_eq_some_iff.mp h2
      obtain ⟨os, h5, h6⟩ := Option.map_eq_some_iff.mp h4
      subst h6
      obtain ⟨hm, hb⟩ := bfTab_ok g h3
      exact (pe_callBi hb (g.glob h1.1.1.1) hm h1.1.1.2 (S.s g h5) (by simp [h1.1.2])).weak fun _ _ _ => fbi_read
  | ListComp elt gs sc p =>
    match gs, h with
    | [⟨tg, it, ifs, asy⟩], h =>
      obtain ⟨h1, h2⟩ := grd_of h
      simp only [Bool.and_eq_true, beq_iff_eq] at h1
      obtain ⟨⟨h1a, h1b⟩, h1c⟩ := h1
      subst h1a
      obtain ⟨t, h3, h4⟩ := Option.bind_eq_some_iff.mp h2
      obtain ⟨h5, h6⟩ := grd_of h4
      obtain ⟨me, h7, h8⟩ := Option.bind_eq_some_iff.mp h6
      obtain ⟨tst, h9, h10⟩ := Option.bind_eq_some_iff.mp h8
      have hk : sc.kind = .function := by
        unfold blkB at h1b
        simp only [Bool.and_eq_true] at h1b
        have := h1b.1.1.1
        split at this
        · assumption
        · cases this
      have B : BlkG X G sc (ownOf C.N sc.names) tg ifs elt t tst me := by
        refine ⟨blkB_ok g h1b, fun s H Cc cl fp => pg_xG (g.blk hk s H Cc cl fp).calm (g.blk hk s H Cc cl fp).nd ((g.blk hk s H Cc cl fp).tgt h3), fun s H Cc cl fp => ?_, fun s H Cc cl fp => pe_xE fun F => S.e (g.blk hk s H Cc cl fp) h7, fun i hi => ?_⟩
        · match ifs, h9 with
          | [], h9 => cases h9; exact pts_true
          | [c], h9 => exact pts_one (pt_xM fun F => S.m (g.blk hk s H Cc cl fp) h9)
        · have := List.all_eq_true.mp h5 i hi
          exact of_decide_eq_true this
      have gen : ∀ {it : Expr}, notSet it = true → ((cE n C it).map fun e => fComp e ((ownOf C.N sc.names).map Prod.snd) t tst me) = some mf → PE X (.ListComp elt [⟨tg, it, ifs, 0⟩] sc p) (tF X.K F G mf) := fun hs h => by
        obtain ⟨e, q1, q2⟩ := Option.map_eq_some_iff.mp h
        subst q2
        exact pe_fComp g.calm g.nd (S.e g q1) B hs
      split at h10
      · rename_i r pr args pc
        split at h10
        · rename_i hr
          subst hr
          obtain ⟨h11, h12⟩ := grd_of h10
          rw [Bool.and_eq_true] at h11
          have gr := g.glob h11.1
          have mr := g.blt "range" (by decide)
          match args, h12 with
          | [x], h12 =>
            obtain ⟨h13, h14⟩ := grd_of h12
            obtain ⟨u, h15, h16⟩ := Option.map_eq_some_iff.mp h14
            subst h16
            exact pe_fCompR1 g.calm g.nd gr mr (S.a g h15) h13 B
          | [x, y], h12 =>
            obtain ⟨h13, h14⟩ := grd_of h12
            rw [Bool.and_eq_true] at h13
            obtain ⟨u, h15, h16⟩ := Option.map_eq_some_iff.mp h14
            subst h16
            exact pe_fCompR2 g.calm g.nd gr mr (S.a g h15) h13.1 h13.2 B
        · exact gen h1c h10
      · exact gen h1c h10
  | _ => cases h
theorem snd_e (S : Snd G d n) (g : Good G d C X) {x : Expr} {me : ME} (h : cE (n + 1) C x = some me) : PE X x (tE X.K F G me) := by
  have fresh : ∀ {x : Expr} {b : Bool}, ((cF n C x).map fun f => if b = true then eLay f else eFrz f) = some me → PE X x (tE X.K F G me) := fun {x b} h => by
    obtain ⟨f, h1, h2⟩ := Option.map_eq_some_iff.mp h
    subst h2
    cases b
    · exact pe_eFrz (S.f g h1)
    · exact pe_eLay (S.f g h1)
  have fresh' : ∀ {x : Expr} {k : Nat}, ((cF n C x).map fun f => if k = 2 then eLay f else eFrz f) = some me → PE X x (tE X.K F G me) := fun {x k} h => by
    apply fresh (b := decide (k = 2))
    rw [← h]
    congr 1
    funext f
    by_cases e : k = 2 <;> simp [e]
  have isi : ∀ {x : Str} {px pos : Pos} {args : List Expr}, Gl X x → args.all notStar = true → cIsi C x args (cO n C) ((cF n C (.Call (.Name x px) args [] pos)).map fun f => if C.mark pos = 2 then eLay f else eFrz f) = some me → PE X (.Call (.Name x px) args [] pos) (tE X.K F G me) := by
    intro x px pos args gl hs h2
    unfold cIsi at h2
    split at h2
    · split at h2
      · rename_i hx
        subst hx
        obtain ⟨h3, h4⟩ := grd_of h2
        simp only [Bool.and_eq_true] at h3
        obtain ⟨s, h5, h6⟩ := Option.bind_eq_some_iff.mp h4
        obtain ⟨o, h7, h8⟩ := Option.map_eq_some_iff.mp h6
        subst h8
        obtain ⟨t1, t2, t3⟩ := tyTab_ok h5
        obtain ⟨o1, o2, o3⟩ := okName_of h3.1.2
        rw [List.all_cons, Bool.and_eq_true] at hs
        exact pe_eIsi t3 gl (g.blt _ (by decide)) (g.glob h3.1.1) (g.blt _ t1) t2 o3 o1 (S.o g h7) hs.1
      · cases h2
    · exact fresh' h2
  cases x with
  | Name y p =>
    have h' : (match C.var y with | some i => some (eVar i) | none => grd (C.glob y && okName y) ((C.consts.lookup y).map eCon)) = some me := h
    split at h'
    · rename_i i hi
      cases h'
      exact g.pvE hi
    · obtain ⟨h1, h2⟩ := grd_of h'
      rw [Bool.and_eq_true] at h1
      obtain ⟨v, h3, h4⟩ := Option.map_eq_some_iff.mp h2
      subst h4
      obtain ⟨u, xv, c1, c2, c3⟩ := g.con _ (lookup_mem h3)
      exact pe_con (pe_glob (g.glob h1.1) c1 c2 (okName_of h1.2).1) c3
  | Constant c k p =>
    obtain ⟨v, h1, h2⟩ := Option.map_eq_some_iff.mp (show (conOf c).map eCon = some me from h)
    subst h2
    exact conOf_ok h1
  | BinOp x op y pos =>
    have h' : (if C.mark pos = 2 then (cF n C (.BinOp x op y pos)).map eLay else (binF op).bind fun f => (cO n C x).bind fun a => (cO n C y).map fun b => eBin f a b) = some me := h
    split at h'
    · obtain ⟨f, h1, h2⟩ := Option.map_eq_some_iff.mp h'
      subst h2
      exact pe_eLay (S.f g h1)
    · obtain ⟨f, h1, h2⟩ := Option.bind_eq_some_iff.mp h'
      obtain ⟨a, h3, h4⟩ := Option.bind_eq_some_iff.mp h2
      obtain ⟨b, h5, h6⟩ := Option.map_eq_some_iff.mp h4
      subst h6
      exact pe_bin h1 (S.o g h3) (S.o g h5)
  | UnaryOp op y p =>
    cases op with
    | Not =>
      obtain ⟨a, h1, h2⟩ := Option.map_eq_some_iff.mp (show (cE n C y).map eNot = some me from h)
      subst h2
      exact pe_eNot (S.e g h1)
    | USub =>
      obtain ⟨a, h1, h2⟩ := Option.map_eq_some_iff.mp (show (cO n C y).map eNeg = some me from h)
      subst h2
      exact pe_eNeg (S.o g h1)
    | _ => cases h
  | BoolOp op vs p =>
    match vs, h with
    | [x], h => exact pe_one (S.e g (show cE n C x = some me from h))
    | x :: y :: rest, h =>
      obtain ⟨a, h1, h2⟩ := Option.bind_eq_some_iff.mp h
      obtain ⟨b, h3, h4⟩ := Option.map_eq_some_iff.mp h2
      subst h4
      cases op
      · exact pe_eAnd (S.e g h1) (S.e g h3)
      · exact pe_eOr (S.e g h1) (S.e g h3)
  | IfExp t x y p =>
    obtain ⟨c, h1, h2⟩ := Option.bind_eq_some_iff.mp (show ((cM n C t).bind fun c => (cE n C x).bind fun a => (cE n C y).map fun b => eIte c a b) = some me from h)
    obtain ⟨a, h3, h4⟩ := Option.bind_eq_some_iff.mp h2
    obtain ⟨b, h5, h6⟩ := Option.map_eq_some_iff.mp h4
    subst h6
    exact pe_eIte (S.m g h1) (S.e g h3) (S.e g h5)
  | Compare x ops ys p =>
    match ops, ys, h with
    | [op], [y], h =>
      obtain ⟨h1, h2⟩ := grd_of h
      obtain ⟨f, h3, h4⟩ := Option.bind_eq_some_iff.mp h2
      obtain ⟨a, h5, h6⟩ := Option.bind_eq_some_iff.mp h4
      obtain ⟨b, h7, h8⟩ := Option.map_eq_some_iff.mp h6
      subst h8
      exact pe_cmp2 g.hu h3 (S.o g h5) (S.o g h7) (by simpa using h1)
    | [op, op'], [y, z], h =>
      obtain ⟨h1, h2⟩ := grd_of h
      obtain ⟨f, h3, h4⟩ := Option.bind_eq_some_iff.mp h2
      obtain ⟨f', h3', h4⟩ := Option.bind_eq_some_iff.mp h4
      obtain ⟨a, h5, h6⟩ := Option.bind_eq_some_iff.mp h4
      obtain ⟨b, h7, h8⟩ := Option.bind_eq_some_iff.mp h6
      obtain ⟨c, h9, h10⟩ := Option.map_eq_some_iff.mp h8
      subst h10
      exact pe_chn g.hu h3 h3' (S.o g h5) (S.o g h7) (S.o g h9) (by simpa using h1)
  | Tuple es k p =>
    obtain ⟨a, h1, h2⟩ := Option.map_eq_some_iff.mp (show (cA n C es).map eTup = some me from h)
    subst h2
    exact pe_eTup (S.a g h1)
  | List es p => exact fresh' (show ((cF n C (.List es p)).map fun f => if C.mark p = 2 then eLay f else eFrz f) = some me from h)
  | ListComp elt gs sc p => exact fresh' (show ((cF n C (.ListComp elt gs sc p)).map fun f => if C.mark p = 2 then eLay f else eFrz f) = some me from h)
  | Subscript x i pos =>
    have ix : ∀ {i : Expr}, isSlice i = false → ((cO n C x).bind fun a => (cO n C i).map fun b => eBin opIx a b) = some me → PE X (.Subscript x i pos) (tE X.K F G me) := fun hs h => by
      obtain ⟨a, h1, h2⟩ := Option.bind_eq_some_iff.mp h
      obtain ⟨b, h3, h4⟩ := Option.map_eq_some_iff.mp h2
      subst h4
      exact pe_sub2 g.hu (S.o g h1) (S.o g h3) (plainIx hs)
    cases i with
    | Slice lo hi st p2 =>
      have h' : (if C.mark pos = 2 then (cF n C (.Subscript x (.Slice lo hi st p2) pos)).map eLay else match (generalizing := false) st with
        | none => (cO n C x).bind fun o => (cP n C lo).bind fun l => (cP n C hi).map fun h => eSl o l h
        | some _ => none) = some me := h
      split at h'
      · obtain ⟨f, h1, h2⟩ := Option.map_eq_some_iff.mp h'
        subst h2
        exact pe_eLay (S.f g h1)
      · cases st with
        | some _ => cases h'
        | none =>
          obtain ⟨a, h1, h2⟩ := Option.bind_eq_some_iff.mp h'
          obtain ⟨b, h3, h4⟩ := Option.bind_eq_some_iff.mp h2
          obtain ⟨c, h5, h6⟩ := Option.map_eq_some_iff.mp h4
          subst h6
          exact pe_eSl (S.o g h1) (S.p g h3) (S.p g h5)
    | _ => exact ix rfl h
  | Call f args kws pos =>
    match f, kws, h with
    | .Name x px, [], h =>
      obtain ⟨h1, h2⟩ := grd_of h
      simp only [Bool.and_eq_true] at h1
      obtain ⟨⟨hg, ho⟩, hs⟩ := h1
      have gl := g.glob hg
      split at h2
      · rename_i ar har
        have fn := g.fns _ (lookup_mem har)
        match args, h2, hs with
        | [], h2, _ => cases h2; exact pe_eCall0 fn g.room gl (okName_of ho).1
        | e :: es, h2, hs =>
          have h2' : (if C.mark pos = 3 then (cOs n C (e :: es)).map (eLend x) else (cA n C (e :: es)).map (eCall x)) = some me := h2
          split at h2'
          · obtain ⟨t, h3, h4⟩ := Option.map_eq_some_iff.mp h2'
            subst h4
            exact pe_eLend fn g.room gl (okName_of ho).1 (S.s g h3) hs
          · obtain ⟨t, h3, h4⟩ := Option.map_eq_some_iff.mp h2'
            subst h4
            exact pe_eCall fn g.room gl (okName_of ho).1 (S.a g h3) hs
      · unfold cBi at h2
        split at h2
        · rename_i b hb
          split at h2
          · cases h2
          · rename_i hne
            obtain ⟨os, h3, h4⟩ := Option.map_eq_some_iff.mp h2
            subst h4
            obtain ⟨hm, hb'⟩ := biTab_ok g hb
            cases args with
            | nil => exact absurd rfl hne
            | cons e es => exact (pe_callBi hb' gl hm ho (S.s g h3) hs).weak fun _ _ _ => bi_read
        · exact isi gl hs h2
    | .Attribute o m apos, [], h =>
      obtain ⟨h1, h2⟩ := grd_of h
      simp only [Bool.and_eq_true] at h1
      obtain ⟨⟨hc, hs⟩, hl⟩ := h1
      match args, h2, hs with
      | [], h2, _ =>
        have h2' : (if m = ("pop" : Str) then (cO n C o).map ePop else none) = some me := h2
        split at h2'
        · rename_i hm
          subst hm
          obtain ⟨a, h3, h4⟩ := Option.map_eq_some_iff.mp h2'
          subst h4
          exact pe_ePop (S.o g h3) hc hl
        · cases h2'
      | [y], h2, hs =>
        have hy : notStar y = true := by simpa using hs
        have h2' : (if m = ("append" : Str) then (cO n C o).bind fun a => (cE n C y).map (eApp a)
          else if m = ("pop" : Str) then (cO n C o).bind fun a => (cE n C y).map (ePopAt a)
          else if m = ("index" : Str) then (cO n C o).bind fun a => (cO n C y).map (eSeqM idxA [1, 2] a)
          else if m = ("count" : Str) then (cO n C o).bind fun a => (cO n C y).map (eSeqM cntA [1] a)
          else none) = some me := h2
        split at h2'
        · rename_i hm
          subst hm
          obtain ⟨a, h3, h4⟩ := Option.bind_eq_some_iff.mp h2'
          obtain ⟨b, h5, h6⟩ := Option.map_eq_some_iff.mp h4
          subst h6
          exact pe_eApp (S.o g h3) (S.e g h5) hc hy hl
        · split at h2'
          · rename_i hm
            subst hm
            obtain ⟨a, h3, h4⟩ := Option.bind_eq_some_iff.mp h2'
            obtain ⟨b, h5, h6⟩ := Option.map_eq_some_iff.mp h4
            subst h6
            exact pe_ePopAt (S.o g h3) (S.e g h5) hc hy hl
          · split at h2'
            · rename_i hm
              subst hm
              obtain ⟨a, h3, h4⟩ := Option.bind_eq_some_iff.mp h2'
              obtain ⟨b, h5, h6⟩ := Option.map_eq_some_iff.mp h4
              subst h6
              exact pe_eIdx g.hu (S.o g h3) (S.o g h5) hc hy hl
            · split at h2'
              · rename_i hm
                subst hm
                obtain ⟨a, h3, h4⟩ := Option.bind_eq_some_iff.mp h2'
                obtain ⟨b, h5, h6⟩ := Option.map_eq_some_iff.mp h4
                subst h6
                exact pe_eCnt g.hu (S.o g h3) (S.o g h5) hc hy hl
              · cases h2'
  | _ => cases h
theorem snd (G : Gm) (d : Nat) : ∀ n, Snd G d n
  | 0 => by constructor <;> intro _ _ _ _ <;> intros <;> rename_i h <;> cases h
  | n + 1 => by
    have S := snd G d n
    exact ⟨snd_e S, snd_o S, snd_f S, snd_m S, snd_w S, snd_a S, snd_s S, snd_p S⟩
end
end Pyx
end
section
set_option maxRecDepth 100000
namespace Pyx
open PySem PySem.Spec PyProof.Rows L2

/-! ### statements from the text -/
theorem swaps_lc {elt : Expr} {gs : List Comprehension} {sc : Scope} {lp py : Pos} {y : Str} {l : Nat} {env : Env} :
    swapsWith (.ListComp elt gs sc lp) (some (.Name y py)) l env = pure (env.blockKind == .function && env.kindOf y == some .local && py.line == (Expr.ListComp elt gs sc lp).pos.line && !(sc.names.any fun (n, k) => n == y && (k == .local || k == .cell))) := rfl
section
variable {X : Cx} {F : Hot} {G : Gm}
/-- name = [..] by the layer's rule, from the reading as a fresh list -/
theorem setLc_of' {i : Nat} {y : Str} {py spos : Pos} {f : MAs} {x : Expr} (h : PS X (.Assign [.Name y py] x spos) (tAsg (tF X.K F G f) (gName i))) :
    PS X (.Assign [.Name y py] x spos) (tS X.K F G (sOwn i f)) ∧ PS X (.Assign [.Name y py] x spos) (tS X.K F G (sAsg i (eFrz f))) ∧ PS X (.Assign [.Name y py] x spos) (tS X.K F G (sAsg i (eLay f))) := by
  refine ⟨h.weak fun D σ H ⟨m, a, r, R, e, k⟩ => ?_, h.weak fun D σ H ⟨m, a, r, R, e, k⟩ => ?_, h.weak fun D σ H ⟨m, a, r, R, e, k⟩ => ?_⟩
  · obtain ⟨q, e1, e2⟩ := Option.map_eq_some_iff.mp e
    subst e2
    exact ⟨m, a, q, R, e1, fun p vs H' m' R' s' hp r' => k _ _ m' (R'.putOwn hp r') (s'.trans (Rl.putOwnStp hp))⟩
  · obtain ⟨q, e1, e2⟩ := Option.map_eq_some_iff.mp e
    subst e2
    obtain ⟨q', e3, e4⟩ := Option.map_eq_some_iff.mp e1
    subst e4
    exact ⟨m, a, q', R, e3, fun p vs H' m' R' s' hp r' => k _ _ m' ((R'.new hp).put (R'.newLst hp r')) ((s'.trans (.new hp)).trans (Rl.putStp (R'.new (o := .lst vs) hp).len))⟩
  · obtain ⟨q, e1, e2⟩ := Option.map_eq_some_iff.mp e
    subst e2
    obtain ⟨q', e3, e4⟩ := Option.map_eq_some_iff.mp e1
    subst e4
    exact ⟨m, a, q', R, e3, fun p vs H' m' R' s' hp r' => k _ _ (m' ++ [p]) ((R'.layLst hp r').put R'.layRef) ((s'.trans (Rl.layStp hp)).trans (Rl.putStp (R'.layLst hp r').len))⟩
theorem _root_.L2.PS.weakA {X : Cx} {st : Stmt} {i : Nat} {t u : TE} (h : PS X st (tAsg t (gName i))) (k : ∀ σ H Q, u σ H Q → t σ H Q) : PS X st (tAsg u (gName i)) := h.weak fun D σ H q => k σ H _ q
theorem _root_.L2.PS.or {X : Cx} {st : Stmt} {t u : TS} (h : PS X st t) (h' : PS X st u) : PS X st (fun D σ H => t D σ H ∨ u D σ H) := ⟨fun pins s σ H D I q => q.elim (fun q => h.run pins s σ H D I q) fun q => h'.run pins s σ H D I q⟩
section
variable {d n : Nat} {C : CC}
theorem snd_lcs (S : Snd G d n) (g : Good G d C X) {elt : Expr} {gs : List Comprehension} {sc : Scope} {p : Pos} {mf : MAs} (h : cF (n + 1) C (.ListComp elt gs sc p) = some mf) {i : Nat} {y : Str} {py spos : Pos} (hy : X.N[i]? = some y) (hyl : X.env.scope.names.lookup y = some .local)
    (hsw : swapsWith (.ListComp elt gs sc p) (some (.Name y py)) spos.line X.env = pure true) : PS X (.Assign [.Name y py] (.ListComp elt gs sc p) spos) (tAsg (tF X.K F G mf) (gName i)) := by
  match gs, h with
  | [⟨tg, it, ifs, asy⟩], h =>
    obtain ⟨h1, h2⟩ := grd_of h
    simp only [Bool.and_eq_true, beq_iff_eq] at h1
    obtain ⟨⟨h1a, h1b⟩, h1c⟩ := h1
    subst h1a
    obtain ⟨t, h3, h4⟩ := Option.bind_eq_some_iff.mp h2
    obtain ⟨h5, h6⟩ := grd_of h4
    obtain ⟨me, h7, h8⟩ := Option.bind_eq_some_iff.mp h6
    obtain ⟨tst, h9, h10⟩ := Option.bind_eq_some_iff.mp h8
    have hk : sc.kind = .function := by
      unfold blkB at h1b
      simp only [Bool.and_eq_true] at h1b
      have := h1b.1.1.1
      split at this
      · assumption
      · cases this
    have B : BlkG X G sc (ownOf C.N sc.names) tg ifs elt t tst me := by
      refine ⟨blkB_ok g h1b, fun s H Cc cl fp => pg_xG (g.blk hk s H Cc cl fp).calm (g.blk hk s H Cc cl fp).nd ((g.blk hk s H Cc cl fp).tgt h3), fun s H Cc cl fp => ?_, fun s H Cc cl fp => pe_xE fun F => S.e (g.blk hk s H Cc cl fp) h7, fun i hi => ?_⟩
      · match ifs, h9 with
        | [], h9 => cases h9; exact pts_true
        | [c], h9 => exact pts_one (pt_xM fun F => S.m (g.blk hk s H Cc cl fp) h9)
      · have := List.all_eq_true.mp h5 i hi
        exact of_decide_eq_true this
    have gen : ∀ {it : Expr}, swapsWith (.ListComp elt [⟨tg, it, ifs, 0⟩] sc p) (some (.Name y py)) spos.line X.env = pure true → notSet it = true → ((cE n C it).map fun e => fComp e ((ownOf C.N sc.names).map Prod.snd) t tst me) = some mf → PS X (.Assign [.Name y py] (.ListComp elt [⟨tg, it, ifs, 0⟩] sc p) spos) (tAsg (tF X.K F G mf) (gName i)) := fun hsw hs h => by
      obtain ⟨e, q1, q2⟩ := Option.map_eq_some_iff.mp h
      subst q2
      have hi := S.e (F := F) g q1
      refine (PS.or (ps_setLc g.calm g.nd hy hyl hsw (pi_list hi) B.ok B.hg B.ht B.he (foldedSet_no hs)) (ps_setLc g.calm g.nd hy hyl hsw (pi_tup hi) B.ok B.hg B.ht B.he (foldedSet_no hs))).weak fun D σ H q => ?_
      exact comp_read B.sl q
    split at h10
    · rename_i r pr args pc
      split at h10
      · rename_i hr
        subst hr
        obtain ⟨h11, h12⟩ := grd_of h10
        rw [Bool.and_eq_true] at h11
        have gr := g.glob h11.1
        have mr := g.blt "range" (by decide)
        match args, h12 with
        | [x], h12 =>
          obtain ⟨h13, h14⟩ := grd_of h12
          obtain ⟨u, h15, h16⟩ := Option.map_eq_some_iff.mp h14
          subst h16
          refine (ps_setLc g.calm g.nd hy hyl hsw (pi_range1 gr mr (S.a g h15) (star_cons h13)) B.ok B.hg B.ht B.he).weakA fun σ H Q h => compR_read B.sl h fun R ⟨m, a, r, p, R0, e, hp, k⟩ => by
            obtain ⟨l, a1⟩ := r
            obtain ⟨j, rfl, h1, h2, rfl⟩ := asR1_of hp
            exact ⟨m, a, _, R0, e, fun xs H1 m1 R1 s1 r1 => ⟨j, rps_ints1 r1, h1, h2, k xs H1 m1 R1 s1 r1⟩⟩
        | [x, y], h12 =>
          obtain ⟨h13, h14⟩ := grd_of h12
          rw [Bool.and_eq_true] at h13
          obtain ⟨u, h15, h16⟩ := Option.map_eq_some_iff.mp h14
          subst h16
          have hs2 : starEach [y] X.env = [(false, eval y X.env)] := star_cons h13.2
          have hs : starEach [x, y] X.env = [(false, eval x X.env), (false, eval y X.env)] := by rw [star_cons h13.1, hs2]
          refine (ps_setLc g.calm g.nd hy hyl hsw (pi_range2 gr mr (S.a g h15) hs hs2) B.ok B.hg B.ht B.he).weakA fun σ H Q h => compR_read B.sl h fun R ⟨m, a, r, p, R0, e, hp, k⟩ => by
            obtain ⟨l, a1⟩ := r
            obtain ⟨i, j, rfl, h1, rfl⟩ := asR2_of hp
            exact ⟨m, a, _, R0, e, fun xs H1 m1 R1 s1 r1 => ⟨i, j, rps_ints2 r1, h1, k xs H1 m1 R1 s1 r1⟩⟩
      · exact gen hsw h1c h10
    · exact gen hsw h1c h10
end
end
def cAsgN (n : Nat) (C : CC) (i : Nat) (v : Expr) : Option MS := match v with
  | .ListComp elt gs sc p => (cF n C (.ListComp elt gs sc p)).map fun f => if C.mark p = 1 then sOwn i f else if C.mark p = 2 then sAsg i (eLay f) else sAsg i (eFrz f)
  | v => grd (notComp v) (if C.mark v.pos = 1 then (cF n C v).map (sOwn i) else (cE n C v).map (sAsg i))
/-- two or three names from as many values -/
def cPar (n : Nat) (C : CC) (ts vs : List Expr) : Option MS := match ts, vs with
  | [.Name n1 p1, .Name n2 p2], [x, y] => grd (C.isLocal n1 && C.isLocal n2 && p2.line == p1.line && !decide (n1 = n2) && notStar x && notStar y && !([x, y].all (foldedForSure 8)) && !([x, y].all (constantsAlone 8))) ((idx n1 C.N).bind fun i => (idx n2 C.N).bind fun j => (cA n C [x, y]).map (sPar [i, j]))
  | [.Name n1 p1, .Name n2 p2, .Name n3 p3], [x, y, z] => grd (C.isLocal n1 && C.isLocal n2 && C.isLocal n3 && p2.line == p1.line && p3.line == p1.line && !decide (n1 = n2) && !decide (n1 = n3) && !decide (n2 = n3) && notStar x && notStar y && notStar z && !([x, y, z].all (foldedForSure 8)) && !([x, y, z].all (constantsAlone 8)))
      ((idx n1 C.N).bind fun i => (idx n2 C.N).bind fun j => (idx n3 C.N).bind fun l => (cA n C [x, y, z]).map (sPar [i, j, l]))
  | _, _ => none
mutual
def cS (W : Nat) : Nat → CC → Stmt → Option MS
  | 0, _, _ => none
  | n + 1, C, .Expr x _ => grd (notComp x) ((cE n C x).map sExpr)
  | n + 1, C, .Return x _ => match x with
    | some x => (cE n C x).map sRet
    | none => some sRetN
  | n + 1, C, .Pass _ => some sSkip
  | n + 1, C, .Break _ => some sBreak
  | n + 1, C, .Continue _ => some sCont
  | n + 1, C, .If x b1 b2 _ => (cM n C x).bind fun c => (cB W n C b1).bind fun s => (cB W n C b2).map fun t => sIf c s t
  | n + 1, C, .While x b o _ => match o with
    | [] => (cM n C x).bind fun c => (cB W n C b).map fun s => sWhile W c s
    | _ => none
  | n + 1, C, .For t it b o _ => match o with
    | [] => (cTg C t).bind fun tg => (cB W n C b).bind fun s => match it with
      | .Call (.Name r _) args [] _ => if r = ("range" : Str) then grd (C.glob r && (C.defs.lookup r).isNone) (match args with
          | [x] => grd (notStar x) ((cA n C [x]).map fun u => sForR asR1 u tg s)
          | [x, y] => grd (notStar x && notStar y) ((cA n C [x, y]).map fun u => sForR asR2 u tg s)
          | _ => none) else grd (notSet it) ((cE n C it).map fun e => sForV e tg s)
      | _ => grd (notSet it) ((cE n C it).map fun e => sForV e tg s)
    | _ => none
  | n + 1, C, .Assign ts v _ => match ts with
    | [.Name y _] => (grd (C.loc y) (idx y C.N)).bind fun i => cAsgN n C i v
    | [.Tuple es _ _] => if noSwap es v = true then grd (notComp v) ((cNs C es).bind fun is => (cE n C v).map (sUnp is)) else match v with
      | .Tuple vs _ _ => cPar n C es vs
      | _ => none
    | [.Subscript o i _] => grd (notComp v && !isSlice i) ((cO n C o).bind fun mo => (cE n C i).bind fun mi => (cE n C v).map fun e => sSet mo mi e)
    | _ => none
  | n + 1, C, .AugAssign t op v _ => match t with
    | .Name y _ => (grd (C.loc y) (idx y C.N)).bind fun i => match op with
      | .Add => (cO n C v).map (sAug i opAdd)
      | .Sub => (cO n C v).map (sAug i opSub)
      | _ => none
    | _ => none
  | _ + 1, _, _ => none
def cB (W : Nat) : Nat → CC → List Stmt → Option MS
  | 0, _, _ => none
  | n + 1, C, b => match b with
    | [] => some sSkip
    | s :: r => (cS W n C s).bind fun a => (cB W n C r).map fun b => sSeq a b
end
theorem subAssign {o i : Expr} {p : Pos} {env : Env} (h : isSlice i = false) (v : Value) : assign (.Subscript o i p) env v = (do
      let ov ← holding [v] (eval o env)
      let iv ← holding [v, ov] (eval i env)
      standAt p
      holding [v, ov, iv] (setItem ov iv v)
      release [v, ov, iv] []) := by
  cases i <;> first | rfl | cases h
structure SndS (G : Gm) (d W : Nat) (n : Nat) : Prop where
  s : ∀ {C : CC} {X : Cx} {F : Hot}, Good G d C X → (X.xe = fun _ _ => False) → ∀ {x : Stmt} {ms : MS}, cS W n C x = some ms → PS X x (tS X.K F G ms)
  b : ∀ {C : CC} {X : Cx} {F : Hot}, Good G d C X → (X.xe = fun _ _ => False) → ∀ {x : List Stmt} {ms : MS}, cB W n C x = some ms → PSs X x (tS X.K F G ms)
section
variable {G : Gm} {d W n : Nat} {C : CC} {X : Cx} {F : Hot}
theorem Good.lc (g : Good G d C X) {y : Str} (h : C.isLocal y = true) : X.env.scope.names.lookup y = some .local := by
  rw [g.names]
  unfold CC.isLocal at h
  split at h
  · assumption
  · cases h
theorem snd_asgN (S : Snd G d n) (S' : ∀ m, n = m + 1 → Snd G d m) (g : Good G d C X) {y : Str} {i : Nat} {v : Expr} {ms : MS} {py pos : Pos} (hl : C.loc y = true) (hi : idx y C.N = some i) (h : cAsgN n C i v = some ms) : PS X (.Assign [.Name y py] v pos) (tS X.K F G ms) := by
  obtain ⟨h7, h8⟩ := g.locV hl
  have hN : X.N[i]? = some y := by rw [g.N]; exact idx_get hi
  have gen : ∀ {v : Expr}, grd (notComp v) (if C.mark v.pos = 1 then (cF n C v).map (sOwn i) else (cE n C v).map (sAsg i)) = some ms → PS X (.Assign [.Name y py] v pos) (tS X.K F G ms) := fun h => by
    obtain ⟨h1, h2⟩ := grd_of h
    split at h2
    · obtain ⟨f, h3, h4⟩ := Option.map_eq_some_iff.mp h2
      subst h4
      exact ps_sOwn g.nd hN h7 h8 (S.f g h3) h1
    · obtain ⟨f, h3, h4⟩ := Option.map_eq_some_iff.mp h2
      subst h4
      exact ps_sAsg g.nd hN h7 h8 (S.e g h3) h1
  cases v with
  | ListComp elt gs sc p =>
    obtain ⟨f, h3, h4⟩ := Option.map_eq_some_iff.mp (show ((cF n C (.ListComp elt gs sc p)).map fun f => if C.mark p = 1 then sOwn i f else if C.mark p = 2 then sAsg i (eLay f) else sAsg i (eFrz f)) = some ms from h)
    have key : PS X (.Assign [.Name y py] (.ListComp elt gs sc p) pos) (tAsg (tF X.K F G f) (gName i)) := by
      cases hb : (X.env.blockKind == .function && X.env.kindOf y == some .local && py.line == (Expr.ListComp elt gs sc p).pos.line && !(sc.names.any fun (n, k) => n == y && (k == .local || k == .cell))) with
      | false => exact ps_set g.nd hN h7 (S.f g h3) (by rw [swaps_lc, hb]) h8
      | true =>
        have hyl : X.env.scope.names.lookup y = some .local := by
          simp only [Bool.and_eq_true] at hb
          have := hb.1.1.2
          simpa [Env.kindOf] using this
        match n, S', h3 with
        | m + 1, S', h3 => exact snd_lcs (S' m rfl) g h3 hN hyl (by rw [swaps_lc, hb])
    obtain ⟨k1, k2, k3⟩ := setLc_of' key
    subst h4
    by_cases e1 : C.mark p = 1
    · rw [if_pos e1]; exact k1
    · rw [if_neg e1]
      by_cases e2 : C.mark p = 2
      · rw [if_pos e2]; exact k3
      · rw [if_neg e2]; exact k2
  | _ => exact gen h
theorem ne_of_nd {x y : Str} {i j : Nat} (hx : idx x C.N = some i) (hy : idx y C.N = some j) (h : x ≠ y) : i ≠ j := fun e => by
  subst e
  have h1 := idx_get hx
  have h2 := idx_get hy
  exact h (Option.some.inj (h1.symm.trans h2))
theorem snd_par (S : Snd G d n) (g : Good G d C X) {ts vs : List Expr} {ms : MS} {k kv : Nat} {pt pv pos : Pos} (h : cPar n C ts vs = some ms) : PS X (.Assign [.Tuple ts k pt] (.Tuple vs kv pv) pos) (tS X.K F G ms) := by
  unfold cPar at h
  split at h
  · rename_i n1 p1 n2 p2 x y
    obtain ⟨h1, h2⟩ := grd_of h
    simp only [Bool.and_eq_true, Bool.not_eq_true', decide_eq_false_iff_not] at h1
    obtain ⟨⟨⟨⟨⟨⟨⟨a1, a2⟩, a3⟩, a4⟩, a5⟩, a6⟩, a7⟩, a8⟩ := h1
    obtain ⟨i, b1, h3⟩ := Option.bind_eq_some_iff.mp h2
    obtain ⟨j, b2, h4⟩ := Option.bind_eq_some_iff.mp h3
    obtain ⟨t, b3, b4⟩ := Option.map_eq_some_iff.mp h4
    subst b4
    exact ps_sPar2 g.calm g.nd g.kind (by rw [g.N]; exact idx_get b1) (by rw [g.N]; exact idx_get b2) (ne_of_nd b1 b2 a4) (g.lc a1) (g.lc a2) a3 a4 a5 a6 a7 a8 (S.a g b3)
  · rename_i n1 p1 n2 p2 n3 p3 x y z
    obtain ⟨h1, h2⟩ := grd_of h
    simp only [Bool.and_eq_true, Bool.not_eq_true', decide_eq_false_iff_not] at h1
    obtain ⟨⟨⟨⟨⟨⟨⟨⟨⟨⟨⟨⟨a1, a2⟩, a3⟩, a4⟩, a5⟩, a6⟩, a7⟩, a8⟩, a9⟩, a10⟩, a11⟩, a12⟩, a13⟩ := h1
    obtain ⟨i, b1, h3⟩ := Option.bind_eq_some_iff.mp h2
    obtain ⟨j, b2, h4⟩ := Option.bind_eq_some_iff.mp h3
    obtain ⟨l, b5, h5⟩ := Option.bind_eq_some_iff.mp h4
    obtain ⟨t, b3, b4⟩ := Option.map_eq_some_iff.mp h5
    subst b4
    exact ps_sPar3 g.calm g.nd g.kind (by rw [g.N]; exact idx_get b1) (by rw [g.N]; exact idx_get b2) (by rw [g.N]; exact idx_get b5) (ne_of_nd b1 b2 a6) (ne_of_nd b1 b5 a7) (ne_of_nd b2 b5 a8) (g.lc a1) (g.lc a2) (g.lc a3) a4 a5 a6 a7 a8 a9 a10 a11 a12 a13 (S.a g b3)
  · cases h
theorem snd_b (S : SndS G d W n) (g : Good G d C X) (hx : X.xe = fun _ _ => False) {x : List Stmt} {ms : MS} (h : cB W (n + 1) C x = some ms) : PSs X x (tS X.K F G ms) := by
  cases x with
  | nil => cases h; exact pss_skip
  | cons s r =>
    obtain ⟨a, h1, h2⟩ := Option.bind_eq_some_iff.mp (show ((cS W n C s).bind fun a => (cB W n C r).map fun b => sSeq a b) = some ms from h)
    obtain ⟨b, h3, h4⟩ := Option.map_eq_some_iff.mp h2
    subst h4
    exact pss_seq (S.s g hx h1) (S.b g hx h3)
theorem snd_stmt (S : SndS G d W n) (g : Good G d C X) (hx : X.xe = fun _ _ => False) {x : Stmt} {ms : MS} (h : cS W (n + 1) C x = some ms) : PS X x (tS X.K F G ms) := by
  have T := snd G d n
  cases x with
  | Expr x p =>
    obtain ⟨h1, h2⟩ := grd_of h
    obtain ⟨a, h3, h4⟩ := Option.map_eq_some_iff.mp h2
    subst h4
    exact ps_sExpr (T.e g h3) h1
  | Return x p =>
    cases x with
    | none => cases h; exact ps_sRetN
    | some x =>
      obtain ⟨a, h3, h4⟩ := Option.map_eq_some_iff.mp (show (cE n C x).map sRet = some ms from h)
      subst h4
      exact ps_sRet (T.e g h3)
  | Pass p => cases h; exact ps_sPass
  | Break p => cases h; exact ps_sBreak
  | Continue p => cases h; exact ps_sCont
  | If x b1 b2 p =>
    obtain ⟨c, h1, h2⟩ := Option.bind_eq_some_iff.mp (show ((cM n C x).bind fun c => (cB W n C b1).bind fun s => (cB W n C b2).map fun t => sIf c s t) = some ms from h)
    obtain ⟨s, h3, h4⟩ := Option.bind_eq_some_iff.mp h2
    obtain ⟨t, h5, h6⟩ := Option.map_eq_some_iff.mp h4
    subst h6
    exact ps_sIf (T.m g h1) (S.b g hx h3) (S.b g hx h5)
  | While x b o p =>
    cases o with
    | cons _ _ => cases h
    | nil =>
      obtain ⟨c, h1, h2⟩ := Option.bind_eq_some_iff.mp (show ((cM n C x).bind fun c => (cB W n C b).map fun s => sWhile W c s) = some ms from h)
      obtain ⟨s, h3, h4⟩ := Option.map_eq_some_iff.mp h2
      subst h4
      exact ps_sWhile hx (T.m g h1) (S.b g hx h3)
  | For t it b o p =>
    cases o with
    | cons _ _ => cases h
    | nil =>
      obtain ⟨tg, h1, h2⟩ := Option.bind_eq_some_iff.mp h
      obtain ⟨s, h3, h4⟩ := Option.bind_eq_some_iff.mp h2
      have ht := g.tgt h1
      have hb := S.b (F := F) g hx h3
      have gen : ∀ {it : Expr}, grd (notSet it) ((cE n C it).map fun e => sForV e tg s) = some ms → PS X (.For t it b [] p) (tS X.K F G ms) := fun h => by
        obtain ⟨q1, q2⟩ := grd_of h
        obtain ⟨e, q3, q4⟩ := Option.map_eq_some_iff.mp q2
        subst q4
        exact ps_sForV g.calm hx g.nd ht (T.e g q3) hb q1
      split at h4
      · rename_i r pr args pc
        split at h4
        · rename_i hr
          subst hr
          obtain ⟨h11, h12⟩ := grd_of h4
          rw [Bool.and_eq_true] at h11
          have gr := g.glob h11.1
          have mr := g.blt "range" (by decide)
          match args, h12 with
          | [x], h12 =>
            obtain ⟨h13, h14⟩ := grd_of h12
            obtain ⟨u, h15, h16⟩ := Option.map_eq_some_iff.mp h14
            subst h16
            exact ps_sForR1 g.calm hx g.nd ht gr mr (T.a g h15) h13 hb
          | [x, y], h12 =>
            obtain ⟨h13, h14⟩ := grd_of h12
            rw [Bool.and_eq_true] at h13
            obtain ⟨u, h15, h16⟩ := Option.map_eq_some_iff.mp h14
            subst h16
            exact ps_sForR2 g.calm hx g.nd ht gr mr (T.a g h15) h13.1 h13.2 hb
        · exact gen h4
      · exact gen h4
  | Assign ts v p =>
    match ts, h with
    | [.Name y py], h =>
      obtain ⟨i, h1, h2⟩ := Option.bind_eq_some_iff.mp h
      obtain ⟨h3, h4⟩ := grd_of h1
      exact snd_asgN T (fun m _ => snd G d m) g h3 h4 h2
    | [.Tuple es k pt], h =>
      have h' : (if noSwap es v = true then grd (notComp v) ((cNs C es).bind fun is => (cE n C v).map (sUnp is)) else match (generalizing := false) v with
        | .Tuple vs _ _ => cPar n C es vs
        | _ => none) = some ms := h
      clear h
      split at h'
      · rename_i hs
        obtain ⟨h1, h2⟩ := grd_of h'
        obtain ⟨is, h3, h4⟩ := Option.bind_eq_some_iff.mp h2
        obtain ⟨e, h5, h6⟩ := Option.map_eq_some_iff.mp h4
        subst h6
        exact ps_sUnp g.calm g.nd (g.tg h3) (T.e g h5) h1 hs
      · split at h'
        · exact snd_par T g h'
        · cases h'
    | [.Subscript o i pt], h =>
      obtain ⟨h1, h2⟩ := grd_of h
      simp only [Bool.and_eq_true, Bool.not_eq_true'] at h1
      obtain ⟨mo, h3, h4⟩ := Option.bind_eq_some_iff.mp h2
      obtain ⟨mi, h5, h6⟩ := Option.bind_eq_some_iff.mp h4
      obtain ⟨e, h7, h8⟩ := Option.map_eq_some_iff.mp h6
      subst h8
      exact ps_sSet g.hu (T.e g h7) (T.o g h3) (T.e g h5) h1.1 (subAssign h1.2)
  | AugAssign t op v p =>
    cases t with
    | Name y py =>
      obtain ⟨i, h1, h2⟩ := Option.bind_eq_some_iff.mp h
      obtain ⟨h3, h4⟩ := grd_of h1
      obtain ⟨h7, h8⟩ := g.locV h3
      have hN : X.N[i]? = some y := by rw [g.N]; exact idx_get h4
      cases op with
      | Add =>
        obtain ⟨o, h5, h6⟩ := Option.map_eq_some_iff.mp (show (cO n C v).map (sAug i opAdd) = some ms from h2)
        subst h6
        exact ps_sAug g.nd hN h7 h8 (T.o g h5) (.inl ⟨rfl, rfl⟩)
      | Sub =>
        obtain ⟨o, h5, h6⟩ := Option.map_eq_some_iff.mp (show (cO n C v).map (sAug i opSub) = some ms from h2)
        subst h6
        exact ps_sAug g.nd hN h7 h8 (T.o g h5) (.inr ⟨rfl, rfl⟩)
      | _ => cases h2
    | _ => cases h
  | _ => cases h
theorem sndS (G : Gm) (d W : Nat) : ∀ n, SndS G d W n
  | 0 => by constructor <;> intro _ _ _ _ _ <;> intros <;> rename_i h <;> cases h
  | n + 1 => by
    refine ⟨?_, ?_⟩
    · intro C X F g hx x ms h
      exact snd_stmt (sndS G d W n) g hx h
    · intro C X F g hx x ms h
      exact snd_b (sndS G d W n) g hx h
end
end Pyx
end
section
set_option maxRecDepth 100000
namespace Pyx
open PySem PySem.Spec PyProof.Rows L2

/-! ### defs -/
/-- a def as the evaluator runs it: its parameters' number, its slots' number, its body -/
structure DfE where
  n : Nat
  sz : Nat
  body : MS
def frame (sz : Nat) (args : List AV) (S : List SObj) : AS := ⟨args.map (fun v => some (.val v)) ++ List.replicate (sz - args.length) none, S⟩
def outV : Out × AS → Option (AV × List SObj)
  | (.nx, a) => some (.non, a.S)
  | (.rt v, a) => some (v, a.S)
  | _ => none
def runB (sz : Nat) (b : MS) (G : Gm) (args : List AV) (S : List SObj) : Option (AV × List SObj) := (b G (frame sz args S)).bind outV
def runD (e : DfE) (G : Gm) (args : List AV) (S : List SObj) : Option (AV × List SObj) := if args.length = e.n then runB e.sz e.body G args S else none
/-- the defs of a text, with calls at most so deep -/
def lvl (T : List (Str × DfE)) : Nat → Gm
  | 0 => fun _ _ _ => none
  | d + 1 => fun x args S => (T.lookup x).bind fun e => runD e (lvl T d) args S
theorem lvl_len {T : List (Str × DfE)} {x : Str} {e : DfE} (h : T.lookup x = some e) : ∀ {d : Nat} {args : List AV} {S : List SObj} {r : AV × List SObj}, lvl T d x args S = some r → args.length = e.n
  | 0, _, _, _, q => by cases q
  | d + 1, args, S, r, q => by
    have q' : ((T.lookup x).bind fun e => runD e (lvl T d) args S) = some r := q
    rw [h] at q'
    have q2 : (if args.length = e.n then runB e.sz e.body (lvl T d) args S else none) = some r := q'
    split at q2
    · assumption
    · cases q2
section
variable {K : PySem.W.Frag} {F : Hot} {m : List Addr} {S : List SObj} {H : Hp} {vs : List V} {args : List AV} {sz : Nat}
theorem frame_noOwn {i : Nat} {xs : List AV} : (frame sz args S).ρ[i]? ≠ some (some (.own xs)) := fun e => by
  unfold frame at e
  simp only at e
  rw [List.getElem?_append] at e
  split at e
  · rw [List.getElem?_map] at e
    cases q : args[i]? with
    | none => rw [q] at e; cases e
    | some v => rw [q] at e; cases e
  · rw [List.getElem?_replicate] at e
    split at e <;> cases e
theorem frame_own {σ : L2.St} {p : Addr} : ¬ Own (frame sz args S).ρ σ p := fun ⟨i, xs, e, _⟩ => frame_noOwn e
theorem frame_hot {σ : L2.St} {p : Addr} : hotOf F m (frame sz args S) σ p ↔ hotOf F m ⟨[], S⟩ [] p := by
  constructor
  · rintro (h | h | h)
    · exact .inl h
    · exact .inr (.inl h)
    · exact absurd h frame_own
  · rintro (h | h | h)
    · exact .inl h
    · exact .inr (.inl h)
    · exact absurd h own_nil
theorem Rl.frame {N : List Str} (R : Rl K F m ⟨[], S⟩ [] H) (r : Rps' K F m ⟨[], S⟩ [] H vs args) : Rl K F m (frame N.length args S) (L2.start N vs) H where
  len := by
    unfold Pyx.frame L2.start
    simp only [List.length_append, List.length_map, List.length_replicate, r.length]
  slot := fun i v e => by
    unfold Pyx.frame at e
    simp only at e
    rw [List.getElem?_append] at e
    split at e
    · rename_i hi
      rw [List.length_map] at hi
      rw [List.getElem?_map] at e
      cases q : args[i]? with
      | none => rw [q] at e; cases e
      | some w =>
        rw [q] at e; cases e
        obtain ⟨x, e1, r1⟩ := r.get q
        refine ⟨x, ?_, r1.keep (KeepR.hot fun p h => frame_hot.mp h)⟩
        unfold L2.start
        rw [List.getElem?_append_left (by rw [List.length_map, r.length]; exact hi), List.getElem?_map, e1]
        rfl
    · rw [List.getElem?_replicate] at e
      split at e <;> cases e
  own := fun i xs e => absurd e frame_noOwn
  inj := fun i j xs ys p e => absurd e frame_noOwn
  mlen := R.mlen
  obj := fun n o p e1 e2 => (R.obj n o p e1 e2).keep (KeepR.hot fun p h => frame_hot.mp h) rfl
  mnd := R.mnd
  mF := R.mF
  FH := R.FH
/-- the frame is left: its own lists are forgotten -/
theorem Rl.exit {m' : List Addr} {a a' : AS} {σ σ' : L2.St} {H' : Hp} (R : Rl K F m' a' σ' H') (s : Stp m a σ H m' a' σ' H') (no : ∀ p, ¬ Own a.ρ σ p) :
    Rl K F m' ⟨[], a'.S⟩ [] H' ∧ Stp m ⟨[], a.S⟩ [] H m' ⟨[], a'.S⟩ [] H' ∧ ∀ x v, Rp' K F m' a' σ' H' x v → Rp' K F m' ⟨[], a'.S⟩ [] H' x v := by
  have hk : KeepR K H' H' (hotOf F m' a' σ') (hotOf F m' ⟨[], a'.S⟩ []) m' m' := KeepR.hot fun p h => by
    rcases h with h | h | h
    · exact .inl h
    · exact .inr (.inl h)
    · exact absurd h own_nil
  refine ⟨⟨rfl, fun i v e => by simp at e, fun i v e => by simp at e, fun i j v w p e => by simp at e, R.mlen, fun n o p e1 e2 => (R.obj n o p e1 e2).keep hk rfl, R.mnd, R.mF, R.FH⟩, ⟨s.pre, fun b o e n => s.keep b o e fun h => h.elim (fun h => n (.inl h)) (no b), s.dom, fun b h => ?_⟩, fun x v r => r.keep hk⟩
  rcases h with h | h
  · rcases s.locs b (.inl h) with h | h
    · rcases h with h | h
      · exact .inl (.inl h)
      · exact absurd h (no b)
    · exact .inr h
  · exact absurd h own_nil
end
/-- a def of the text as the compiler is given it -/
structure DD where
  name : Str
  ps : List Str
  N : List Str
  args : Arguments
  body : List Stmt
  scope : Scope
  marks : List ((Nat × Nat) × Nat)
def DD.cc (D : DD) (defs : List (Str × Nat)) (consts : List (Str × AV)) : CC := ⟨D.N, D.scope.names, fun _ => true, D.marks, defs, consts⟩
def DD.comp (W n : Nat) (defs : List (Str × Nat)) (consts : List (Str × AV)) (D : DD) : Option DfE := (cB W n (D.cc defs consts) D.body).map fun b => ⟨D.ps.length, D.N.length, b⟩
/-- the table of a text -/
def tabOf (W n : Nat) (defs : List (Str × Nat)) (consts : List (Str × AV)) : List DD → Option (List (Str × DfE))
  | [] => some []
  | D :: r => (D.comp W n defs consts).bind fun e => (tabOf W n defs consts r).map fun t => (D.name, e) :: t
theorem tab_get {W n : Nat} {defs : List (Str × Nat)} {consts : List (Str × AV)} : ∀ {Ds : List DD} {T : List (Str × DfE)}, tabOf W n defs consts Ds = some T → (Ds.map (·.name)).Nodup → ∀ D ∈ Ds, ∃ b, cB W n (D.cc defs consts) D.body = some b ∧ T.lookup D.name = some ⟨D.ps.length, D.N.length, b⟩
  | [], T, h, _, _, hD => by cases hD
  | D :: r, T, h, hn, D', hD => by
    obtain ⟨e1, h1, h2⟩ := Option.bind_eq_some_iff.mp h
    obtain ⟨t, h3, h4⟩ := Option.map_eq_some_iff.mp h2
    subst h4
    rw [List.map_cons, List.nodup_cons] at hn
    rcases List.mem_cons.mp hD with rfl | hD
    · obtain ⟨b, h5, h6⟩ := Option.map_eq_some_iff.mp h1
      subst h6
      exact ⟨b, h5, by rw [List.lookup_cons]; simp⟩
    · obtain ⟨b, h5, h6⟩ := tab_get h3 hn.2 D' hD
      refine ⟨b, h5, ?_⟩
      rw [List.lookup_cons]
      have : (D'.name == D.name) = false := by
        rw [beq_eq_false_iff_ne]
        intro e
        exact hn.1 (List.mem_map.mpr ⟨D', hD, e⟩)
      rw [this]
      exact h6
/-- what stands behind the top for a def -/
structure Stands (K : PySem.W.Frag) (mg : Str → Option Value) (D : DD) : Prop where
  ex : ∃ (f : Addr) (fd : FuncData), mg D.name = some (.ref f) ∧ FunD K D.name D.name D.args D.body D.scope [] [] f fd ∧ Binds K fd D.ps []
  sc : FnScope D.N D.ps D.scope
/-- what stands behind the top, all together -/
structure Top (K : PySem.W.Frag) (mg : Str → Option Value) (Ds : List DD) (defs : List (Str × Nat)) (consts : List (Str × AV)) : Prop where
  fns : ∀ D ∈ Ds, Stands K mg D
  defs : ∀ p ∈ defs, ∃ D ∈ Ds, D.name = p.1 ∧ D.ps.length = p.2
  blt : ∀ x ∈ bltNames, mg x = none
  con : ∀ p ∈ consts, ∃ u xv, mg p.1 = some u ∧ RelV xv u ∧ ConV K xv p.2
section
variable {P : Program} {w : World} {K : PySem.W.Frag} {mg : Str → Option Value} {base : Heap} {Ds : List DD} {defs : List (Str × Nat)} {consts : List (Str × AV)} {W n : Nat} {T : List (Str × DfE)}
theorem fn_ok (tp : Top K mg Ds defs consts) (hT : tabOf W n defs consts Ds = some T) (nd : (Ds.map (·.name)).Nodup) : ∀ (d : Nat) (D : DD), D ∈ Ds → ∀ (f : Addr) (fd : FuncData), FunD K D.name D.name D.args D.body D.scope [] [] f fd →
    FnOk P w K mg base CX0 d f fd D.ps (spG K (lvl T d) D.name D.ps.length)
  | 0, D, hD, f, fd, F => by
    refine ⟨fun vs H Q E h => h.1, fun A outer s H args us vs Q E hr he hb hv hs => ?_⟩
    obtain ⟨_, _, _, _, _, _, _, _, e, _⟩ := hs
    cases e
  | d + 1, D, hD, f, fd, F => by
    refine F.ok (tp.fns D hD).sc (fun vs H Q E h => h.1) fun cdv A outer s H vs Q E hr h => ?_
    obtain ⟨hl, F0, m, S, args, r, R, ra, e, k⟩ := h
    obtain ⟨e1, h1, h2⟩ := Option.bind_eq_some_iff.mp (show ((T.lookup D.name).bind fun e => runD e (lvl T d) args S) = some r from e)
    obtain ⟨b, h3, h4⟩ := tab_get hT nd D hD
    rw [h1] at h4
    cases h4
    have h2' : (if args.length = D.ps.length then (b (lvl T d) (frame D.N.length args S)).bind outV else none) = some r := h2
    split at h2'
    · rename_i hal
      obtain ⟨o, h5, h6⟩ := Option.bind_eq_some_iff.mp h2'
      have g : Good (lvl T d) d (D.cc defs consts) (cxOf CX0 P w K mg base D.N D.name D.scope f cdv A outer s H E).nox := by
        refine ⟨rfl, rfl, rfl, (tp.fns D hD).sc.nd, (tp.fns D hD).sc.kind, rfl, fun _ _ => rfl, hr, tp.blt, fun p hp => ?_, tp.con⟩
        obtain ⟨D', hD', n1, n2⟩ := tp.defs p hp
        obtain ⟨f', fd', q1, q2, q3⟩ := (tp.fns D' hD').ex
        obtain ⟨b', q4, q5⟩ := tab_get hT nd D' hD'
        refine ⟨⟨f', fd', D'.ps, by rw [← n1]; exact q1, q2.kp, q3, ?_⟩, fun as S r hr => ?_⟩
        · rw [← n1, ← n2]
          exact fn_ok tp hT nd d D' hD' f' fd' q2
        · rw [← n1] at hr
          rw [← n2]
          exact lvl_len q5 hr
      refine ⟨tS K F0 (lvl T d) b, PSs.nox ((sndS (lvl T d) d W n).b g rfl h3), ?_⟩
      obtain ⟨o, a'⟩ := o
      refine ⟨m, _, (o, a'), R.frame ra, h5, ?_⟩
      cases o with
      | nx =>
        cases h6
        intro σ' H' m' R' s'
        obtain ⟨a1, a2, a3⟩ := R'.exit s' fun p => frame_own
        exact k _ H' m' a1 a2 .non
      | rt v =>
        cases h6
        intro x σ' H' m' R' s' rx
        obtain ⟨a1, a2, a3⟩ := R'.exit s' fun p => frame_own
        exact k _ H' m' a1 a2 (a3 _ _ rx)
      | bk => cases h6
      | ct => cases h6
    · cases h2'
end
end Pyx
end
section
set_option maxRecDepth 100000
namespace Pyx
open PySem PySem.Spec PyProof.Rows L2
abbrev opLt : Op2 := opI fun i j => decide (i < j)
abbrev opLe : Op2 := opI fun i j => decide (i ≤ j)
abbrev opGt : Op2 := opI fun i j => decide (j < i)
abbrev opGe : Op2 := opI fun i j => decide (j ≤ i)

/-! ### the evaluator, stepped by rewriting: each continuation has a name, so nothing is looked at before its turn -/
section
variable {G : Gm} {a : AS} {ρ : List (Option Slt)} {S : List SObj} {i n : Nat} {v w : AV} {xs ys : List AV} {f f' : Op2} {oa ob oc : MO} {e e' : ME} {c c' : MT} {s t : MS} {h h' : Hd} {b : Bool} {r : AV × AS} {q : Hd × AS}
-- results
def kV (a : AS) : Option AV → Option (AV × AS)
  | some v => some (v, a)
  | none => none
@[simp] theorem kV_s : kV a (some v) = some (v, a) := rfl
-- names
def kO (i : Nat) (a : AS) : Option (Option Slt) → Option (Hd × AS)
  | some (some _) => some (.slot i, a)
  | _ => none
@[simp] theorem oVar_ev : oVar i G ⟨ρ, S⟩ = kO i ⟨ρ, S⟩ ρ[i]? := by
  show (match ρ[i]? with | some (some _) => some (Hd.slot i, (⟨ρ, S⟩ : AS)) | _ => none) = _
  unfold kO
  split <;> rfl
@[simp] theorem kO_s {x : Slt} : kO i a (some (some x)) = some (.slot i, a) := rfl
def kE (i : Nat) (a : AS) : Option (Option Slt) → Option (AV × AS)
  | some (some (.val v)) => some (v, a)
  | some (some (.own xs)) => some (.lst xs, a.frz i xs)
  | _ => none
@[simp] theorem eVar_ev : eVar i G ⟨ρ, S⟩ = kE i ⟨ρ, S⟩ ρ[i]? := by
  show (match ρ[i]? with | some (some (.val v)) => some (v, (⟨ρ, S⟩ : AS)) | some (some (.own xs)) => some (.lst xs, AS.frz ⟨ρ, S⟩ i xs) | _ => none) = _
  unfold kE
  split <;> rfl
@[simp] theorem kE_v : kE i a (some (some (.val v))) = some (v, a) := rfl
@[simp] theorem kE_o : kE i a (some (some (.own xs))) = some (.lst xs, a.frz i xs) := rfl
@[simp] theorem put_mk : AS.put ⟨ρ, S⟩ i v = ⟨ρ.set i (some (.val v)), S⟩ := rfl
@[simp] theorem frz_mk : AS.frz ⟨ρ, S⟩ i xs = ⟨ρ.set i (some (.val (.lst xs))), S⟩ := rfl
@[simp] theorem drop_mk : AS.drop ⟨ρ, S⟩ i = ⟨ρ.set i none, S⟩ := rfl
@[simp] theorem putOwn_mk : AS.putOwn ⟨ρ, S⟩ i xs = ⟨ρ.set i (some (.own xs)), S⟩ := rfl
@[simp] theorem setS_mk {o : SObj} : AS.setS ⟨ρ, S⟩ i o = ⟨ρ, S.set i o⟩ := rfl
@[simp] theorem lay_mk {o : SObj} : AS.lay ⟨ρ, S⟩ o = ⟨ρ, S ++ [o]⟩ := rfl
@[simp] theorem wS_mk {S' : List SObj} : AS.wS ⟨ρ, S⟩ S' = ⟨ρ, S'⟩ := rfl
-- contents
@[simp] theorem cont_slot : cont ⟨ρ, S⟩ (.slot i) = slotV S ρ[i]? := rfl
@[simp] theorem cont_val : cont ⟨ρ, S⟩ (.val v) = some (res S v) := rfl
@[simp] theorem slotV_v : slotV S (some (some (.val v))) = some (res S v) := rfl
@[simp] theorem slotV_o : slotV S (some (some (.own xs))) = some (.lst xs) := rfl
@[simp] theorem res_non : res S .non = .non := rfl
@[simp] theorem res_bl : res S (.bl b) = .bl b := rfl
@[simp] theorem res_int {i : Int} : res S (.int i) = .int i := rfl
@[simp] theorem res_str {z : Str} : res S (.str z) = .str z := rfl
@[simp] theorem res_tup : res S (.tup xs) = .tup xs := rfl
@[simp] theorem res_lst : res S (.lst xs) = .lst xs := rfl
@[simp] theorem res_ref : res S (.ref n) = resL n S[n]? := rfl
@[simp] theorem resL_l : resL n (some (.lst xs)) = .lst xs := rfl
@[simp] theorem resL_d {kvs : List (Str × AV)} : resL n (some (.dic kvs)) = .ref n := rfl
theorem res_nr (h : v.nr = true) : res S v = v := by cases v <;> first | rfl | cases h
-- values
def kH : Option (AV × AS) → Option (Hd × AS)
  | some r => some (.val r.1, r.2)
  | none => none
@[simp] theorem oE_ev : oE e G a = kH (e G a) := by show (e G a).map _ = _; cases e G a <;> rfl
@[simp] theorem kH_s : kH (some (v, a)) = some (.val v, a) := rfl
@[simp] theorem eCon_ev : eCon v G a = some (v, a) := rfl
def kB1 (f : Op2) (ob : MO) (G : Gm) : Option (Hd × AS) → Option (AV × AS)
  | some r => (ob G r.2).bind fun r2 => (cont r2.2 r.1).bind fun x => (cont r2.2 r2.1).bind fun y => (f r2.2.S x y).map fun v => (v, r2.2)
  | none => none
def kB2 (f : Op2) (h : Hd) : Option (Hd × AS) → Option (AV × AS)
  | some r2 => (cont r2.2 h).bind fun x => (cont r2.2 r2.1).bind fun y => (f r2.2.S x y).map fun v => (v, r2.2)
  | none => none
def kB3 (f : Op2) (a : AS) : Option AV → Option AV → Option (AV × AS)
  | some x, some y => kV a (f a.S x y)
  | _, _ => none
@[simp] theorem eBin_ev : eBin f oa ob G a = kB1 f ob G (oa G a) := by show (oa G a).bind _ = _; cases oa G a <;> rfl
@[simp] theorem kB1_s : kB1 f ob G (some (h, a)) = kB2 f h (ob G a) := by show (ob G a).bind _ = _; cases ob G a <;> rfl
@[simp] theorem kB2_s : kB2 f h (some (h', ⟨ρ, S⟩)) = kB3 f ⟨ρ, S⟩ (cont ⟨ρ, S⟩ h) (cont ⟨ρ, S⟩ h') := by
  show (cont (⟨ρ, S⟩ : AS) h).bind _ = _
  cases cont (⟨ρ, S⟩ : AS) h with
  | none => rfl
  | some x =>
    show (cont (⟨ρ, S⟩ : AS) h').bind _ = _
    cases cont (⟨ρ, S⟩ : AS) h' with
    | none => rfl
    | some y => show (f S x y).map _ = kV _ (f S x y); cases f S x y <;> rfl
@[simp] theorem kB3_s : kB3 f ⟨ρ, S⟩ (some v) (some w) = kV ⟨ρ, S⟩ (f S v w) := rfl
def kC3 (f' : Op2) (oc : MO) (G : Gm) (h' : Hd) (a : AS) : Option AV → Option (AV × AS)
  | some (.bl true) => (oc G a).bind fun r3 => (cont r3.2 h').bind fun y' => (cont r3.2 r3.1).bind fun z => (f' r3.2.S y' z).map fun w => (w, r3.2)
  | some (.bl false) => some (.bl false, a)
  | _ => none
def kC2 (f f' : Op2) (oc : MO) (G : Gm) (h h' : Hd) (a : AS) : Option AV → Option AV → Option (AV × AS)
  | some x, some y => kC3 f' oc G h' a (f a.S x y)
  | _, _ => none
def kC1 (f f' : Op2) (oc : MO) (G : Gm) (h : Hd) : Option (Hd × AS) → Option (AV × AS)
  | some r2 => kC2 f f' oc G h r2.1 r2.2 (cont r2.2 h) (cont r2.2 r2.1)
  | none => none
def kC0 (f f' : Op2) (ob oc : MO) (G : Gm) : Option (Hd × AS) → Option (AV × AS)
  | some r1 => kC1 f f' oc G r1.1 (ob G r1.2)
  | none => none
@[simp] theorem eChain_ev : eChain f f' oa ob oc G a = kC0 f f' ob oc G (oa G a) := by
  show (oa G a).bind _ = _
  cases oa G a with
  | none => rfl
  | some r1 =>
    show (ob G r1.2).bind _ = kC1 f f' oc G r1.1 (ob G r1.2)
    cases ob G r1.2 with
    | none => rfl
    | some r2 =>
      show (cont r2.2 r1.1).bind _ = kC2 f f' oc G r1.1 r2.1 r2.2 (cont r2.2 r1.1) (cont r2.2 r2.1)
      cases cont r2.2 r1.1 with
      | none => rfl
      | some x =>
        show (cont r2.2 r2.1).bind _ = _
        cases cont r2.2 r2.1 with
        | none => rfl
        | some y =>
          show (f r2.2.S x y).bind _ = kC3 f' oc G r2.1 r2.2 (f r2.2.S x y)
          cases f r2.2.S x y with
          | none => rfl
          | some v => cases v <;> first | rfl | (rename_i b; cases b <;> rfl)
@[simp] theorem kC0_s : kC0 f f' ob oc G (some (h, a)) = kC1 f f' oc G h (ob G a) := rfl
@[simp] theorem kC1_s : kC1 f f' oc G h (some (h', ⟨ρ, S⟩)) = kC2 f f' oc G h h' ⟨ρ, S⟩ (cont ⟨ρ, S⟩ h) (cont ⟨ρ, S⟩ h') := rfl
@[simp] theorem kC2_s : kC2 f f' oc G h h' ⟨ρ, S⟩ (some v) (some w) = kC3 f' oc G h' ⟨ρ, S⟩ (f S v w) := rfl
@[simp] theorem kC3_t : kC3 f' oc G h' a (some (.bl true)) = kB2 f' h' (oc G a) := by show (oc G a).bind _ = _; cases oc G a <;> rfl
@[simp] theorem kC3_f : kC3 f' oc G h' a (some (.bl false)) = some (.bl false, a) := rfl
@[simp] theorem kC3_d {P : Prop} [Decidable P] : kC3 f' oc G h' a (some (.bl (decide P))) = if P then kB2 f' h' (oc G a) else some (.bl false, a) := by
  by_cases p : P <;> simp [p]
-- truth
def kM : Option (AV × AS) → Option (Bool × AS)
  | some (.bl b, a) => some (b, a)
  | _ => none
@[simp] theorem mBool_ev : mBool e G a = kM (e G a) := by
  show (e G a).bind _ = _
  cases e G a with
  | none => rfl
  | some r => obtain ⟨v, a⟩ := r; cases v <;> rfl
@[simp] theorem kM_s : kM (some (.bl b, a)) = some (b, a) := rfl
def kT1 : Option (Hd × AS) → Option (Bool × AS)
  | some r => (cont r.2 r.1).bind fun c => (truV r.2.S c).map fun b => (b, r.2)
  | none => none
def kT2 (a : AS) : Option Bool → Option (Bool × AS)
  | some b => some (b, a)
  | none => none
def kT3 (a : AS) : Option AV → Option (Bool × AS)
  | some v => kT2 a (truV a.S v)
  | none => none
@[simp] theorem mTru_ev : mTru oa G a = kT1 (oa G a) := by show (oa G a).bind _ = _; cases oa G a <;> rfl
@[simp] theorem kT1_s : kT1 (some (h, ⟨ρ, S⟩)) = kT3 ⟨ρ, S⟩ (cont ⟨ρ, S⟩ h) := by
  show (cont (⟨ρ, S⟩ : AS) h).bind _ = _
  cases cont (⟨ρ, S⟩ : AS) h with
  | none => rfl
  | some v => show (truV S v).map _ = kT2 _ (truV S v); cases truV S v <;> rfl
@[simp] theorem kT3_s : kT3 ⟨ρ, S⟩ (some v) = kT2 ⟨ρ, S⟩ (truV S v) := rfl
@[simp] theorem kT2_s : kT2 a (some b) = some (b, a) := rfl
@[simp] theorem truV_non : truV S .non = some false := rfl
@[simp] theorem truV_bl : truV S (.bl b) = some b := rfl
@[simp] theorem truV_int {i : Int} : truV S (.int i) = some (i != 0) := rfl
@[simp] theorem truV_tup : truV S (.tup xs) = some (!xs.isEmpty) := rfl
@[simp] theorem truV_lst : truV S (.lst xs) = some (!xs.isEmpty) := rfl
def kAn (e : ME) (G : Gm) : Option (AV × AS) → Option (AV × AS)
  | some (.bl true, a) => e G a
  | some (.bl false, a) => some (.bl false, a)
  | _ => none
@[simp] theorem eAnd_ev : eAnd e e' G a = kAn e' G (e G a) := by
  show (e G a).bind _ = _
  cases e G a with
  | none => rfl
  | some r => obtain ⟨v, a⟩ := r; cases v <;> first | rfl | (rename_i b; cases b <;> rfl)
@[simp] theorem kAn_t : kAn e G (some (.bl true, a)) = e G a := rfl
@[simp] theorem kAn_f : kAn e G (some (.bl false, a)) = some (.bl false, a) := rfl
@[simp] theorem kAn_d {P : Prop} [Decidable P] : kAn e G (some (.bl (decide P), a)) = if P then e G a else some (.bl false, a) := by by_cases p : P <;> simp [p]
def kOr (e : ME) (G : Gm) : Option (AV × AS) → Option (AV × AS)
  | some (.bl false, a) => e G a
  | some (.bl true, a) => some (.bl true, a)
  | _ => none
@[simp] theorem eOr_ev : eOr e e' G a = kOr e' G (e G a) := by
  show (e G a).bind _ = _
  cases e G a with
  | none => rfl
  | some r => obtain ⟨v, a⟩ := r; cases v <;> first | rfl | (rename_i b; cases b <;> rfl)
@[simp] theorem kOr_t : kOr e G (some (.bl true, a)) = some (.bl true, a) := rfl
@[simp] theorem kOr_f : kOr e G (some (.bl false, a)) = e G a := rfl
@[simp] theorem kOr_d {P : Prop} [Decidable P] : kOr e G (some (.bl (decide P), a)) = if P then some (.bl true, a) else e G a := by by_cases p : P <;> simp [p]
def kNo : Option (AV × AS) → Option (AV × AS)
  | some (.bl b, a) => some (.bl (!b), a)
  | _ => none
@[simp] theorem eNot_ev : eNot e G a = kNo (e G a) := by
  show (e G a).bind _ = _
  cases e G a with
  | none => rfl
  | some r => obtain ⟨v, a⟩ := r; cases v <;> rfl
@[simp] theorem kNo_s : kNo (some (.bl b, a)) = some (.bl (!b), a) := rfl
def kMA (c : MT) (G : Gm) : Option (Bool × AS) → Option (Bool × AS)
  | some (true, a) => c G a
  | some (false, a) => some (false, a)
  | none => none
@[simp] theorem mAnd_ev : mAnd c c' G a = kMA c' G (c G a) := by
  show (c G a).bind _ = _
  cases c G a with
  | none => rfl
  | some r => obtain ⟨v, a⟩ := r; cases v <;> rfl
@[simp] theorem kMA_t : kMA c G (some (true, a)) = c G a := rfl
@[simp] theorem kMA_f : kMA c G (some (false, a)) = some (false, a) := rfl
@[simp] theorem kMA_d {P : Prop} [Decidable P] : kMA c G (some (decide P, a)) = if P then c G a else some (false, a) := by by_cases p : P <;> simp [p]
def kMO (c : MT) (G : Gm) : Option (Bool × AS) → Option (Bool × AS)
  | some (false, a) => c G a
  | some (true, a) => some (true, a)
  | none => none
@[simp] theorem mOr_ev : mOr c c' G a = kMO c' G (c G a) := by
  show (c G a).bind _ = _
  cases c G a with
  | none => rfl
  | some r => obtain ⟨v, a⟩ := r; cases v <;> rfl
@[simp] theorem kMO_t : kMO c G (some (true, a)) = some (true, a) := rfl
@[simp] theorem kMO_f : kMO c G (some (false, a)) = c G a := rfl
@[simp] theorem kMO_d {P : Prop} [Decidable P] : kMO c G (some (decide P, a)) = if P then some (true, a) else c G a := by by_cases p : P <;> simp [p]
def kMN : Option (Bool × AS) → Option (Bool × AS)
  | some (b, a) => some (!b, a)
  | none => none
@[simp] theorem mNot_ev : mNot c G a = kMN (c G a) := by
  show (c G a).map _ = _
  cases c G a with
  | none => rfl
  | some r => rfl
@[simp] theorem kMN_s : kMN (some (b, a)) = some (!b, a) := rfl
@[simp] theorem mTrue_ev : mTrue G a = some (true, a) := rfl
def kIt (e e' : ME) (G : Gm) : Option (Bool × AS) → Option (AV × AS)
  | some (true, a) => e G a
  | some (false, a) => e' G a
  | none => none
@[simp] theorem eIte_ev : eIte c e e' G a = kIt e e' G (c G a) := by
  show (c G a).bind _ = _
  cases c G a with
  | none => rfl
  | some r => obtain ⟨v, a⟩ := r; cases v <;> rfl
@[simp] theorem kIt_t : kIt e e' G (some (true, a)) = e G a := rfl
@[simp] theorem kIt_f : kIt e e' G (some (false, a)) = e' G a := rfl
@[simp] theorem kIt_d {P : Prop} [Decidable P] : kIt e e' G (some (decide P, a)) = if P then e G a else e' G a := by by_cases p : P <;> simp [p]
-- lists of arguments
def kA1 (t : MAs) (G : Gm) : Option (AV × AS) → Option (List AV × AS)
  | some r => (t G r.2).map fun q => (r.1 :: q.1, q.2)
  | none => none
def kA2 (v : AV) : Option (List AV × AS) → Option (List AV × AS)
  | some q => some (v :: q.1, q.2)
  | none => none
@[simp] theorem aNil_ev : aNil G a = some ([], a) := rfl
@[simp] theorem aCons_ev {t : MAs} : aCons e t G a = kA1 t G (e G a) := by show (e G a).bind _ = _; cases e G a <;> rfl
@[simp] theorem kA1_s {t : MAs} : kA1 t G (some (v, a)) = kA2 v (t G a) := by show (t G a).map _ = _; cases t G a <;> rfl
@[simp] theorem kA2_s : kA2 v (some (xs, a)) = some (v :: xs, a) := rfl
def kS1 (t : MOs) (G : Gm) : Option (Hd × AS) → Option (List Hd × AS)
  | some r => (t G r.2).map fun q => (r.1 :: q.1, q.2)
  | none => none
def kS2 (v : Hd) : Option (List Hd × AS) → Option (List Hd × AS)
  | some q => some (v :: q.1, q.2)
  | none => none
@[simp] theorem osNil_ev : osNil G a = some ([], a) := rfl
@[simp] theorem osCons_ev {t : MOs} : osCons oa t G a = kS1 t G (oa G a) := by show (oa G a).bind _ = _; cases oa G a <;> rfl
@[simp] theorem kS1_s {t : MOs} : kS1 t G (some (h, a)) = kS2 h (t G a) := by show (t G a).map _ = _; cases t G a <;> rfl
@[simp] theorem kS2_s {hs : List Hd} : kS2 h (some (hs, a)) = some (h :: hs, a) := rfl
def kTu : Option (List AV × AS) → Option (AV × AS)
  | some r => if r.1.length ≤ sizeLine then some (.tup r.1, r.2) else none
  | none => none
@[simp] theorem eTup_ev {t : MAs} : eTup t G a = kTu (t G a) := by show (t G a).bind _ = _; cases t G a <;> rfl
theorem kTu_s' (h : xs.length ≤ sizeLine) : kTu (some (xs, a)) = some (.tup xs, a) := if_pos h
theorem le_sl {n : Nat} (h : n ≤ 100000) : n ≤ sizeLine := Nat.le_trans h (by decide)
@[simp] theorem kTu_s (h : xs.length ≤ 100000) : kTu (some (xs, a)) = some (.tup xs, a) := if_pos (le_sl h)
def kFz : Option (List AV × AS) → Option (AV × AS)
  | some r => some (.lst r.1, r.2)
  | none => none
@[simp] theorem eFrz_ev {t : MAs} : eFrz t G a = kFz (t G a) := by show (t G a).map _ = _; cases t G a <;> rfl
@[simp] theorem kFz_s : kFz (some (xs, a)) = some (.lst xs, a) := rfl
def kLy : Option (List AV × AS) → Option (AV × AS)
  | some r => some (.ref r.2.S.length, r.2.lay (.lst r.1))
  | none => none
@[simp] theorem eLay_ev {t : MAs} : eLay t G a = kLy (t G a) := by show (t G a).map _ = _; cases t G a <;> rfl
@[simp] theorem kLy_s : kLy (some (xs, ⟨ρ, S⟩)) = some (.ref S.length, ⟨ρ, S ++ [.lst xs]⟩) := rfl
def kFL : Option (List AV × AS) → Option (List AV × AS)
  | some r => if r.1.length ≤ sizeLine then some r else none
  | none => none
@[simp] theorem fLst_ev {t : MAs} : fLst t G a = kFL (t G a) := by show (t G a).bind _ = _; cases t G a <;> rfl
@[simp] theorem kFL_s (h : xs.length ≤ 100000) : kFL (some (xs, a)) = some (xs, a) := if_pos (le_sl h)
-- slices
@[simp] theorem pNone_ev : pNone G a = some (none, a) := rfl
def kP : Option (AV × AS) → Option (Option Int × AS)
  | some (.int i, a) => some (some i, a)
  | _ => none
@[simp] theorem pSome_ev : pSome e G a = kP (e G a) := by
  show (e G a).bind _ = _
  cases e G a with
  | none => rfl
  | some r => obtain ⟨v, a⟩ := r; cases v <;> rfl
@[simp] theorem kP_s {i : Int} : kP (some (.int i, a)) = some (some i, a) := rfl
def kL1 (lo hi : MP) (G : Gm) : Option (Hd × AS) → Option (AV × AS)
  | some r => (lo G r.2).bind fun r1 => (hi G r1.2).bind fun r2 => (cont r2.2 r.1).bind fun c => (slF c r1.1 r2.1).map fun v => (v, r2.2)
  | none => none
def kL2 (hi : MP) (G : Gm) (h : Hd) : Option (Option Int × AS) → Option (AV × AS)
  | some r1 => (hi G r1.2).bind fun r2 => (cont r2.2 h).bind fun c => (slF c r1.1 r2.1).map fun v => (v, r2.2)
  | none => none
def kL3 (h : Hd) (lo : Option Int) : Option (Option Int × AS) → Option (AV × AS)
  | some r2 => (cont r2.2 h).bind fun c => (slF c lo r2.1).map fun v => (v, r2.2)
  | none => none
def kL4 (lo hi : Option Int) (a : AS) : Option AV → Option (AV × AS)
  | some c => kV a (slF c lo hi)
  | none => none
@[simp] theorem eSl_ev {lo hi : MP} : eSl oa lo hi G a = kL1 lo hi G (oa G a) := by show (oa G a).bind _ = _; cases oa G a <;> rfl
@[simp] theorem kL1_s {lo hi : MP} : kL1 lo hi G (some (h, a)) = kL2 hi G h (lo G a) := by show (lo G a).bind _ = _; cases lo G a <;> rfl
@[simp] theorem kL2_s {hi : MP} {x : Option Int} : kL2 hi G h (some (x, a)) = kL3 h x (hi G a) := by show (hi G a).bind _ = _; cases hi G a <;> rfl
@[simp] theorem kL3_s {x y : Option Int} : kL3 h x (some (y, ⟨ρ, S⟩)) = kL4 x y ⟨ρ, S⟩ (cont ⟨ρ, S⟩ h) := by
  show (cont (⟨ρ, S⟩ : AS) h).bind _ = _
  cases cont (⟨ρ, S⟩ : AS) h with
  | none => rfl
  | some c => show (slF c x y).map _ = kV _ (slF c x y); cases slF c x y <;> rfl
@[simp] theorem kL4_s {x y : Option Int} : kL4 x y a (some v) = kV a (slF v x y) := rfl
@[simp] theorem slF_tup {x y : Option Int} : slF (.tup xs) x y = some (.tup (cutA xs x y)) := rfl
@[simp] theorem slF_lst {x y : Option Int} : slF (.lst xs) x y = some (.lst (cutA xs x y)) := rfl
-- built-ins
@[simp] theorem conts_nil : conts a [] = some [] := rfl
def kCs (v : Option AV) : Option (List AV) → Option (List AV)
  | some vs => v.map (· :: vs)
  | none => none
theorem conts_cons {hs : List Hd} : conts a (h :: hs) = kCs (cont a h) (conts a hs) := by
  show (cont a h).bind _ = _
  cases cont a h with
  | none => cases conts a hs <;> rfl
  | some v => cases conts a hs <;> rfl
@[simp] theorem conts1 : conts a [h] = (cont a h).map fun v => [v] := by
  show (cont a h).bind _ = _
  cases cont a h <;> rfl
@[simp] theorem conts2 : conts a [h, h'] = kCs (cont a h) (conts a [h']) := conts_cons
@[simp] theorem kCs_s : kCs (some v) (some xs) = some (v :: xs) := rfl
def kBi1 (f : Bi) : Option (List Hd × AS) → Option (AV × AS)
  | some r => (conts r.2 r.1).bind fun cs => (f r.2.S cs).map fun v => (v, r.2)
  | none => none
def kBi2 (f : Bi) (a : AS) : Option (List AV) → Option (AV × AS)
  | some cs => kV a (f a.S cs)
  | none => none
@[simp] theorem eBi_ev {f : Bi} {os : MOs} : eBi f os G a = kBi1 f (os G a) := by show (os G a).bind _ = _; cases os G a <;> rfl
@[simp] theorem kBi1_s {f : Bi} {hs : List Hd} : kBi1 f (some (hs, ⟨ρ, S⟩)) = kBi2 f ⟨ρ, S⟩ (conts ⟨ρ, S⟩ hs) := by
  show (conts (⟨ρ, S⟩ : AS) hs).bind _ = _
  cases conts (⟨ρ, S⟩ : AS) hs with
  | none => rfl
  | some c => show (f S c).map _ = kV _ (f S c); cases f S c <;> rfl
@[simp] theorem kBi2_s {f : Bi} : kBi2 f ⟨ρ, S⟩ (some xs) = kV ⟨ρ, S⟩ (f S xs) := rfl
def kFV (a : AS) : Option (List AV) → Option (List AV × AS)
  | some v => some (v, a)
  | none => none
@[simp] theorem kFV_s : kFV a (some xs) = some (xs, a) := rfl
def kFi1 (f : BiF) : Option (List Hd × AS) → Option (List AV × AS)
  | some r => (conts r.2 r.1).bind fun cs => (f r.2.S cs).map fun v => (v, r.2)
  | none => none
def kFi2 (f : BiF) (a : AS) : Option (List AV) → Option (List AV × AS)
  | some cs => kFV a (f a.S cs)
  | none => none
@[simp] theorem fBi_ev {f : BiF} {os : MOs} : fBi f os G a = kFi1 f (os G a) := by show (os G a).bind _ = _; cases os G a <;> rfl
@[simp] theorem kFi1_s {f : BiF} {hs : List Hd} : kFi1 f (some (hs, ⟨ρ, S⟩)) = kFi2 f ⟨ρ, S⟩ (conts ⟨ρ, S⟩ hs) := by
  show (conts (⟨ρ, S⟩ : AS) hs).bind _ = _
  cases conts (⟨ρ, S⟩ : AS) hs with
  | none => rfl
  | some c => show (f S c).map _ = kFV _ (f S c); cases f S c <;> rfl
@[simp] theorem kFi2_s {f : BiF} : kFi2 f ⟨ρ, S⟩ (some xs) = kFV ⟨ρ, S⟩ (f S xs) := rfl
def kSS (a : AS) : Option AV → Option (List AV × AS)
  | some (.lst xs) => (asInts xs).bind fun ns => if ns.length < 64 then some ((ssI ns).map .int, a) else none
  | _ => none
def kSS1 : Option (Hd × AS) → Option (List AV × AS)
  | some r => kSS r.2 (cont r.2 r.1)
  | none => none
@[simp] theorem fSS_ev : fSS oa G a = kSS1 (oa G a) := by
  show (oa G a).bind _ = _
  cases oa G a with
  | none => rfl
  | some r =>
    show (cont r.2 r.1).bind _ = kSS r.2 (cont r.2 r.1)
    cases cont r.2 r.1 with
    | none => rfl
    | some c => cases c <;> rfl
@[simp] theorem kSS1_s : kSS1 (some (h, ⟨ρ, S⟩)) = kSS ⟨ρ, S⟩ (cont ⟨ρ, S⟩ h) := rfl
@[simp] theorem kSS_s {ns : List Int} (h : ns.length < 64) : kSS a (some (.lst (ns.map .int))) = some ((ssI ns).map .int, a) := by
  show ((asInts (ns.map AV.int)).bind _) = _
  rw [asInts_map]
  exact if_pos h
def kIs (T : String) (a : AS) : Option String → Option (AV × AS)
  | some t => some (.bl (isiB t T), a)
  | none => none
def kIs2 (T : String) (a : AS) : Option AV → Option (AV × AS)
  | some v => kIs T a (tyN v)
  | none => none
def kIs1 (T : String) : Option (Hd × AS) → Option (AV × AS)
  | some r => kIs2 T r.2 (cont r.2 r.1)
  | none => none
@[simp] theorem eIsi_ev {T : String} : eIsi T oa G a = kIs1 T (oa G a) := by
  show (oa G a).bind _ = _
  cases oa G a with
  | none => rfl
  | some r =>
    show (cont r.2 r.1).bind _ = kIs2 T r.2 (cont r.2 r.1)
    cases cont r.2 r.1 with
    | none => rfl
    | some c => show (tyN c).map _ = kIs T _ (tyN c); cases tyN c <;> rfl
@[simp] theorem kIs1_s {T : String} : kIs1 T (some (h, ⟨ρ, S⟩)) = kIs2 T ⟨ρ, S⟩ (cont ⟨ρ, S⟩ h) := rfl
@[simp] theorem kIs2_s {T : String} : kIs2 T a (some v) = kIs T a (tyN v) := rfl
@[simp] theorem kIs_s {T t : String} : kIs T a (some t) = some (.bl (isiB t T), a) := rfl
@[simp] theorem tyN_non : tyN .non = some "NoneType" := rfl
@[simp] theorem tyN_bl : tyN (.bl b) = some "bool" := rfl
@[simp] theorem tyN_int {i : Int} : tyN (.int i) = some "int" := rfl
@[simp] theorem tyN_str {z : Str} : tyN (.str z) = some "str" := rfl
@[simp] theorem tyN_tup : tyN (.tup xs) = some "tuple" := rfl
@[simp] theorem isiB_ev {t T : String} : isiB t T = (t == T || (t == "bool" && T == "int")) := rfl
def kN1 : Option (Hd × AS) → Option (AV × AS)
  | some r => (cont r.2 r.1).bind fun c => (opNeg r.2.S c).map fun v => (v, r.2)
  | none => none
@[simp] theorem eNeg_ev : eNeg oa G a = kN1 (oa G a) := by show (oa G a).bind _ = _; cases oa G a <;> rfl
def kN2 (a : AS) : Option AV → Option (AV × AS)
  | some v => kV a (opNeg a.S v)
  | none => none
@[simp] theorem kN1_s : kN1 (some (h, ⟨ρ, S⟩)) = kN2 ⟨ρ, S⟩ (cont ⟨ρ, S⟩ h) := by
  show (cont (⟨ρ, S⟩ : AS) h).bind _ = _
  cases cont (⟨ρ, S⟩ : AS) h with
  | none => rfl
  | some c => show (opNeg S c).map _ = kV _ (opNeg S c); cases opNeg S c <;> rfl
@[simp] theorem kN2_s {i : Int} : kN2 a (some (.int i)) = some (.int (-i), a) := rfl
-- calls
def kCa (x : Str) (G : Gm) : Option (List AV × AS) → Option (AV × AS)
  | some r => (G x r.1 r.2.S).map fun q => (q.1, r.2.wS q.2)
  | none => none
def kRt (ρ : List (Option Slt)) : Option (AV × List SObj) → Option (AV × AS)
  | some q => some (q.1, ⟨ρ, q.2⟩)
  | none => none
@[simp] theorem eCall_ev {x : Str} {t : MAs} : eCall x t G a = kCa x G (t G a) := by show (t G a).bind _ = _; cases t G a <;> rfl
@[simp] theorem kCa_s {x : Str} : kCa x G (some (xs, ⟨ρ, S⟩)) = kRt ρ (G x xs S) := by show (G x xs S).map _ = _; cases G x xs S <;> rfl
@[simp] theorem kRt_s : kRt ρ (some (v, S)) = some (v, ⟨ρ, S⟩) := rfl
-- methods
def kAp1 (e : ME) (G : Gm) : Option (Hd × AS) → Option (AV × AS)
  | some r => (cont r.2 r.1).bind fun c => if isLst c = true then (e G r.2).bind fun q => (mutL q.2 (appL q.1) r.1).map fun a' => (.non, a') else none
  | none => none
def kAp2 (e : ME) (G : Gm) (h : Hd) (a : AS) : Option AV → Option (AV × AS)
  | some (.lst _) => (e G a).bind fun q => (mutL q.2 (appL q.1) h).map fun a' => (.non, a')
  | _ => none
def kU : Option AS → Option (AV × AS)
  | some a => some (.non, a)
  | none => none
def kAp3 (h : Hd) : Option (AV × AS) → Option (AV × AS)
  | some q => kU (mutL q.2 (appL q.1) h)
  | none => none
@[simp] theorem eApp_ev : eApp oa e G a = kAp1 e G (oa G a) := by show (oa G a).bind _ = _; cases oa G a <;> rfl
@[simp] theorem kAp1_s : kAp1 e G (some (h, ⟨ρ, S⟩)) = kAp2 e G h ⟨ρ, S⟩ (cont ⟨ρ, S⟩ h) := by
  show (cont (⟨ρ, S⟩ : AS) h).bind _ = _
  cases cont (⟨ρ, S⟩ : AS) h with
  | none => rfl
  | some c => cases c <;> rfl
@[simp] theorem kAp2_s : kAp2 e G h a (some (.lst xs)) = kAp3 h (e G a) := by
  show (e G a).bind _ = _
  cases e G a with
  | none => rfl
  | some q => show (mutL q.2 (appL q.1) h).map _ = kU (mutL q.2 (appL q.1) h); cases mutL q.2 (appL q.1) h <;> rfl
@[simp] theorem kAp3_s : kAp3 h (some (v, a)) = kU (mutL a (appL v) h) := rfl
@[simp] theorem kU_s : kU (some a) = some (.non, a) := rfl
@[simp] theorem mutL_v {g : List AV → Option (List AV)} : mutL a g (.val v) = mutV a g v := rfl
@[simp] theorem mutL_s {g : List AV → Option (List AV)} : mutL ⟨ρ, S⟩ g (.slot i) = mutO ⟨ρ, S⟩ i g ρ[i]? := rfl
def kMO1 (ρ : List (Option Slt)) (S : List SObj) (i : Nat) : Option (List AV) → Option AS
  | some ys => some ⟨ρ.set i (some (.own ys)), S⟩
  | none => none
@[simp] theorem mutO_o {g : List AV → Option (List AV)} : mutO ⟨ρ, S⟩ i g (some (some (.own xs))) = kMO1 ρ S i (g xs) := by show (g xs).map _ = _; cases g xs <;> rfl
@[simp] theorem mutO_v {g : List AV → Option (List AV)} : mutO a i g (some (some (.val v))) = mutV a g v := rfl
@[simp] theorem kMO1_s : kMO1 ρ S i (some ys) = some ⟨ρ.set i (some (.own ys)), S⟩ := rfl
@[simp] theorem mutV_r {g : List AV → Option (List AV)} : mutV ⟨ρ, S⟩ g (.ref n) = mutR ⟨ρ, S⟩ n g S[n]? := rfl
def kMR (ρ : List (Option Slt)) (S : List SObj) (n : Nat) : Option (List AV) → Option AS
  | some ys => some ⟨ρ, S.set n (.lst ys)⟩
  | none => none
@[simp] theorem mutR_s {g : List AV → Option (List AV)} : mutR ⟨ρ, S⟩ n g (some (.lst xs)) = kMR ρ S n (g xs) := by show (g xs).map _ = _; cases g xs <;> rfl
@[simp] theorem kMR_s : kMR ρ S n (some ys) = some ⟨ρ, S.set n (.lst ys)⟩ := rfl
@[simp] theorem appL_s (h : xs.length < 100000) : appL v xs = some (xs ++ [v]) := if_pos (Nat.lt_of_lt_of_le h (by decide))
def kSq1 (f : List AV → AV → Option AV) (ks : List Nat) (ob : MO) (G : Gm) : Option (Hd × AS) → Option (AV × AS)
  | some r => (cont r.2 r.1).bind fun c0 => if kind c0 ∈ ks then (ob G r.2).bind fun q => (cont q.2 r.1).bind fun c => (cont q.2 q.1).bind fun y => if kind c = kind c0 then (seqF f c y).map fun v => (v, q.2) else none else none
  | none => none
def kSq2 (f : List AV → AV → Option AV) (ks : List Nat) (ob : MO) (G : Gm) (h : Hd) (a : AS) : Option AV → Option (AV × AS)
  | some c0 => if kind c0 ∈ ks then (ob G a).bind fun q => (cont q.2 h).bind fun c => (cont q.2 q.1).bind fun y => if kind c = kind c0 then (seqF f c y).map fun v => (v, q.2) else none else none
  | none => none
def kSq3 (f : List AV → AV → Option AV) (h : Hd) (k : Nat) : Option (Hd × AS) → Option (AV × AS)
  | some q => (cont q.2 h).bind fun c => (cont q.2 q.1).bind fun y => if kind c = k then (seqF f c y).map fun v => (v, q.2) else none
  | none => none
def kSq4 (f : List AV → AV → Option AV) (k : Nat) (a : AS) : Option AV → Option AV → Option (AV × AS)
  | some c, some y => if kind c = k then kV a (seqF f c y) else none
  | _, _ => none
@[simp] theorem eSeqM_ev {g : List AV → AV → Option AV} {ks : List Nat} : eSeqM g ks oa ob G a = kSq1 g ks ob G (oa G a) := by show (oa G a).bind _ = _; cases oa G a <;> rfl
@[simp] theorem kSq1_s {g : List AV → AV → Option AV} {ks : List Nat} : kSq1 g ks ob G (some (h, ⟨ρ, S⟩)) = kSq2 g ks ob G h ⟨ρ, S⟩ (cont ⟨ρ, S⟩ h) := by
  show (cont (⟨ρ, S⟩ : AS) h).bind _ = _
  cases cont (⟨ρ, S⟩ : AS) h <;> rfl
@[simp] theorem kSq2_s {g : List AV → AV → Option AV} {ks : List Nat} (hk : kind v ∈ ks) : kSq2 g ks ob G h a (some v) = kSq3 g h (kind v) (ob G a) := by
  show (if kind v ∈ ks then _ else _) = _
  rw [if_pos hk]
  cases ob G a <;> rfl
@[simp] theorem kSq3_s {g : List AV → AV → Option AV} {k : Nat} : kSq3 g h k (some (h', ⟨ρ, S⟩)) = kSq4 g k ⟨ρ, S⟩ (cont ⟨ρ, S⟩ h) (cont ⟨ρ, S⟩ h') := by
  show (cont (⟨ρ, S⟩ : AS) h).bind _ = _
  cases cont (⟨ρ, S⟩ : AS) h with
  | none => rfl
  | some c =>
    show (cont (⟨ρ, S⟩ : AS) h').bind _ = _
    cases cont (⟨ρ, S⟩ : AS) h' with
    | none => rfl
    | some y =>
      show (if kind c = k then _ else _) = (if kind c = k then _ else _)
      cases seqF g c y <;> rfl
@[simp] theorem kSq4_s {g : List AV → AV → Option AV} {k : Nat} (hk : kind v = k) : kSq4 g k a (some v) (some w) = kV a (seqF g v w) := if_pos hk
@[simp] theorem kind_lst : kind (.lst xs) = 1 := rfl
@[simp] theorem kind_tup : kind (.tup xs) = 2 := rfl
@[simp] theorem seqF_lst {g : List AV → AV → Option AV} : seqF g (.lst xs) w = g xs w := rfl
@[simp] theorem seqF_tup {g : List AV → AV → Option AV} : seqF g (.tup xs) w = g xs w := rfl
-- statements
@[simp] theorem sSkip_ev : sSkip G a = some (.nx, a) := rfl
def kSeq (t : MS) (G : Gm) : Option (Out × AS) → Option (Out × AS)
  | some (.nx, a) => t G a
  | some (o, a) => some (o, a)
  | none => none
@[simp] theorem sSeq_ev : sSeq s t G a = kSeq t G (s G a) := by
  show (s G a).bind _ = _
  cases s G a with
  | none => rfl
  | some r => obtain ⟨o, a⟩ := r; cases o <;> rfl
@[simp] theorem kSeq_n : kSeq t G (some (.nx, a)) = t G a := rfl
@[simp] theorem kSeq_r : kSeq t G (some (.rt v, a)) = some (.rt v, a) := rfl
@[simp] theorem kSeq_b : kSeq t G (some (.bk, a)) = some (.bk, a) := rfl
@[simp] theorem kSeq_c : kSeq t G (some (.ct, a)) = some (.ct, a) := rfl
def kX : Option (AV × AS) → Option (Out × AS)
  | some r => some (.nx, r.2)
  | none => none
@[simp] theorem sExpr_ev : sExpr e G a = kX (e G a) := by show (e G a).map _ = _; cases e G a <;> rfl
@[simp] theorem kX_s : kX (some (v, a)) = some (.nx, a) := rfl
def kR : Option (AV × AS) → Option (Out × AS)
  | some r => some (.rt r.1, r.2)
  | none => none
@[simp] theorem sRet_ev : sRet e G a = kR (e G a) := by show (e G a).map _ = _; cases e G a <;> rfl
@[simp] theorem kR_s : kR (some (v, a)) = some (.rt v, a) := rfl
@[simp] theorem sRetN_ev : sRetN G a = some (.rt .non, a) := rfl
@[simp] theorem sBreak_ev : sBreak G a = some (.bk, a) := rfl
@[simp] theorem sCont_ev : sCont G a = some (.ct, a) := rfl
def kIf (s t : MS) (G : Gm) : Option (Bool × AS) → Option (Out × AS)
  | some (true, a) => s G a
  | some (false, a) => t G a
  | none => none
@[simp] theorem sIf_ev : sIf c s t G a = kIf s t G (c G a) := by
  show (c G a).bind _ = _
  cases c G a with
  | none => rfl
  | some r => obtain ⟨v, a⟩ := r; cases v <;> rfl
@[simp] theorem kIf_t : kIf s t G (some (true, a)) = s G a := rfl
@[simp] theorem kIf_f : kIf s t G (some (false, a)) = t G a := rfl
@[simp] theorem kIf_d {P : Prop} [Decidable P] : kIf s t G (some (decide P, a)) = if P then s G a else t G a := by by_cases p : P <;> simp [p]
def kAs (i : Nat) : Option (AV × AS) → Option (Out × AS)
  | some r => some (.nx, r.2.put i r.1)
  | none => none
@[simp] theorem sAsg_ev : sAsg i e G a = kAs i (e G a) := by show (e G a).map _ = _; cases e G a <;> rfl
@[simp] theorem kAs_s : kAs i (some (v, ⟨ρ, S⟩)) = some (.nx, ⟨ρ.set i (some (.val v)), S⟩) := rfl
def kOw (i : Nat) : Option (List AV × AS) → Option (Out × AS)
  | some r => some (.nx, r.2.putOwn i r.1)
  | none => none
@[simp] theorem sOwn_ev {t : MAs} : sOwn i t G a = kOw i (t G a) := by show (t G a).map _ = _; cases t G a <;> rfl
@[simp] theorem kOw_s : kOw i (some (xs, ⟨ρ, S⟩)) = some (.nx, ⟨ρ.set i (some (.own xs)), S⟩) := rfl
def kUn (is : List Nat) : Option (AV × AS) → Option (Out × AS)
  | some r => (seqOf r.2.S r.1).bind fun xs => (gNs is xs r.2).map fun a' => (.nx, a')
  | none => none
def kNx : Option AS → Option (Out × AS)
  | some a => some (.nx, a)
  | none => none
@[simp] theorem kNx_s : kNx (some a) = some (.nx, a) := rfl
def kUn2 (is : List Nat) (a : AS) : Option (List AV) → Option (Out × AS)
  | some xs => kNx (gNs is xs a)
  | none => none
@[simp] theorem sUnp_ev {is : List Nat} : sUnp is e G a = kUn is (e G a) := by show (e G a).bind _ = _; cases e G a <;> rfl
@[simp] theorem kUn_s {is : List Nat} : kUn is (some (v, ⟨ρ, S⟩)) = kUn2 is ⟨ρ, S⟩ (seqOf S v) := by
  show (seqOf S v).bind _ = _
  cases seqOf S v with
  | none => rfl
  | some xs => show (gNs is xs (⟨ρ, S⟩ : AS)).map _ = kNx (gNs is xs ⟨ρ, S⟩); cases gNs is xs (⟨ρ, S⟩ : AS) <;> rfl
@[simp] theorem kUn2_s {is : List Nat} : kUn2 is a (some xs) = kNx (gNs is xs a) := rfl
@[simp] theorem seqOf_tup : seqOf S (.tup xs) = some xs := rfl
@[simp] theorem seqOf_lst : seqOf S (.lst xs) = some xs := rfl
def kSO : AV → Option (List AV)
  | .lst xs => some xs
  | .tup xs => some xs
  | _ => none
@[simp] theorem seqOf_ref : seqOf S (.ref n) = kSO (resL n S[n]?) := by show (match res S (.ref n) with | .lst xs => some xs | .tup xs => some xs | _ => none) = _; rw [res_ref]; cases resL n S[n]? <;> rfl
@[simp] theorem kSO_l : kSO (.lst xs) = some xs := rfl
@[simp] theorem gNs_nil : gNs [] [] a = some a := rfl
@[simp] theorem gNs_cons {is : List Nat} : gNs (i :: is) (v :: xs) ⟨ρ, S⟩ = gNs is xs ⟨ρ.set i (some (.val v)), S⟩ := rfl
def kPa (is : List Nat) : Option (List AV × AS) → Option (Out × AS)
  | some r => kNx (gNs is r.1 r.2)
  | none => none
@[simp] theorem sPar_ev {is : List Nat} {t : MAs} : sPar is t G a = kPa is (t G a) := by
  show (t G a).bind _ = _
  cases t G a with
  | none => rfl
  | some r => show (gNs is r.1 r.2).map _ = kNx (gNs is r.1 r.2); cases gNs is r.1 r.2 <;> rfl
@[simp] theorem kPa_s {is : List Nat} : kPa is (some (xs, a)) = kNx (gNs is xs a) := rfl
def kSt1 (oa : MO) (e : ME) (G : Gm) : Option (AV × AS) → Option (Out × AS)
  | some r => (oa G r.2).bind fun r1 => (e G r1.2).bind fun r2 => (storeI r2.2 r1.1 r2.1 r.1).map fun a' => (.nx, a')
  | none => none
def kSt2 (e : ME) (G : Gm) (v : AV) : Option (Hd × AS) → Option (Out × AS)
  | some r1 => (e G r1.2).bind fun r2 => (storeI r2.2 r1.1 r2.1 v).map fun a' => (.nx, a')
  | none => none
def kSt3 (v : AV) (h : Hd) : Option (AV × AS) → Option (Out × AS)
  | some r2 => kNx (storeI r2.2 h r2.1 v)
  | none => none
@[simp] theorem sSet_ev {e1 e2 : ME} : sSet oa e1 e2 G a = kSt1 oa e1 G (e2 G a) := by show (e2 G a).bind _ = _; cases e2 G a <;> rfl
@[simp] theorem kSt1_s : kSt1 oa e G (some (v, a)) = kSt2 e G v (oa G a) := by show (oa G a).bind _ = _; cases oa G a <;> rfl
@[simp] theorem kSt2_s : kSt2 e G v (some (h, a)) = kSt3 v h (e G a) := by
  show (e G a).bind _ = _
  cases e G a with
  | none => rfl
  | some r2 => show (storeI r2.2 h r2.1 v).map _ = kNx (storeI r2.2 h r2.1 v); cases storeI r2.2 h r2.1 v <;> rfl
@[simp] theorem kSt3_s : kSt3 v h (some (w, a)) = kNx (storeI a h w v) := rfl
@[simp] theorem storeI_int {j : Int} : storeI a h (.int j) v = mutL a (setL j v) h := rfl
def kAu1 (f : Op2) (oa : MO) (G : Gm) (a : AS) (i : Nat) : Option AV → Option (Out × AS)
  | some (.int x) => (oa G a).bind fun r => (cont r.2 r.1).bind fun c => match c with
    | .int y => (f r.2.S (.int x) (.int y)).bind fun v => match v with
      | .int z => some (.nx, r.2.put i (.int z))
      | _ => none
    | _ => none
  | _ => none
def kAu2 (f : Op2) (i : Nat) (x : Int) : Option (Hd × AS) → Option (Out × AS)
  | some r => (cont r.2 r.1).bind fun c => match c with
    | .int y => (f r.2.S (.int x) (.int y)).bind fun v => match v with
      | .int z => some (.nx, r.2.put i (.int z))
      | _ => none
    | _ => none
  | none => none
def kAu4 (i : Nat) (a : AS) : Option AV → Option (Out × AS)
  | some (.int z) => some (.nx, a.put i (.int z))
  | _ => none
def kAu3 (f : Op2) (i : Nat) (x : Int) (a : AS) : Option AV → Option (Out × AS)
  | some (.int y) => kAu4 i a (f a.S (.int x) (.int y))
  | _ => none
@[simp] theorem sAug_ev : sAug i f oa G ⟨ρ, S⟩ = kAu1 f oa G ⟨ρ, S⟩ i (slotV S ρ[i]?) := by
  show (slotV S ρ[i]?).bind _ = _
  cases slotV S ρ[i]? with
  | none => rfl
  | some c =>
    cases c with
    | int x =>
      show (oa G (⟨ρ, S⟩ : AS)).bind _ = (oa G (⟨ρ, S⟩ : AS)).bind _
      cases oa G (⟨ρ, S⟩ : AS) with
      | none => rfl
      | some r =>
        show (cont r.2 r.1).bind _ = (cont r.2 r.1).bind _
        cases cont r.2 r.1 with
        | none => rfl
        | some c => cases c <;> rfl
    | _ =>
      show (oa G (⟨ρ, S⟩ : AS)).bind _ = none
      cases oa G (⟨ρ, S⟩ : AS) with
      | none => rfl
      | some r =>
        show (cont r.2 r.1).bind _ = none
        cases cont r.2 r.1 <;> rfl
@[simp] theorem kAu1_s {x : Int} : kAu1 f oa G a i (some (.int x)) = kAu2 f i x (oa G a) := by show (oa G a).bind _ = _; cases oa G a <;> rfl
@[simp] theorem kAu2_s {x : Int} : kAu2 f i x (some (h, ⟨ρ, S⟩)) = kAu3 f i x ⟨ρ, S⟩ (cont ⟨ρ, S⟩ h) := by
  show (cont (⟨ρ, S⟩ : AS) h).bind _ = _
  cases cont (⟨ρ, S⟩ : AS) h with
  | none => rfl
  | some c =>
    cases c with
    | int y => show (f S (.int x) (.int y)).bind _ = kAu4 i _ (f S (.int x) (.int y)); cases f S (.int x) (.int y) with
      | none => rfl
      | some v => cases v <;> rfl
    | _ => rfl
@[simp] theorem kAu3_s {x y : Int} : kAu3 f i x ⟨ρ, S⟩ (some (.int y)) = kAu4 i ⟨ρ, S⟩ (f S (.int x) (.int y)) := rfl
@[simp] theorem kAu4_s {z : Int} : kAu4 i ⟨ρ, S⟩ (some (.int z)) = some (.nx, ⟨ρ.set i (some (.val (.int z))), S⟩) := rfl
-- operators on plain values
@[simp] theorem opAdd_i {x y : Int} : opAdd S (.int x) (.int y) = some (.int (x + y)) := rfl
@[simp] theorem opAdd_t (h : xs.length + ys.length ≤ 100000) : opAdd S (.tup xs) (.tup ys) = some (.tup (xs ++ ys)) := if_pos (le_sl h)
@[simp] theorem opAdd_l (h : xs.length + ys.length ≤ 100000) : opAdd S (.lst xs) (.lst ys) = some (.lst (xs ++ ys)) := if_pos (le_sl h)
@[simp] theorem opSub_i {x y : Int} : opSub S (.int x) (.int y) = some (.int (x - y)) := rfl
theorem opMul_i {x y : Int} (h : (-(2 ^ 64) < x ∧ x < 2 ^ 64) ∨ (-(2 ^ 64) < y ∧ y < 2 ^ 64)) : opMul S (.int x) (.int y) = some (.int (x * y)) := if_pos h
theorem opMod_i {x y : Int} (h : 0 < y) : opMod S (.int x) (.int y) = some (.int (x % y)) := if_pos h
theorem opFdiv_i {x y : Int} (h : 0 < y ∧ y < 1073741824) : opFdiv S (.int x) (.int y) = some (.int (x / y)) := if_pos h
@[simp] theorem opI_i {g : Int → Int → Bool} {x y : Int} : opI g S (.int x) (.int y) = some (.bl (g x y)) := rfl
@[simp] theorem opIs_n : opIs S v .non = some (.bl (isNon v)) := by cases v <;> rfl
@[simp] theorem opIsN_n : opIsN S v .non = some (.bl (!isNon v)) := by cases v <;> rfl
@[simp] theorem isNon_non : isNon .non = true := rfl
@[simp] theorem isNon_bl : isNon (.bl b) = false := rfl
@[simp] theorem isNon_int {i : Int} : isNon (.int i) = false := rfl
@[simp] theorem isNon_str {z : Str} : isNon (.str z) = false := rfl
@[simp] theorem isNon_tup : isNon (.tup xs) = false := rfl
@[simp] theorem isNon_lst : isNon (.lst xs) = false := rfl
@[simp] theorem opIx_t {k : Int} : opIx S (.tup xs) (.int k) = atI xs k := rfl
@[simp] theorem opIx_l {k : Int} : opIx S (.lst xs) (.int k) = atI xs k := rfl
@[simp] theorem biLen_l : biLen S [.lst xs] = some (.int xs.length) := rfl
@[simp] theorem biLen_t : biLen S [.tup xs] = some (.int xs.length) := rfl
@[simp] theorem biTuple_l : biTuple S [.lst xs] = some (.tup xs) := rfl
@[simp] theorem biTuple_t : biTuple S [.tup xs] = some (.tup xs) := rfl
@[simp] theorem bfList_l : bfList S [.lst xs] = some xs := rfl
-- defs
@[simp] theorem runD_ev {e : DfE} (h : xs.length = e.n) : runD e G xs S = runB e.sz e.body G xs S := if_pos h
def kOut : Option (Out × AS) → Option (AV × List SObj)
  | some (.nx, a) => some (.non, a.S)
  | some (.rt v, a) => some (v, a.S)
  | _ => none
@[simp] theorem runB_ev {b : MS} {sz : Nat} : runB sz b G xs S = kOut (b G (frame sz xs S)) := by
  show (b G (frame sz xs S)).bind _ = _
  cases b G (frame sz xs S) with
  | none => rfl
  | some r => obtain ⟨o, a⟩ := r; cases o <;> rfl
@[simp] theorem kOut_n : kOut (some (.nx, ⟨ρ, S⟩)) = some (.non, S) := rfl
@[simp] theorem kOut_r : kOut (some (.rt v, ⟨ρ, S⟩)) = some (v, S) := rfl
end
/-! ### texts -/
theorem char_inj {c d : Char} (h : c.toNat = d.toNat) : c = d := by
  apply Char.ext
  exact UInt32.toNat_inj.mp h
theorem str_inj {s t : String} : PySem.Str.ofString s = PySem.Str.ofString t ↔ s = t := by
  constructor
  · intro h
    rw [PySem.Str.ofString_eq_toList, PySem.Str.ofString_eq_toList] at h
    have h1 : s.toList.map Char.toNat = t.toList.map Char.toNat := by
      have := congrArg PySem.Str.cps h
      simpa using this
    have h2 : s.toList = t.toList := by
      have inj : ∀ (l m : List Char), l.map Char.toNat = m.map Char.toNat → l = m := by
        intro l
        induction l with
        | nil => intro m h; cases m with
          | nil => rfl
          | cons _ _ => simp at h
        | cons c l ih =>
          intro m h
          cases m with
          | nil => simp at h
          | cons d m =>
            simp only [List.map_cons, List.cons.injEq] at h
            rw [char_inj h.1, ih m h.2]
      exact inj _ _ h1
    exact String.ext h2
  · rintro rfl; rfl
end Pyx
end
section
set_option maxRecDepth 100000
namespace Pyx
open PySem PySem.Spec PyProof.Rows L2

/-! ### what all laws' texts have: the tape, draws, sameness -/
def bTape : MS := (sSeq (sAsg 1 (eCon (.int 7))) (sSeq (sForV (eVar 0) (.one 2) (sSeq (sAsg 1 (eBin opMod (oE (eBi biInt (osCons (oE (eBin opAdd (oE (eBin opMul (oVar 1) (oE (eCon (.int 31))))) (oE (eBi biAbs (osCons (oE (eBi biInt (osCons (oVar 2) osNil))) osNil))))) osNil))) (oE (eCon (.int 2147483647))))) sSkip)) (sSeq (sRet (eLay (fLst (aCons (eFrz (fBi bfList (osCons (oVar 0) osNil))) (aCons (eCon (.int 0)) (aCons (eCon (.int 0)) (aCons (eVar 1) aNil))))))) sSkip)))
def bDraw : MS := (sSeq (sIf (mBool (eBin opEq (oE (eBin opIx (oVar 0) (oE (eCon (.int 2))))) (oE (eCon (.int 0))))) (sSeq (sAsg 2 (eBin opIx (oVar 0) (oE (eCon (.int 1))))) (sSeq (sAsg 3 (eCon (.int 0))) (sSeq (sIf (mBool (eBin opLt (oVar 2) (oE (eBi biLen (osCons (oE (eBin opIx (oVar 0) (oE (eCon (.int 0))))) osNil))))) (sSeq (sAsg 3 (eBi biAbs (osCons (oE (eBi biInt (osCons (oE (eBin opIx (oE (eBin opIx (oVar 0) (oE (eCon (.int 0))))) (oVar 2))) osNil))) osNil))) sSkip) (sSeq (sSet (oVar 0) (eCon (.int 3)) (eBin opMod (oE (eBi biInt (osCons (oE (eBin opAdd (oE (eBin opAdd (oE (eBin opMul (oE (eBin opIx (oVar 0) (oE (eCon (.int 3))))) (oE (eCon (.int 48271))))) (oVar 2))) (oE (eCon (.int 1))))) osNil))) (oE (eCon (.int 2147483647))))) (sSeq (sAsg 3 (eBin opIx (oVar 0) (oE (eCon (.int 3))))) sSkip))) (sSeq (sSet (oVar 0) (eCon (.int 1)) (eBin opAdd (oVar 2) (oE (eCon (.int 1))))) (sSeq (sIf (mBool (eBin opLt (oVar 3) (oE (eBin opPow (oE (eCon (.int 10))) (oE (eCon (.int 18))))))) (sSeq (sAsg 3 (eBin opMod (oE (eBi biInt (osCons (oE (eBin opAdd (oE (eBin opAdd (oE (eBin opMul (oVar 3) (oE (eCon (.int 48271))))) (oE (eBin opMul (oVar 2) (oE (eCon (.int 69621))))))) (oE (eCon (.int 5))))) osNil))) (oE (eCon (.int 2147483647))))) (sSeq (sAsg 3 (eBin opMod (oE (eBi biInt (osCons (oE (eBin opMul (oVar 3) (oE (eCon (.int 69621))))) osNil))) (oE (eCon (.int 2147483629))))) (sSeq (sRet (eBin opMod (oE (eBi biInt (osCons (oVar 3) osNil))) (oE (eBi biMax (osCons (oVar 1) (osCons (oE (eCon (.int 1))) osNil)))))) sSkip))) sSkip) (sSeq (sSet (oVar 0) (eCon (.int 2)) (eVar 3)) sSkip)))))) sSkip) (sSeq (sAsg 3 (eBin opIx (oVar 0) (oE (eCon (.int 2))))) (sSeq (sSet (oVar 0) (eCon (.int 2)) (eBin opFdiv (oVar 3) (oE (eBi biMax (osCons (oVar 1) (osCons (oE (eCon (.int 2))) osNil)))))) (sSeq (sRet (eBin opMod (oE (eBi biInt (osCons (oVar 3) osNil))) (oE (eBi biMax (osCons (oVar 1) (osCons (oE (eCon (.int 1))) osNil)))))) sSkip))))
def bPick : MS := (sSeq (sRet (eBin opIx (oVar 1) (oE (eCall "_law_draw" (aCons (eVar 0) (aCons (eBi biLen (osCons (oVar 1) osNil)) aNil)))))) sSkip)
def bSame : MS := (sSeq (sIf (mTru (oE (eIsi "tuple" (oVar 1)))) (sSeq (sIf (mOr (mNot (mTru (oE (eIsi "tuple" (oVar 0))))) (mBool (eBin opNe (oE (eBi biLen (osCons (oVar 0) osNil))) (oE (eBi biLen (osCons (oVar 1) osNil)))))) (sSeq (sRet (eCon (.bl false))) sSkip) sSkip) (sSeq (sRet (eBin opNotIn (oE (eCon (.bl false))) (oE (eFrz (fCompR asR1 (aCons (eBi biLen (osCons (oVar 1) osNil)) aNil) [2] (.one 2) mTrue (eCall "_law_same" (aCons (eBin opIx (oVar 0) (oVar 2)) (aCons (eBin opIx (oVar 1) (oVar 2)) aNil)))))))) sSkip)) sSkip) (sSeq (sIf (mOr (mBool (eBin opIs (oVar 1) (oE (eCon .non)))) (mBool (eBin opIs (oVar 0) (oE (eCon .non))))) (sSeq (sRet (eAnd (eBin opIs (oVar 1) (oE (eCon .non))) (eBin opIs (oVar 0) (oE (eCon .non))))) sSkip) sSkip) (sSeq (sIf (mOr (mBool (eBin opNe (oE (eIsi "bool" (oVar 0))) (oE (eIsi "bool" (oVar 1))))) (mBool (eBin opNe (oE (eIsi "str" (oVar 0))) (oE (eIsi "str" (oVar 1)))))) (sSeq (sRet (eCon (.bl false))) sSkip) sSkip) (sSeq (sRet (eAnd (eBin opEq (oE (eIsi "int" (oVar 0))) (oE (eIsi "int" (oVar 1)))) (eBin opEq (oVar 0) (oVar 1)))) sSkip))))

/-- the tape: the script, the place, what is left of a great number, the running total -/
structure Tp where
  cells : List Int
  place : Int
  rest : Int
  total : Int
def tpO (t : Tp) : SObj := .lst [.lst (t.cells.map .int), .int t.place, .int t.rest, .int t.total]
section
variable {G : Gm} {S : List SObj} {v : AV} {xs : List AV}
theorem atI_nat {α : Type} {xs : List α} {k : Nat} : L2.atI xs (k : Int) = xs[k]? := by
  unfold L2.atI L2.ixN
  rw [if_pos (by omega)]
  by_cases h : (k : Int) < xs.length
  · rw [if_pos h]; simp
  · rw [if_neg h]
    have : xs.length ≤ k := by omega
    simp [this]
theorem atI_lit {α : Type} {xs : List α} {k : Nat} [OfNat Int k] (h : (OfNat.ofNat k : Int) = (k : Int)) : L2.atI xs (OfNat.ofNat k : Int) = xs[k]? := by rw [h, atI_nat]
@[simp] theorem atI0 {α : Type} {xs : List α} : L2.atI xs 0 = xs[0]? := atI_nat (k := 0)
@[simp] theorem atI1 {α : Type} {xs : List α} : L2.atI xs 1 = xs[1]? := atI_nat (k := 1)
@[simp] theorem atI2 {α : Type} {xs : List α} : L2.atI xs 2 = xs[2]? := atI_nat (k := 2)
@[simp] theorem atI3 {α : Type} {xs : List α} : L2.atI xs 3 = xs[3]? := atI_nat (k := 3)
@[simp] theorem atI4 {α : Type} {xs : List α} : L2.atI xs 4 = xs[4]? := atI_nat (k := 4)
@[simp] theorem atI5 {α : Type} {xs : List α} : L2.atI xs 5 = xs[5]? := atI_nat (k := 5)
@[simp] theorem atI6 {α : Type} {xs : List α} : L2.atI xs 6 = xs[6]? := atI_nat (k := 6)
@[simp] theorem atI7 {α : Type} {xs : List α} : L2.atI xs 7 = xs[7]? := atI_nat (k := 7)
theorem ixN_nat {n k : Nat} (h : k < n) : L2.ixN n (k : Int) = some k := by
  unfold L2.ixN
  rw [if_pos (by omega), if_pos (by omega)]
  rfl
theorem setL_nat {k : Nat} (h : k < xs.length) : setL (k : Int) v xs = some (xs.set k v) := by
  unfold setL
  rw [ixN_nat h]
  rfl
@[simp] theorem setL0 (h : 0 < xs.length) : setL 0 v xs = some (xs.set 0 v) := setL_nat (k := 0) h
@[simp] theorem setL1 (h : 1 < xs.length) : setL 1 v xs = some (xs.set 1 v) := setL_nat (k := 1) h
@[simp] theorem setL2 (h : 2 < xs.length) : setL 2 v xs = some (xs.set 2 v) := setL_nat (k := 2) h
@[simp] theorem setL3 (h : 3 < xs.length) : setL 3 v xs = some (xs.set 3 v) := setL_nat (k := 3) h
@[simp] theorem setL4 (h : 4 < xs.length) : setL 4 v xs = some (xs.set 4 v) := setL_nat (k := 4) h
@[simp] theorem biInt_i {i : Int} : biInt S [.int i] = some (.int i) := rfl
@[simp] theorem biInt_b {b : Bool} : biInt S [.bl b] = some (.int (if b then 1 else 0)) := rfl
@[simp] theorem biAbs_i {i : Int} : biAbs S [.int i] = some (.int (if i < 0 then -i else i)) := rfl
@[simp] theorem biMax_i {i j : Int} : biMax S [.int i, .int j] = some (.int (if j > i then j else i)) := rfl
@[simp] theorem opEq_i {x y : Int} : opEq S (.int x) (.int y) = some (.bl (decide (x = y))) := by
  unfold opEq
  rw [if_pos ⟨rfl, rfl, by show min 0 0 ≤ 64; omega⟩]
  show some (AV.bl (PyData.eqv (.int x) (.int y))) = _
  simp [PyData.eqv, BEq.beq, decide_eq_decide]
end
/-- the draw's number is in its bounds, and the tape stays a tape -/
structure Tp.Ok (t : Tp) : Prop where
  pl : 0 ≤ t.place
  rs : 0 ≤ t.rest
theorem atI_cells {cs : List Int} {i : Int} (h0 : 0 ≤ i) (h1 : i < cs.length) : L2.atI (cs.map AV.int) i = some (.int (cs.getD i.toNat 0)) := by
  obtain ⟨k, rfl⟩ := Int.eq_ofNat_of_zero_le h0
  have hk : k < cs.length := by omega
  show L2.atI (cs.map AV.int) (k : Int) = _
  rw [atI_nat, List.getElem?_map, List.getElem?_eq_getElem hk]
  simp [List.getD, hk]
@[simp] theorem pow_18 {S : List SObj} : opPow S (.int 10) (.int 18) = some (.int 1000000000000000000) := by
  show (if (0 : Int) ≤ 18 ∧ (18 : Int) ≤ 1000000 ∧ (10 : Int).natAbs < 2 ^ 64 then some (AV.int ((10 : Int) ^ (18 : Int).toNat)) else none) = _
  rw [if_pos (by decide)]
  rfl
theorem pos_max {m c : Int} (h : 0 < c) : 0 < (if c > m then c else m) := by split <;> omega
theorem ex_of {α : Type} {x : Option α} {P : α → Prop} {y : α} (h : x = some y) (p : P y) : ∃ q, x = some q ∧ P q := ⟨y, h, p⟩
def DrawP (many : Int) (R : List SObj) (q : AV × List SObj) : Prop := ∃ (r : Int) (t' : Tp), q = (.int r, tpO t' :: R) ∧ t'.Ok ∧ 0 ≤ r ∧ (r < many ∨ r < 1)
theorem draw_ok (G : Gm) (t : Tp) (ht : t.Ok) (many : Int) (hm : many < 1073741824) (R : List SObj) :
    ∃ q, runD ⟨2, 4, bDraw⟩ G [.ref 0, .int many] (tpO t :: R) = some q ∧ DrawP many R q := by
  obtain ⟨cells, place, rest, total⟩ := t
  obtain ⟨hp, hr⟩ := ht
  simp only at hp hr
  have m1 : 0 < (if 1 > many then 1 else many) := pos_max (by omega)
  have m2 : 0 < (if 2 > many then 2 else many) ∧ (if 2 > many then 2 else many) < 1073741824 := by constructor <;> split <;> omega
  have fin : ∀ x : Int, 0 ≤ x % (if 1 > many then 1 else many) ∧ (x % (if 1 > many then 1 else many) < many ∨ x % (if 1 > many then 1 else many) < 1) := fun x => by
    refine ⟨Int.emod_nonneg _ (by omega), ?_⟩
    have := Int.emod_lt_of_pos x m1
    split at this <;> rename_i h <;> simp only [h, if_true, if_false] <;> omega
  have dv : ∀ x : Int, 0 ≤ x → 0 ≤ x / (if 2 > many then 2 else many) := fun x hx => Int.ediv_nonneg hx (by omega)
  have ab : ∀ x : Int, 0 ≤ (if x < 0 then -x else x) := fun x => by split <;> omega
  by_cases h0 : rest = 0
  · subst h0
    by_cases h1 : place < cells.length
    · have hc := atI_cells hp h1
      generalize cells.getD place.toNat 0 = z at hc
      have hz := ab z
      generalize hw : (if z < 0 then -z else z) = w at hz
      by_cases h2 : w < 1000000000000000000
      · apply ex_of
        · simp [bDraw, frame, tpO, h1, hc, hw, opMul_i, opMod_i, h2, m1, -gt_iff_lt]; rfl
        · exact ⟨_, ⟨cells, place + 1, 0, total⟩, rfl, ⟨by simp only; omega, by simp⟩, fin _⟩
      · apply ex_of
        · simp [bDraw, frame, tpO, h1, hc, hw, opMul_i, opMod_i, h2, m1, opFdiv_i m2, -gt_iff_lt]; rfl
        · exact ⟨_, ⟨cells, place + 1, _, total⟩, rfl, ⟨by simp only; omega, dv _ hz⟩, fin _⟩
    · have h2 : ((total * 48271 + place + 1) % 2147483647) < 1000000000000000000 := by omega
      apply ex_of
      · simp [bDraw, frame, tpO, h1, opMul_i, opMod_i, h2, m1, -gt_iff_lt]; rfl
      · exact ⟨_, ⟨cells, place + 1, 0, _⟩, rfl, ⟨by simp only; omega, by simp⟩, fin _⟩
  · apply ex_of
    · simp [bDraw, frame, tpO, h0, opMul_i, opMod_i, m1, opFdiv_i m2, -gt_iff_lt]; rfl
    · exact ⟨_, ⟨cells, place, _, total⟩, rfl, ⟨by simp only; omega, dv _ hr⟩, fin _⟩
end Pyx
end
section
set_option maxRecDepth 100000
namespace Pyx
open PySem PySem.Spec PyProof.Rows L2

/-! ### plain values of bounded depth -/
/-- no lists, no references -/
def sm : Nat → AV → Bool
  | _, .non => true
  | _, .bl _ => true
  | _, .int _ => true
  | _, .str z => PyData.strOk z
  | k + 1, .tup xs => decide (xs.length ≤ 10000) && xs.all (sm k)
  | _, _ => false
/-- numbers, texts and tuples of them: equal only where they are the same -/
def cn : Nat → AV → Bool
  | _, .int _ => true
  | _, .str z => PyData.strOk z
  | k + 1, .tup xs => decide (xs.length ≤ 10000) && xs.all (cn k)
  | _, _ => false
theorem sm_mk {k : Nat} {xs : List AV} (h : ∀ x ∈ xs, sm k x = true) (hl : xs.length ≤ 10000) : sm (k + 1) (.tup xs) = true := by
  show (decide (xs.length ≤ 10000) && xs.all (sm k)) = true
  rw [decide_eq_true hl, List.all_eq_true.mpr h]
  rfl
theorem cn_mk {k : Nat} {xs : List AV} (h : ∀ x ∈ xs, cn k x = true) (hl : xs.length ≤ 10000) : cn (k + 1) (.tup xs) = true := by
  show (decide (xs.length ≤ 10000) && xs.all (cn k)) = true
  rw [decide_eq_true hl, List.all_eq_true.mpr h]
  rfl
theorem sm_tup {k : Nat} {xs : List AV} (h : sm k (.tup xs) = true) : ∃ j, k = j + 1 ∧ (∀ x ∈ xs, sm j x = true) ∧ xs.length ≤ 10000 := by
  cases k with
  | zero => cases h
  | succ j =>
    have h' : (decide (xs.length ≤ 10000) && xs.all (sm j)) = true := h
    rw [Bool.and_eq_true] at h'
    exact ⟨j, rfl, fun x hx => List.all_eq_true.mp h'.2 x hx, of_decide_eq_true h'.1⟩
theorem cn_tup {k : Nat} {xs : List AV} (h : cn k (.tup xs) = true) : ∃ j, k = j + 1 ∧ (∀ x ∈ xs, cn j x = true) ∧ xs.length ≤ 10000 := by
  cases k with
  | zero => cases h
  | succ j =>
    have h' : (decide (xs.length ≤ 10000) && xs.all (cn j)) = true := h
    rw [Bool.and_eq_true] at h'
    exact ⟨j, rfl, fun x hx => List.all_eq_true.mp h'.2 x hx, of_decide_eq_true h'.1⟩
theorem cn_sm : ∀ (k : Nat) (v : AV), cn k v = true → sm k v = true
  | _, .int _, _ => by unfold sm; rfl
  | _, .str z, h => by unfold sm; unfold cn at h; exact h
  | k + 1, .tup xs, h => by
    obtain ⟨j, e, h', hl⟩ := cn_tup h
    cases e
    exact sm_mk (fun x hx => cn_sm k x (h' x hx)) hl
  | 0, .tup xs, h => by cases h
  | _, .non, h => by unfold cn at h; cases h
  | _, .bl _, h => by unfold cn at h; cases h
  | _, .lst _, h => by unfold cn at h; cases h
  | _, .ref _, h => by unfold cn at h; cases h
theorem okDs_all : ∀ {xs : List AV}, (∀ x ∈ xs, x.okD = true) → AV.okDs xs = true
  | [], _ => rfl
  | x :: xs, h => by
    show (x.okD && AV.okDs xs) = true
    rw [h x List.mem_cons_self, okDs_all fun y hy => h y (List.mem_cons_of_mem _ hy)]
    rfl
theorem nrs_all : ∀ {xs : List AV}, (∀ x ∈ xs, x.nr = true) → AV.nrs xs = true
  | [], _ => rfl
  | x :: xs, h => by
    show (x.nr && AV.nrs xs) = true
    rw [h x List.mem_cons_self, nrs_all fun y hy => h y (List.mem_cons_of_mem _ hy)]
    rfl
theorem deps_all {k : Nat} : ∀ {xs : List AV}, (∀ x ∈ xs, x.dep ≤ k) → PyData.depthAll (AV.pds xs) ≤ k
  | [], _ => Nat.zero_le _
  | x :: xs, h => by
    show max x.pd.depth (PyData.depthAll (AV.pds xs)) ≤ k
    have h1 : x.pd.depth ≤ k := h x List.mem_cons_self
    have h2 := deps_all (xs := xs) fun y hy => h y (List.mem_cons_of_mem _ hy)
    omega
theorem sm_okD : ∀ (k : Nat) (v : AV), sm k v = true → v.okD = true
  | _, .non, _ => rfl
  | _, .bl _, _ => rfl
  | _, .int _, _ => rfl
  | _, .str z, h => by unfold sm at h; exact h
  | k + 1, .tup xs, h => by
    obtain ⟨j, e, h', _⟩ := sm_tup h
    cases e
    exact okDs_all fun x hx => sm_okD k x (h' x hx)
  | 0, .tup xs, h => by cases h
  | _, .lst _, h => by unfold sm at h; cases h
  | _, .ref _, h => by unfold sm at h; cases h
theorem sm_nr : ∀ (k : Nat) (v : AV), sm k v = true → v.nr = true
  | _, .non, _ => rfl
  | _, .bl _, _ => rfl
  | _, .int _, _ => rfl
  | _, .str z, h => rfl
  | k + 1, .tup xs, h => by
    obtain ⟨j, e, h', _⟩ := sm_tup h
    cases e
    exact nrs_all fun x hx => sm_nr k x (h' x hx)
  | 0, .tup xs, h => by cases h
  | _, .lst _, h => by unfold sm at h; cases h
  | _, .ref _, h => by unfold sm at h; cases h
theorem sm_dep : ∀ (k : Nat) (v : AV), sm k v = true → v.dep ≤ k
  | _, .non, _ => Nat.zero_le _
  | _, .bl _, _ => Nat.zero_le _
  | _, .int _, _ => Nat.zero_le _
  | _, .str z, h => Nat.zero_le _
  | k + 1, .tup xs, h => by
    obtain ⟨j, e, h', _⟩ := sm_tup h
    cases e
    show PyData.depthAll (AV.pds xs) + 1 ≤ k + 1
    have := deps_all (k := k) (xs := xs) fun x hx => sm_dep k x (h' x hx)
    omega
  | 0, .tup xs, h => by cases h
  | _, .lst _, h => by unfold sm at h; cases h
  | _, .ref _, h => by unfold sm at h; cases h
mutual
theorem eqv_cn : ∀ (j k : Nat) (x y : AV), cn j x = true → cn k y = true → (PyData.eqv x.pd y.pd = true ↔ x = y)
  | j, k, .int i, .int i', _, _ => by simp [AV.pd, PyData.eqv]
  | j, k, .int i, .str z, _, _ => by simp [AV.pd, PyData.eqv]
  | j, k, .int i, .tup ys, _, _ => by simp [AV.pd, PyData.eqv]
  | j, k, .str z, .int i, _, _ => by simp [AV.pd, PyData.eqv]
  | j, k, .str z, .str z', _, _ => by simp [AV.pd, PyData.eqv]
  | j, k, .str z, .tup ys, _, _ => by simp [AV.pd, PyData.eqv]
  | j, k, .tup xs, .int i, _, _ => by simp [AV.pd, PyData.eqv]
  | j, k, .tup xs, .str z, _, _ => by simp [AV.pd, PyData.eqv]
  | j + 1, k + 1, .tup xs, .tup ys, h1, h2 => by
    obtain ⟨_, e1, h1', _⟩ := cn_tup h1
    obtain ⟨_, e2, h2', _⟩ := cn_tup h2
    cases e1; cases e2
    rw [show PyData.eqv (AV.tup xs).pd (AV.tup ys).pd = PyData.eqvAll (AV.pds xs) (AV.pds ys) by simp [AV.pd, PyData.eqv], eqvs_cn j k xs ys h1' h2']
    exact ⟨fun h => by rw [h], fun h => by cases h; rfl⟩
  | 0, _, .tup xs, _, h, _ => by cases h
  | _, 0, _, .tup xs, _, h => by cases h
  | _, _, .non, _, h, _ => by unfold cn at h; cases h
  | _, _, .bl _, _, h, _ => by unfold cn at h; cases h
  | _, _, .lst _, _, h, _ => by unfold cn at h; cases h
  | _, _, .ref _, _, h, _ => by unfold cn at h; cases h
  | _, _, _, .non, _, h => by unfold cn at h; cases h
  | _, _, _, .bl _, _, h => by unfold cn at h; cases h
  | _, _, _, .lst _, _, h => by unfold cn at h; cases h
  | _, _, _, .ref _, _, h => by unfold cn at h; cases h
theorem eqvs_cn : ∀ (j k : Nat) (xs ys : List AV), (∀ x ∈ xs, cn j x = true) → (∀ y ∈ ys, cn k y = true) → (PyData.eqvAll (AV.pds xs) (AV.pds ys) = true ↔ xs = ys)
  | j, k, [], [], _, _ => by simp [AV.pds, PyData.eqvAll]
  | j, k, [], _ :: _, _, _ => by simp [AV.pds, PyData.eqvAll]
  | j, k, _ :: _, [], _, _ => by simp [AV.pds, PyData.eqvAll]
  | j, k, x :: xs, y :: ys, h1, h2 => by
    rw [AV.pds, AV.pds, PyData.eqvAll, Bool.and_eq_true, eqv_cn j k x y (h1 _ List.mem_cons_self) (h2 _ List.mem_cons_self), eqvs_cn j k xs ys (fun z hz => h1 z (List.mem_cons_of_mem _ hz)) fun z hz => h2 z (List.mem_cons_of_mem _ hz), List.cons.injEq]
end
theorem eqb_cn {j k : Nat} {x y : AV} (h1 : cn j x = true) (h2 : cn k y = true) : x.eqb y = true ↔ x = y := eqv_cn j k x y h1 h2
theorem eqb_refl {k : Nat} {x : AV} (h : sm k x = true) : x.eqb x = true := PySem.SeqAt.eqv_refl _ (AV.okD_lay x (sm_okD k x h))
section
variable {S : List SObj} {x y : AV} {xs ys : List AV} {j k : Nat}
theorem opEq_sm (h1 : sm j x = true) (h2 : sm k y = true) (hk : j ≤ 64) : opEq S x y = some (.bl (x.eqb y)) := by
  unfold opEq
  rw [if_pos ⟨sm_okD j x h1, sm_okD k y h2, by have := sm_dep j x h1; omega⟩]
theorem opNe_sm (h1 : sm j x = true) (h2 : sm k y = true) (hk : j ≤ 64) : opNe S x y = some (.bl (!x.eqb y)) := by
  unfold opNe
  rw [if_pos ⟨sm_okD j x h1, sm_okD k y h2, by have := sm_dep j x h1; omega⟩]
theorem inSeq_sm (h1 : sm j x = true) (h2 : ∀ y ∈ ys, sm k y = true) (hk : j ≤ 64) : inSeq x ys = some (ys.any fun y => y.eqb x) := by
  unfold inSeq
  rw [if_pos ⟨sm_okD j x h1, okDs_all fun y hy => sm_okD k y (h2 y hy), by have := sm_dep j x h1; omega⟩]
theorem any_cn (h1 : cn j x = true) (h2 : ∀ y ∈ ys, cn k y = true) : (ys.any fun y => y.eqb x) = true ↔ x ∈ ys := by
  rw [List.any_eq_true]
  constructor
  · rintro ⟨y, hy, e⟩
    rw [← (eqb_cn (h2 y hy) h1).mp e]
    exact hy
  · intro h
    exact ⟨x, h, (eqb_cn h1 h1).mpr rfl⟩
/-- the place of a row -/
def pos (ys : List AV) (x : AV) : Option Nat := ys.findIdx? fun z => z.eqb x
theorem idxA_sm (h1 : sm j x = true) (h2 : ∀ y ∈ ys, sm k y = true) (hk : j ≤ 64) : idxA ys x = (pos ys x).map fun (n : Nat) => .int n := by
  unfold idxA pos
  rw [if_pos ⟨sm_okD j x h1, okDs_all fun y hy => sm_okD k y (h2 y hy), by have := sm_dep j x h1; omega⟩]
theorem pos_some {n : Nat} (h1 : cn j x = true) (h2 : ∀ y ∈ ys, cn k y = true) (h : pos ys x = some n) : ys[n]? = some x := by
  unfold pos at h
  rw [List.findIdx?_eq_some_iff_getElem] at h
  obtain ⟨hn, e, _⟩ := h
  rw [List.getElem?_eq_getElem hn, (eqb_cn (h2 _ (List.getElem_mem hn)) h1).mp e]
theorem pos_lt {n : Nat} (h : pos ys x = some n) : n < ys.length := by
  unfold pos at h
  rw [List.findIdx?_eq_some_iff_getElem] at h
  exact h.1
theorem pos_none (h1 : cn j x = true) (h2 : ∀ y ∈ ys, cn k y = true) : pos ys x = none ↔ x ∉ ys := by
  unfold pos
  rw [List.findIdx?_eq_none_iff]
  constructor
  · intro h hx
    have := h x hx
    rw [(eqb_cn h1 h1).mpr rfl] at this
    cases this
  · intro h z hz
    cases e : z.eqb x with
    | false => rfl
    | true => exact absurd ((eqb_cn (h2 z hz) h1).mp e ▸ hz) h
theorem any_pos : (ys.any fun y => y.eqb x) = (pos ys x).isSome := by
  unfold pos
  rw [List.findIdx?_isSome]
theorem pos_append_some {n : Nat} {zs : List AV} (h : pos ys x = some n) : pos (ys ++ zs) x = some n := by
  unfold pos at h ⊢
  rw [List.findIdx?_append, h]
  rfl
theorem pos_append_new (h1 : cn j x = true) (h : pos ys x = none) : pos (ys ++ [x]) x = some ys.length := by
  unfold pos at h ⊢
  rw [List.findIdx?_append, h]
  simp [List.findIdx?_cons, eqb_refl (cn_sm j x h1)]
end
/-! ### loops -/
theorem loopL_inv {tg : Tg} {body : AS → Option (Out × AS)} (I : Nat → AS → Prop) : ∀ {xs : List AV} {n : Nat} {a : AS},
    (∀ k x a, xs[k]? = some x → I (n + k) a → ∃ a1 o a2, asgT tg x a = some a1 ∧ body a1 = some (o, a2) ∧ (o = .nx ∨ o = .ct) ∧ I (n + k + 1) a2) → I n a → ∃ a', loopL tg body xs a = some (.nx, a') ∧ I (n + xs.length) a'
  | [], n, a, _, h0 => ⟨a, rfl, h0⟩
  | x :: xs, n, a, h, h0 => by
    obtain ⟨a1, o, a2, e1, e2, e3, e4⟩ := h 0 x a rfl h0
    obtain ⟨a', e5, e6⟩ := loopL_inv (tg := tg) (body := body) I (xs := xs) (n := n + 1) (a := a2) (fun k y b hk hI => by
      have := h (k + 1) y b (by simpa using hk) (by rw [show n + (k + 1) = n + 1 + k by omega]; exact hI)
      rw [show n + (k + 1) + 1 = n + 1 + k + 1 by omega] at this
      exact this) e4
    refine ⟨a', ?_, by rw [List.length_cons, show n + (xs.length + 1) = n + 1 + xs.length by omega]; exact e6⟩
    show ((asgT tg x a).bind fun a' => (body a').bind (turn (loopL tg body xs))) = _
    rw [e1]
    show (body a1).bind _ = _
    rw [e2]
    rcases e3 with rfl | rfl <;> exact e5
section
variable {G : Gm} {a : AS} {ρ : List (Option Slt)} {S : List SObj} {xs : List AV}
def kFo (tg : Tg) (b : MS) (G : Gm) : Option (AV × AS) → Option (Out × AS)
  | some (.lst xs, a) => loopL tg (b G) xs a
  | some (.tup xs, a) => loopL tg (b G) xs a
  | some (.ref n, a) => match a.S[n]? with
    | some (.lst xs) => loopR tg (b G) n xs.length xs.length a
    | _ => none
  | _ => none
@[simp] theorem sForV_ev {it : ME} {tg : Tg} {b : MS} : sForV it tg b G a = kFo tg b G (it G a) := by
  show (it G a).bind _ = _
  cases it G a with
  | none => rfl
  | some r => obtain ⟨v, a⟩ := r; cases v <;> rfl
@[simp] theorem kFo_l {tg : Tg} {b : MS} : kFo tg b G (some (.lst xs, a)) = loopL tg (b G) xs a := rfl
@[simp] theorem kFo_t {tg : Tg} {b : MS} : kFo tg b G (some (.tup xs, a)) = loopL tg (b G) xs a := rfl
def kFr (rg : List AV → Option (Int × Nat)) (tg : Tg) (b : MS) (G : Gm) : Option (List AV × AS) → Option (Out × AS)
  | some r => (rg r.1).bind fun p => loopL tg (b G) (rgA p.1 p.2) r.2
  | none => none
@[simp] theorem sForR_ev {rg : List AV → Option (Int × Nat)} {t : MAs} {tg : Tg} {b : MS} : sForR rg t tg b G a = kFr rg tg b G (t G a) := by show (t G a).bind _ = _; cases t G a <;> rfl
theorem asR1_nat {n : Nat} (h : n ≤ 1000000) : asR1 [.int (n : Int)] = some (0, n) := by
  have e : asR1 [.int (n : Int)] = if -(2 ^ 62) ≤ (n : Int) ∧ (n : Int) < 2 ^ 62 then some ((0 : Int), (n : Int).toNat) else none := rfl
  rw [e, if_pos ⟨by omega, by omega⟩, Int.toNat_natCast]
theorem kFr_1 {tg : Tg} {b : MS} {n : Nat} (h : n ≤ 1000000) : kFr asR1 tg b G (some ([.int (n : Int)], a)) = loopL tg (b G) (rgA 0 n) a := by
  show ((asR1 [.int (n : Int)]).bind fun p => loopL tg (b G) (rgA p.1 p.2) a) = loopL tg (b G) (rgA 0 n) a
  rw [asR1_nat h, Option.bind_some]
theorem rgA0_get {n i : Nat} (h : i < n) : (rgA 0 n)[i]? = some (.int (i : Int)) := by rw [rgA_get h]; simp
/-! ### comprehensions over one name, whose element changes nothing -/
theorem drop_put {i : Nat} {v : AV} : (AS.put ⟨ρ, S⟩ i v).drop i = AS.drop ⟨ρ, S⟩ i := by
  show (⟨(ρ.set i _).set i _, S⟩ : AS) = ⟨ρ.set i _, S⟩
  rw [List.set_set]
theorem put_drop {i : Nat} {v : AV} : (AS.drop ⟨ρ, S⟩ i).put i v = AS.put ⟨ρ, S⟩ i v := by
  show (⟨(ρ.set i _).set i _, S⟩ : AS) = ⟨ρ.set i _, S⟩
  rw [List.set_set]
theorem compL_pure {i : Nat} {tst : AS → Option (Bool × AS)} {elt : AS → Option (AV × AS)} {p : AV → Bool} {f : AV → AV} : ∀ {xs : List AV} {acc : List AV} {b : AS},
    b.drop i = AS.drop ⟨ρ, S⟩ i → (∀ x ∈ xs, tst (AS.put ⟨ρ, S⟩ i x) = some (p x, AS.put ⟨ρ, S⟩ i x)) → (∀ x ∈ xs, p x = true → elt (AS.put ⟨ρ, S⟩ i x) = some (f x, AS.put ⟨ρ, S⟩ i x)) → acc.length + xs.length ≤ 100000 →
    ∃ b', compL [i] (.one i) tst elt xs acc b = some (acc ++ (xs.filter p).map f, b') ∧ b'.drop i = AS.drop ⟨ρ, S⟩ i
  | [], acc, b, hb, _, _, _ => ⟨b, by simp [compL], hb⟩
  | x :: xs, acc, b, hb, h1, h2, hl => by
    have hl' : acc.length + xs.length + 1 ≤ 100000 := by simpa [Nat.add_assoc] using hl
    have e1 : compL [i] (.one i) tst elt (x :: xs) acc b = compT tst elt (compL [i] (.one i) tst elt xs) acc (AS.put ⟨ρ, S⟩ i x) := by
      show (asgT (.one i) x (clr b [i])).bind _ = _
      have : clr b [i] = AS.drop ⟨ρ, S⟩ i := hb
      rw [this]
      show compT tst elt (compL [i] (.one i) tst elt xs) acc ((AS.drop ⟨ρ, S⟩ i).put i x) = _
      rw [put_drop]
    rw [e1]
    unfold compT
    rw [h1 x List.mem_cons_self]
    cases hp : p x with
    | true =>
      obtain ⟨b', e2, e3⟩ := compL_pure (i := i) (tst := tst) (elt := elt) (p := p) (f := f) (xs := xs) (acc := acc ++ [f x]) (b := AS.put ⟨ρ, S⟩ i x) drop_put (fun y hy => h1 y (List.mem_cons_of_mem _ hy)) (fun y hy => h2 y (List.mem_cons_of_mem _ hy)) (by simp; omega)
      refine ⟨b', ?_, e3⟩
      show (if (true : Bool) = true then (if acc.length < sizeLine then (elt (AS.put ⟨ρ, S⟩ i x)).bind (fun q => compL [i] (.one i) tst elt xs (acc ++ [q.1]) q.2) else none) else compL [i] (.one i) tst elt xs acc (AS.put ⟨ρ, S⟩ i x)) = _
      rw [if_pos rfl, if_pos (Nat.lt_of_lt_of_le (by omega : acc.length < 100000) (by decide)), h2 x List.mem_cons_self hp]
      show compL [i] (.one i) tst elt xs (acc ++ [f x]) (AS.put ⟨ρ, S⟩ i x) = _
      rw [e2, List.filter_cons_of_pos hp]
      simp
    | false =>
      obtain ⟨b', e2, e3⟩ := compL_pure (i := i) (tst := tst) (elt := elt) (p := p) (f := f) (xs := xs) (acc := acc) (b := AS.put ⟨ρ, S⟩ i x) drop_put (fun y hy => h1 y (List.mem_cons_of_mem _ hy)) (fun y hy => h2 y (List.mem_cons_of_mem _ hy)) (by omega)
      refine ⟨b', ?_, e3⟩
      show (if (false : Bool) = true then (if acc.length < sizeLine then (elt (AS.put ⟨ρ, S⟩ i x)).bind (fun q => compL [i] (.one i) tst elt xs (acc ++ [q.1]) q.2) else none) else compL [i] (.one i) tst elt xs acc (AS.put ⟨ρ, S⟩ i x)) = _
      rw [if_neg (by decide), e2, List.filter_cons_of_neg (by rw [hp]; decide)]
def kFc (vs : List Nat) (tg : Tg) (tst : MT) (elt : ME) (G : Gm) : Option (AV × AS) → Option (List AV × AS)
  | some r => if noOwn r.2 vs = true then (compV vs tg (tst G) (elt G) r.2 r.1).map fun q => (q.1, rst r.2 (clr q.2 vs) vs) else none
  | none => none
@[simp] theorem fComp_ev {it : ME} {vs : List Nat} {tg : Tg} {tst : MT} {elt : ME} : fComp it vs tg tst elt G a = kFc vs tg tst elt G (it G a) := by show (it G a).bind _ = _; cases it G a <;> rfl
def kFcR (rg : List AV → Option (Int × Nat)) (vs : List Nat) (tg : Tg) (tst : MT) (elt : ME) (G : Gm) : Option (List AV × AS) → Option (List AV × AS)
  | some r => if noOwn r.2 vs = true then (rg r.1).bind fun p => (compL vs tg (tst G) (elt G) (rgA p.1 p.2) [] r.2).map fun q => (q.1, rst r.2 (clr q.2 vs) vs) else none
  | none => none
@[simp] theorem fCompR_ev {rg : List AV → Option (Int × Nat)} {t : MAs} {vs : List Nat} {tg : Tg} {tst : MT} {elt : ME} : fCompR rg t vs tg tst elt G a = kFcR rg vs tg tst elt G (t G a) := by show (t G a).bind _ = _; cases t G a <;> rfl
theorem rst_back {i : Nat} {b' : AS} (h : b'.drop i = AS.drop ⟨ρ, S⟩ i) : rst ⟨ρ, S⟩ (clr b' [i]) [i] = ⟨ρ, S⟩ := by
  have e : clr b' [i] = ⟨ρ.set i none, S⟩ := h
  rw [e]
  show (⟨(ρ.set i none).set i ((ρ[i]?).getD none), S⟩ : AS) = _
  rw [List.set_set]
  congr 1
  apply List.ext_getElem?
  intro j
  rw [List.getElem?_set]
  split
  · rename_i e; subst e
    split
    · rename_i hl; rw [List.getElem?_eq_getElem hl]; rfl
    · rename_i hl; rw [List.getElem?_eq_none (by omega)]
  · rfl
theorem comp_pure {i : Nat} {tst : MT} {elt : ME} {p : AV → Bool} {f : AV → AV} {v : AV} (hv : v = .lst xs ∨ v = .tup xs) (hn : noOwn ⟨ρ, S⟩ [i] = true) (h1 : ∀ x ∈ xs, tst G ⟨ρ.set i (some (.val x)), S⟩ = some (p x, ⟨ρ.set i (some (.val x)), S⟩))
    (h2 : ∀ x ∈ xs, p x = true → elt G ⟨ρ.set i (some (.val x)), S⟩ = some (f x, ⟨ρ.set i (some (.val x)), S⟩)) (hl : xs.length ≤ 100000) :
    kFc [i] (.one i) tst elt G (some (v, ⟨ρ, S⟩)) = some ((xs.filter p).map f, ⟨ρ, S⟩) := by
  obtain ⟨b', e1, e2⟩ := compL_pure (ρ := ρ) (S := S) (i := i) (tst := tst G) (elt := elt G) (p := p) (f := f) (xs := xs) (acc := []) (b := ⟨ρ, S⟩) rfl h1 h2 (by simpa using hl)
  show (if noOwn (⟨ρ, S⟩ : AS) [i] = true then (compV [i] (.one i) (tst G) (elt G) ⟨ρ, S⟩ v).map (fun q => (q.1, rst ⟨ρ, S⟩ (clr q.2 [i]) [i])) else none) = _
  rw [if_pos hn]
  have e3 : compV [i] (.one i) (tst G) (elt G) ⟨ρ, S⟩ v = compL [i] (.one i) (tst G) (elt G) xs [] ⟨ρ, S⟩ := by rcases hv with rfl | rfl <;> rfl
  rw [e3, e1]
  show some (_, rst ⟨ρ, S⟩ (clr b' [i]) [i]) = _
  rw [rst_back e2]
  rfl
theorem compR_pure {i n : Nat} {tst : MT} {elt : ME} {p : AV → Bool} {f : AV → AV} (hn : noOwn ⟨ρ, S⟩ [i] = true) (h1 : ∀ k : Nat, k < n → tst G ⟨ρ.set i (some (.val (.int (k : Int)))), S⟩ = some (p (.int k), ⟨ρ.set i (some (.val (.int (k : Int)))), S⟩))
    (h2 : ∀ k : Nat, k < n → p (.int k) = true → elt G ⟨ρ.set i (some (.val (.int (k : Int)))), S⟩ = some (f (.int k), ⟨ρ.set i (some (.val (.int (k : Int)))), S⟩)) (hl : n ≤ 100000) :
    kFcR asR1 [i] (.one i) tst elt G (some ([.int (n : Int)], ⟨ρ, S⟩)) = some (((rgA 0 n).filter p).map f, ⟨ρ, S⟩) := by
  have mem : ∀ x ∈ rgA 0 n, ∃ k : Nat, k < n ∧ x = .int (k : Int) := fun x hx => by
    obtain ⟨k, hk, e⟩ := List.mem_map.mp hx
    exact ⟨k, List.mem_range.mp hk, by rw [← e]; simp⟩
  obtain ⟨b', e1, e2⟩ := compL_pure (ρ := ρ) (S := S) (i := i) (tst := tst G) (elt := elt G) (p := p) (f := f) (xs := rgA 0 n) (acc := []) (b := ⟨ρ, S⟩) rfl
    (fun x hx => by obtain ⟨k, hk, rfl⟩ := mem x hx; exact h1 k hk) (fun x hx => by obtain ⟨k, hk, rfl⟩ := mem x hx; exact h2 k hk) (by simp [rgA_length]; exact hl)
  show (if noOwn (⟨ρ, S⟩ : AS) [i] = true then (asR1 [.int (n : Int)]).bind (fun p => (compL [i] (.one i) (tst G) (elt G) (rgA p.1 p.2) [] ⟨ρ, S⟩).map fun q => (q.1, rst ⟨ρ, S⟩ (clr q.2 [i]) [i])) else none) = _
  rw [if_pos hn, asR1_nat (by omega)]
  show (compL [i] (.one i) (tst G) (elt G) (rgA 0 n) [] ⟨ρ, S⟩).map _ = _
  rw [e1]
  show some (_, rst ⟨ρ, S⟩ (clr b' [i]) [i]) = _
  rw [rst_back e2]
  rfl
end
/-! ### _law_same of a thing with itself -/
theorem allT {n : Nat} : (((rgA 0 n).filter fun _ => true).map fun _ => AV.bl true) = List.replicate n (.bl true) := by
  rw [List.filter_eq_self.mpr fun _ _ => rfl]
  apply List.ext_getElem?
  intro j
  rw [List.getElem?_map, List.getElem?_replicate]
  split
  · rename_i h; rw [rgA_get h]; rfl
  · rename_i h; rw [List.getElem?_eq_none (by rw [rgA_length]; omega)]; rfl
theorem notIn_allT {S : List SObj} {n : Nat} : opNotIn S (.bl false) (.lst (List.replicate n (.bl true))) = some (.bl true) := by
  show (inSeq (.bl false) (List.replicate n (.bl true))).map _ = _
  rw [inSeq_sm (j := 0) (k := 0) (by unfold sm; rfl) (fun y hy => by rw [List.eq_of_mem_replicate hy]; unfold sm; rfl) (by omega)]
  have : ((List.replicate n (AV.bl true)).any fun y => y.eqb (.bl false)) = false := by
    rw [List.any_eq_false]
    intro y hy
    rw [List.eq_of_mem_replicate hy]
    decide
  rw [this]
  rfl
@[simp] theorem opNe_i {S : List SObj} {x y : Int} : opNe S (.int x) (.int y) = some (.bl (!decide (x = y))) := by
  rw [opNe_sm (j := 0) (k := 0) (by unfold sm; rfl) (by unfold sm; rfl) (by omega)]
  have : (AV.int x).eqb (.int y) = decide (x = y) := by simp [AV.eqb, AV.pd, PyData.eqv, BEq.beq]
  rw [this]
@[simp] theorem opNe_b {S : List SObj} {x y : Bool} : opNe S (.bl x) (.bl y) = some (.bl (x != y)) := by
  rw [opNe_sm (j := 0) (k := 0) (by unfold sm; rfl) (by unfold sm; rfl) (by omega)]
  have : (AV.bl x).eqb (.bl y) = (x == y) := by simp [AV.eqb, AV.pd, PyData.eqv]
  rw [this]; rfl
@[simp] theorem opEq_b {S : List SObj} {x y : Bool} : opEq S (.bl x) (.bl y) = some (.bl (x == y)) := by
  rw [opEq_sm (j := 0) (k := 0) (by unfold sm; rfl) (by unfold sm; rfl) (by omega)]
  have : (AV.bl x).eqb (.bl y) = (x == y) := by simp [AV.eqb, AV.pd, PyData.eqv]
  rw [this]
theorem opEq_refl {S : List SObj} {k : Nat} {x : AV} (h : sm k x = true) (hk : k ≤ 64) : opEq S x x = some (.bl true) := by rw [opEq_sm h h hk, eqb_refl h]
theorem same_ok {T : List (Str × DfE)} (hT : T.lookup ("_law_same" : Str) = some (⟨2, 3, bSame⟩ : DfE)) : ∀ (k d : Nat) (v : AV) (S : List SObj), sm k v = true → lvl T (d + k + 1) "_law_same" [v, v] S = some (.bl true, S) := by
  have step : ∀ (d : Nat) (args : List AV) (S : List SObj), lvl T (d + 1) "_law_same" args S = runD ⟨2, 3, bSame⟩ (lvl T d) args S := fun d args S => by
    show ((T.lookup ("_law_same" : Str)).bind fun e => runD e (lvl T d) args S) = _
    rw [hT]
    rfl
  intro k
  induction k with
  | zero =>
    intro d v S h
    rw [Nat.add_zero, step]
    cases v with
    | non => simp [bSame, frame]
    | bl b => cases b <;> simp [bSame, frame]
    | int i => simp [bSame, frame]
    | str z => simp [bSame, frame, opEq_refl h]
    | _ => cases h
  | succ k ih =>
    intro d v S h
    rw [show d + (k + 1) + 1 = (d + k + 1) + 1 by omega, step]
    cases v with
    | non => simp [bSame, frame]
    | bl b => cases b <;> simp [bSame, frame]
    | int i => simp [bSame, frame]
    | str z => simp [bSame, frame, opEq_refl (k := 0) (x := .str z) (by unfold sm; unfold sm at h; exact h)]
    | tup xs =>
      obtain ⟨j, e, h', hl⟩ := sm_tup h
      cases e
      have cp := compR_pure (G := lvl T (d + k + 1)) (ρ := [some (.val (.tup xs)), some (.val (.tup xs)), none]) (S := S) (i := 2) (n := xs.length) (tst := mTrue) (elt := eCall "_law_same" (aCons (eBin opIx (oVar 0) (oVar 2)) (aCons (eBin opIx (oVar 1) (oVar 2)) aNil))) (p := fun _ => true) (f := fun _ => .bl true) (by rfl)
        (fun i hi => rfl) (fun i hi _ => by
          have hx : xs[i]? = some xs[i] := List.getElem?_eq_getElem hi
          simp [atI_nat, hx, ih d xs[i] S (h' _ (List.getElem_mem hi))]) (by omega)
      rw [allT] at cp
      simp -implicitDefEqProofs [bSame, frame, cp, notIn_allT]
    | _ => cases h
end Pyx
end
section
set_option maxRecDepth 100000
namespace K35
open PySem PySem.Spec PyProof.Rows L2 Pyx
def top (i : Nat) : Stmt := PySem.Challenge.pw_sealedlink_k35_whole_generations_go_toge.main.body.getD i (.Pass ⟨0, 0, 0, 0⟩)
abbrev D_size_of : DD := ⟨"size_of", ["datum"], ["datum", "part"], defArgs (top 1), defBody (top 1), defScope (top 1), []⟩
abbrev D_header_of : DD := ⟨"header_of", ["packet"], ["packet"], defArgs (top 3), defBody (top 3), defScope (top 3), []⟩
abbrev D_with_secret : DD := ⟨"with_secret", ["vault", "row"], ["vault", "row", "secrets", "entries"], defArgs (top 5), defBody (top 5), defScope (top 5), []⟩
abbrev D_with_entry : DD := ⟨"with_entry", ["vault", "row"], ["vault", "row", "secrets", "entries"], defArgs (top 6), defBody (top 6), defScope (top 6), []⟩
abbrev D_row_of : DD := ⟨"row_of", ["vault", "entry", "word"], ["vault", "entry", "word", "entries"], defArgs (top 7), defBody (top 7), defScope (top 7), []⟩
abbrev D_derive : DD := ⟨"derive", ["vault", "secret", "label", "context"], ["vault", "secret", "label", "context"], defArgs (top 8), defBody (top 8), defScope (top 8), []⟩
abbrev D_seal : DD := ⟨"seal", ["vault", "secret", "number", "header", "content"], ["vault", "secret", "number", "header", "content", "grown", "entry"], defArgs (top 9), defBody (top 9), defScope (top 9), []⟩
abbrev D_unseal : DD := ⟨"unseal", ["vault", "secret", "header", "box"], ["vault", "secret", "header", "box", "entry", "size", "row", "_", "key", "number", "told", "content"], defArgs (top 10), defBody (top 10), defScope (top 10), []⟩
abbrev D_next_key : DD := ⟨"next_key", ["vault", "key"], ["vault", "key"], defArgs (top 12), defBody (top 12), defScope (top 12), []⟩
abbrev D_phase_of : DD := ⟨"phase_of", ["generation"], ["generation"], defArgs (top 14), defBody (top 14), defScope (top 14), []⟩
abbrev D_seal_app : DD := ⟨"seal_app", ["vault", "keys", "target", "number", "content"], ["vault", "keys", "target", "number", "content", "header", "box"], defArgs (top 15), defBody (top 15), defScope (top 15), []⟩
abbrev D_next_sending : DD := ⟨"next_sending", ["vault", "keys"], ["vault", "keys", "sending", "generation", "receiving", "receiving_generation", "previous", "until", "first", "confirmed", "key"], defArgs (top 16), defBody (top 16), defScope (top 16), []⟩
abbrev D_go_on : DD := ⟨"go_on", ["vault", "keys", "key", "until"], ["vault", "keys", "key", "until", "sending", "generation", "receiving", "receiving_generation", "previous", "ended", "first", "confirmed"], defArgs (top 17), defBody (top 17), defScope (top 17), []⟩
abbrev D_unseal_app : DD := ⟨"unseal_app", ["vault", "keys", "packet", "until"], ["vault", "keys", "packet", "until", "header", "box", "opened", "behind", "key"], defArgs (top 18), defBody (top 18), defScope (top 18), []⟩
abbrev D_may_renew : DD := ⟨"may_renew", ["keys"], ["keys"], defArgs (top 19), defBody (top 19), defScope (top 19), []⟩
abbrev D_renew : DD := ⟨"renew", ["vault", "keys"], ["vault", "keys"], defArgs (top 20), defBody (top 20), defScope (top 20), []⟩
abbrev D_learn_acknowledged : DD := ⟨"learn_acknowledged", ["keys", "numbers"], ["keys", "numbers", "number"], defArgs (top 21), defBody (top 21), defScope (top 21), []⟩
abbrev D_erase_previous : DD := ⟨"erase_previous", ["keys", "now"], ["keys", "now"], defArgs (top 22), defBody (top 22), defScope (top 22), []⟩
abbrev D__law_tape : DD := ⟨"_law_tape", ["script"], ["script", "total", "cell"], defArgs (top 24), defBody (top 24), defScope (top 24), [((90, 11), 2)]⟩
abbrev D__law_draw : DD := ⟨"_law_draw", ["tape", "many"], ["tape", "many", "place", "number"], defArgs (top 25), defBody (top 25), defScope (top 25), []⟩
abbrev D__law_pick : DD := ⟨"_law_pick", ["tape", "rows"], ["tape", "rows"], defArgs (top 26), defBody (top 26), defScope (top 26), []⟩
abbrev D__law_whole : DD := ⟨"_law_whole", ["told"], ["told"], defArgs (top 27), defBody (top 27), defScope (top 27), []⟩
abbrev D__law_same : DD := ⟨"_law_same", ["told", "wanted"], ["told", "wanted", "k"], defArgs (top 28), defBody (top 28), defScope (top 28), []⟩
abbrev D__law_number : DD := ⟨"_law_number", ["tape"], ["tape", "choice"], defArgs (top 29), defBody (top 29), defScope (top 29), []⟩
abbrev D__law_size : DD := ⟨"_law_size", ["datum"], ["datum", "part"], defArgs (top 30), defBody (top 30), defScope (top 30), []⟩
abbrev D__law_secret : DD := ⟨"_law_secret", ["vault", "row"], ["vault", "row"], defArgs (top 31), defBody (top 31), defScope (top 31), []⟩
abbrev D__law_entry : DD := ⟨"_law_entry", ["vault", "row"], ["vault", "row"], defArgs (top 32), defBody (top 32), defScope (top 32), []⟩
abbrev D__law_pair : DD := ⟨"_law_pair", ["vault"], ["vault"], defArgs (top 33), defBody (top 33), defScope (top 33), []⟩
abbrev D__law_frozen : DD := ⟨"_law_frozen", ["vault"], ["vault"], defArgs (top 34), defBody (top 34), defScope (top 34), []⟩
abbrev D__law_noise : DD := ⟨"_law_noise", ["tape", "vault"], ["tape", "vault", "k", "choice", "secret", "rows"], defArgs (top 35), defBody (top 35), defScope (top 35), []⟩
abbrev D__law_at : DD := ⟨"_law_at", ["rows", "k"], ["rows", "k"], defArgs (top 36), defBody (top 36), defScope (top 36), []⟩
abbrev D__law_opened : DD := ⟨"_law_opened", ["vault", "secret", "packet"], ["vault", "secret", "packet", "row"], defArgs (top 37), defBody (top 37), defScope (top 37), []⟩
abbrev D__law_goes_on : DD := ⟨"_law_goes_on", ["vault", "keys"], ["vault", "keys", "key"], defArgs (top 38), defBody (top 38), defScope (top 38), []⟩
abbrev D__law_unsealed : DD := ⟨"_law_unsealed", ["vault", "keys", "packet", "until"], ["vault", "keys", "packet", "until", "got", "row", "key"], defArgs (top 39), defBody (top 39), defScope (top 39), []⟩
abbrev D__law_sealed : DD := ⟨"_law_sealed", ["vault", "keys", "target", "number", "content"], ["vault", "keys", "target", "number", "content", "header", "entry"], defArgs (top 40), defBody (top 40), defScope (top 40), []⟩
abbrev D__law_frames : DD := ⟨"_law_frames", ["tape"], ["tape", "rows"], defArgs (top 41), defBody (top 41), defScope (top 41), []⟩
abbrev D__law_bounds_hold : DD := ⟨"_law_bounds_hold", ["keys"], ["keys", "k", "one", "other"], defArgs (top 42), defBody (top 42), defScope (top 42), []⟩
abbrev D__law_seals : DD := ⟨"_law_seals", ["tape", "run", "k"], ["tape", "run", "k", "vault", "frozen", "content", "target", "number", "told", "generation", "due"], defArgs (top 43), defBody (top 43), defScope (top 43), []⟩
abbrev D__law_delivers : DD := ⟨"_law_delivers", ["tape", "run", "j", "k"], ["tape", "run", "j", "k", "packet", "vault", "frozen", "until", "told", "state", "due", "fine"], defArgs (top 44), defBody (top 44), defScope (top 44), []⟩
abbrev D__law_learns : DD := ⟨"_law_learns", ["tape", "run", "k"], ["tape", "run", "k", "numbers", "keys", "told", "one"], defArgs (top 45), defBody (top 45), defScope (top 45), []⟩
abbrev D__law_renews : DD := ⟨"_law_renews", ["run", "k"], ["run", "k", "keys", "fine", "frozen"], defArgs (top 46), defBody (top 46), defScope (top 46), []⟩
abbrev D__law_erases : DD := ⟨"_law_erases", ["tape", "run", "k"], ["tape", "run", "k", "keys", "told"], defArgs (top 47), defBody (top 47), defScope (top 47), []⟩
abbrev D__law_does : DD := ⟨"_law_does", ["tape", "run", "deed", "k"], ["tape", "run", "deed", "k", "j"], defArgs (top 48), defBody (top 48), defScope (top 48), []⟩
abbrev D__law_last_to : DD := ⟨"_law_last_to", ["tape", "run", "k"], ["tape", "run", "k", "j", "i"], defArgs (top 49), defBody (top 49), defScope (top 49), []⟩
abbrev D__law_round : DD := ⟨"_law_round", ["tape", "run", "k"], ["tape", "run", "k", "j", "keys", "due"], defArgs (top 50), defBody (top 50), defScope (top 50), []⟩
abbrev D_law : DD := ⟨"law", ["script"], ["script", "tape", "vault", "pair", "one", "other", "keys", "run", "long", "many", "k", "deed"], defArgs (top 51), defBody (top 51), defScope (top 51), [((311, 12), 2), ((311, 13), 2), ((311, 17), 2), ((316, 11), 2), ((317, 10), 2), ((317, 24), 2), ((317, 66), 2), ((317, 92), 2), ((317, 93), 2), ((317, 97), 2)]⟩
abbrev Ds : List DD := [D_size_of, D_header_of, D_with_secret, D_with_entry, D_row_of, D_derive, D_seal, D_unseal, D_next_key, D_phase_of, D_seal_app, D_next_sending, D_go_on, D_unseal_app, D_may_renew, D_renew, D_learn_acknowledged, D_erase_previous, D__law_tape, D__law_draw, D__law_pick, D__law_whole, D__law_same, D__law_number, D__law_size, D__law_secret, D__law_entry, D__law_pair, D__law_frozen, D__law_noise, D__law_at, D__law_opened, D__law_goes_on, D__law_unsealed, D__law_sealed, D__law_frames, D__law_bounds_hold, D__law_seals, D__law_delivers, D__law_learns, D__law_renews, D__law_erases, D__law_does, D__law_last_to, D__law_round, D_law]
abbrev defs : List (Str × Nat) := [(("size_of" : Str), 1), (("header_of" : Str), 1), (("with_secret" : Str), 2), (("with_entry" : Str), 2), (("row_of" : Str), 3), (("derive" : Str), 4), (("seal" : Str), 5), (("unseal" : Str), 4), (("next_key" : Str), 2), (("phase_of" : Str), 1), (("seal_app" : Str), 5), (("next_sending" : Str), 2), (("go_on" : Str), 4), (("unseal_app" : Str), 4), (("may_renew" : Str), 1), (("renew" : Str), 2), (("learn_acknowledged" : Str), 2), (("erase_previous" : Str), 2), (("_law_tape" : Str), 1), (("_law_draw" : Str), 2), (("_law_pick" : Str), 2), (("_law_whole" : Str), 1), (("_law_same" : Str), 2), (("_law_number" : Str), 1), (("_law_size" : Str), 1), (("_law_secret" : Str), 2), (("_law_entry" : Str), 2), (("_law_pair" : Str), 1), (("_law_frozen" : Str), 1), (("_law_noise" : Str), 2), (("_law_at" : Str), 2), (("_law_opened" : Str), 3), (("_law_goes_on" : Str), 2), (("_law_unsealed" : Str), 4), (("_law_sealed" : Str), 5), (("_law_frames" : Str), 1), (("_law_bounds_hold" : Str), 1), (("_law_seals" : Str), 3), (("_law_delivers" : Str), 4), (("_law_learns" : Str), 3), (("_law_renews" : Str), 2), (("_law_erases" : Str), 3), (("_law_does" : Str), 4), (("_law_last_to" : Str), 3), (("_law_round" : Str), 3), (("law" : Str), 1)]
abbrev consts : List (Str × AV) := []
abbrev W : Nat := 1000
def b_size_of : MS := (sSeq (sIf (mTru (oE (eIsi "tuple" (oVar 0)))) (sSeq (sRet (eBi biSum (osCons (oE (eFrz (fComp (eVar 0) [1] (.one 1) mTrue (eCall "size_of" (aCons (eVar 1) aNil))))) osNil))) sSkip) sSkip) (sSeq (sRet (eCon (.int 1))) sSkip))
def b_header_of : MS := (sSeq (sRet (eSl (oVar 0) pNone (pSome (eCon (.int 3))))) sSkip)
def b_with_secret : MS := (sSeq (sUnp [2, 3] (eVar 0)) (sSeq (sIf (mBool (eBin opIn (oVar 1) (oVar 2))) (sSeq (sRet (eTup (aCons (eVar 0) (aCons (eSeqM idxA [1, 2] (oVar 2) (oVar 1)) aNil)))) sSkip) sSkip) (sSeq (sRet (eTup (aCons (eTup (aCons (eBin opAdd (oVar 2) (oE (eTup (aCons (eVar 1) aNil)))) (aCons (eVar 3) aNil))) (aCons (eBi biLen (osCons (oVar 2) osNil)) aNil)))) sSkip)))
def b_with_entry : MS := (sSeq (sUnp [2, 3] (eVar 0)) (sSeq (sRet (eTup (aCons (eTup (aCons (eVar 2) (aCons (eBin opAdd (oVar 3) (oE (eTup (aCons (eVar 1) aNil)))) aNil))) (aCons (eBi biLen (osCons (oVar 3) osNil)) aNil)))) sSkip))
def b_row_of : MS := (sSeq (sAsg 3 (eBin opIx (oVar 0) (oE (eCon (.int 1))))) (sSeq (sIf (mAnd (mBool (eBin opLt (oVar 1) (oE (eBi biLen (osCons (oVar 3) osNil))))) (mBool (eBin opEq (oE (eBin opIx (oE (eBin opIx (oVar 3) (oVar 1))) (oE (eCon (.int 0))))) (oVar 2)))) (sSeq (sRet (eBin opIx (oVar 3) (oVar 1))) sSkip) sSkip) (sSeq (sRet (eCon .non)) sSkip)))
def b_derive : MS := (sSeq (sRet (eCall "with_secret" (aCons (eVar 0) (aCons (eTup (aCons (eCon (.str "derived")) (aCons (eVar 1) (aCons (eVar 2) (aCons (eVar 3) aNil))))) aNil)))) sSkip)
def b_seal : MS := (sSeq (sUnp [5, 6] (eCall "with_entry" (aCons (eVar 0) (aCons (eTup (aCons (eCon (.str "box")) (aCons (eVar 1) (aCons (eVar 2) (aCons (eVar 3) (aCons (eVar 4) aNil)))))) aNil)))) (sSeq (sRet (eTup (aCons (eVar 5) (aCons (eTup (aCons (eVar 6) (aCons (eBin opAdd (oE (eCall "size_of" (aCons (eVar 4) aNil))) (oE (eCon (.int 2)))) aNil))) aNil)))) sSkip))
def b_unseal : MS := (sSeq (sUnp [4, 5] (eVar 3)) (sSeq (sAsg 6 (eCall "row_of" (aCons (eVar 0) (aCons (eVar 4) (aCons (eCon (.str "box")) aNil))))) (sSeq (sIf (mBool (eBin opIs (oVar 6) (oE (eCon .non)))) (sSeq (sRet (eCon .non)) sSkip) sSkip) (sSeq (sUnp [7, 8, 9, 10, 11] (eVar 6)) (sSeq (sIf (mOr (mBool (eBin opNe (oVar 8) (oVar 1))) (mOr (mBool (eBin opNe (oVar 10) (oVar 2))) (mBool (eBin opNe (oVar 5) (oE (eBin opAdd (oE (eCall "size_of" (aCons (eVar 11) aNil))) (oE (eCon (.int 2))))))))) (sSeq (sRet (eCon .non)) sSkip) sSkip) (sSeq (sRet (eTup (aCons (eVar 9) (aCons (eVar 11) aNil)))) sSkip))))))
def b_next_key : MS := (sSeq (sRet (eCall "derive" (aCons (eVar 0) (aCons (eVar 1) (aCons (eCon (.str "update")) (aCons (eTup aNil) aNil)))))) sSkip)
def b_phase_of : MS := (sSeq (sRet (eBin opMod (oVar 0) (oE (eCon (.int 2))))) sSkip)
def b_seal_app : MS := (sSeq (sAsg 5 (eTup (aCons (eCon (.str "app")) (aCons (eVar 2) (aCons (eCall "phase_of" (aCons (eBin opIx (oVar 1) (oE (eCon (.int 1)))) aNil)) aNil))))) (sSeq (sUnp [0, 6] (eCall "seal" (aCons (eVar 0) (aCons (eBin opIx (oVar 1) (oE (eCon (.int 0)))) (aCons (eVar 3) (aCons (eVar 5) (aCons (eVar 4) aNil))))))) (sSeq (sIf (mBool (eBin opIs (oE (eBin opIx (oVar 1) (oE (eCon (.int 6))))) (oE (eCon .non)))) (sSeq (sAsg 1 (eBin opAdd (oE (eSl (oVar 1) pNone (pSome (eCon (.int 6))))) (oE (eTup (aCons (eVar 3) (aCons (eBin opIx (oVar 1) (oE (eCon (.int 7)))) aNil)))))) sSkip) sSkip) (sSeq (sRet (eTup (aCons (eVar 0) (aCons (eVar 1) (aCons (eBin opAdd (oVar 5) (oE (eTup (aCons (eVar 6) aNil)))) aNil))))) sSkip))))
def b_next_sending : MS := (sSeq (sUnp [2, 3, 4, 5, 6, 7, 8, 9] (eVar 1)) (sSeq (sUnp [0, 10] (eCall "next_key" (aCons (eVar 0) (aCons (eVar 2) aNil)))) (sSeq (sRet (eTup (aCons (eVar 0) (aCons (eTup (aCons (eVar 10) (aCons (eBin opAdd (oVar 3) (oE (eCon (.int 1)))) (aCons (eVar 4) (aCons (eVar 5) (aCons (eVar 6) (aCons (eVar 7) (aCons (eCon .non) (aCons (eCon (.bl false)) aNil))))))))) aNil)))) sSkip)))
def b_go_on : MS := (sSeq (sUnp [4, 5, 6, 7, 8, 9, 10, 11] (eVar 1)) (sSeq (sAsg 1 (eTup (aCons (eVar 4) (aCons (eVar 5) (aCons (eVar 2) (aCons (eBin opAdd (oVar 7) (oE (eCon (.int 1)))) (aCons (eVar 6) (aCons (eVar 3) (aCons (eVar 10) (aCons (eVar 11) aNil)))))))))) (sSeq (sIf (mBool (eBin opLt (oVar 5) (oE (eBin opAdd (oVar 7) (oE (eCon (.int 1))))))) (sSeq (sRet (eCall "next_sending" (aCons (eVar 0) (aCons (eVar 1) aNil)))) sSkip) sSkip) (sSeq (sRet (eTup (aCons (eVar 0) (aCons (eVar 1) aNil)))) sSkip))))
def b_unseal_app : MS := (sSeq (sPar [4, 5] (aCons (eCall "header_of" (aCons (eVar 2) aNil)) (aCons (eBin opIx (oVar 2) (oE (eCon (.int 3)))) aNil))) (sSeq (sIf (mBool (eBin opEq (oE (eBin opIx (oVar 2) (oE (eCon (.int 2))))) (oE (eCall "phase_of" (aCons (eBin opIx (oVar 1) (oE (eCon (.int 3)))) aNil))))) (sSeq (sAsg 6 (eCall "unseal" (aCons (eVar 0) (aCons (eBin opIx (oVar 1) (oE (eCon (.int 2)))) (aCons (eVar 4) (aCons (eVar 5) aNil)))))) (sSeq (sRet (eIte (mBool (eBin opIs (oVar 6) (oE (eCon .non)))) (eCon .non) (eBin opAdd (oE (eTup (aCons (eVar 0) (aCons (eVar 1) aNil)))) (oVar 6)))) sSkip)) sSkip) (sSeq (sIf (mBool (eBin opIsN (oE (eBin opIx (oVar 1) (oE (eCon (.int 4))))) (oE (eCon .non)))) (sSeq (sAsg 6 (eCall "unseal" (aCons (eVar 0) (aCons (eBin opIx (oVar 1) (oE (eCon (.int 4)))) (aCons (eVar 4) (aCons (eVar 5) aNil)))))) (sSeq (sIf (mBool (eBin opIsN (oVar 6) (oE (eCon .non)))) (sSeq (sRet (eBin opAdd (oE (eTup (aCons (eVar 0) (aCons (eVar 1) aNil)))) (oVar 6))) sSkip) sSkip) sSkip)) sSkip) (sSeq (sUnp [7, 8] (eCall "next_key" (aCons (eVar 0) (aCons (eBin opIx (oVar 1) (oE (eCon (.int 2)))) aNil)))) (sSeq (sAsg 6 (eCall "unseal" (aCons (eVar 7) (aCons (eVar 8) (aCons (eVar 4) (aCons (eVar 5) aNil)))))) (sSeq (sIf (mBool (eBin opIs (oVar 6) (oE (eCon .non)))) (sSeq (sRet (eCon .non)) sSkip) sSkip) (sSeq (sRet (eBin opAdd (oE (eCall "go_on" (aCons (eVar 7) (aCons (eVar 1) (aCons (eVar 8) (aCons (eVar 3) aNil)))))) (oVar 6))) sSkip)))))))
def b_may_renew : MS := (sSeq (sRet (eAnd (eBin opEq (oE (eBin opIx (oVar 0) (oE (eCon (.int 1))))) (oE (eBin opIx (oVar 0) (oE (eCon (.int 3)))))) (eAnd (eBin opIx (oVar 0) (oE (eCon (.int 7)))) (eBin opIs (oE (eBin opIx (oVar 0) (oE (eCon (.int 4))))) (oE (eCon .non)))))) sSkip)
def b_renew : MS := (sSeq (sRet (eCall "next_sending" (aCons (eVar 0) (aCons (eVar 1) aNil)))) sSkip)
def b_learn_acknowledged : MS := (sSeq (sIf (mAnd (mBool (eBin opIsN (oE (eBin opIx (oVar 0) (oE (eCon (.int 6))))) (oE (eCon .non)))) (mTru (oE (eBi biAny (osCons (oE (eFrz (fComp (eVar 1) [2] (.one 2) mTrue (eBin opGe (oVar 2) (oE (eBin opIx (oVar 0) (oE (eCon (.int 6))))))))) osNil))))) (sSeq (sRet (eBin opAdd (oE (eSl (oVar 0) pNone (pSome (eCon (.int 7))))) (oE (eTup (aCons (eCon (.bl true)) aNil))))) sSkip) sSkip) (sSeq (sRet (eVar 0)) sSkip))
def b_erase_previous : MS := (sSeq (sIf (mAnd (mBool (eBin opIsN (oE (eBin opIx (oVar 0) (oE (eCon (.int 4))))) (oE (eCon .non)))) (mBool (eBin opGe (oVar 1) (oE (eBin opIx (oVar 0) (oE (eCon (.int 5)))))))) (sSeq (sRet (eBin opAdd (oE (eBin opAdd (oE (eSl (oVar 0) pNone (pSome (eCon (.int 4))))) (oE (eTup (aCons (eCon .non) (aCons (eCon .non) aNil)))))) (oE (eSl (oVar 0) (pSome (eCon (.int 6))) pNone)))) sSkip) sSkip) (sSeq (sRet (eVar 0)) sSkip))
def b__law_tape : MS := (sSeq (sAsg 1 (eCon (.int 7))) (sSeq (sForV (eVar 0) (.one 2) (sSeq (sAsg 1 (eBin opMod (oE (eBi biInt (osCons (oE (eBin opAdd (oE (eBin opMul (oVar 1) (oE (eCon (.int 31))))) (oE (eBi biAbs (osCons (oE (eBi biInt (osCons (oVar 2) osNil))) osNil))))) osNil))) (oE (eCon (.int 2147483647))))) sSkip)) (sSeq (sRet (eLay (fLst (aCons (eFrz (fBi bfList (osCons (oVar 0) osNil))) (aCons (eCon (.int 0)) (aCons (eCon (.int 0)) (aCons (eVar 1) aNil))))))) sSkip)))
def b__law_draw : MS := (sSeq (sIf (mBool (eBin opEq (oE (eBin opIx (oVar 0) (oE (eCon (.int 2))))) (oE (eCon (.int 0))))) (sSeq (sAsg 2 (eBin opIx (oVar 0) (oE (eCon (.int 1))))) (sSeq (sAsg 3 (eCon (.int 0))) (sSeq (sIf (mBool (eBin opLt (oVar 2) (oE (eBi biLen (osCons (oE (eBin opIx (oVar 0) (oE (eCon (.int 0))))) osNil))))) (sSeq (sAsg 3 (eBi biAbs (osCons (oE (eBi biInt (osCons (oE (eBin opIx (oE (eBin opIx (oVar 0) (oE (eCon (.int 0))))) (oVar 2))) osNil))) osNil))) sSkip) (sSeq (sSet (oVar 0) (eCon (.int 3)) (eBin opMod (oE (eBi biInt (osCons (oE (eBin opAdd (oE (eBin opAdd (oE (eBin opMul (oE (eBin opIx (oVar 0) (oE (eCon (.int 3))))) (oE (eCon (.int 48271))))) (oVar 2))) (oE (eCon (.int 1))))) osNil))) (oE (eCon (.int 2147483647))))) (sSeq (sAsg 3 (eBin opIx (oVar 0) (oE (eCon (.int 3))))) sSkip))) (sSeq (sSet (oVar 0) (eCon (.int 1)) (eBin opAdd (oVar 2) (oE (eCon (.int 1))))) (sSeq (sIf (mBool (eBin opLt (oVar 3) (oE (eBin opPow (oE (eCon (.int 10))) (oE (eCon (.int 18))))))) (sSeq (sAsg 3 (eBin opMod (oE (eBi biInt (osCons (oE (eBin opAdd (oE (eBin opAdd (oE (eBin opMul (oVar 3) (oE (eCon (.int 48271))))) (oE (eBin opMul (oVar 2) (oE (eCon (.int 69621))))))) (oE (eCon (.int 5))))) osNil))) (oE (eCon (.int 2147483647))))) (sSeq (sAsg 3 (eBin opMod (oE (eBi biInt (osCons (oE (eBin opMul (oVar 3) (oE (eCon (.int 69621))))) osNil))) (oE (eCon (.int 2147483629))))) (sSeq (sRet (eBin opMod (oE (eBi biInt (osCons (oVar 3) osNil))) (oE (eBi biMax (osCons (oVar 1) (osCons (oE (eCon (.int 1))) osNil)))))) sSkip))) sSkip) (sSeq (sSet (oVar 0) (eCon (.int 2)) (eVar 3)) sSkip)))))) sSkip) (sSeq (sAsg 3 (eBin opIx (oVar 0) (oE (eCon (.int 2))))) (sSeq (sSet (oVar 0) (eCon (.int 2)) (eBin opFdiv (oVar 3) (oE (eBi biMax (osCons (oVar 1) (osCons (oE (eCon (.int 2))) osNil)))))) (sSeq (sRet (eBin opMod (oE (eBi biInt (osCons (oVar 3) osNil))) (oE (eBi biMax (osCons (oVar 1) (osCons (oE (eCon (.int 1))) osNil)))))) sSkip))))
def b__law_pick : MS := (sSeq (sRet (eBin opIx (oVar 1) (oE (eCall "_law_draw" (aCons (eVar 0) (aCons (eBi biLen (osCons (oVar 1) osNil)) aNil)))))) sSkip)
def b__law_whole : MS := (sSeq (sRet (eAnd (eIsi "int" (oVar 0)) (eNot (eIsi "bool" (oVar 0))))) sSkip)
def b__law_same : MS := (sSeq (sIf (mTru (oE (eIsi "tuple" (oVar 1)))) (sSeq (sIf (mOr (mNot (mTru (oE (eIsi "tuple" (oVar 0))))) (mBool (eBin opNe (oE (eBi biLen (osCons (oVar 0) osNil))) (oE (eBi biLen (osCons (oVar 1) osNil)))))) (sSeq (sRet (eCon (.bl false))) sSkip) sSkip) (sSeq (sRet (eBin opNotIn (oE (eCon (.bl false))) (oE (eFrz (fCompR asR1 (aCons (eBi biLen (osCons (oVar 1) osNil)) aNil) [2] (.one 2) mTrue (eCall "_law_same" (aCons (eBin opIx (oVar 0) (oVar 2)) (aCons (eBin opIx (oVar 1) (oVar 2)) aNil)))))))) sSkip)) sSkip) (sSeq (sIf (mOr (mBool (eBin opIs (oVar 1) (oE (eCon .non)))) (mBool (eBin opIs (oVar 0) (oE (eCon .non))))) (sSeq (sRet (eAnd (eBin opIs (oVar 1) (oE (eCon .non))) (eBin opIs (oVar 0) (oE (eCon .non))))) sSkip) sSkip) (sSeq (sIf (mOr (mBool (eBin opNe (oE (eIsi "bool" (oVar 0))) (oE (eIsi "bool" (oVar 1))))) (mBool (eBin opNe (oE (eIsi "str" (oVar 0))) (oE (eIsi "str" (oVar 1)))))) (sSeq (sRet (eCon (.bl false))) sSkip) sSkip) (sSeq (sRet (eAnd (eBin opEq (oE (eIsi "int" (oVar 0))) (oE (eIsi "int" (oVar 1)))) (eBin opEq (oVar 0) (oVar 1)))) sSkip))))
def b__law_number : MS := (sSeq (sAsg 1 (eCall "_law_draw" (aCons (eVar 0) (aCons (eCon (.int 5)) aNil)))) (sSeq (sIf (mBool (eBin opLt (oVar 1) (oE (eCon (.int 3))))) (sSeq (sRet (eCall "_law_draw" (aCons (eVar 0) (aCons (eBin opIx (oE (eFrz (fLst (aCons (eCon (.int 3)) (aCons (eCon (.int 12)) (aCons (eCon (.int 300)) aNil)))))) (oVar 1)) aNil)))) sSkip) sSkip) (sSeq (sIf (mBool (eBin opEq (oVar 1) (oE (eCon (.int 3))))) (sSeq (sRet (eCall "_law_pick" (aCons (eVar 0) (aCons (eFrz (fLst (aCons (eCon (.int 255)) (aCons (eCon (.int 256)) (aCons (eCon (.int 65536)) (aCons (eCon (.int 999999998)) (aCons (eCon (.int 999999999)) aNil))))))) aNil)))) sSkip) sSkip) (sSeq (sRet (eCall "_law_draw" (aCons (eVar 0) (aCons (eCon (.int 1000000000)) aNil)))) sSkip))))
def b__law_size : MS := (sSeq (sIf (mTru (oE (eIsi "tuple" (oVar 0)))) (sSeq (sRet (eBi biSum (osCons (oE (eFrz (fComp (eVar 0) [1] (.one 1) mTrue (eCall "_law_size" (aCons (eVar 1) aNil))))) osNil))) sSkip) sSkip) (sSeq (sRet (eCon (.int 1))) sSkip))
def b__law_secret : MS := (sSeq (sIf (mBool (eBin opNotIn (oVar 1) (oE (eBin opIx (oVar 0) (oE (eCon (.int 0))))))) (sSeq (sExpr (eApp (oE (eBin opIx (oVar 0) (oE (eCon (.int 0))))) (eVar 1))) sSkip) sSkip) (sSeq (sRet (eSeqM idxA [1, 2] (oE (eBin opIx (oVar 0) (oE (eCon (.int 0))))) (oVar 1))) sSkip))
def b__law_entry : MS := (sSeq (sExpr (eApp (oE (eBin opIx (oVar 0) (oE (eCon (.int 1))))) (eVar 1))) (sSeq (sRet (eBin opSub (oE (eBi biLen (osCons (oE (eBin opIx (oVar 0) (oE (eCon (.int 1))))) osNil))) (oE (eCon (.int 1))))) sSkip))
def b__law_pair : MS := (sSeq (sExpr (eApp (oE (eBin opIx (oVar 0) (oE (eCon (.int 0))))) (eTup (aCons (eCon (.str "pair")) (aCons (eBi biLen (osCons (oE (eBin opIx (oVar 0) (oE (eCon (.int 1))))) osNil)) aNil))))) (sSeq (sExpr (eApp (oE (eBin opIx (oVar 0) (oE (eCon (.int 1))))) (eTup (aCons (eCon (.str "public")) (aCons (eBin opSub (oE (eBi biLen (osCons (oE (eBin opIx (oVar 0) (oE (eCon (.int 0))))) osNil))) (oE (eCon (.int 1)))) aNil))))) (sSeq (sRet (eBin opSub (oE (eBi biLen (osCons (oE (eBin opIx (oVar 0) (oE (eCon (.int 0))))) osNil))) (oE (eCon (.int 1))))) sSkip)))
def b__law_frozen : MS := (sSeq (sRet (eTup (aCons (eBi biTuple (osCons (oE (eBin opIx (oVar 0) (oE (eCon (.int 0))))) osNil)) (aCons (eBi biTuple (osCons (oE (eBin opIx (oVar 0) (oE (eCon (.int 1))))) osNil)) aNil)))) sSkip)
def b__law_noise : MS := (sSeq (sForR asR1 (aCons (eCall "_law_draw" (aCons (eVar 0) (aCons (eCon (.int 4)) aNil))) aNil) (.one 2) (sSeq (sAsg 3 (eCall "_law_draw" (aCons (eVar 0) (aCons (eCon (.int 6)) aNil)))) (sSeq (sIf (mBool (eBin opEq (oVar 3) (oE (eCon (.int 0))))) (sSeq (sExpr (eCall "_law_pair" (aCons (eVar 1) aNil))) sSkip) (sSeq (sIf (mOr (mBool (eBin opEq (oVar 3) (oE (eCon (.int 1))))) (mBool (eBin opEq (oE (eBi biLen (osCons (oE (eBin opIx (oVar 1) (oE (eCon (.int 0))))) osNil))) (oE (eCon (.int 0)))))) (sSeq (sExpr (eCall "_law_entry" (aCons (eVar 1) (aCons (eTup (aCons (eCon (.str "drawn")) aNil)) aNil)))) sSkip) (sSeq (sIf (mBool (eBin opEq (oVar 3) (oE (eCon (.int 2))))) (sSeq (sExpr (eCall "_law_secret" (aCons (eVar 1) (aCons (eTup (aCons (eCon (.str "plain")) (aCons (eCall "_law_pick" (aCons (eVar 0) (aCons (eFrz (fLst (aCons (eTup aNil) (aCons (eCon (.int 0)) (aCons (eCon (.str "update")) (aCons (eTup (aCons (eCon (.int 1)) (aCons (eCon (.int 2)) aNil))) aNil)))))) aNil))) aNil))) aNil)))) sSkip) (sSeq (sAsg 4 (eCall "_law_draw" (aCons (eVar 0) (aCons (eBi biLen (osCons (oE (eBin opIx (oVar 1) (oE (eCon (.int 0))))) osNil)) aNil)))) (sSeq (sAsg 5 (eFrz (fLst (aCons (eTup (aCons (eCon (.str "tag")) (aCons (eVar 4) (aCons (eTup (aCons (eVar 2) aNil)) aNil)))) (aCons (eTup (aCons (eCon (.str "box")) (aCons (eVar 4) (aCons (eCon (.int 0)) (aCons (eTup (aCons (eCon (.str "route")) aNil)) (aCons (eTup (aCons (eCon (.int 7)) aNil)) aNil)))))) (aCons (eTup (aCons (eCon (.str "wrapped")) (aCons (eVar 4) (aCons (eTup aNil) (aCons (eVar 4) (aCons (eTup aNil) aNil)))))) aNil)))))) (sSeq (sExpr (eCall "_law_entry" (aCons (eVar 1) (aCons (eBin opIx (oVar 5) (oE (eBin opSub (oVar 3) (oE (eCon (.int 3)))))) aNil)))) sSkip)))) sSkip)) sSkip)) sSkip))) sSkip)
def b__law_at : MS := (sSeq (sIf (mOr (mNot (mTru (oE (eCall "_law_whole" (aCons (eVar 1) aNil))))) (mOr (mBool (eBin opLt (oVar 1) (oE (eCon (.int 0))))) (mBool (eBin opGe (oVar 1) (oE (eBi biLen (osCons (oVar 0) osNil))))))) (sSeq (sRet (eTup aNil)) sSkip) sSkip) (sSeq (sRet (eBin opIx (oVar 0) (oVar 1))) sSkip))
def b__law_opened : MS := (sSeq (sAsg 3 (eCall "_law_at" (aCons (eBin opIx (oVar 0) (oE (eCon (.int 1)))) (aCons (eBin opIx (oE (eBin opIx (oVar 2) (oE (eCon (.int 3))))) (oE (eCon (.int 0)))) aNil)))) (sSeq (sIf (mOr (mBool (eBin opNe (oE (eBi biLen (osCons (oVar 3) osNil))) (oE (eCon (.int 5))))) (mOr (mBool (eBin opNe (oE (eBin opIx (oVar 3) (oE (eCon (.int 0))))) (oE (eCon (.str "box"))))) (mOr (mBool (eBin opNe (oE (eBin opIx (oVar 3) (oE (eCon (.int 1))))) (oVar 1))) (mBool (eBin opNe (oE (eBin opIx (oVar 3) (oE (eCon (.int 3))))) (oE (eSl (oVar 2) pNone (pSome (eCon (.int 3)))))))))) (sSeq (sRet (eCon .non)) sSkip) sSkip) (sSeq (sIf (mBool (eBin opNe (oE (eBin opIx (oE (eBin opIx (oVar 2) (oE (eCon (.int 3))))) (oE (eCon (.int 1))))) (oE (eBin opAdd (oE (eCall "_law_size" (aCons (eBin opIx (oVar 3) (oE (eCon (.int 4)))) aNil))) (oE (eCon (.int 2))))))) (sSeq (sRet (eCon .non)) sSkip) sSkip) (sSeq (sRet (eTup (aCons (eBin opIx (oVar 3) (oE (eCon (.int 2)))) (aCons (eBin opIx (oVar 3) (oE (eCon (.int 4)))) aNil)))) sSkip))))
def b__law_goes_on : MS := (sSeq (sAsg 2 (eCall "_law_secret" (aCons (eVar 0) (aCons (eTup (aCons (eCon (.str "derived")) (aCons (eBin opIx (oVar 1) (oE (eCon (.int 0)))) (aCons (eCon (.str "update")) (aCons (eTup aNil) aNil))))) aNil)))) (sSeq (sRet (eBin opAdd (oE (eBin opAdd (oE (eTup (aCons (eVar 2) (aCons (eBin opAdd (oE (eBin opIx (oVar 1) (oE (eCon (.int 1))))) (oE (eCon (.int 1)))) aNil)))) (oE (eSl (oVar 1) (pSome (eCon (.int 2))) (pSome (eCon (.int 6))))))) (oE (eTup (aCons (eCon .non) (aCons (eCon (.bl false)) aNil)))))) sSkip))
def b__law_unsealed : MS := (sSeq (sIf (mBool (eBin opEq (oE (eBin opIx (oVar 2) (oE (eCon (.int 2))))) (oE (eBin opMod (oE (eBi biInt (osCons (oE (eBin opIx (oVar 1) (oE (eCon (.int 3))))) osNil))) (oE (eCon (.int 2))))))) (sSeq (sAsg 4 (eCall "_law_opened" (aCons (eVar 0) (aCons (eBin opIx (oVar 1) (oE (eCon (.int 2)))) (aCons (eVar 2) aNil))))) (sSeq (sIf (mBool (eBin opIs (oVar 4) (oE (eCon .non)))) (sSeq (sRet (eCon .non)) sSkip) sSkip) (sSeq (sRet (eFrz (fLst (aCons (eVar 1) (aCons (eVar 4) aNil))))) sSkip))) sSkip) (sSeq (sIf (mBool (eBin opIsN (oE (eBin opIx (oVar 1) (oE (eCon (.int 4))))) (oE (eCon .non)))) (sSeq (sAsg 4 (eCall "_law_opened" (aCons (eVar 0) (aCons (eBin opIx (oVar 1) (oE (eCon (.int 4)))) (aCons (eVar 2) aNil))))) (sSeq (sIf (mBool (eBin opIsN (oVar 4) (oE (eCon .non)))) (sSeq (sRet (eFrz (fLst (aCons (eVar 1) (aCons (eVar 4) aNil))))) sSkip) sSkip) sSkip)) sSkip) (sSeq (sAsg 5 (eTup (aCons (eCon (.str "derived")) (aCons (eBin opIx (oVar 1) (oE (eCon (.int 2)))) (aCons (eCon (.str "update")) (aCons (eTup aNil) aNil)))))) (sSeq (sIf (mBool (eBin opNotIn (oVar 5) (oE (eBin opIx (oVar 0) (oE (eCon (.int 0))))))) (sSeq (sRet (eCon .non)) sSkip) sSkip) (sSeq (sAsg 6 (eSeqM idxA [1, 2] (oE (eBin opIx (oVar 0) (oE (eCon (.int 0))))) (oVar 5))) (sSeq (sAsg 4 (eCall "_law_opened" (aCons (eVar 0) (aCons (eVar 6) (aCons (eVar 2) aNil))))) (sSeq (sIf (mBool (eBin opIs (oVar 4) (oE (eCon .non)))) (sSeq (sRet (eCon .non)) sSkip) sSkip) (sSeq (sAsg 1 (eBin opAdd (oE (eBin opAdd (oE (eSl (oVar 1) pNone (pSome (eCon (.int 2))))) (oE (eTup (aCons (eVar 6) (aCons (eBin opAdd (oE (eBin opIx (oVar 1) (oE (eCon (.int 3))))) (oE (eCon (.int 1)))) (aCons (eBin opIx (oVar 1) (oE (eCon (.int 2)))) (aCons (eVar 3) aNil)))))))) (oE (eSl (oVar 1) (pSome (eCon (.int 6))) pNone)))) (sSeq (sIf (mBool (eBin opLt (oE (eBin opIx (oVar 1) (oE (eCon (.int 1))))) (oE (eBin opIx (oVar 1) (oE (eCon (.int 3))))))) (sSeq (sAsg 1 (eCall "_law_goes_on" (aCons (eVar 0) (aCons (eVar 1) aNil)))) sSkip) sSkip) (sSeq (sRet (eFrz (fLst (aCons (eVar 1) (aCons (eVar 4) aNil))))) sSkip))))))))))
def b__law_sealed : MS := (sSeq (sAsg 5 (eTup (aCons (eCon (.str "app")) (aCons (eVar 2) (aCons (eBin opMod (oE (eBi biInt (osCons (oE (eBin opIx (oVar 1) (oE (eCon (.int 1))))) osNil))) (oE (eCon (.int 2)))) aNil))))) (sSeq (sAsg 6 (eCall "_law_entry" (aCons (eVar 0) (aCons (eTup (aCons (eCon (.str "box")) (aCons (eBin opIx (oVar 1) (oE (eCon (.int 0)))) (aCons (eVar 3) (aCons (eVar 5) (aCons (eVar 4) aNil)))))) aNil)))) (sSeq (sIf (mBool (eBin opIs (oE (eBin opIx (oVar 1) (oE (eCon (.int 6))))) (oE (eCon .non)))) (sSeq (sAsg 1 (eBin opAdd (oE (eSl (oVar 1) pNone (pSome (eCon (.int 6))))) (oE (eTup (aCons (eVar 3) (aCons (eBin opIx (oVar 1) (oE (eCon (.int 7)))) aNil)))))) sSkip) sSkip) (sSeq (sRet (eFrz (fLst (aCons (eVar 1) (aCons (eBin opAdd (oVar 5) (oE (eTup (aCons (eTup (aCons (eVar 6) (aCons (eBin opAdd (oE (eCall "_law_size" (aCons (eVar 4) aNil))) (oE (eCon (.int 2)))) aNil))) aNil)))) aNil))))) sSkip))))
def b__law_frames : MS := (sSeq (sAsg 1 (eFrz (fLst (aCons (eTup (aCons (eTup (aCons (eCon (.str "ping")) aNil)) aNil)) (aCons (eTup aNil) (aCons (eTup (aCons (eTup (aCons (eCon (.str "stream")) (aCons (eCon (.int 0)) (aCons (eCall "_law_draw" (aCons (eVar 0) (aCons (eCon (.int 9)) aNil))) (aCons (eTup (aCons (eCon (.int 7)) (aCons (eCon (.int 200)) aNil))) (aCons (eCon (.int 1)) aNil)))))) aNil)) (aCons (eTup (aCons (eTup (aCons (eCon (.str "credit")) (aCons (eCall "_law_number" (aCons (eVar 0) aNil)) aNil))) (aCons (eTup (aCons (eCon (.str "done")) aNil)) aNil))) aNil))))))) (sSeq (sRet (eCall "_law_pick" (aCons (eVar 0) (aCons (eBin opAdd (oVar 1) (oE (eFrz (fLst (aCons (eTup (aCons (eTup (aCons (eCon (.str "ack")) (aCons (eCon (.int 0)) (aCons (eTup (aCons (eTup (aCons (eCon (.int 0)) (aCons (eCon (.int 3)) aNil))) (aCons (eTup (aCons (eCon (.int 7)) (aCons (eCon (.int 9)) aNil))) aNil))) aNil)))) (aCons (eTup (aCons (eCon (.str "ping")) aNil)) aNil))) aNil))))) aNil)))) sSkip))
def b__law_bounds_hold : MS := (sSeq (sForR asR1 (aCons (eCon (.int 2)) aNil) (.one 1) (sSeq (sAsg 2 (eBin opIx (oVar 0) (oVar 1))) (sSeq (sAsg 3 (eBin opIx (oVar 0) (oE (eBin opSub (oE (eCon (.int 1))) (oVar 1))))) (sSeq (sIf (mOr (mBool (eBin opNotIn (oE (eBin opSub (oE (eBin opIx (oVar 2) (oE (eCon (.int 1))))) (oE (eBin opIx (oVar 3) (oE (eCon (.int 3))))))) (oE (eFrz (fLst (aCons (eCon (.int 0)) (aCons (eCon (.int 1)) aNil))))))) (mBool (eBin opNotIn (oE (eBin opSub (oE (eBin opIx (oVar 2) (oE (eCon (.int 1))))) (oE (eBin opIx (oVar 2) (oE (eCon (.int 3))))))) (oE (eFrz (fLst (aCons (eCon (.int 0)) (aCons (eCon (.int 1)) aNil)))))))) (sSeq (sRet (eCon (.bl false))) sSkip) sSkip) (sSeq (sIf (mAnd (mTru (oE (eBin opIx (oVar 2) (oE (eCon (.int 7)))))) (mBool (eBin opLt (oE (eBin opIx (oVar 3) (oE (eCon (.int 3))))) (oE (eBin opIx (oVar 2) (oE (eCon (.int 1)))))))) (sSeq (sRet (eCon (.bl false))) sSkip) sSkip) sSkip))))) (sSeq (sRet (eCon (.bl true))) sSkip))
def b__law_seals : MS := (sSeq (sAsg 3 (eBin opIx (oVar 1) (oE (eCon (.int 0))))) (sSeq (sAsg 4 (eCall "_law_frozen" (aCons (eVar 3) aNil))) (sSeq (sAsg 5 (eCall "_law_frames" (aCons (eVar 0) aNil))) (sSeq (sAsg 6 (eCall "_law_draw" (aCons (eVar 0) (aCons (eCon (.int 5)) aNil)))) (sSeq (sAsg 7 (eBin opIx (oE (eBin opIx (oVar 1) (oE (eCon (.int 2))))) (oVar 2))) (sSeq (sAsg 8 (eCall "seal_app" (aCons (eVar 4) (aCons (eBin opIx (oE (eBin opIx (oVar 1) (oE (eCon (.int 1))))) (oVar 2)) (aCons (eVar 6) (aCons (eVar 7) (aCons (eVar 5) aNil))))))) (sSeq (sAsg 9 (eBin opIx (oE (eBin opIx (oE (eBin opIx (oVar 1) (oE (eCon (.int 1))))) (oVar 2))) (oE (eCon (.int 1))))) (sSeq (sAsg 10 (eCall "_law_sealed" (aCons (eVar 3) (aCons (eBin opIx (oE (eBin opIx (oVar 1) (oE (eCon (.int 1))))) (oVar 2)) (aCons (eVar 6) (aCons (eVar 7) (aCons (eVar 5) aNil))))))) (sSeq (sSet (oE (eBin opIx (oVar 1) (oE (eCon (.int 1))))) (eVar 2) (eBin opIx (oVar 10) (oE (eCon (.int 0))))) (sSeq (sSet (oE (eBin opIx (oVar 1) (oE (eCon (.int 2))))) (eVar 2) (eBin opAdd (oE (eBin opAdd (oVar 7) (oE (eCon (.int 1))))) (oE (eBi biInt (osCons (oE (eBin opEq (oE (eCall "_law_draw" (aCons (eVar 0) (aCons (eCon (.int 5)) aNil)))) (oE (eCon (.int 0))))) osNil))))) (sSeq (sExpr (eApp (oE (eBin opIx (oVar 1) (oE (eCon (.int 3))))) (eFrz (fLst (aCons (eVar 2) (aCons (eVar 9) (aCons (eVar 7) (aCons (eBin opIx (oVar 10) (oE (eCon (.int 1)))) (aCons (eVar 5) aNil))))))))) (sSeq (sRet (eCall "_law_same" (aCons (eVar 8) (aCons (eTup (aCons (eCall "_law_frozen" (aCons (eVar 3) aNil)) (aCons (eBin opIx (oVar 10) (oE (eCon (.int 0)))) (aCons (eBin opIx (oVar 10) (oE (eCon (.int 1)))) aNil)))) aNil)))) sSkip))))))))))))
def b__law_delivers : MS := (sSeq (sAsg 4 (eBin opIx (oE (eBin opIx (oVar 1) (oE (eCon (.int 3))))) (oVar 2))) (sSeq (sAsg 5 (eBin opIx (oVar 1) (oE (eCon (.int 0))))) (sSeq (sAsg 6 (eCall "_law_frozen" (aCons (eVar 5) aNil))) (sSeq (sAsg 7 (eBin opAdd (oE (eBin opIx (oVar 1) (oE (eCon (.int 4))))) (oE (eCall "_law_draw" (aCons (eVar 0) (aCons (eCon (.int 40)) aNil)))))) (sSeq (sAsg 8 (eCall "unseal_app" (aCons (eVar 6) (aCons (eBin opIx (oE (eBin opIx (oVar 1) (oE (eCon (.int 1))))) (oVar 3)) (aCons (eBin opIx (oVar 4) (oE (eCon (.int 3)))) (aCons (eVar 7) aNil)))))) (sSeq (sAsg 9 (eBin opIx (oE (eBin opIx (oVar 1) (oE (eCon (.int 1))))) (oVar 3))) (sSeq (sAsg 10 (eCall "_law_unsealed" (aCons (eVar 5) (aCons (eVar 9) (aCons (eBin opIx (oVar 4) (oE (eCon (.int 3)))) (aCons (eVar 7) aNil)))))) (sSeq (sAsg 11 (eAnd (eBin opNe (oE (eBin opIx (oVar 4) (oE (eCon (.int 0))))) (oVar 3)) (eBin opIn (oE (eBin opIx (oVar 4) (oE (eCon (.int 1))))) (oE (eFrz (fLst (aCons (eBin opIx (oVar 9) (oE (eCon (.int 3)))) (aCons (eBin opAdd (oE (eBin opIx (oVar 9) (oE (eCon (.int 3))))) (oE (eCon (.int 1)))) aNil)))))))) (sSeq (sIf (mAnd (mBool (eBin opNe (oE (eBin opIx (oVar 4) (oE (eCon (.int 0))))) (oVar 3))) (mAnd (mBool (eBin opEq (oE (eBin opIx (oVar 4) (oE (eCon (.int 1))))) (oE (eBin opSub (oE (eBin opIx (oVar 9) (oE (eCon (.int 3))))) (oE (eCon (.int 1))))))) (mBool (eBin opIsN (oE (eBin opIx (oVar 9) (oE (eCon (.int 4))))) (oE (eCon .non)))))) (sSeq (sAsg 11 (eCon (.bl true))) sSkip) sSkip) (sSeq (sIf (mNot (mTru (oVar 11))) (sSeq (sRet (eAnd (eBin opIs (oVar 10) (oE (eCon .non))) (eBin opIs (oVar 8) (oE (eCon .non))))) sSkip) sSkip) (sSeq (sIf (mBool (eBin opIs (oVar 10) (oE (eCon .non)))) (sSeq (sRet (eCon (.bl false))) sSkip) sSkip) (sSeq (sSet (oE (eBin opIx (oVar 1) (oE (eCon (.int 1))))) (eVar 3) (eBin opIx (oVar 10) (oE (eCon (.int 0))))) (sSeq (sExpr (eApp (oE (eBin opIx (oE (eBin opIx (oVar 1) (oE (eCon (.int 5))))) (oVar 3))) (eBin opIx (oVar 4) (oE (eCon (.int 2)))))) (sSeq (sRet (eCall "_law_same" (aCons (eVar 8) (aCons (eTup (aCons (eCall "_law_frozen" (aCons (eVar 5) aNil)) (aCons (eBin opIx (oVar 10) (oE (eCon (.int 0)))) (aCons (eBin opIx (oVar 4) (oE (eCon (.int 2)))) (aCons (eBin opIx (oVar 4) (oE (eCon (.int 4)))) aNil))))) aNil)))) sSkip))))))))))))))
def b__law_learns : MS := (sSeq (sAsg 3 (eFrz (fSS (oE (eFrz (fComp (eBin opIx (oE (eBin opIx (oVar 1) (oE (eCon (.int 5))))) (oE (eBin opSub (oE (eCon (.int 1))) (oVar 2)))) [6] (.one 6) (mBool (eBin opGt (oE (eCall "_law_draw" (aCons (eVar 0) (aCons (eCon (.int 3)) aNil)))) (oE (eCon (.int 0))))) (eVar 6))))))) (sSeq (sIf (mBool (eBin opEq (oE (eBi biLen (osCons (oVar 3) osNil))) (oE (eCon (.int 0))))) (sSeq (sRet (eCon (.bl true))) sSkip) sSkip) (sSeq (sAsg 4 (eBin opIx (oE (eBin opIx (oVar 1) (oE (eCon (.int 1))))) (oVar 2))) (sSeq (sIf (mAnd (mBool (eBin opIsN (oE (eBin opIx (oVar 4) (oE (eCon (.int 6))))) (oE (eCon .non)))) (mBool (eBin opGe (oE (eBin opIx (oVar 3) (oE (eNeg (oE (eCon (.int 1))))))) (oE (eBin opIx (oVar 4) (oE (eCon (.int 6)))))))) (sSeq (sAsg 4 (eBin opAdd (oE (eSl (oVar 4) pNone (pSome (eCon (.int 7))))) (oE (eTup (aCons (eCon (.bl true)) aNil))))) sSkip) sSkip) (sSeq (sAsg 5 (eCall "learn_acknowledged" (aCons (eBin opIx (oE (eBin opIx (oVar 1) (oE (eCon (.int 1))))) (oVar 2)) (aCons (eBi biTuple (osCons (oVar 3) osNil)) aNil)))) (sSeq (sSet (oE (eBin opIx (oVar 1) (oE (eCon (.int 1))))) (eVar 2) (eVar 4)) (sSeq (sRet (eCall "_law_same" (aCons (eVar 5) (aCons (eVar 4) aNil)))) sSkip)))))))
def b__law_renews : MS := (sSeq (sAsg 2 (eBin opIx (oE (eBin opIx (oVar 0) (oE (eCon (.int 1))))) (oVar 1))) (sSeq (sAsg 3 (eAnd (eBin opEq (oE (eBin opIx (oVar 2) (oE (eCon (.int 1))))) (oE (eBin opIx (oVar 2) (oE (eCon (.int 3)))))) (eAnd (eBin opIx (oVar 2) (oE (eCon (.int 7)))) (eBin opIs (oE (eBin opIx (oVar 2) (oE (eCon (.int 4))))) (oE (eCon .non)))))) (sSeq (sIf (mNot (mTru (oE (eCall "_law_same" (aCons (eCall "may_renew" (aCons (eVar 2) aNil)) (aCons (eVar 3) aNil)))))) (sSeq (sRet (eCon (.bl false))) sSkip) sSkip) (sSeq (sIf (mOr (mNot (mTru (oVar 3))) (mBool (eBin opGt (oE (eBin opIx (oVar 2) (oE (eCon (.int 1))))) (oE (eCon (.int 9)))))) (sSeq (sRet (eCon (.bl true))) sSkip) sSkip) (sSeq (sAsg 4 (eCall "_law_frozen" (aCons (eBin opIx (oVar 0) (oE (eCon (.int 0)))) aNil))) (sSeq (sSet (oE (eBin opIx (oVar 0) (oE (eCon (.int 1))))) (eVar 1) (eCall "_law_goes_on" (aCons (eBin opIx (oVar 0) (oE (eCon (.int 0)))) (aCons (eVar 2) aNil)))) (sSeq (sRet (eCall "_law_same" (aCons (eCall "renew" (aCons (eVar 4) (aCons (eVar 2) aNil))) (aCons (eTup (aCons (eCall "_law_frozen" (aCons (eBin opIx (oVar 0) (oE (eCon (.int 0)))) aNil)) (aCons (eBin opIx (oE (eBin opIx (oVar 0) (oE (eCon (.int 1))))) (oVar 1)) aNil))) aNil)))) sSkip)))))))
def b__law_erases : MS := (sSeq (sSet (oVar 1) (eCon (.int 4)) (eBin opAdd (oE (eBin opIx (oVar 1) (oE (eCon (.int 4))))) (oE (eCall "_law_pick" (aCons (eVar 0) (aCons (eFrz (fLst (aCons (eCon (.int 0)) (aCons (eCon (.int 0)) (aCons (eCon (.int 3)) (aCons (eCon (.int 40)) aNil)))))) aNil)))))) (sSeq (sAsg 3 (eBin opIx (oE (eBin opIx (oVar 1) (oE (eCon (.int 1))))) (oVar 2))) (sSeq (sAsg 4 (eCall "erase_previous" (aCons (eVar 3) (aCons (eBin opIx (oVar 1) (oE (eCon (.int 4)))) aNil)))) (sSeq (sIf (mAnd (mBool (eBin opIsN (oE (eBin opIx (oVar 3) (oE (eCon (.int 4))))) (oE (eCon .non)))) (mBool (eBin opGe (oE (eBin opIx (oVar 1) (oE (eCon (.int 4))))) (oE (eBin opIx (oVar 3) (oE (eCon (.int 5)))))))) (sSeq (sAsg 3 (eBin opAdd (oE (eBin opAdd (oE (eSl (oVar 3) pNone (pSome (eCon (.int 4))))) (oE (eTup (aCons (eCon .non) (aCons (eCon .non) aNil)))))) (oE (eSl (oVar 3) (pSome (eCon (.int 6))) pNone)))) sSkip) sSkip) (sSeq (sSet (oE (eBin opIx (oVar 1) (oE (eCon (.int 1))))) (eVar 2) (eVar 3)) (sSeq (sRet (eCall "_law_same" (aCons (eVar 4) (aCons (eVar 3) aNil)))) sSkip))))))
def b__law_does : MS := (sSeq (sIf (mOr (mBool (eBin opEq (oVar 2) (oE (eCon (.int 0))))) (mAnd (mBool (eBin opLt (oVar 2) (oE (eCon (.int 3))))) (mBool (eBin opEq (oE (eBi biLen (osCons (oE (eBin opIx (oVar 1) (oE (eCon (.int 3))))) osNil))) (oE (eCon (.int 0))))))) (sSeq (sRet (eCall "_law_seals" (aCons (eVar 0) (aCons (eVar 1) (aCons (eVar 3) aNil))))) sSkip) sSkip) (sSeq (sIf (mBool (eBin opEq (oVar 2) (oE (eCon (.int 1))))) (sSeq (sAsg 4 (eBi biMax (osCons (oE (eBin opSub (oE (eBin opSub (oE (eBi biLen (osCons (oE (eBin opIx (oVar 1) (oE (eCon (.int 3))))) osNil))) (oE (eCon (.int 1))))) (oE (eCall "_law_draw" (aCons (eVar 0) (aCons (eCon (.int 4)) aNil)))))) (osCons (oE (eCon (.int 0))) osNil)))) (sSeq (sRet (eCall "_law_delivers" (aCons (eVar 0) (aCons (eVar 1) (aCons (eVar 4) (aCons (eBin opIx (oE (eFrz (fLst (aCons (eBin opSub (oE (eCon (.int 1))) (oE (eBin opIx (oE (eBin opIx (oE (eBin opIx (oVar 1) (oE (eCon (.int 3))))) (oVar 4))) (oE (eCon (.int 0)))))) (aCons (eVar 3) aNil))))) (oE (eBi biInt (osCons (oE (eBin opEq (oE (eCall "_law_draw" (aCons (eVar 0) (aCons (eCon (.int 8)) aNil)))) (oE (eCon (.int 0))))) osNil)))) aNil)))))) sSkip)) sSkip) (sSeq (sIf (mBool (eBin opEq (oVar 2) (oE (eCon (.int 2))))) (sSeq (sAsg 4 (eCall "_law_draw" (aCons (eVar 0) (aCons (eBi biLen (osCons (oE (eBin opIx (oVar 1) (oE (eCon (.int 3))))) osNil)) aNil)))) (sSeq (sRet (eCall "_law_delivers" (aCons (eVar 0) (aCons (eVar 1) (aCons (eVar 4) (aCons (eBin opIx (oE (eFrz (fLst (aCons (eBin opSub (oE (eCon (.int 1))) (oE (eBin opIx (oE (eBin opIx (oE (eBin opIx (oVar 1) (oE (eCon (.int 3))))) (oVar 4))) (oE (eCon (.int 0)))))) (aCons (eVar 3) aNil))))) (oE (eBi biInt (osCons (oE (eBin opEq (oE (eCall "_law_draw" (aCons (eVar 0) (aCons (eCon (.int 8)) aNil)))) (oE (eCon (.int 0))))) osNil)))) aNil)))))) sSkip)) sSkip) (sSeq (sIf (mBool (eBin opEq (oVar 2) (oE (eCon (.int 3))))) (sSeq (sRet (eCall "_law_learns" (aCons (eVar 0) (aCons (eVar 1) (aCons (eVar 3) aNil))))) sSkip) sSkip) (sSeq (sIf (mBool (eBin opEq (oVar 2) (oE (eCon (.int 4))))) (sSeq (sRet (eCall "_law_renews" (aCons (eVar 1) (aCons (eVar 3) aNil)))) sSkip) sSkip) (sSeq (sRet (eCall "_law_erases" (aCons (eVar 0) (aCons (eVar 1) (aCons (eVar 3) aNil))))) sSkip))))))
def b__law_last_to : MS := (sSeq (sAsg 3 (eBin opSub (oE (eBi biLen (osCons (oE (eBin opIx (oVar 1) (oE (eCon (.int 3))))) osNil))) (oE (eCon (.int 1))))) (sSeq (sForR asR1 (aCons (eBi biLen (osCons (oE (eBin opIx (oVar 1) (oE (eCon (.int 3))))) osNil)) aNil) (.one 4) (sSeq (sIf (mBool (eBin opNe (oE (eBin opIx (oE (eBin opIx (oE (eBin opIx (oVar 1) (oE (eCon (.int 3))))) (oVar 4))) (oE (eCon (.int 0))))) (oVar 2))) (sSeq (sAsg 3 (eVar 4)) sSkip) sSkip) sSkip)) (sSeq (sRet (eCall "_law_delivers" (aCons (eVar 0) (aCons (eVar 1) (aCons (eVar 3) (aCons (eVar 2) aNil)))))) sSkip)))
def b__law_round : MS := (sSeq (sForV (eFrz (fLst (aCons (eBin opSub (oE (eCon (.int 1))) (oVar 2)) (aCons (eVar 2) (aCons (eBin opSub (oE (eCon (.int 1))) (oVar 2)) aNil))))) (.one 3) (sSeq (sIf (mOr (mNot (mTru (oE (eCall "_law_seals" (aCons (eVar 0) (aCons (eVar 1) (aCons (eVar 3) aNil))))))) (mNot (mTru (oE (eCall "_law_last_to" (aCons (eVar 0) (aCons (eVar 1) (aCons (eBin opSub (oE (eCon (.int 1))) (oVar 3)) aNil)))))))) (sSeq (sRet (eCon (.bl false))) sSkip) sSkip) sSkip)) (sSeq (sSet (oVar 1) (eCon (.int 4)) (eBin opAdd (oE (eBin opIx (oVar 1) (oE (eCon (.int 4))))) (oE (eCon (.int 41))))) (sSeq (sForV (eFrz (fLst (aCons (eVar 2) (aCons (eBin opSub (oE (eCon (.int 1))) (oVar 2)) aNil)))) (.one 3) (sSeq (sAsg 4 (eBin opIx (oE (eBin opIx (oVar 1) (oE (eCon (.int 1))))) (oVar 3))) (sSeq (sAsg 5 (eVar 4)) (sSeq (sIf (mAnd (mBool (eBin opIsN (oE (eBin opIx (oVar 4) (oE (eCon (.int 6))))) (oE (eCon .non)))) (mAnd (mBool (eBin opNe (oE (eBin opIx (oE (eBin opIx (oVar 1) (oE (eCon (.int 5))))) (oE (eBin opSub (oE (eCon (.int 1))) (oVar 3))))) (oE (eFrz (fLst aNil))))) (mBool (eBin opGe (oE (eBi biMax (osCons (oE (eBin opIx (oE (eBin opIx (oVar 1) (oE (eCon (.int 5))))) (oE (eBin opSub (oE (eCon (.int 1))) (oVar 3))))) osNil))) (oE (eBin opIx (oVar 4) (oE (eCon (.int 6))))))))) (sSeq (sAsg 5 (eBin opAdd (oE (eSl (oVar 4) pNone (pSome (eCon (.int 7))))) (oE (eTup (aCons (eCon (.bl true)) aNil))))) sSkip) sSkip) (sSeq (sIf (mBool (eBin opNe (oE (eBin opIx (oE (eBin opIx (oVar 1) (oE (eCon (.int 5))))) (oE (eBin opSub (oE (eCon (.int 1))) (oVar 3))))) (oE (eFrz (fLst aNil))))) (sSeq (sIf (mNot (mTru (oE (eCall "_law_same" (aCons (eCall "learn_acknowledged" (aCons (eVar 4) (aCons (eBi biTuple (osCons (oE (eFrz (fSS (oE (eBin opIx (oE (eBin opIx (oVar 1) (oE (eCon (.int 5))))) (oE (eBin opSub (oE (eCon (.int 1))) (oVar 3)))))))) osNil)) aNil))) (aCons (eVar 5) aNil)))))) (sSeq (sRet (eCon (.bl false))) sSkip) sSkip) (sSeq (sSet (oE (eBin opIx (oVar 1) (oE (eCon (.int 1))))) (eVar 3) (eVar 5)) sSkip)) sSkip) (sSeq (sIf (mNot (mTru (oE (eCall "_law_erases" (aCons (eVar 0) (aCons (eVar 1) (aCons (eVar 3) aNil))))))) (sSeq (sRet (eCon (.bl false))) sSkip) sSkip) sSkip)))))) (sSeq (sRet (eCall "_law_renews" (aCons (eVar 1) (aCons (eVar 2) aNil)))) sSkip))))
def b_law : MS := (sSeq (sAsg 1 (eCall "_law_tape" (aCons (eVar 0) aNil))) (sSeq (sAsg 2 (eLay (fLst (aCons (eLay (fLst aNil)) (aCons (eLay (fLst aNil)) aNil))))) (sSeq (sExpr (eCall "_law_noise" (aCons (eVar 1) (aCons (eVar 2) aNil)))) (sSeq (sAsg 3 (eCall "_law_pair" (aCons (eVar 2) aNil))) (sSeq (sAsg 4 (eCall "_law_secret" (aCons (eVar 2) (aCons (eTup (aCons (eCon (.str "derived")) (aCons (eVar 3) (aCons (eCon (.str "client")) (aCons (eTup aNil) aNil))))) aNil)))) (sSeq (sAsg 5 (eCall "_law_secret" (aCons (eVar 2) (aCons (eTup (aCons (eCon (.str "derived")) (aCons (eVar 3) (aCons (eCon (.str "server")) (aCons (eTup aNil) aNil))))) aNil)))) (sSeq (sAsg 6 (eLay (fLst (aCons (eTup (aCons (eVar 4) (aCons (eCon (.int 0)) (aCons (eVar 5) (aCons (eCon (.int 0)) (aCons (eCon .non) (aCons (eCon .non) (aCons (eCon .non) (aCons (eCon (.bl false)) aNil))))))))) (aCons (eTup (aCons (eVar 5) (aCons (eCon (.int 0)) (aCons (eVar 4) (aCons (eCon (.int 0)) (aCons (eCon .non) (aCons (eCon .non) (aCons (eCon .non) (aCons (eCon (.bl false)) aNil))))))))) aNil))))) (sSeq (sAsg 7 (eLay (fLst (aCons (eVar 2) (aCons (eVar 6) (aCons (eLay (fLst (aCons (eCall "_law_draw" (aCons (eVar 1) (aCons (eCon (.int 4)) aNil))) (aCons (eCall "_law_draw" (aCons (eVar 1) (aCons (eCon (.int 4)) aNil))) aNil)))) (aCons (eLay (fLst aNil)) (aCons (eCall "_law_draw" (aCons (eVar 1) (aCons (eCon (.int 900)) aNil))) (aCons (eLay (fLst (aCons (eLay (fLst aNil)) (aCons (eLay (fLst aNil)) aNil)))) aNil))))))))) (sSeq (sAsg 8 (eBin opEq (oE (eCall "_law_draw" (aCons (eVar 1) (aCons (eCon (.int 8)) aNil)))) (oE (eCon (.int 0))))) (sSeq (sAsg 9 (eBin opAdd (oE (eCon (.int 24))) (oE (eCall "_law_draw" (aCons (eVar 1) (aCons (eCon (.int 17)) aNil)))))) (sSeq (sIf (mTru (oVar 8)) (sSeq (sAsg 9 (eCon (.int 16))) sSkip) sSkip) (sSeq (sForR asR1 (aCons (eVar 9) aNil) (.one 10) (sSeq (sIf (mAnd (mTru (oVar 8)) (mAnd (mBool (eBin opLt (oVar 10) (oE (eCon (.int 8))))) (mNot (mTru (oE (eCall "_law_round" (aCons (eVar 1) (aCons (eVar 7) (aCons (eCall "_law_draw" (aCons (eVar 1) (aCons (eCon (.int 2)) aNil))) aNil))))))))) (sSeq (sRet (eCon (.bl false))) sSkip) sSkip) (sSeq (sAsg 11 (eCall "_law_pick" (aCons (eVar 1) (aCons (eFrz (fLst (aCons (eCon (.int 0)) (aCons (eCon (.int 0)) (aCons (eCon (.int 1)) (aCons (eCon (.int 1)) (aCons (eCon (.int 1)) (aCons (eCon (.int 2)) (aCons (eCon (.int 2)) (aCons (eCon (.int 3)) (aCons (eCon (.int 3)) (aCons (eCon (.int 4)) (aCons (eCon (.int 4)) (aCons (eCon (.int 5)) (aCons (eCon (.int 5)) aNil))))))))))))))) aNil)))) (sSeq (sIf (mOr (mNot (mTru (oE (eCall "_law_does" (aCons (eVar 1) (aCons (eVar 7) (aCons (eVar 11) (aCons (eCall "_law_draw" (aCons (eVar 1) (aCons (eCon (.int 2)) aNil))) aNil)))))))) (mNot (mTru (oE (eCall "_law_bounds_hold" (aCons (eBin opIx (oVar 7) (oE (eCon (.int 1)))) aNil)))))) (sSeq (sRet (eCon (.bl false))) sSkip) sSkip) sSkip)))) (sSeq (sRet (eCon (.bl true))) sSkip)))))))))))))
theorem c_size_of : cB W 60 (D_size_of.cc defs consts) D_size_of.body = some b_size_of := by kernel_rfl
theorem c_header_of : cB W 60 (D_header_of.cc defs consts) D_header_of.body = some b_header_of := by kernel_rfl
theorem c_with_secret : cB W 60 (D_with_secret.cc defs consts) D_with_secret.body = some b_with_secret := by kernel_rfl
theorem c_with_entry : cB W 60 (D_with_entry.cc defs consts) D_with_entry.body = some b_with_entry := by kernel_rfl
theorem c_row_of : cB W 60 (D_row_of.cc defs consts) D_row_of.body = some b_row_of := by kernel_rfl
theorem c_derive : cB W 60 (D_derive.cc defs consts) D_derive.body = some b_derive := by kernel_rfl
theorem c_seal : cB W 60 (D_seal.cc defs consts) D_seal.body = some b_seal := by kernel_rfl
theorem c_unseal : cB W 60 (D_unseal.cc defs consts) D_unseal.body = some b_unseal := by kernel_rfl
theorem c_next_key : cB W 60 (D_next_key.cc defs consts) D_next_key.body = some b_next_key := by kernel_rfl
theorem c_phase_of : cB W 60 (D_phase_of.cc defs consts) D_phase_of.body = some b_phase_of := by kernel_rfl
theorem c_seal_app : cB W 60 (D_seal_app.cc defs consts) D_seal_app.body = some b_seal_app := by kernel_rfl
theorem c_next_sending : cB W 60 (D_next_sending.cc defs consts) D_next_sending.body = some b_next_sending := by kernel_rfl
theorem c_go_on : cB W 60 (D_go_on.cc defs consts) D_go_on.body = some b_go_on := by kernel_rfl
theorem c_unseal_app : cB W 60 (D_unseal_app.cc defs consts) D_unseal_app.body = some b_unseal_app := by kernel_rfl
theorem c_may_renew : cB W 60 (D_may_renew.cc defs consts) D_may_renew.body = some b_may_renew := by kernel_rfl
theorem c_renew : cB W 60 (D_renew.cc defs consts) D_renew.body = some b_renew := by kernel_rfl
theorem c_learn_acknowledged : cB W 60 (D_learn_acknowledged.cc defs consts) D_learn_acknowledged.body = some b_learn_acknowledged := by kernel_rfl
theorem c_erase_previous : cB W 60 (D_erase_previous.cc defs consts) D_erase_previous.body = some b_erase_previous := by kernel_rfl
theorem c__law_tape : cB W 60 (D__law_tape.cc defs consts) D__law_tape.body = some b__law_tape := by kernel_rfl
theorem c__law_draw : cB W 60 (D__law_draw.cc defs consts) D__law_draw.body = some b__law_draw := by kernel_rfl
theorem c__law_pick : cB W 60 (D__law_pick.cc defs consts) D__law_pick.body = some b__law_pick := by kernel_rfl
theorem c__law_whole : cB W 60 (D__law_whole.cc defs consts) D__law_whole.body = some b__law_whole := by kernel_rfl
theorem c__law_same : cB W 60 (D__law_same.cc defs consts) D__law_same.body = some b__law_same := by kernel_rfl
theorem c__law_number : cB W 60 (D__law_number.cc defs consts) D__law_number.body = some b__law_number := by kernel_rfl
theorem c__law_size : cB W 60 (D__law_size.cc defs consts) D__law_size.body = some b__law_size := by kernel_rfl
theorem c__law_secret : cB W 60 (D__law_secret.cc defs consts) D__law_secret.body = some b__law_secret := by kernel_rfl
theorem c__law_entry : cB W 60 (D__law_entry.cc defs consts) D__law_entry.body = some b__law_entry := by kernel_rfl
theorem c__law_pair : cB W 60 (D__law_pair.cc defs consts) D__law_pair.body = some b__law_pair := by kernel_rfl
theorem c__law_frozen : cB W 60 (D__law_frozen.cc defs consts) D__law_frozen.body = some b__law_frozen := by kernel_rfl
theorem c__law_noise : cB W 60 (D__law_noise.cc defs consts) D__law_noise.body = some b__law_noise := by kernel_rfl
theorem c__law_at : cB W 60 (D__law_at.cc defs consts) D__law_at.body = some b__law_at := by kernel_rfl
theorem c__law_opened : cB W 60 (D__law_opened.cc defs consts) D__law_opened.body = some b__law_opened := by kernel_rfl
theorem c__law_goes_on : cB W 60 (D__law_goes_on.cc defs consts) D__law_goes_on.body = some b__law_goes_on := by kernel_rfl
theorem c__law_unsealed : cB W 60 (D__law_unsealed.cc defs consts) D__law_unsealed.body = some b__law_unsealed := by kernel_rfl
theorem c__law_sealed : cB W 60 (D__law_sealed.cc defs consts) D__law_sealed.body = some b__law_sealed := by kernel_rfl
theorem c__law_frames : cB W 60 (D__law_frames.cc defs consts) D__law_frames.body = some b__law_frames := by kernel_rfl
theorem c__law_bounds_hold : cB W 60 (D__law_bounds_hold.cc defs consts) D__law_bounds_hold.body = some b__law_bounds_hold := by kernel_rfl
theorem c__law_seals : cB W 60 (D__law_seals.cc defs consts) D__law_seals.body = some b__law_seals := by kernel_rfl
theorem c__law_delivers : cB W 60 (D__law_delivers.cc defs consts) D__law_delivers.body = some b__law_delivers := by kernel_rfl
theorem c__law_learns : cB W 60 (D__law_learns.cc defs consts) D__law_learns.body = some b__law_learns := by kernel_rfl
theorem c__law_renews : cB W 60 (D__law_renews.cc defs consts) D__law_renews.body = some b__law_renews := by kernel_rfl
theorem c__law_erases : cB W 60 (D__law_erases.cc defs consts) D__law_erases.body = some b__law_erases := by kernel_rfl
theorem c__law_does : cB W 60 (D__law_does.cc defs consts) D__law_does.body = some b__law_does := by kernel_rfl
theorem c__law_last_to : cB W 60 (D__law_last_to.cc defs consts) D__law_last_to.body = some b__law_last_to := by kernel_rfl
theorem c__law_round : cB W 60 (D__law_round.cc defs consts) D__law_round.body = some b__law_round := by kernel_rfl
theorem c_law : cB W 60 (D_law.cc defs consts) D_law.body = some b_law := by kernel_rfl
abbrev T : List (Str × DfE) := [(("size_of" : Str), ⟨1, 2, b_size_of⟩), (("header_of" : Str), ⟨1, 1, b_header_of⟩), (("with_secret" : Str), ⟨2, 4, b_with_secret⟩), (("with_entry" : Str), ⟨2, 4, b_with_entry⟩), (("row_of" : Str), ⟨3, 4, b_row_of⟩), (("derive" : Str), ⟨4, 4, b_derive⟩), (("seal" : Str), ⟨5, 7, b_seal⟩), (("unseal" : Str), ⟨4, 12, b_unseal⟩), (("next_key" : Str), ⟨2, 2, b_next_key⟩), (("phase_of" : Str), ⟨1, 1, b_phase_of⟩), (("seal_app" : Str), ⟨5, 7, b_seal_app⟩), (("next_sending" : Str), ⟨2, 11, b_next_sending⟩), (("go_on" : Str), ⟨4, 12, b_go_on⟩), (("unseal_app" : Str), ⟨4, 9, b_unseal_app⟩), (("may_renew" : Str), ⟨1, 1, b_may_renew⟩), (("renew" : Str), ⟨2, 2, b_renew⟩), (("learn_acknowledged" : Str), ⟨2, 3, b_learn_acknowledged⟩), (("erase_previous" : Str), ⟨2, 2, b_erase_previous⟩), (("_law_tape" : Str), ⟨1, 3, b__law_tape⟩), (("_law_draw" : Str), ⟨2, 4, b__law_draw⟩), (("_law_pick" : Str), ⟨2, 2, b__law_pick⟩), (("_law_whole" : Str), ⟨1, 1, b__law_whole⟩), (("_law_same" : Str), ⟨2, 3, b__law_same⟩), (("_law_number" : Str), ⟨1, 2, b__law_number⟩), (("_law_size" : Str), ⟨1, 2, b__law_size⟩), (("_law_secret" : Str), ⟨2, 2, b__law_secret⟩), (("_law_entry" : Str), ⟨2, 2, b__law_entry⟩), (("_law_pair" : Str), ⟨1, 1, b__law_pair⟩), (("_law_frozen" : Str), ⟨1, 1, b__law_frozen⟩), (("_law_noise" : Str), ⟨2, 6, b__law_noise⟩), (("_law_at" : Str), ⟨2, 2, b__law_at⟩), (("_law_opened" : Str), ⟨3, 4, b__law_opened⟩), (("_law_goes_on" : Str), ⟨2, 3, b__law_goes_on⟩), (("_law_unsealed" : Str), ⟨4, 7, b__law_unsealed⟩), (("_law_sealed" : Str), ⟨5, 7, b__law_sealed⟩), (("_law_frames" : Str), ⟨1, 2, b__law_frames⟩), (("_law_bounds_hold" : Str), ⟨1, 4, b__law_bounds_hold⟩), (("_law_seals" : Str), ⟨3, 11, b__law_seals⟩), (("_law_delivers" : Str), ⟨4, 12, b__law_delivers⟩), (("_law_learns" : Str), ⟨3, 7, b__law_learns⟩), (("_law_renews" : Str), ⟨2, 5, b__law_renews⟩), (("_law_erases" : Str), ⟨3, 5, b__law_erases⟩), (("_law_does" : Str), ⟨4, 5, b__law_does⟩), (("_law_last_to" : Str), ⟨3, 5, b__law_last_to⟩), (("_law_round" : Str), ⟨3, 6, b__law_round⟩), (("law" : Str), ⟨1, 12, b_law⟩)]
theorem l_size_of (d : Nat) (args : List AV) (S : List SObj) : lvl T (d + 1) "size_of" args S = runD ⟨1, 2, b_size_of⟩ (lvl T d) args S := by rfl
theorem l_header_of (d : Nat) (args : List AV) (S : List SObj) : lvl T (d + 1) "header_of" args S = runD ⟨1, 1, b_header_of⟩ (lvl T d) args S := by rfl
theorem l_with_secret (d : Nat) (args : List AV) (S : List SObj) : lvl T (d + 1) "with_secret" args S = runD ⟨2, 4, b_with_secret⟩ (lvl T d) args S := by rfl
theorem l_with_entry (d : Nat) (args : List AV) (S : List SObj) : lvl T (d + 1) "with_entry" args S = runD ⟨2, 4, b_with_entry⟩ (lvl T d) args S := by rfl
theorem l_row_of (d : Nat) (args : List AV) (S : List SObj) : lvl T (d + 1) "row_of" args S = runD ⟨3, 4, b_row_of⟩ (lvl T d) args S := by rfl
theorem l_derive (d : Nat) (args : List AV) (S : List SObj) : lvl T (d + 1) "derive" args S = runD ⟨4, 4, b_derive⟩ (lvl T d) args S := by rfl
theorem l_seal (d : Nat) (args : List AV) (S : List SObj) : lvl T (d + 1) "seal" args S = runD ⟨5, 7, b_seal⟩ (lvl T d) args S := by rfl
theorem l_unseal (d : Nat) (args : List AV) (S : List SObj) : lvl T (d + 1) "unseal" args S = runD ⟨4, 12, b_unseal⟩ (lvl T d) args S := by rfl
theorem l_next_key (d : Nat) (args : List AV) (S : List SObj) : lvl T (d + 1) "next_key" args S = runD ⟨2, 2, b_next_key⟩ (lvl T d) args S := by rfl
theorem l_phase_of (d : Nat) (args : List AV) (S : List SObj) : lvl T (d + 1) "phase_of" args S = runD ⟨1, 1, b_phase_of⟩ (lvl T d) args S := by rfl
theorem l_seal_app (d : Nat) (args : List AV) (S : List SObj) : lvl T (d + 1) "seal_app" args S = runD ⟨5, 7, b_seal_app⟩ (lvl T d) args S := by rfl
theorem l_next_sending (d : Nat) (args : List AV) (S : List SObj) : lvl T (d + 1) "next_sending" args S = runD ⟨2, 11, b_next_sending⟩ (lvl T d) args S := by rfl
theorem l_go_on (d : Nat) (args : List AV) (S : List SObj) : lvl T (d + 1) "go_on" args S = runD ⟨4, 12, b_go_on⟩ (lvl T d) args S := by rfl
theorem l_unseal_app (d : Nat) (args : List AV) (S : List SObj) : lvl T (d + 1) "unseal_app" args S = runD ⟨4, 9, b_unseal_app⟩ (lvl T d) args S := by rfl
theorem l_may_renew (d : Nat) (args : List AV) (S : List SObj) : lvl T (d + 1) "may_renew" args S = runD ⟨1, 1, b_may_renew⟩ (lvl T d) args S := by rfl
theorem l_renew (d : Nat) (args : List AV) (S : List SObj) : lvl T (d + 1) "renew" args S = runD ⟨2, 2, b_renew⟩ (lvl T d) args S := by rfl
theorem l_learn_acknowledged (d : Nat) (args : List AV) (S : List SObj) : lvl T (d + 1) "learn_acknowledged" args S = runD ⟨2, 3, b_learn_acknowledged⟩ (lvl T d) args S := by rfl
theorem l_erase_previous (d : Nat) (args : List AV) (S : List SObj) : lvl T (d + 1) "erase_previous" args S = runD ⟨2, 2, b_erase_previous⟩ (lvl T d) args S := by rfl
theorem l__law_tape (d : Nat) (args : List AV) (S : List SObj) : lvl T (d + 1) "_law_tape" args S = runD ⟨1, 3, b__law_tape⟩ (lvl T d) args S := by rfl
theorem l__law_draw (d : Nat) (args : List AV) (S : List SObj) : lvl T (d + 1) "_law_draw" args S = runD ⟨2, 4, b__law_draw⟩ (lvl T d) args S := by rfl
theorem l__law_pick (d : Nat) (args : List AV) (S : List SObj) : lvl T (d + 1) "_law_pick" args S = runD ⟨2, 2, b__law_pick⟩ (lvl T d) args S := by rfl
theorem l__law_whole (d : Nat) (args : List AV) (S : List SObj) : lvl T (d + 1) "_law_whole" args S = runD ⟨1, 1, b__law_whole⟩ (lvl T d) args S := by rfl
theorem l__law_same (d : Nat) (args : List AV) (S : List SObj) : lvl T (d + 1) "_law_same" args S = runD ⟨2, 3, b__law_same⟩ (lvl T d) args S := by rfl
theorem l__law_number (d : Nat) (args : List AV) (S : List SObj) : lvl T (d + 1) "_law_number" args S = runD ⟨1, 2, b__law_number⟩ (lvl T d) args S := by rfl
theorem l__law_size (d : Nat) (args : List AV) (S : List SObj) : lvl T (d + 1) "_law_size" args S = runD ⟨1, 2, b__law_size⟩ (lvl T d) args S := by rfl
theorem l__law_secret (d : Nat) (args : List AV) (S : List SObj) : lvl T (d + 1) "_law_secret" args S = runD ⟨2, 2, b__law_secret⟩ (lvl T d) args S := by rfl
theorem l__law_entry (d : Nat) (args : List AV) (S : List SObj) : lvl T (d + 1) "_law_entry" args S = runD ⟨2, 2, b__law_entry⟩ (lvl T d) args S := by rfl
theorem l__law_pair (d : Nat) (args : List AV) (S : List SObj) : lvl T (d + 1) "_law_pair" args S = runD ⟨1, 1, b__law_pair⟩ (lvl T d) args S := by rfl
theorem l__law_frozen (d : Nat) (args : List AV) (S : List SObj) : lvl T (d + 1) "_law_frozen" args S = runD ⟨1, 1, b__law_frozen⟩ (lvl T d) args S := by rfl
theorem l__law_noise (d : Nat) (args : List AV) (S : List SObj) : lvl T (d + 1) "_law_noise" args S = runD ⟨2, 6, b__law_noise⟩ (lvl T d) args S := by rfl
theorem l__law_at (d : Nat) (args : List AV) (S : List SObj) : lvl T (d + 1) "_law_at" args S = runD ⟨2, 2, b__law_at⟩ (lvl T d) args S := by rfl
theorem l__law_opened (d : Nat) (args : List AV) (S : List SObj) : lvl T (d + 1) "_law_opened" args S = runD ⟨3, 4, b__law_opened⟩ (lvl T d) args S := by rfl
theorem l__law_goes_on (d : Nat) (args : List AV) (S : List SObj) : lvl T (d + 1) "_law_goes_on" args S = runD ⟨2, 3, b__law_goes_on⟩ (lvl T d) args S := by rfl
theorem l__law_unsealed (d : Nat) (args : List AV) (S : List SObj) : lvl T (d + 1) "_law_unsealed" args S = runD ⟨4, 7, b__law_unsealed⟩ (lvl T d) args S := by rfl
theorem l__law_sealed (d : Nat) (args : List AV) (S : List SObj) : lvl T (d + 1) "_law_sealed" args S = runD ⟨5, 7, b__law_sealed⟩ (lvl T d) args S := by rfl
theorem l__law_frames (d : Nat) (args : List AV) (S : List SObj) : lvl T (d + 1) "_law_frames" args S = runD ⟨1, 2, b__law_frames⟩ (lvl T d) args S := by rfl
theorem l__law_bounds_hold (d : Nat) (args : List AV) (S : List SObj) : lvl T (d + 1) "_law_bounds_hold" args S = runD ⟨1, 4, b__law_bounds_hold⟩ (lvl T d) args S := by rfl
theorem l__law_seals (d : Nat) (args : List AV) (S : List SObj) : lvl T (d + 1) "_law_seals" args S = runD ⟨3, 11, b__law_seals⟩ (lvl T d) args S := by rfl
theorem l__law_delivers (d : Nat) (args : List AV) (S : List SObj) : lvl T (d + 1) "_law_delivers" args S = runD ⟨4, 12, b__law_delivers⟩ (lvl T d) args S := by rfl
theorem l__law_learns (d : Nat) (args : List AV) (S : List SObj) : lvl T (d + 1) "_law_learns" args S = runD ⟨3, 7, b__law_learns⟩ (lvl T d) args S := by rfl
theorem l__law_renews (d : Nat) (args : List AV) (S : List SObj) : lvl T (d + 1) "_law_renews" args S = runD ⟨2, 5, b__law_renews⟩ (lvl T d) args S := by rfl
theorem l__law_erases (d : Nat) (args : List AV) (S : List SObj) : lvl T (d + 1) "_law_erases" args S = runD ⟨3, 5, b__law_erases⟩ (lvl T d) args S := by rfl
theorem l__law_does (d : Nat) (args : List AV) (S : List SObj) : lvl T (d + 1) "_law_does" args S = runD ⟨4, 5, b__law_does⟩ (lvl T d) args S := by rfl
theorem l__law_last_to (d : Nat) (args : List AV) (S : List SObj) : lvl T (d + 1) "_law_last_to" args S = runD ⟨3, 5, b__law_last_to⟩ (lvl T d) args S := by rfl
theorem l__law_round (d : Nat) (args : List AV) (S : List SObj) : lvl T (d + 1) "_law_round" args S = runD ⟨3, 6, b__law_round⟩ (lvl T d) args S := by rfl
theorem l_law (d : Nat) (args : List AV) (S : List SObj) : lvl T (d + 1) "law" args S = runD ⟨1, 12, b_law⟩ (lvl T d) args S := by rfl
end K35
end
section
set_option maxRecDepth 100000
set_option maxHeartbeats 4000000
namespace K35
open PySem PySem.Spec PyProof.Rows L2 Pyx

/-! ### sizes -/
mutual
def sz : AV → Int
  | .tup xs => szs xs
  | _ => 1
def szs : List AV → Int
  | [] => 0
  | x :: xs => sz x + szs xs
end
theorem szs_sum : ∀ xs : List AV, szs xs = (xs.map sz).sum
  | [] => rfl
  | x :: xs => by rw [szs, szs_sum xs]; rfl
theorem sum_map {S : List SObj} (xs : List AV) : biSum S [.lst ((xs.filter fun _ => true).map fun x => AV.int (sz x))] = some (.int (szs xs)) := by
  rw [List.filter_eq_self.mpr fun _ _ => rfl]
  show (asInts (xs.map fun x => AV.int (sz x))).map _ = _
  have : (xs.map fun x => AV.int (sz x)) = (xs.map sz).map AV.int := by rw [List.map_map]; rfl
  rw [this, asInts_map, szs_sum]
  rfl
theorem s_size_of : ∀ (k d : Nat) (v : AV) (S : List SObj), sm k v = true → lvl T (d + k + 1) "size_of" [v] S = some (.int (sz v), S) := by
  intro k
  induction k with
  | zero =>
    intro d v S h
    rw [Nat.add_zero, l_size_of]
    cases v <;> first | (cases h; done) | (simp -implicitDefEqProofs [b_size_of, frame, sz])
  | succ k ih =>
    intro d v S h
    rw [show d + (k + 1) + 1 = (d + k + 1) + 1 by omega, l_size_of]
    cases v with
    | tup xs =>
      obtain ⟨j, e, h', hl⟩ := sm_tup h
      cases e
      have cp := comp_pure (G := lvl T (d + k + 1)) (ρ := [some (.val (.tup xs)), none]) (S := S) (i := 1) (xs := xs) (v := .tup xs) (tst := mTrue) (elt := eCall "size_of" (aCons (eVar 1) aNil)) (p := fun _ => true) (f := fun x => .int (sz x)) (.inr rfl) (by rfl)
        (fun x hx => rfl) (fun x hx _ => by simp -implicitDefEqProofs [ih d x S (h' x hx)]) (by omega)
      simp -implicitDefEqProofs [b_size_of, frame, sz, cp, sum_map]
    | lst _ => unfold sm at h; cases h
    | ref _ => unfold sm at h; cases h
    | _ => simp -implicitDefEqProofs [b_size_of, frame, sz]
theorem s_law_size : ∀ (k d : Nat) (v : AV) (S : List SObj), sm k v = true → lvl T (d + k + 1) "_law_size" [v] S = some (.int (sz v), S) := by
  intro k
  induction k with
  | zero =>
    intro d v S h
    rw [Nat.add_zero, l__law_size]
    cases v <;> first | (cases h; done) | (simp -implicitDefEqProofs [b__law_size, frame, sz])
  | succ k ih =>
    intro d v S h
    rw [show d + (k + 1) + 1 = (d + k + 1) + 1 by omega, l__law_size]
    cases v with
    | tup xs =>
      obtain ⟨j, e, h', hl⟩ := sm_tup h
      cases e
      have cp := comp_pure (G := lvl T (d + k + 1)) (ρ := [some (.val (.tup xs)), none]) (S := S) (i := 1) (xs := xs) (v := .tup xs) (tst := mTrue) (elt := eCall "_law_size" (aCons (eVar 1) aNil)) (p := fun _ => true) (f := fun x => .int (sz x)) (.inr rfl) (by rfl)
        (fun x hx => rfl) (fun x hx _ => by simp -implicitDefEqProofs [ih d x S (h' x hx)]) (by omega)
      simp -implicitDefEqProofs [b__law_size, frame, sz, cp, sum_map]
    | lst _ => unfold sm at h; cases h
    | ref _ => unfold sm at h; cases h
    | _ => simp -implicitDefEqProofs [b__law_size, frame, sz]
/-! ### slices of short tuples -/
theorem sIx_nat' (n d k : Nat) : HT.sIx n d (some (k : Int)) = min k n := HT.sIx_nat n d k
theorem cut_to {xs : List AV} (k : Nat) : cutA xs none (some (k : Int)) = xs.take k := by
  unfold cutA
  rw [HT.sIx_none, sIx_nat', List.drop_zero, Nat.sub_zero]
  rw [List.take_eq_take_iff]
  omega
theorem cut_from {xs : List AV} (k : Nat) : cutA xs (some (k : Int)) none = xs.drop k := by
  unfold cutA
  rw [HT.sIx_none, sIx_nat']
  by_cases h : k ≤ xs.length
  · rw [Nat.min_eq_left h, List.take_of_length_le (by simp)]
  · rw [Nat.min_eq_right (by omega)]
    simp
    omega
theorem cut_mid {xs : List AV} (j k : Nat) (h : k ≤ xs.length) (hj : j ≤ k) : cutA xs (some (j : Int)) (some (k : Int)) = (xs.drop j).take (k - j) := by
  unfold cutA
  rw [sIx_nat', sIx_nat', Nat.min_eq_left h, Nat.min_eq_left (by omega)]
@[simp] theorem cut_t2 {xs : List AV} : cutA xs none (some 2) = xs.take 2 := cut_to 2
@[simp] theorem cut_t3 {xs : List AV} : cutA xs none (some 3) = xs.take 3 := cut_to 3
@[simp] theorem cut_t4 {xs : List AV} : cutA xs none (some 4) = xs.take 4 := cut_to 4
@[simp] theorem cut_t6 {xs : List AV} : cutA xs none (some 6) = xs.take 6 := cut_to 6
@[simp] theorem cut_t7 {xs : List AV} : cutA xs none (some 7) = xs.take 7 := cut_to 7
@[simp] theorem cut_f6 {xs : List AV} : cutA xs (some 6) none = xs.drop 6 := cut_from 6
@[simp] theorem cut_26 {a b c d e f g h : AV} : cutA [a, b, c, d, e, f, g, h] (some 2) (some 6) = [c, d, e, f] := cut_mid 2 6 (by simp) (by omega)

/-! ### the program's defs -/
def vA (sec ent : List AV) : AV := .tup [.tup sec, .tup ent]
def wsec (sec : List AV) (row : AV) : List AV × Nat := match pos sec row with
  | some k => (sec, k)
  | none => (sec ++ [row], sec.length)
def Rows (k : Nat) (xs : List AV) : Prop := ∀ y ∈ xs, cn k y = true
section
variable {d : Nat} {S : List SObj} {sec ent : List AV}
theorem inSeq_pos {x : AV} {j : Nat} (h1 : cn j x = true) (h2 : Rows 5 sec) (hj : j ≤ 64) : inSeq x sec = some (pos sec x).isSome := by
  rw [inSeq_sm (cn_sm j x h1) (fun y hy => cn_sm 5 y (h2 y hy)) hj, any_pos]
theorem s_with_secret {row : AV} {j : Nat} (h1 : cn j row = true) (h2 : Rows 5 sec) (hj : j ≤ 64) (hl : sec.length < 10000) :
    lvl T (d + 1) "with_secret" [vA sec ent, row] S = some (.tup [vA (wsec sec row).1 ent, .int (wsec sec row).2], S) := by
  rw [l_with_secret]
  have hi := inSeq_pos h1 h2 hj
  have hx := idxA_sm (ys := sec) (cn_sm j row h1) (fun y hy => cn_sm 5 y (h2 y hy)) hj
  have hin : opIn S row (.tup sec) = some (.bl (pos sec row).isSome) := by
    show (inSeq row sec).map _ = _
    rw [hi]; rfl
  have hr := res_nr (S := S) (sm_nr j row (cn_sm j row h1))
  unfold wsec
  cases hp : pos sec row with
  | some k =>
    rw [hp] at hin hx
    simp -implicitDefEqProofs [b_with_secret, frame, vA, hin, hr, hx]
  | none =>
    rw [hp] at hin
    simp -implicitDefEqProofs [b_with_secret, frame, vA, hin, hr, show sec.length + 1 ≤ 100000 by omega]
theorem s_with_entry {row : AV} (hl : ent.length < 10000) :
    lvl T (d + 1) "with_entry" [vA sec ent, row] S = some (.tup [vA sec (ent ++ [row]), .int ent.length], S) := by
  rw [l_with_entry]
  simp -implicitDefEqProofs [b_with_entry, frame, vA, show ent.length + 1 ≤ 100000 by omega]
def rDer (k : Int) (l : Str) : AV := .tup [.str "derived", .int k, .str l, .tup []]
theorem rDer_cn (k : Int) (l : Str) (h : PyData.strOk l = true) : cn 5 (rDer k l) = true := by
  have h0 : PyData.strOk ("derived" : Str) = true := by decide +kernel
  refine cn_mk (fun x hx => ?_) (by simp)
  simp only [List.mem_cons, List.not_mem_nil, or_false] at hx
  rcases hx with rfl | rfl | rfl | rfl
  · unfold cn; exact h0
  · unfold cn; rfl
  · unfold cn; exact h
  · exact cn_mk (fun x hx => by cases hx) (by simp)
theorem up_ok : PyData.strOk ("update" : Str) = true := by decide +kernel
theorem s_next_key {k : Int} (h2 : Rows 5 sec) (hl : sec.length < 10000) :
    lvl T (d + 3) "next_key" [vA sec ent, .int k] S = some (.tup [vA (wsec sec (rDer k "update")).1 ent, .int (wsec sec (rDer k "update")).2], S) := by
  have h := s_with_secret (d := d) (S := S) (ent := ent) (rDer_cn k "update" up_ok) h2 (by omega) hl
  rw [l_next_key]
  simp -implicitDefEqProofs [b_next_key, frame, vA]
  rw [l_derive]
  simp -implicitDefEqProofs [b_derive, frame]
  simp only [vA, rDer] at h
  rw [h]
  simp -implicitDefEqProofs [vA, rDer]
theorem s_phase_of {g : Int} : lvl T (d + 1) "phase_of" [.int g] S = some (.int (g % 2), S) := by
  rw [l_phase_of]
  simp -implicitDefEqProofs [b_phase_of, frame, opMod_i]
theorem s_header_of {a b c e : AV} : lvl T (d + 1) "header_of" [.tup [a, b, c, e]] S = some (.tup [a, b, c], S) := by
  rw [l_header_of]
  simp -implicitDefEqProofs [b_header_of, frame]
/-! ### keys -/
structure Ky where
  s : Int
  g : Int
  r : Int
  rg : Int
  pu : Option (Int × Int)
  f : Option Int
  c : Bool
def oI : Option Int → AV
  | some i => .int i
  | none => .non
@[simp] theorem oI_s {i : Int} : oI (some i) = .int i := rfl
@[simp] theorem oI_n : oI none = .non := rfl
def kA (k : Ky) : AV := .tup [.int k.s, .int k.g, .int k.r, .int k.rg, oI (k.pu.map (·.1)), oI (k.pu.map (·.2)), oI k.f, .bl k.c]
def goesOn (sec : List AV) (k : Ky) : List AV × Ky := ((wsec sec (rDer k.s "update")).1, { k with s := (wsec sec (rDer k.s "update")).2, g := k.g + 1, f := none, c := false })
theorem s_next_sending {k : Ky} (h2 : Rows 5 sec) (hl : sec.length < 10000) :
    lvl T (d + 4) "next_sending" [vA sec ent, kA k] S = some (.tup [vA (goesOn sec k).1 ent, kA (goesOn sec k).2], S) := by
  have h := s_next_key (d := d) (S := S) (ent := ent) (k := k.s) h2 hl
  rw [l_next_sending]
  obtain ⟨s, g, r, rg, pu, f, c⟩ := k
  cases pu <;> cases f <;> simp -implicitDefEqProofs [b_next_sending, frame, kA, goesOn, h]
theorem s_may_renew {k : Ky} : lvl T (d + 1) "may_renew" [kA k] S = some (.bl (decide (k.g = k.rg) && k.c && k.pu.isNone), S) := by
  rw [l_may_renew]
  obtain ⟨s, g, r, rg, pu, f, c⟩ := k
  by_cases hg : g = rg <;> cases c <;> cases pu <;> simp -implicitDefEqProofs [b_may_renew, frame, kA, hg]
theorem s_renew {k : Ky} (h2 : Rows 5 sec) (hl : sec.length < 10000) :
    lvl T (d + 5) "renew" [vA sec ent, kA k] S = some (.tup [vA (goesOn sec k).1 ent, kA (goesOn sec k).2], S) := by
  have h := s_next_sending (d := d) (S := S) (ent := ent) (k := k) h2 hl
  rw [l_renew]
  simp only [kA] at h ⊢
  simp -implicitDefEqProofs [b_renew, frame, h]
theorem s_erase {k : Ky} {now : Int} : lvl T (d + 1) "erase_previous" [kA k, .int now] S = some (kA { k with pu := k.pu.filter fun p => decide (now < p.2) }, S) := by
  rw [l_erase_previous]
  obtain ⟨s, g, r, rg, pu, f, c⟩ := k
  cases pu with
  | none => simp -implicitDefEqProofs [b_erase_previous, frame, kA]
  | some p =>
    by_cases h : p.2 ≤ now
    · have h' : ¬ now < p.2 := by omega
      simp -implicitDefEqProofs [b_erase_previous, frame, kA, h, h', Option.filter]
    · have h' : now < p.2 := by omega
      simp -implicitDefEqProofs [b_erase_previous, frame, kA, h, h', Option.filter]
def goOn (sec : List AV) (k : Ky) (key u : Int) : List AV × Ky :=
  if k.g < k.rg + 1 then goesOn sec { k with r := key, rg := k.rg + 1, pu := some (k.r, u) } else (sec, { k with r := key, rg := k.rg + 1, pu := some (k.r, u) })
theorem s_go_on {k : Ky} {key u : Int} (h2 : Rows 5 sec) (hl : sec.length < 10000) :
    lvl T (d + 5) "go_on" [vA sec ent, kA k, .int key, .int u] S = some (.tup [vA (goOn sec k key u).1 ent, kA (goOn sec k key u).2], S) := by
  have h := s_next_sending (d := d) (S := S) (ent := ent) (k := { k with r := key, rg := k.rg + 1, pu := some (k.r, u) }) h2 hl
  rw [l_go_on]
  obtain ⟨s, g, r, rg, pu, f, c⟩ := k
  simp only [kA, vA, Option.map_some, oI_s] at h
  unfold goOn
  by_cases hg : g < rg + 1 <;> cases pu <;> cases f <;> simp only [oI_s, oI_n] at h <;> simp -implicitDefEqProofs [b_go_on, frame, kA, hg, h, vA]
/-! ### boxes -/
def rBox (key num : Int) (hdr con : AV) : AV := .tup [.str "box", .int key, .int num, hdr, con]
theorem box_ok : PyData.strOk ("box" : Str) = true := by decide +kernel
theorem eq_box {S : List SObj} : opEq S (.str "box") (.str "box") = some (.bl true) := opEq_refl (k := 0) (by unfold sm; exact box_ok) (by omega)
theorem s_row_of {e : Nat} {key num : Int} {hdr con : AV} (he : ent[e]? = some (rBox key num hdr con)) : lvl T (d + 1) "row_of" [vA sec ent, .int e, .str "box"] S = some (rBox key num hdr con, S) := by
  obtain ⟨hlt, hget⟩ := List.getElem?_eq_some_iff.mp he
  rw [l_row_of]
  simp -implicitDefEqProofs [b_row_of, frame, vA, hlt, Pyx.atI_nat, hget, rBox, eq_box]
theorem eqb_self {k : Nat} {x : AV} (h : sm k x = true) : x.eqb x = true := eqb_refl h
/-- a box of known row is opened with a key -/
theorem s_unseal {e : Nat} {key num s : Int} {hdr con : AV} (he : ent[e]? = some (rBox key num hdr con)) (hh : sm 5 hdr = true) (hc : sm 5 con = true) :
    lvl T (d + 7) "unseal" [vA sec ent, .int s, hdr, .tup [.int e, .int (sz con + 2)]] S = some (if key = s then .tup [.int num, con] else .non, S) := by
  have h1 := s_row_of (d := d + 5) (S := S) (sec := sec) he
  have h2 := s_size_of 5 d con S hc
  have e1 := opNe_sm (S := S) hh hh (by omega)
  rw [eqb_refl hh] at e1
  have r1 := res_nr (S := S) (sm_nr 5 hdr hh)
  have r2 := res_nr (S := S) (sm_nr 5 con hc)
  rw [l_unseal]
  simp only [vA] at h1 ⊢
  by_cases hk : key = s <;> simp -implicitDefEqProofs [b_unseal, frame, h1, rBox, hk, e1, h2, r1, r2]
theorem s_seal {key num : Int} {hdr con : AV} (hc : sm 5 con = true) (hl : ent.length < 10000) :
    lvl T (d + 7) "seal" [vA sec ent, .int key, .int num, hdr, con] S = some (.tup [vA sec (ent ++ [rBox key num hdr con]), .tup [.int ent.length, .int (sz con + 2)]], S) := by
  have h1 := s_with_entry (d := d + 5) (S := S) (sec := sec) (ent := ent) (row := rBox key num hdr con) hl
  have h2 := s_size_of 5 d con S hc
  rw [l_seal]
  simp only [vA, rBox] at h1 ⊢
  simp -implicitDefEqProofs [b_seal, frame, h1, h2]
def hdrA (tgt g : Int) : AV := .tup [.str "app", .int tgt, .int (g % 2)]
def pktA (tgt g : Int) (e : Nat) (con : AV) : AV := .tup [.str "app", .int tgt, .int (g % 2), .tup [.int e, .int (sz con + 2)]]
def sent (k : Ky) (num : Int) : Ky := { k with f := some (k.f.getD num) }
theorem s_seal_app {k : Ky} {tgt num : Int} {con : AV} (hc : sm 5 con = true) (hl : ent.length < 10000) :
    lvl T (d + 8) "seal_app" [vA sec ent, kA k, .int tgt, .int num, con] S = some (.tup [vA sec (ent ++ [rBox k.s num (hdrA tgt k.g) con]), kA (sent k num), pktA tgt k.g ent.length con], S) := by
  have h1 := s_seal (d := d) (S := S) (sec := sec) (ent := ent) (key := k.s) (num := num) (hdr := hdrA tgt k.g) hc hl
  have h2 := s_phase_of (d := d + 6) (S := S) (g := k.g)
  rw [l_seal_app]
  obtain ⟨s, g, r, rg, pu, f, c⟩ := k
  simp only [vA, rBox, hdrA] at h1 h2 ⊢
  cases pu <;> cases f <;> simp -implicitDefEqProofs [b_seal_app, frame, kA, h1, h2, sent, pktA]
/-- what unsealing does: the vault's secrets and the keys behind it -/
def uns (sec : List AV) (k : Ky) (ph key u : Int) : Option (List AV × Ky) :=
  if ph = k.rg % 2 then (if key = k.r then some (sec, k) else none)
  else if k.pu.map (·.1) = some key then some (sec, k)
  else if key = (wsec sec (rDer k.r "update")).2 then some (goOn (wsec sec (rDer k.r "update")).1 k (wsec sec (rDer k.r "update")).2 u) else none
def unsA (ent : List AV) (num : Int) (con : AV) : Option (List AV × Ky) → AV
  | some p => .tup [vA p.1 ent, kA p.2, .int num, con]
  | none => .non
theorem wsec_rows {row : AV} (h : cn 5 row = true) (h2 : Rows 5 sec) : Rows 5 (wsec sec row).1 := by
  unfold wsec
  cases pos sec row with
  | some k => exact h2
  | none =>
    intro y hy
    rcases List.mem_append.mp hy with h3 | h3
    · exact h2 y h3
    · rw [List.mem_singleton.mp h3]; exact h
theorem wsec_len {row : AV} : (wsec sec row).1.length ≤ sec.length + 1 := by
  unfold wsec
  cases pos sec row with
  | some k => show sec.length ≤ _; omega
  | none => simp
theorem s_unseal_app {k : Ky} {tgt g key num u : Int} {e : Nat} {con : AV} (he : ent[e]? = some (rBox key num (hdrA tgt g) con)) (hc : sm 5 con = true) (h2 : Rows 5 sec) (hl : sec.length < 9999) :
    lvl T (d + 8) "unseal_app" [vA sec ent, kA k, pktA tgt g e con, .int u] S = some (unsA ent num con (uns sec k (g % 2) key u), S) := by
  have hh : sm 5 (hdrA tgt g) = true := by
    refine sm_mk (fun x hx => ?_) (by simp)
    simp only [List.mem_cons, List.not_mem_nil, or_false] at hx
    rcases hx with rfl | rfl | rfl
    · decide +kernel
    · unfold sm; rfl
    · unfold sm; rfl
  have hu := fun (sec' : List AV) (s : Int) => s_unseal (d := d) (S := S) (sec := sec') (s := s) he hh hc
  have hn := s_next_key (d := d + 4) (S := S) (ent := ent) (k := k.r) h2 (by omega)
  have hr := wsec_rows (rDer_cn k.r "update" up_ok) h2
  have hg := fun key u => s_go_on (d := d + 2) (S := S) (ent := ent) (k := k) (key := key) (u := u) hr (by have := wsec_len (sec := sec) (row := rDer k.r "update"); omega)
  have hp := s_phase_of (d := d + 6) (S := S) (g := k.rg)
  have hd := s_header_of (d := d + 6) (S := S) (a := .str "app") (b := .int tgt) (c := .int (g % 2)) (e := .tup [.int e, .int (sz con + 2)])
  have r2 := res_nr (S := S) (sm_nr 5 con hc)
  have cp : (AV.tup [.tup [.tup sec, .tup ent], kA k]).nr = true ∨ True := .inr trivial
  rw [l_unseal_app]
  obtain ⟨s, gg, r, rg, pu, f, c⟩ := k
  simp only at hn hr hg hp
  generalize hw : wsec sec (rDer r "update") = w at *
  obtain ⟨w1, w2⟩ := w
  simp only [vA, hdrA, pktA, kA] at hu hn hg hp hd ⊢
  unfold uns
  rw [hw]
  generalize g % 2 = ph at *
  by_cases c1 : ph = rg % 2
  · subst c1
    by_cases c2 : key = r <;> simp -implicitDefEqProofs [b_unseal_app, frame, kA, hd, hp, hu, c2, unsA, vA, r2]
  · cases pu with
    | none =>
      simp only [Option.map_none, oI_n] at hg
      by_cases c3 : key = w2 <;> simp -implicitDefEqProofs [b_unseal_app, frame, kA, hd, hp, hu, c1, c3, unsA, vA, r2, hn, hg]
    | some p =>
      simp only [Option.map_some, oI_s] at hg
      by_cases c2 : key = p.1
      · simp -implicitDefEqProofs [b_unseal_app, frame, kA, hd, hp, hu, c1, c2, unsA, vA, r2]
      · have c2' : ¬ p.1 = key := fun h => c2 h.symm
        by_cases c3 : key = w2
        · subst c3
          simp -implicitDefEqProofs [b_unseal_app, frame, kA, hd, hp, hu, c1, c2, c2', unsA, vA, r2, hn, hg]
        · simp -implicitDefEqProofs [b_unseal_app, frame, kA, hd, hp, hu, c1, c2, c2', c3, unsA, vA, r2, hn, hg]
end
end K35
end
section
set_option maxRecDepth 100000
set_option maxHeartbeats 4000000
namespace K35
open PySem PySem.Spec PyProof.Rows L2 Pyx
section
variable {d : Nat} {t : Tp} {S R : List SObj} {sec ent : List AV}
theorem s_draw (d : Nat) (ht : t.Ok) (many : Int) (hm : many < 1073741824) (R : List SObj) :
    ∃ (r : Int) (t' : Tp), lvl T (d + 1) "_law_draw" [.ref 0, .int many] (tpO t :: R) = some (.int r, tpO t' :: R) ∧ t'.Ok ∧ 0 ≤ r ∧ (r < many ∨ r < 1) := by
  obtain ⟨q, h1, r, t', rfl, h2⟩ := draw_ok (lvl T d) t ht many hm R
  exact ⟨r, t', h1, h2⟩
theorem s_pick (d : Nat) (ht : t.Ok) {xs : List AV} (h0 : xs ≠ []) (hl : xs.length < 1000000) (R : List SObj) :
    ∃ (x : AV) (t' : Tp), lvl T (d + 2) "_law_pick" [.ref 0, .lst xs] (tpO t :: R) = some (x, tpO t' :: R) ∧ t'.Ok ∧ x ∈ xs := by
  obtain ⟨r, t', h1, h2, h3, h4⟩ := s_draw d ht (xs.length : Int) (by omega) R
  have hp : 0 < xs.length := List.length_pos_iff.mpr h0
  have hr : r < xs.length := by omega
  obtain ⟨k, rfl⟩ := Int.eq_ofNat_of_zero_le h3
  have hk : k < xs.length := by omega
  refine ⟨xs[k], t', ?_, h2, List.getElem_mem hk⟩
  rw [l__law_pick]
  have h1' : lvl T (d + 1) "_law_draw" [.ref 0, .int (xs.length : Int)] (tpO t :: R) = some (.int (k : Int), tpO t' :: R) := h1
  simp only [tpO] at h1'
  simp -implicitDefEqProofs [b__law_pick, frame, tpO, h1', Pyx.atI_nat, List.getElem?_eq_getElem hk]
def vS (t : Tp) (sec ent : List AV) (R : List SObj) : List SObj := tpO t :: .lst sec :: .lst ent :: .lst [.ref 1, .ref 2] :: R
theorem notIn_pos {x : AV} {j : Nat} (h1 : cn j x = true) (h2 : Rows 5 sec) (hj : j ≤ 64) : opNotIn S x (.lst sec) = some (.bl (!(pos sec x).isSome)) := by
  show (inSeq x sec).map _ = _
  rw [inSeq_pos h1 h2 hj]; rfl
theorem s_law_secret {row : AV} (h1 : cn 5 row = true) (h2 : Rows 5 sec) (hl : sec.length < 10000) :
    lvl T (d + 1) "_law_secret" [.ref 3, row] (vS t sec ent R) = some (.int (wsec sec row).2, vS t (wsec sec row).1 ent R) := by
  rw [l__law_secret]
  have hi := fun S => notIn_pos (S := S) h1 h2 (by omega)
  have hs := cn_sm 5 row h1
  have hx := idxA_sm (ys := sec) hs (fun y hy => cn_sm 5 y (h2 y hy)) (by omega)
  have hr := fun S => res_nr (S := S) (sm_nr 5 row hs)
  unfold wsec
  cases hp : pos sec row with
  | some k =>
    rw [hp] at hi hx
    simp -implicitDefEqProofs [b__law_secret, frame, vS, hi, hr, hx]
  | none =>
    rw [hp] at hi
    have hx' := idxA_sm (ys := sec ++ [row]) (k := 5) hs (fun y hy => by
      rcases List.mem_append.mp hy with h | h
      · exact cn_sm 5 y (h2 y h)
      · rw [List.mem_singleton.mp h]; exact hs) (by omega)
    rw [pos_append_new h1 hp] at hx'
    simp -implicitDefEqProofs [b__law_secret, frame, vS, hi, hr, hx', show sec.length < 100000 by omega]
theorem s_law_entry {row : AV} (hl : ent.length < 10000) :
    lvl T (d + 1) "_law_entry" [.ref 3, row] (vS t sec ent R) = some (.int ent.length, vS t sec (ent ++ [row]) R) := by
  rw [l__law_entry]
  simp -implicitDefEqProofs [b__law_entry, frame, vS, show ent.length < 100000 by omega]
def rPair (n : Int) : AV := .tup [.str "pair", .int n]
def rPub (n : Int) : AV := .tup [.str "public", .int n]
theorem s_law_pair (hl : ent.length < 10000) (hs : sec.length < 10000) :
    lvl T (d + 1) "_law_pair" [.ref 3] (vS t sec ent R) = some (.int sec.length, vS t (sec ++ [rPair ent.length]) (ent ++ [rPub sec.length]) R) := by
  rw [l__law_pair]
  simp -implicitDefEqProofs [b__law_pair, frame, vS, rPair, rPub, show ent.length < 100000 by omega, show sec.length < 100000 by omega]
theorem s_law_frozen : lvl T (d + 1) "_law_frozen" [.ref 3] (vS t sec ent R) = some (vA sec ent, vS t sec ent R) := by
  rw [l__law_frozen]
  simp -implicitDefEqProofs [b__law_frozen, frame, vS, vA]
theorem s_law_whole {i : Int} : lvl T (d + 1) "_law_whole" [.int i] S = some (.bl true, S) := by
  rw [l__law_whole]
  simp -implicitDefEqProofs [b__law_whole, frame]
theorem s_law_at {e : Nat} {key num : Int} {hdr con : AV} (he : ent[e]? = some (rBox key num hdr con)) :
    lvl T (d + 2) "_law_at" [.ref 2, .int e] (vS t sec ent R) = some (rBox key num hdr con, vS t sec ent R) := by
  obtain ⟨hlt, hget⟩ := List.getElem?_eq_some_iff.mp he
  have hw := fun S => s_law_whole (d := d) (i := (e : Int)) (S := S)
  have h3 : ¬ ent.length ≤ e := by omega
  have h4 : ¬ (e : Int) < 0 := by omega
  rw [l__law_at]
  simp -implicitDefEqProofs [b__law_at, frame, vS, hw, hlt, h3, h4, Pyx.atI_nat, hget]
theorem s_law_opened {e : Nat} {key num s tgt g : Int} {con : AV} (he : ent[e]? = some (rBox key num (hdrA tgt g) con)) (hc : sm 5 con = true) :
    lvl T (d + 7) "_law_opened" [.ref 3, .int s, pktA tgt g e con] (vS t sec ent R) = some (if key = s then .tup [.int num, con] else .non, vS t sec ent R) := by
  have h1 := s_law_at (d := d + 4) (t := t) (R := R) (sec := sec) he
  have h2 := fun S => s_law_size 5 d con S hc
  have hh : sm 5 (hdrA tgt g) = true := by
    refine sm_mk (fun x hx => ?_) (by simp)
    simp only [List.mem_cons, List.not_mem_nil, or_false] at hx
    rcases hx with rfl | rfl | rfl
    · decide +kernel
    · unfold sm; rfl
    · unfold sm; rfl
  have e1 := fun S => opNe_sm (S := S) hh hh (by omega)
  rw [eqb_refl hh] at e1
  have e2 : ∀ S, opNe S (.str "box") (.str "box") = some (.bl (!true)) := fun S => by
    rw [opNe_sm (j := 0) (k := 0) (by unfold sm; exact box_ok) (by unfold sm; exact box_ok) (by omega), eqb_refl (k := 0) (by unfold sm; exact box_ok)]
  have r2 := fun S => res_nr (S := S) (sm_nr 5 con hc)
  rw [l__law_opened]
  simp only [hdrA, rBox, vS] at h1 e1
  simp only [pktA, vS]
  generalize g % 2 = ph at *
  by_cases hk : key = s
  · subst hk
    simp -implicitDefEqProofs [b__law_opened, frame, r2, e2, h1, h2, e1]
  · simp -implicitDefEqProofs [b__law_opened, frame, hk, r2, e2, h1, h2, e1]
theorem s_law_goes_on {k : Ky} (h2 : Rows 5 sec) (hl : sec.length < 10000) :
    lvl T (d + 2) "_law_goes_on" [.ref 3, kA k] (vS t sec ent R) = some (kA (goesOn sec k).2, vS t (goesOn sec k).1 ent R) := by
  have h := s_law_secret (d := d) (t := t) (R := R) (ent := ent) (rDer_cn k.s "update" up_ok) h2 hl
  rw [l__law_goes_on]
  obtain ⟨s, g, r, rg, pu, f, c⟩ := k
  simp only [rDer] at h
  cases pu <;> cases f <;> simp -implicitDefEqProofs [b__law_goes_on, frame, kA, goesOn, h, rDer]
def lawUns (sec : List AV) (k : Ky) (ph key u : Int) : Option (List AV × Ky) :=
  if ph = k.rg % 2 then (if key = k.r then some (sec, k) else none)
  else if k.pu.map (·.1) = some key then some (sec, k)
  else match pos sec (rDer k.r "update") with
    | none => none
    | some w => if key = w then some (goOn sec k w u) else none
def lawUnsA (num : Int) (con : AV) : Option (List AV × Ky) → AV
  | some p => .lst [kA p.2, .tup [.int num, con]]
  | none => .non
def lawUnsS (sec : List AV) : Option (List AV × Ky) → List AV
  | some p => p.1
  | none => sec
theorem s_law_unsealed {k : Ky} {e : Nat} {key num u tgt g : Int} {con : AV} (he : ent[e]? = some (rBox key num (hdrA tgt g) con)) (hc : sm 5 con = true) (h2 : Rows 5 sec) (hl : sec.length < 10000) :
    lvl T (d + 8) "_law_unsealed" [.ref 3, kA k, pktA tgt g e con, .int u] (vS t sec ent R) = some (lawUnsA num con (lawUns sec k (g % 2) key u), vS t (lawUnsS sec (lawUns sec k (g % 2) key u)) ent R) := by
  have ho := fun (s : Int) => s_law_opened (d := d) (t := t) (R := R) (sec := sec) (s := s) he hc
  have hi := fun S => notIn_pos (S := S) (rDer_cn k.r "update" up_ok) h2 (by omega)
  have hx := idxA_sm (ys := sec) (cn_sm 5 _ (rDer_cn k.r "update" up_ok)) (fun y hy => cn_sm 5 y (h2 y hy)) (by omega)
  have r2 := fun S => res_nr (S := S) (sm_nr 5 con hc)
  have hg := fun w : Int => s_law_goes_on (d := d + 5) (t := t) (R := R) (ent := ent) (k := { k with r := w, rg := k.rg + 1, pu := some (k.r, u) }) h2 hl
  rw [l__law_unsealed]
  obtain ⟨s, gg, r, rg, pu, f, c⟩ := k
  unfold lawUns
  simp only [pktA, vS, kA, rDer, Option.map_some, oI_s] at ho hi hx hg ⊢
  generalize g % 2 = ph at *
  by_cases c1 : ph = rg % 2
  · subst c1
    by_cases c2 : key = r <;> simp -implicitDefEqProofs [b__law_unsealed, frame, opMod_i, ho, c2, lawUnsA, lawUnsS, r2, kA]
  · cases pu with
    | none =>
      cases hp : pos sec (AV.tup [.str "derived", .int r, .str "update", .tup []]) with
      | none =>
        rw [hp] at hi
        simp -implicitDefEqProofs [b__law_unsealed, frame, opMod_i, ho, c1, lawUnsA, lawUnsS, r2, kA, hi]
      | some w =>
        rw [hp] at hi hx
        by_cases c3 : key = w
        · subst c3
          by_cases hgg : gg < rg + 1
          · cases f <;> simp only [oI_s, oI_n] at hg <;> simp -implicitDefEqProofs [b__law_unsealed, frame, opMod_i, ho, c1, lawUnsA, lawUnsS, r2, kA, hi, hx, hg, goOn, hgg]
          · cases f <;> simp -implicitDefEqProofs [b__law_unsealed, frame, opMod_i, ho, c1, lawUnsA, lawUnsS, r2, kA, hi, hx, goOn, hgg]
        · simp -implicitDefEqProofs [b__law_unsealed, frame, opMod_i, ho, c1, c3, lawUnsA, lawUnsS, r2, kA, hi, hx]
    | some p =>
      by_cases c2 : key = p.1
      · subst c2
        simp -implicitDefEqProofs [b__law_unsealed, frame, opMod_i, ho, c1, lawUnsA, lawUnsS, r2, kA]
      · have c2' : ¬ p.1 = key := fun h => c2 h.symm
        cases hp : pos sec (AV.tup [.str "derived", .int r, .str "update", .tup []]) with
        | none =>
          rw [hp] at hi
          simp -implicitDefEqProofs [b__law_unsealed, frame, opMod_i, ho, c1, c2, c2', lawUnsA, lawUnsS, r2, kA, hi]
        | some w =>
          rw [hp] at hi hx
          by_cases c3 : key = w
          · subst c3
            by_cases hgg : gg < rg + 1
            · cases f <;> simp only [oI_s, oI_n] at hg <;> simp -implicitDefEqProofs [b__law_unsealed, frame, opMod_i, ho, c1, c2, c2', lawUnsA, lawUnsS, r2, kA, hi, hx, hg, goOn, hgg]
            · cases f <;> simp -implicitDefEqProofs [b__law_unsealed, frame, opMod_i, ho, c1, c2, c2', lawUnsA, lawUnsS, r2, kA, hi, hx, goOn, hgg]
          · simp -implicitDefEqProofs [b__law_unsealed, frame, opMod_i, ho, c1, c2, c2', c3, lawUnsA, lawUnsS, r2, kA, hi, hx]
theorem s_law_sealed {k : Ky} {tgt num : Int} {con : AV} (hc : sm 5 con = true) (hl : ent.length < 10000) :
    lvl T (d + 7) "_law_sealed" [.ref 3, kA k, .int tgt, .int num, con] (vS t sec ent R) = some (.lst [kA (sent k num), pktA tgt k.g ent.length con], vS t sec (ent ++ [rBox k.s num (hdrA tgt k.g) con]) R) := by
  have h1 := s_law_entry (d := d + 5) (t := t) (R := R) (sec := sec) (ent := ent) (row := rBox k.s num (hdrA tgt k.g) con) hl
  have h2 := fun S => s_law_size 5 d con S hc
  rw [l__law_sealed]
  obtain ⟨s, g, r, rg, pu, f, c⟩ := k
  simp only [vS, rBox, hdrA] at h1 ⊢
  cases pu <;> cases f <;> simp -implicitDefEqProofs [b__law_sealed, frame, kA, h1, h2, opMod_i, sent, pktA]
theorem s_law_number (d : Nat) (ht : t.Ok) (R : List SObj) : ∃ (i : Int) (t' : Tp), lvl T (d + 3) "_law_number" [.ref 0] (tpO t :: R) = some (.int i, tpO t' :: R) ∧ t'.Ok := by
  obtain ⟨r, t1, e1, k1, h0, h1⟩ := s_draw (d + 1) ht 5 (by omega) R
  rw [l__law_number]
  simp only [tpO] at e1 ⊢
  by_cases c3 : r < 3
  · have : r = 0 ∨ r = 1 ∨ r = 2 := by omega
    rcases this with rfl | rfl | rfl
    · obtain ⟨x, t2, e2, k2, _⟩ := s_draw (d + 1) k1 3 (by omega) R
      simp only [tpO] at e2
      exact ⟨x, t2, by simp -implicitDefEqProofs [b__law_number, frame, e1, e2], k2⟩
    · obtain ⟨x, t2, e2, k2, _⟩ := s_draw (d + 1) k1 12 (by omega) R
      simp only [tpO] at e2
      exact ⟨x, t2, by simp -implicitDefEqProofs [b__law_number, frame, e1, e2], k2⟩
    · obtain ⟨x, t2, e2, k2, _⟩ := s_draw (d + 1) k1 300 (by omega) R
      simp only [tpO] at e2
      exact ⟨x, t2, by simp -implicitDefEqProofs [b__law_number, frame, e1, e2], k2⟩
  · by_cases c4 : r = 3
    · subst c4
      obtain ⟨x, t2, e2, k2, hx⟩ := s_pick d k1 (xs := [.int 255, .int 256, .int 65536, .int 999999998, .int 999999999]) (by simp) (by simp) R
      simp only [tpO] at e2
      have : ∃ i : Int, x = .int i := by
        simp only [List.mem_cons, List.not_mem_nil, or_false] at hx
        rcases hx with rfl | rfl | rfl | rfl | rfl <;> exact ⟨_, rfl⟩
      obtain ⟨i, rfl⟩ := this
      exact ⟨i, t2, by simp -implicitDefEqProofs [b__law_number, frame, e1, e2], k2⟩
    · obtain ⟨x, t2, e2, k2, _⟩ := s_draw (d + 1) k1 1000000000 (by omega) R
      simp only [tpO] at e2
      exact ⟨x, t2, by simp -implicitDefEqProofs [b__law_number, frame, e1, e2, c3, c4], k2⟩
def Con (v : AV) : Prop := cn 4 v = true
theorem s_law_frames (d : Nat) (ht : t.Ok) (R : List SObj) : ∃ (v : AV) (t' : Tp), lvl T (d + 4) "_law_frames" [.ref 0] (tpO t :: R) = some (v, tpO t' :: R) ∧ t'.Ok ∧ Con v := by
  obtain ⟨r, t1, e1, k1, _⟩ := s_draw (d + 2) ht 9 (by omega) R
  obtain ⟨i, t2, e2, k2⟩ := s_law_number d k1 R
  obtain ⟨x, t3, e3, k3, hx⟩ := s_pick (d + 1) k2 (xs := [.tup [.tup [.str "ping"]], .tup [], .tup [.tup [.str "stream", .int 0, .int r, .tup [.int 7, .int 200], .int 1]], .tup [.tup [.str "credit", .int i], .tup [.str "done"]], .tup [.tup [.str "ack", .int 0, .tup [.tup [.int 0, .int 3], .tup [.int 7, .int 9]]], .tup [.str "ping"]]]) (by simp) (by simp) R
  simp only [tpO] at e1 e2 e3 ⊢
  have w1 : PyData.strOk ("ping" : Str) = true := by decide +kernel
  have w2 : PyData.strOk ("stream" : Str) = true := by decide +kernel
  have w3 : PyData.strOk ("credit" : Str) = true := by decide +kernel
  have w4 : PyData.strOk ("done" : Str) = true := by decide +kernel
  have w5 : PyData.strOk ("ack" : Str) = true := by decide +kernel
  refine ⟨x, t3, ?_, k3, ?_⟩
  · rw [l__law_frames]
    simp -implicitDefEqProofs [b__law_frames, frame, e1, e2, e3]
  · simp only [List.mem_cons, List.not_mem_nil, or_false] at hx
    unfold Con
    rcases hx with rfl | rfl | rfl | rfl | rfl <;> simp [cn, w1, w2, w3, w4, w5]
end
end K35
end
section
set_option maxRecDepth 100000
set_option maxHeartbeats 4000000
namespace K35
open PySem PySem.Spec PyProof.Rows L2 Pyx
/-! ### monotone classes -/
theorem sm_mono : ∀ {j k : Nat} {v : AV}, sm j v = true → j ≤ k → sm k v = true
  | _, _, .non, _, _ => by unfold sm; rfl
  | _, _, .bl _, _, _ => by unfold sm; rfl
  | _, _, .int _, _, _ => by unfold sm; rfl
  | _, _, .str z, h, _ => by unfold sm at h ⊢; exact h
  | j + 1, k + 1, .tup xs, h, hk => by
    obtain ⟨_, e, h', hl⟩ := sm_tup h
    cases e
    exact sm_mk (fun x hx => sm_mono (h' x hx) (by omega)) hl
  | 0, _, .tup xs, h, _ => by cases h
  | _ + 1, 0, .tup xs, _, hk => by omega
  | _, _, .lst _, h, _ => by unfold sm at h; cases h
  | _, _, .ref _, h, _ => by unfold sm at h; cases h
theorem sm_int {k : Nat} {i : Int} : sm k (.int i) = true := by unfold sm; rfl
theorem sm_bl {k : Nat} {i : Bool} : sm k (.bl i) = true := by unfold sm; rfl
theorem sm_oI {k : Nat} {o : Option Int} : sm k (oI o) = true := by cases o <;> (unfold oI sm; rfl)
theorem sm_all {k : Nat} : ∀ {xs : List AV}, (∀ x ∈ xs, sm k x = true) ↔ xs.all (sm k) = true := by
  intro xs; rw [List.all_eq_true]
theorem sm_kA {k : Nat} {y : Ky} : sm (k + 1) (kA y) = true := by
  refine sm_mk (fun x hx => ?_) (by simp)
  simp only [List.mem_cons, List.not_mem_nil, or_false] at hx
  rcases hx with rfl | rfl | rfl | rfl | rfl | rfl | rfl | rfl <;> first | exact sm_int | exact sm_oI | exact sm_bl
theorem sm_vA {sec ent : List AV} (h1 : Rows 5 sec) (h2 : Rows 5 ent) (l1 : sec.length ≤ 10000) (l2 : ent.length ≤ 10000) : sm 7 (vA sec ent) = true := by
  refine sm_mk (fun x hx => ?_) (by simp)
  simp only [List.mem_cons, List.not_mem_nil, or_false] at hx
  rcases hx with rfl | rfl
  · exact sm_mk (fun x hx => cn_sm 5 x (h1 x hx)) l1
  · exact sm_mk (fun x hx => cn_sm 5 x (h2 x hx)) l2
theorem app_ok : PyData.strOk ("app" : Str) = true := by decide +kernel
theorem sm_str {k : Nat} {z : Str} (h : PyData.strOk z = true) : sm k (.str z) = true := by unfold sm; exact h
theorem cn_str {k : Nat} {z : Str} (h : PyData.strOk z = true) : cn k (.str z) = true := by unfold cn; exact h
theorem cn_int {k : Nat} {i : Int} : cn k (.int i) = true := by unfold cn; rfl
theorem sm_pkt {k : Nat} {tgt g : Int} {e : Nat} {con : AV} : sm (k + 2) (pktA tgt g e con) = true := by
  refine sm_mk (fun x hx => ?_) (by simp)
  simp only [List.mem_cons, List.not_mem_nil, or_false] at hx
  rcases hx with rfl | rfl | rfl | rfl
  · exact sm_str app_ok
  · exact sm_int
  · exact sm_int
  · refine sm_mk (fun x hx => ?_) (by simp)
    simp only [List.mem_cons, List.not_mem_nil, or_false] at hx
    rcases hx with rfl | rfl <;> exact sm_int
theorem cn_box {key num tgt g : Int} {con : AV} (h : Con con) : cn 5 (rBox key num (hdrA tgt g) con) = true := by
  refine cn_mk (fun x hx => ?_) (by simp)
  simp only [List.mem_cons, List.not_mem_nil, or_false] at hx
  rcases hx with rfl | rfl | rfl | rfl | rfl
  · exact cn_str box_ok
  · exact cn_int
  · exact cn_int
  · refine cn_mk (fun x hx => ?_) (by simp)
    simp only [List.mem_cons, List.not_mem_nil, or_false] at hx
    rcases hx with rfl | rfl | rfl
    · exact cn_str app_ok
    · exact cn_int
    · exact cn_int
  · exact h
theorem Con.sm {con : AV} (h : Con con) : sm 5 con = true := sm_mono (cn_sm 4 con h) (by omega)
/-! ### the run -/
def bI : Bool → Int
  | true => 1
  | false => 0
structure Pk where
  snd : Bool
  g : Int
  num : Int
  tgt : Int
  e : Nat
  con : AV
def pRow (p : Pk) : AV := .lst [.int (bI p.snd), .int p.g, .int p.num, pktA p.tgt p.g p.e p.con, p.con]
structure St where
  t : Tp
  sec : List AV
  ent : List AV
  ky : Bool → Ky
  nx : Bool → Int
  ps : List Pk
  rc : Bool → List Int
  now : Int
def sto (s : St) : List SObj := vS s.t s.sec s.ent [.lst [kA (s.ky false), kA (s.ky true)], .lst [.int (s.nx false), .int (s.nx true)], .lst (s.ps.map pRow), .lst ((s.rc false).map .int), .lst ((s.rc true).map .int), .lst [.ref 7, .ref 8], .lst [.ref 3, .ref 4, .ref 5, .ref 6, .int s.now, .ref 9]]
def upB {α : Type} (f : Bool → α) (b : Bool) (v : α) : Bool → α := fun c => if c = b then v else f c
@[simp] theorem upB_ff {α : Type} {f : Bool → α} {v : α} : upB f false v false = v := rfl
@[simp] theorem upB_ft {α : Type} {f : Bool → α} {v : α} : upB f false v true = f true := rfl
@[simp] theorem upB_tf {α : Type} {f : Bool → α} {v : α} : upB f true v false = f false := rfl
@[simp] theorem upB_tt {α : Type} {f : Bool → α} {v : α} : upB f true v true = v := rfl
structure Shp (s : St) : Prop where
  tk : s.t.Ok
  rs : Rows 5 s.sec
  re : Rows 5 s.ent
  ls : s.sec.length < 5000
  le : s.ent.length < 5000
  lp : s.ps.length < 5000
  lr : ∀ b, (s.rc b).length < 60
  hp : ∀ p ∈ s.ps, Con p.con
theorem hsame : T.lookup ("_law_same" : Str) = some (⟨2, 3, bSame⟩ : DfE) := by rfl
theorem s_same (d k : Nat) (v : AV) (S : List SObj) (h : sm k v = true) : lvl T (d + k + 1) "_law_same" [v, v] S = some (.bl true, S) := same_ok hsame k d v S h
theorem Rows.snoc {k : Nat} {xs : List AV} {x : AV} (h : Rows k xs) (hx : cn k x = true) : Rows k (xs ++ [x]) := fun y hy => by
  rcases List.mem_append.mp hy with h1 | h1
  · exact h y h1
  · rw [List.mem_singleton.mp h1]; exact hx
section
variable {S : List SObj} {k : Ky} {p : Pk}
@[simp] theorem res_kA : res S (kA k) = kA k := rfl
@[simp] theorem ix_k1 : opIx S (kA k) (.int 1) = some (.int k.g) := rfl
@[simp] theorem ix_k3 : opIx S (kA k) (.int 3) = some (.int k.rg) := rfl
@[simp] theorem ix_k4 : opIx S (kA k) (.int 4) = some (oI (k.pu.map (·.1))) := rfl
@[simp] theorem ix_k5 : opIx S (kA k) (.int 5) = some (oI (k.pu.map (·.2))) := rfl
@[simp] theorem ix_k6 : opIx S (kA k) (.int 6) = some (oI k.f) := rfl
@[simp] theorem ix_k7 : opIx S (kA k) (.int 7) = some (.bl k.c) := rfl
@[simp] theorem res_pR : res S (pRow p) = pRow p := rfl
@[simp] theorem ix_p0 : opIx S (pRow p) (.int 0) = some (.int (bI p.snd)) := rfl
@[simp] theorem ix_p1 : opIx S (pRow p) (.int 1) = some (.int p.g) := rfl
@[simp] theorem ix_p2 : opIx S (pRow p) (.int 2) = some (.int p.num) := rfl
@[simp] theorem ix_p3 : opIx S (pRow p) (.int 3) = some (pktA p.tgt p.g p.e p.con) := rfl
@[simp] theorem ix_p4 : opIx S (pRow p) (.int 4) = some p.con := rfl
@[simp] theorem res_vA {sec ent : List AV} : res S (vA sec ent) = vA sec ent := rfl
@[simp] theorem isNon_oI {o : Option Int} : isNon (oI o) = o.isNone := by cases o <;> rfl
@[simp] theorem res_oI {o : Option Int} : res S (oI o) = oI o := by cases o <;> rfl
end
/-- sealing -/
def sealsTo (s : St) (b : Bool) (t : Tp) (tgt : Int) (con : AV) (dl : Int) : St := { s with
  t := t
  ent := s.ent ++ [rBox (s.ky b).s (s.nx b) (hdrA tgt (s.ky b).g) con]
  ky := upB s.ky b (sent (s.ky b) (s.nx b))
  nx := upB s.nx b (s.nx b + 1 + dl)
  ps := s.ps ++ [⟨b, (s.ky b).g, s.nx b, tgt, s.ent.length, con⟩] }
theorem dI {r : Int} : (if r = 0 then (1 : Int) else 0) = 0 ∨ (if r = 0 then (1 : Int) else 0) = 1 := by split <;> simp
theorem biInt_d {S : List SObj} {P : Prop} [Decidable P] : biInt S [.bl (decide P)] = some (.int (if P then 1 else 0)) := by
  rw [biInt_b]; by_cases h : P <;> simp [h]
theorem s_seals (d : Nat) {s : St} (H : Shp s) (b : Bool) : ∃ (t : Tp) (tgt : Int) (con : AV) (dl : Int), lvl T (d + 12) "_law_seals" [.ref 0, .ref 10, .int (bI b)] (sto s) = some (.bl true, sto (sealsTo s b t tgt con dl)) ∧ t.Ok ∧ Con con ∧ (dl = 0 ∨ dl = 1) := by
  obtain ⟨t, sec, ent, ky, nx, ps, rc, now⟩ := s
  obtain ⟨tk, rs, re, ls, le, lp, lr, hp⟩ := H
  simp only at tk rs re ls le lp lr hp
  let R : List SObj := .lst sec :: .lst ent :: .lst [.ref 1, .ref 2] :: [.lst [kA (ky false), kA (ky true)], .lst [.int (nx false), .int (nx true)], .lst (ps.map pRow), .lst ((rc false).map .int), .lst ((rc true).map .int), .lst [.ref 7, .ref 8], .lst [.ref 3, .ref 4, .ref 5, .ref 6, .int now, .ref 9]]
  obtain ⟨con, t1, e1, k1, hc⟩ := s_law_frames (d + 7) tk R
  obtain ⟨tgt, t2, e2, k2, _⟩ := s_draw (d + 10) k1 5 (by omega) R
  have hf := fun t ent R => s_law_frozen (d := d + 10) (t := t) (sec := sec) (ent := ent) (R := R)
  have e3 := fun S => s_seal_app (d := d + 3) (S := S) (sec := sec) (ent := ent) (k := ky b) (tgt := tgt) (num := nx b) hc.sm (by omega)
  have e4 := fun R => s_law_sealed (d := d + 4) (t := t2) (R := R) (sec := sec) (ent := ent) (k := ky b) (tgt := tgt) (num := nx b) hc.sm (by omega)
  have hre := re.snoc (cn_box (key := (ky b).s) (num := nx b) (tgt := tgt) (g := (ky b).g) hc)
  have hle : (ent ++ [rBox (ky b).s (nx b) (hdrA tgt (ky b).g) con]).length ≤ 10000 := by simp; omega
  generalize hbx : rBox (ky b).s (nx b) (hdrA tgt (ky b).g) con = bx at *
  generalize hpk : pktA tgt (ky b).g ent.length con = pk at *
  have hsv : sm 8 (.tup [vA sec (ent ++ [bx]), kA (sent (ky b) (nx b)), pk]) = true := by
    refine sm_mk (fun x hx => ?_) (by simp)
    simp only [List.mem_cons, List.not_mem_nil, or_false] at hx
    rcases hx with rfl | rfl | rfl
    · exact sm_vA rs hre (by omega) hle
    · exact sm_kA
    · rw [← hpk]; exact sm_pkt
  have e6 := fun S => s_same (d + 2) 8 _ S hsv
  have rc1 := fun S => res_nr (S := S) (sm_nr 5 con hc.sm)
  have rp := fun S => res_nr (S := S) (sm_nr 2 pk (by rw [← hpk]; exact sm_pkt))
  obtain ⟨r, t3, e7, k3, _⟩ := s_draw (d + 10) k2 5 (by omega) (.lst sec :: .lst (ent ++ [bx]) :: .lst [.ref 1, .ref 2] :: [.lst [kA (upB ky b (sent (ky b) (nx b)) false), kA (upB ky b (sent (ky b) (nx b)) true)], .lst [.int (nx false), .int (nx true)], .lst (ps.map pRow), .lst ((rc false).map .int), .lst ((rc true).map .int), .lst [.ref 7, .ref 8], .lst [.ref 3, .ref 4, .ref 5, .ref 6, .int now, .ref 9]])
  refine ⟨t3, tgt, con, if r = 0 then 1 else 0, ?_, k3, hc, dI⟩
  rw [l__law_seals]
  simp only [vS] at hf e4
  simp only [sto, vS, sealsTo, hbx]
  have hbk : bI false = 0 := rfl
  have hbk1 : bI true = 1 := rfl
  cases b <;> simp only [upB_ff, upB_ft, upB_tf, upB_tt] at e7 <;> simp -implicitDefEqProofs [b__law_seals, frame, hbk, hbk1, R, e1, e2, e3, e4, e6, e7, hf, rc1, rp, biInt_d, pRow, hpk, show ps.length < 100000 by omega]
end K35
end
section
set_option maxRecDepth 100000
set_option maxHeartbeats 4000000
namespace K35
open PySem PySem.Spec PyProof.Rows L2 Pyx
theorem opIn_2 {S : List SObj} {x a b : Int} : opIn S (.int x) (.lst [.int a, .int b]) = some (.bl (decide (x = a ∨ x = b))) := by
  show (inSeq (.int x) [.int a, .int b]).map _ = _
  rw [inSeq_sm (j := 0) (k := 0) sm_int (fun y hy => by
    simp only [List.mem_cons, List.not_mem_nil, or_false] at hy
    rcases hy with rfl | rfl <;> exact sm_int) (by omega)]
  have e : ∀ u v : Int, (AV.int u).eqb (.int v) = decide (u = v) := fun u v => by simp [AV.eqb, AV.pd, PyData.eqv, BEq.beq]
  have : ([AV.int a, AV.int b].any fun y => y.eqb (.int x)) = decide (x = a ∨ x = b) := by
    simp only [List.any_cons, List.any_nil, e, Bool.or_false, Bool.decide_or]
    congr 1 <;> exact decide_eq_decide.mpr ⟨Eq.symm, Eq.symm⟩
  rw [this]
  rfl
theorem opNotIn_2 {S : List SObj} {x a b : Int} : opNotIn S (.int x) (.lst [.int a, .int b]) = some (.bl (!decide (x = a ∨ x = b))) := by
  have := opIn_2 (S := S) (x := x) (a := a) (b := b)
  unfold opIn at this
  unfold opNotIn
  cases h : inB S (.int x) (.lst [.int a, .int b]) with
  | none => rw [h] at this; cases this
  | some c => rw [h] at this; cases this; rfl
def finA (k : Ky) (b : Bool) (p : Pk) : Prop := p.snd ≠ b ∧ ((p.g = k.rg ∨ p.g = k.rg + 1) ∨ (p.g = k.rg - 1 ∧ k.pu.isSome = true))
def delTo (s : St) (b : Bool) (t : Tp) (q : List AV × Ky) (n : Int) : St := { s with t := t, sec := q.1, ky := upB s.ky b q.2, rc := upB s.rc b (s.rc b ++ [n]) }
section
variable {s : St} {j : Nat} {p : Pk} {key : Int}
theorem s_deliversF (d : Nat) (H : Shp s) (b : Bool) (hj : s.ps[j]? = some p) (he : s.ent[p.e]? = some (rBox key p.num (hdrA p.tgt p.g) p.con)) (hf : ¬ finA (s.ky b) b p)
    (h1 : ∀ u, uns s.sec (s.ky b) (p.g % 2) key u = none) (h2 : ∀ u, lawUns s.sec (s.ky b) (p.g % 2) key u = none) :
    ∃ t : Tp, lvl T (d + 12) "_law_delivers" [.ref 0, .ref 10, .int j, .int (bI b)] (sto s) = some (.bl true, sto { s with t := t }) ∧ t.Ok := by
  obtain ⟨t, sec, ent, ky, nx, ps, rc, now⟩ := s
  obtain ⟨tk, rs, re, ls, le, lp, lr, hp⟩ := H
  simp only at tk rs re ls le lp lr hp hj he hf h1 h2
  let R : List SObj := .lst sec :: .lst ent :: .lst [.ref 1, .ref 2] :: [.lst [kA (ky false), kA (ky true)], .lst [.int (nx false), .int (nx true)], .lst (ps.map pRow), .lst ((rc false).map .int), .lst ((rc true).map .int), .lst [.ref 7, .ref 8], .lst [.ref 3, .ref 4, .ref 5, .ref 6, .int now, .ref 9]]
  obtain ⟨x, t1, e1, k1, _⟩ := s_draw (d + 10) tk 40 (by omega) R
  have hc := (hp p (List.mem_of_getElem? hj)).sm
  have hfz := fun t ent R => s_law_frozen (d := d + 10) (t := t) (sec := sec) (ent := ent) (R := R)
  have e3 := fun S u => s_unseal_app (d := d + 3) (S := S) (sec := sec) (ent := ent) (k := ky b) (u := u) he hc rs (by omega)
  have e4 := fun R u => s_law_unsealed (d := d + 3) (t := t1) (R := R) (sec := sec) (ent := ent) (k := ky b) (u := u) he hc rs (by omega)
  simp only [h1, h2, unsA, lawUnsA, lawUnsS] at e3 e4
  have hjm : L2.atI (ps.map pRow) (j : Int) = some (pRow p) := by rw [Pyx.atI_nat, List.getElem?_map, hj]; rfl
  refine ⟨t1, ?_, k1⟩
  rw [l__law_delivers]
  simp only [vS] at hfz e4
  simp only [sto, vS]
  have rp := fun S => res_nr (S := S) (sm_nr 2 (pktA p.tgt p.g p.e p.con) sm_pkt)
  have hbk : bI false = 0 := rfl
  have hbk1 : bI true = 1 := rfl
  unfold finA at hf
  by_cases hs : p.snd = b
  · cases b <;> simp only [hbk, hbk1] <;> simp -implicitDefEqProofs [b__law_delivers, frame, hbk, hbk1, R, e1, e3, e4, hfz, hjm, rp, hs]
  · have hg : ¬ (p.g = (ky b).rg ∨ p.g = (ky b).rg + 1) := fun h => hf ⟨hs, .inl h⟩
    have hne : bI p.snd ≠ bI b := by cases b <;> cases hq : p.snd <;> simp_all [bI]
    by_cases hg2 : p.g = (ky b).rg - 1
    · have hpu : (ky b).pu = none := by
        cases q : (ky b).pu with
        | none => rfl
        | some y => exact absurd ⟨hs, .inr ⟨hg2, by rw [q]; rfl⟩⟩ hf
      cases b <;> simp only [hbk, hbk1] at hne ⊢ <;> simp -implicitDefEqProofs [b__law_delivers, frame, hbk, hbk1, R, e1, e3, e4, hfz, hjm, rp, hne, opIn_2, hg, eq_true hg2, hpu]
    · cases b <;> simp only [hbk, hbk1] at hne ⊢ <;> simp -implicitDefEqProofs [b__law_delivers, frame, hbk, hbk1, R, e1, e3, e4, hfz, hjm, rp, hne, opIn_2, hg, hg2]
theorem s_deliversT (d : Nat) (H : Shp s) (b : Bool) (hj : s.ps[j]? = some p) (he : s.ent[p.e]? = some (rBox key p.num (hdrA p.tgt p.g) p.con)) (hf : finA (s.ky b) b p)
    (h : ∀ u, ∃ q, uns s.sec (s.ky b) (p.g % 2) key u = some q ∧ lawUns s.sec (s.ky b) (p.g % 2) key u = some q ∧ Rows 5 q.1 ∧ q.1.length ≤ 10000) :
    ∃ (t : Tp) (u : Int) (q : List AV × Ky), uns s.sec (s.ky b) (p.g % 2) key u = some q ∧ lvl T (d + 12) "_law_delivers" [.ref 0, .ref 10, .int j, .int (bI b)] (sto s) = some (.bl true, sto (delTo s b t q p.num)) ∧ t.Ok := by
  obtain ⟨t, sec, ent, ky, nx, ps, rc, now⟩ := s
  obtain ⟨tk, rs, re, ls, le, lp, lr, hp⟩ := H
  simp only at tk rs re ls le lp lr hp hj he hf h
  let R : List SObj := .lst sec :: .lst ent :: .lst [.ref 1, .ref 2] :: [.lst [kA (ky false), kA (ky true)], .lst [.int (nx false), .int (nx true)], .lst (ps.map pRow), .lst ((rc false).map .int), .lst ((rc true).map .int), .lst [.ref 7, .ref 8], .lst [.ref 3, .ref 4, .ref 5, .ref 6, .int now, .ref 9]]
  obtain ⟨x, t1, e1, k1, _⟩ := s_draw (d + 10) tk 40 (by omega) R
  have hc := (hp p (List.mem_of_getElem? hj)).sm
  obtain ⟨q, h1, h2, hq, hql⟩ := h (now + x)
  have hfz := fun t sec ent R => s_law_frozen (d := d + 10) (t := t) (sec := sec) (ent := ent) (R := R)
  have e3 := fun S => s_unseal_app (d := d + 3) (S := S) (sec := sec) (ent := ent) (k := ky b) (u := now + x) he hc rs (by omega)
  have e4 := fun R => s_law_unsealed (d := d + 3) (t := t1) (R := R) (sec := sec) (ent := ent) (k := ky b) (u := now + x) he hc rs (by omega)
  simp only [h1, h2, unsA, lawUnsA, lawUnsS] at e3 e4
  have hjm : L2.atI (ps.map pRow) (j : Int) = some (pRow p) := by rw [Pyx.atI_nat, List.getElem?_map, hj]; rfl
  have hsv : sm 8 (.tup [vA q.1 ent, kA q.2, .int p.num, p.con]) = true := by
    refine sm_mk (fun x hx => ?_) (by simp)
    simp only [List.mem_cons, List.not_mem_nil, or_false] at hx
    rcases hx with rfl | rfl | rfl | rfl
    · exact sm_vA hq re hql (by omega)
    · exact sm_kA
    · exact sm_int
    · exact sm_mono hc (by omega)
  have e6 := fun S => s_same (d + 2) 8 _ S hsv
  refine ⟨t1, now + x, q, h1, ?_, k1⟩
  rw [l__law_delivers]
  simp only [vS] at hfz e4
  simp only [sto, vS, delTo]
  have rp := fun S => res_nr (S := S) (sm_nr 2 (pktA p.tgt p.g p.e p.con) sm_pkt)
  have r2 := fun S => res_nr (S := S) (sm_nr 5 p.con hc)
  have hbk : bI false = 0 := rfl
  have hbk1 : bI true = 1 := rfl
  obtain ⟨hs, hg⟩ := hf
  have hne : bI p.snd ≠ bI b := by cases b <;> cases hq : p.snd <;> simp_all [bI]
  have hl1 := lr false
  have hl2 := lr true
  by_cases hg1 : (p.g = (ky b).rg ∨ p.g = (ky b).rg + 1)
  · by_cases hg2 : p.g = (ky b).rg - 1
    · omega
    · cases b <;> simp only [hbk, hbk1] at hne ⊢ <;> simp -implicitDefEqProofs [b__law_delivers, frame, hbk, hbk1, R, e1, e3, e4, e6, hfz, hjm, rp, r2, hne, opIn_2, eq_true hg1, hg2, show (rc false).length < 100000 by omega, show (rc true).length < 100000 by omega]
  · obtain ⟨hg2, hpu⟩ : p.g = (ky b).rg - 1 ∧ (ky b).pu.isSome = true := hg.resolve_left hg1
    have hpn : (ky b).pu.isNone = false := by cases q : (ky b).pu <;> simp_all
    obtain ⟨pu, hpu'⟩ : ∃ y, (ky b).pu = some y := by cases q : (ky b).pu <;> simp_all
    cases b <;> simp only [hbk, hbk1] at hne ⊢ <;> simp -implicitDefEqProofs [b__law_delivers, frame, hbk, hbk1, R, e1, e3, e4, e6, hfz, hjm, rp, r2, hne, opIn_2, hg1, eq_true hg2, hpu', show (rc false).length < 100000 by omega, show (rc true).length < 100000 by omega]
end
end K35
end
section
set_option maxRecDepth 100000
set_option maxHeartbeats 4000000
namespace K35
open PySem PySem.Spec PyProof.Rows L2 Pyx
def ackd (k : Ky) (ns : List Int) : Ky := match k.f with
  | none => k
  | some f => if (ns.any fun n => decide (f ≤ n)) = true then { k with c := true } else k
def geA (f : Int) : AV → AV
  | .int n => .bl (decide (f ≤ n))
  | _ => .non
theorem any_map {S : List SObj} {f : Int} (ns : List Int) : biAny S [.lst (((ns.map AV.int).filter fun _ => true).map (geA f))] = some (.bl (ns.any fun n => decide (f ≤ n))) := by
  rw [List.filter_eq_self.mpr fun _ _ => rfl]
  show (asBls ((ns.map AV.int).map (geA f))).map _ = _
  have : (ns.map AV.int).map (geA f) = (ns.map fun n => decide (f ≤ n)).map AV.bl := by rw [List.map_map, List.map_map]; rfl
  rw [this, asBls_map]
  show some (AV.bl ((ns.map fun n => decide (f ≤ n)).any id)) = _
  rw [List.any_map]
  rfl
section
variable {d : Nat} {S : List SObj}
theorem s_learn_ack {k : Ky} {ns : List Int} (hl : ns.length ≤ 1000) : lvl T (d + 1) "learn_acknowledged" [kA k, .tup (ns.map .int)] S = some (kA (ackd k ns), S) := by
  rw [l_learn_acknowledged]
  obtain ⟨s, g, r, rg, pu, f, c⟩ := k
  cases f with
  | none => simp -implicitDefEqProofs [b_learn_acknowledged, frame, ackd]
  | some f =>
    have cp := comp_pure (G := lvl T d) (ρ := [some (.val (kA ⟨s, g, r, rg, pu, some f, c⟩)), some (.val (.tup (ns.map .int))), none]) (S := S) (i := 2) (xs := ns.map .int) (v := .tup (ns.map .int)) (tst := mTrue) (elt := eBin opGe (oVar 2) (oE (eBin opIx (oVar 0) (oE (eCon (.int 6)))))) (p := fun _ => true) (f := geA f) (.inr rfl) (by rfl)
      (fun x hx => rfl) (fun x hx _ => by
        obtain ⟨n, _, rfl⟩ := List.mem_map.mp hx
        simp -implicitDefEqProofs [geA]) (by rw [List.length_map]; omega)
    by_cases ha : (ns.any fun n => decide (f ≤ n)) = true
    · simp only [ackd, ha]
      simp -implicitDefEqProofs [b_learn_acknowledged, frame, cp, any_map, ha]
      simp -implicitDefEqProofs [kA]
    · have ha' : (ns.any fun n => decide (f ≤ n)) = false := by cases q : (ns.any fun n => decide (f ≤ n)) <;> simp_all
      simp only [ackd, ha']
      simp -implicitDefEqProofs [b_learn_acknowledged, frame, cp, any_map, ha']
end
/-- a choice of a list of the store, by draws -/
theorem compR_draws {i n len : Nat} {tst : AS → Option (Bool × AS)} {elt : AS → Option (AV × AS)} {ρ : List (Option Slt)} {R : List SObj} {ns : List Int} (hR : ∀ o : SObj, (o :: R)[n]? = some (.lst (ns.map .int))) (hl : ns.length = len) (h60 : len ≤ 1000)
    (ht : ∀ (t : Tp) (x : AV), t.Ok → ∃ c t', tst ⟨ρ.set i (some (.val x)), tpO t :: R⟩ = some (c, ⟨ρ.set i (some (.val x)), tpO t' :: R⟩) ∧ t'.Ok)
    (he : ∀ (t : Tp) (x : AV), elt ⟨ρ.set i (some (.val x)), tpO t :: R⟩ = some (x, ⟨ρ.set i (some (.val x)), tpO t :: R⟩)) : ∀ (k : Nat) (acc : List AV) (t : Tp) (b : AS), k ≤ len → acc.length + k ≤ 1000 → t.Ok → b.drop i = AS.drop ⟨ρ, tpO t :: R⟩ i →
    ∃ (ns' : List Int) (t' : Tp) (b' : AS), compR [i] (.one i) tst elt n len k acc b = some (acc ++ ns'.map .int, b') ∧ b'.drop i = AS.drop ⟨ρ, tpO t' :: R⟩ i ∧ t'.Ok ∧ (∀ x ∈ ns', x ∈ ns) ∧ ns'.length ≤ k
  | 0, acc, t, b, hk, ha, hok, hb => by
    refine ⟨[], t, b, ?_, hb, hok, (fun x hx => by cases hx), Nat.le_refl _⟩
    have hS : b.S = tpO t :: R := congrArg AS.S hb
    show (if Pyx.lenIs b n len = true then some (acc, b) else none) = _
    have : Pyx.lenIs b n len = true := by
      unfold Pyx.lenIs
      rw [hS, hR]
      simp [hl]
    rw [if_pos this]
    simp
  | k + 1, acc, t, b, hk, ha, hok, hb => by
    have hS : b.S = tpO t :: R := congrArg AS.S hb
    have hx : Pyx.itemAt b n len (len - (k + 1)) = some (.int (ns[len - (k + 1)]'(by omega))) := by
      unfold Pyx.itemAt
      rw [hS, hR]
      simp only [List.length_map, hl, if_true]
      rw [List.getElem?_map, List.getElem?_eq_getElem (by omega)]
      rfl
    generalize hv : ns[len - (k + 1)]'(by omega) = v at hx
    have hvm : v ∈ ns := by rw [← hv]; exact List.getElem_mem _
    obtain ⟨c, t1, e1, k1⟩ := ht t (.int v) hok
    have e0 : compR [i] (.one i) tst elt n len (k + 1) acc b = compT tst elt (compR [i] (.one i) tst elt n len k) acc ⟨ρ.set i (some (.val (.int v))), tpO t :: R⟩ := by
      show ((Pyx.itemAt b n len (len - (k + 1))).bind fun x => (asgT (.one i) x (clr b [i])).bind fun a1 => compT tst elt (compR [i] (.one i) tst elt n len k) acc a1) = _
      rw [hx]
      show compT tst elt (compR [i] (.one i) tst elt n len k) acc ((clr b [i]).put i (.int v)) = _
      have : clr b [i] = AS.drop ⟨ρ, tpO t :: R⟩ i := hb
      rw [this, put_drop]
      rfl
    rw [e0]
    unfold compT
    rw [e1]
    cases c with
    | true =>
      obtain ⟨ns', t', b', e2, e3, e4, e5, e6⟩ := compR_draws hR hl h60 ht he k (acc ++ [.int v]) t1 ⟨ρ.set i (some (.val (.int v))), tpO t1 :: R⟩ (by omega) (by simp; omega) k1 drop_put
      refine ⟨v :: ns', t', b', ?_, e3, e4, fun x hx => ?_, by simp; omega⟩
      · show (if (true : Bool) = true then (if acc.length < sizeLine then (elt ⟨ρ.set i (some (.val (.int v))), tpO t1 :: R⟩).bind (fun q => compR [i] (.one i) tst elt n len k (acc ++ [q.1]) q.2) else none) else compR [i] (.one i) tst elt n len k acc ⟨ρ.set i (some (.val (.int v))), tpO t1 :: R⟩) = _
        rw [if_pos rfl, if_pos (Nat.lt_of_lt_of_le (by omega : acc.length < 100000) (by decide)), he]
        show compR [i] (.one i) tst elt n len k (acc ++ [.int v]) ⟨ρ.set i (some (.val (.int v))), tpO t1 :: R⟩ = _
        rw [e2]
        simp
      · rcases List.mem_cons.mp hx with rfl | hx
        · exact hvm
        · exact e5 x hx
    | false =>
      obtain ⟨ns', t', b', e2, e3, e4, e5, e6⟩ := compR_draws hR hl h60 ht he k acc t1 ⟨ρ.set i (some (.val (.int v))), tpO t1 :: R⟩ (by omega) (by omega) k1 drop_put
      refine ⟨ns', t', b', ?_, e3, e4, e5, by omega⟩
      show (if (false : Bool) = true then (if acc.length < sizeLine then (elt ⟨ρ.set i (some (.val (.int v))), tpO t1 :: R⟩).bind (fun q => compR [i] (.one i) tst elt n len k (acc ++ [q.1]) q.2) else none) else compR [i] (.one i) tst elt n len k acc ⟨ρ.set i (some (.val (.int v))), tpO t1 :: R⟩) = _
      rw [if_neg (by decide), e2]
theorem sorted_last {f : Int} : ∀ {ns : List Int} (h : ns ≠ []), ns.Pairwise (· < ·) → ((ns.any fun n => decide (f ≤ n)) = true ↔ f ≤ ns.getLast h)
  | [x], _, _ => by simp
  | x :: y :: r, h, hs => by
    rw [List.pairwise_cons] at hs
    rw [List.getLast_cons (by simp), ← sorted_last (f := f) (by simp) hs.2, List.any_cons, Bool.or_eq_true]
    constructor
    · rintro (h1 | h1)
      · rw [List.any_cons, Bool.or_eq_true]
        have := hs.1 y List.mem_cons_self
        have h1 := of_decide_eq_true h1
        exact .inl (decide_eq_true (by omega))
      · exact h1
    · exact .inr
theorem atI_last {ns : List Int} (h : ns ≠ []) : L2.atI (ns.map AV.int) (-1) = some (.int (ns.getLast h)) := by
  have hp : 0 < ns.length := List.length_pos_iff.mpr h
  unfold L2.atI L2.ixN
  rw [List.length_map, if_neg (by omega), if_pos (by omega)]
  show (ns.map AV.int)[((-1 : Int) + ns.length).toNat]? = _
  have : ((-1 : Int) + ns.length).toNat = ns.length - 1 := by omega
  rw [this, List.getElem?_map, List.getElem?_eq_getElem (by omega), List.getLast_eq_getElem]
  rfl
theorem rst_back2 {ρ : List (Option Slt)} {S S0 : List SObj} {i : Nat} {b' : AS} (h : b'.drop i = AS.drop ⟨ρ, S⟩ i) : rst ⟨ρ, S0⟩ (clr b' [i]) [i] = ⟨ρ, S⟩ := by
  have := rst_back h
  have e : rst ⟨ρ, S0⟩ (clr b' [i]) [i] = rst ⟨ρ, S⟩ (clr b' [i]) [i] := rfl
  rw [e, this]
theorem kFc_ref {ρ : List (Option Slt)} {S S0 : List SObj} {i : Nat} {b' : AS} {tst : MT} {elt : ME} {G : Gm} {v : AV} {xs : List AV} (hn : noOwn ⟨ρ, S0⟩ [i] = true) (h : compV [i] (.one i) (tst G) (elt G) ⟨ρ, S0⟩ v = some (xs, b')) (hb : b'.drop i = AS.drop ⟨ρ, S⟩ i) :
    kFc [i] (.one i) tst elt G (some (v, ⟨ρ, S0⟩)) = some (xs, ⟨ρ, S⟩) := by
  show (if noOwn (⟨ρ, S0⟩ : AS) [i] = true then (compV [i] (.one i) (tst G) (elt G) ⟨ρ, S0⟩ v).map (fun q => (q.1, rst ⟨ρ, S0⟩ (clr q.2 [i]) [i])) else none) = _
  rw [if_pos hn, h]
  show some (xs, rst ⟨ρ, S0⟩ (clr b' [i]) [i]) = _
  rw [rst_back2 hb]
theorem insD_len (x : Int) : ∀ l : List Int, (insD x l).length ≤ l.length + 1
  | [] => by simp [insD]
  | y :: r => by
    have := insD_len x r
    unfold insD
    by_cases h1 : x < y
    · rw [if_pos h1]; simp
    · rw [if_neg h1]
      by_cases h2 : x = y
      · rw [if_pos h2]; simp
      · rw [if_neg h2]; simp; omega
theorem ssI_len : ∀ l : List Int, (ssI l).length ≤ l.length
  | [] => Nat.le_refl _
  | x :: r => by
    have := insD_len x (ssI r)
    have := ssI_len r
    show (insD x (ssI r)).length ≤ _
    simp; omega
section
variable {s : St}
theorem kvR {k : Ky} : kA { k with c := true } = .tup ([.int k.s, .int k.g, .int k.r, .int k.rg, oI (k.pu.map (·.1)), oI (k.pu.map (·.2)), oI k.f] ++ [.bl true]) := rfl
@[simp] theorem slF_k7 {k : Ky} : slF (kA k) none (some 7) = some (.tup [.int k.s, .int k.g, .int k.r, .int k.rg, oI (k.pu.map (·.1)), oI (k.pu.map (·.2)), oI k.f]) := by
  show some (AV.tup (cutA _ none (some 7))) = _
  rw [cut_t7]; rfl
@[simp] theorem slF_k4 {k : Ky} : slF (kA k) none (some 4) = some (.tup [.int k.s, .int k.g, .int k.r, .int k.rg]) := by
  show some (AV.tup (cutA _ none (some 4))) = _
  rw [cut_t4]; rfl
@[simp] theorem slF_k6 {k : Ky} : slF (kA k) (some 6) none = some (.tup [oI k.f, .bl k.c]) := by
  show some (AV.tup (cutA _ (some 6) none)) = _
  rw [cut_f6]; rfl
theorem s_renews (d : Nat) (H : Shp s) (b : Bool) : lvl T (d + 12) "_law_renews" [.ref 10, .int (bI b)] (sto s) = some (.bl true, sto (if ((s.ky b).g = (s.ky b).rg ∧ (s.ky b).c = true ∧ (s.ky b).pu = none) ∧ (s.ky b).g ≤ 9 then { s with sec := (goesOn s.sec (s.ky b)).1, ky := upB s.ky b (goesOn s.sec (s.ky b)).2 } else s)) := by
  obtain ⟨t, sec, ent, ky, nx, ps, rc, now⟩ := s
  obtain ⟨tk, rs, re, ls, le, lp, lr, hp⟩ := H
  simp only at tk rs re ls le lp lr hp
  have hbk : bI false = 0 := rfl
  have hbk1 : bI true = 1 := rfl
  have h1 := fun S => s_may_renew (d := d + 10) (S := S) (k := ky b)
  have h2 := fun S (v : Bool) => s_same (d + 10) 0 (.bl v) S sm_bl
  have h3 := fun R => s_law_goes_on (d := d + 9) (t := t) (R := R) (sec := sec) (ent := ent) (k := ky b) rs (by omega)
  have h4 := fun S => s_renew (d := d + 6) (S := S) (sec := sec) (ent := ent) (k := ky b) rs (by omega)
  have hfz := fun t sec ent R => s_law_frozen (d := d + 10) (t := t) (sec := sec) (ent := ent) (R := R)
  have hsv : sm 8 (.tup [vA (goesOn sec (ky b)).1 ent, kA (goesOn sec (ky b)).2]) = true := by
    refine sm_mk (fun x hx => ?_) (by simp)
    simp only [List.mem_cons, List.not_mem_nil, or_false] at hx
    rcases hx with rfl | rfl
    · exact sm_vA (wsec_rows (rDer_cn _ _ up_ok) rs) re (by have := wsec_len (sec := sec) (row := rDer (ky b).s "update"); show (wsec sec _).1.length ≤ _; omega) (by omega)
    · exact sm_kA
  have h6 := fun S => s_same (d + 2) 8 _ S hsv
  rw [l__law_renews]
  simp only [vS] at hfz h3
  by_cases c1 : (ky b).g = (ky b).rg
  · cases c2 : (ky b).c with
    | false =>
      simp only [c1, c2, decide_true, Bool.true_and, Bool.false_and] at h1
      rw [if_neg (by simp)]
      cases b <;> simp only [sto, vS, hbk, hbk1] <;> simp -implicitDefEqProofs [b__law_renews, frame, h1, h2, eq_true c1, c2]
    | true =>
      cases c3 : (ky b).pu with
      | some y =>
        simp only [c1, c2, c3, decide_true, Bool.true_and, Option.isNone_some] at h1
        rw [if_neg (by simp)]
        cases b <;> simp only [sto, vS, hbk, hbk1] <;> simp -implicitDefEqProofs [b__law_renews, frame, h1, h2, eq_true c1, c2, c3]
      | none =>
        simp only [c1, c2, c3, decide_true, Bool.true_and, Option.isNone_none] at h1
        by_cases c4 : (ky b).g ≤ 9
        · have c4' : ¬ 9 < (ky b).g := by omega
          rw [if_pos ⟨⟨c1, rfl, rfl⟩, c4⟩]
          cases b <;> simp only [sto, vS, hbk, hbk1] <;> simp -implicitDefEqProofs [b__law_renews, frame, h1, h2, h3, h4, h6, hfz, eq_true c1, c2, c3, c4, c4']
        · have c4' : 9 < (ky b).g := by omega
          rw [if_neg fun h => c4 h.2]
          cases b <;> simp only [sto, vS, hbk, hbk1] <;> simp -implicitDefEqProofs [b__law_renews, frame, h1, h2, eq_true c1, c2, c3, c4']
  · rw [if_neg fun h => c1 h.1.1]
    have : (decide ((ky b).g = (ky b).rg) && (ky b).c && (ky b).pu.isNone) = false := by simp [c1]
    simp only [this] at h1
    cases b <;> simp only [sto, vS, hbk, hbk1] <;> simp -implicitDefEqProofs [b__law_renews, frame, h1, h2, c1]
def erased (k : Ky) (now : Int) : Ky := { k with pu := k.pu.filter fun p => decide (now < p.2) }
theorem s_erases (d : Nat) (H : Shp s) (b : Bool) : ∃ (t : Tp) (x : Int), lvl T (d + 12) "_law_erases" [.ref 0, .ref 10, .int (bI b)] (sto s) = some (.bl true, sto { s with t := t, now := s.now + x, ky := upB s.ky b (erased (s.ky b) (s.now + x)) }) ∧ t.Ok := by
  obtain ⟨t, sec, ent, ky, nx, ps, rc, now⟩ := s
  obtain ⟨tk, rs, re, ls, le, lp, lr, hp⟩ := H
  simp only at tk rs re ls le lp lr hp
  have hbk : bI false = 0 := rfl
  have hbk1 : bI true = 1 := rfl
  let R : List SObj := .lst sec :: .lst ent :: .lst [.ref 1, .ref 2] :: [.lst [kA (ky false), kA (ky true)], .lst [.int (nx false), .int (nx true)], .lst (ps.map pRow), .lst ((rc false).map .int), .lst ((rc true).map .int), .lst [.ref 7, .ref 8], .lst [.ref 3, .ref 4, .ref 5, .ref 6, .int now, .ref 9]]
  obtain ⟨v, t1, e1, k1, hv⟩ := s_pick (d + 9) tk (xs := [.int 0, .int 0, .int 3, .int 40]) (by simp) (by simp) R
  obtain ⟨x, rfl⟩ : ∃ x : Int, v = .int x := by
    simp only [List.mem_cons, List.not_mem_nil, or_false] at hv
    rcases hv with rfl | rfl | rfl | rfl <;> exact ⟨_, rfl⟩
  have h1 := fun S => s_erase (d := d + 10) (S := S) (k := ky b) (now := now + x)
  have h6 := fun S => s_same (d + 9) 1 _ S (sm_kA (k := 0) (y := erased (ky b) (now + x)))
  refine ⟨t1, x, ?_, k1⟩
  rw [l__law_erases]
  change ∀ S, lvl T (d + 10 + 1) "erase_previous" [kA (ky b), .int (now + x)] S = some (kA (erased (ky b) (now + x)), S) at h1
  generalize hk' : erased (ky b) (now + x) = k' at *
  have key : (b__law_erases = b__law_erases) := rfl
  cases hpu : (ky b).pu with
  | none =>
    have e0 : k' = ky b := by rw [← hk']; unfold erased; rw [hpu]; simp [Option.filter]; rw [← hpu]
    subst e0
    cases b <;> simp only [sto, vS, hbk, hbk1] <;> simp -implicitDefEqProofs [b__law_erases, frame, R, e1, h1, h6, hpu]
  | some y =>
    by_cases hy : y.2 ≤ now + x
    · have e0 : k' = { ky b with pu := none } := by rw [← hk']; unfold erased; rw [hpu]; simp [Option.filter]; omega
      have e2 : kA k' = .tup ([.int (ky b).s, .int (ky b).g, .int (ky b).r, .int (ky b).rg] ++ [.non, .non] ++ [oI (ky b).f, .bl (ky b).c]) := by rw [e0]; rfl
      rw [e2] at h6
      simp only [List.cons_append, List.nil_append] at h6 e2
      cases b <;> simp only [sto, vS, hbk, hbk1, upB_ff, upB_ft, upB_tf, upB_tt] <;> simp -implicitDefEqProofs [b__law_erases, frame, R, e1, h1, h6, hpu, hy, e2]
    · have e0 : k' = ky b := by rw [← hk']; unfold erased; rw [hpu]; simp [Option.filter, show now + x < y.2 by omega]; rw [← hpu]
      subst e0
      cases b <;> simp only [sto, vS, hbk, hbk1] <;> simp -implicitDefEqProofs [b__law_erases, frame, R, e1, h1, h6, hpu, hy]
theorem s_learns (d : Nat) (H : Shp s) (b : Bool) : ∃ (t : Tp) (ns : List Int), lvl T (d + 12) "_law_learns" [.ref 0, .ref 10, .int (bI b)] (sto s) = some (.bl true, sto { s with t := t, ky := upB s.ky b (ackd (s.ky b) ns) }) ∧ t.Ok ∧ ∀ x ∈ ns, x ∈ s.rc (!b) := by
  obtain ⟨t, sec, ent, ky, nx, ps, rc, now⟩ := s
  obtain ⟨tk, rs, re, ls, le, lp, lr, hp⟩ := H
  simp only at tk rs re ls le lp lr hp
  have hbk : bI false = 0 := rfl
  have hbk1 : bI true = 1 := rfl
  let R : List SObj := .lst sec :: .lst ent :: .lst [.ref 1, .ref 2] :: [.lst [kA (ky false), kA (ky true)], .lst [.int (nx false), .int (nx true)], .lst (ps.map pRow), .lst ((rc false).map .int), .lst ((rc true).map .int), .lst [.ref 7, .ref 8], .lst [.ref 3, .ref 4, .ref 5, .ref 6, .int now, .ref 9]]
  have hl := lr (!b)
  obtain ⟨ns', t1, b', c1, c2, k1, c3, c4⟩ := compR_draws (i := 6) (n := if b then 7 else 8) (len := (rc (!b)).length) (tst := mBool (eBin opGt (oE (eCall "_law_draw" (aCons (eVar 0) (aCons (eCon (.int 3)) aNil)))) (oE (eCon (.int 0)))) (lvl T (d + 11))) (elt := eVar 6 (lvl T (d + 11))) (ρ := [some (.val (.ref 0)), some (.val (.ref 10)), some (.val (.int (bI b))), none, none, none, none]) (R := R) (ns := rc (!b)) (by intro o; cases b <;> rfl) rfl (by omega)
    (fun t x ht => by
      obtain ⟨r, t', e1, k1, _⟩ := s_draw (d + 10) ht 3 (by omega) R
      exact ⟨decide (0 < r), t', by simp -implicitDefEqProofs [e1], k1⟩)
    (fun t x => by simp -implicitDefEqProofs) (rc (!b)).length [] t ⟨[some (.val (.ref 0)), some (.val (.ref 10)), some (.val (.int (bI b))), none, none, none, none], tpO t :: R⟩ (Nat.le_refl _) (by simp; omega) tk rfl
  have cc : kFc [6] (.one 6) (mBool (eBin opGt (oE (eCall "_law_draw" (aCons (eVar 0) (aCons (eCon (.int 3)) aNil)))) (oE (eCon (.int 0))))) (eVar 6) (lvl T (d + 11)) (some (.ref (if b then 7 else 8), ⟨[some (.val (.ref 0)), some (.val (.ref 10)), some (.val (.int (bI b))), none, none, none, none], tpO t :: R⟩)) = some (ns'.map .int, ⟨[some (.val (.ref 0)), some (.val (.ref 10)), some (.val (.int (bI b))), none, none, none, none], tpO t1 :: R⟩) := by
    have e0 : compV [6] (.one 6) (mBool (eBin opGt (oE (eCall "_law_draw" (aCons (eVar 0) (aCons (eCon (.int 3)) aNil)))) (oE (eCon (.int 0)))) (lvl T (d + 11))) (eVar 6 (lvl T (d + 11))) ⟨[some (.val (.ref 0)), some (.val (.ref 10)), some (.val (.int (bI b))), none, none, none, none], tpO t :: R⟩ (.ref (if b then 7 else 8)) = some (ns'.map .int, b') := by
      rw [← List.nil_append (ns'.map AV.int), ← c1]
      cases b <;> simp [compV, R]
    exact kFc_ref (by rfl) e0 c2
  have hns := ssI_sorted ns'
  have h64 : ns'.length < 64 := by omega
  have hss : (ssI ns').length ≤ 1000 := by
    have := ssI_len ns'
    omega
  have ha := fun S => s_learn_ack (d := d + 10) (S := S) (k := ky b) (ns := ssI ns') hss
  have h6 := fun S => s_same (d + 9) 1 _ S (sm_kA (k := 0) (y := ackd (ky b) (ssI ns')))
  refine ⟨t1, ssI ns', ?_, k1, fun x hx => c3 x ((ssI_mem _).mp hx)⟩
  rw [l__law_learns]
  by_cases hz : ssI ns' = []
  · have e0 : ackd (ky b) (ssI ns') = ky b := by rw [hz]; unfold ackd; cases (ky b).f <;> simp
    rw [e0]
    cases b <;> simp only [sto, vS, hbk, hbk1, if_true, if_false, Bool.false_eq_true] at cc ⊢ <;> simp -implicitDefEqProofs [b__law_learns, frame, R, cc, h64, hz]
  · have hp : ¬ (ssI ns').length = 0 := fun h => hz (List.length_eq_zero_iff.mp h)
    have hla := atI_last hz
    cases hf : (ky b).f with
    | none =>
      have e0 : ackd (ky b) (ssI ns') = ky b := by unfold ackd; rw [hf]
      rw [e0] at ha h6 ⊢
      cases b <;> simp only [sto, vS, hbk, hbk1, if_true, if_false, Bool.false_eq_true] at cc ⊢ <;> simp -implicitDefEqProofs [b__law_learns, frame, R, cc, h64, hz, hp, hf, ha, h6]
    | some f =>
      have hsl := sorted_last (f := f) hz hns
      by_cases hg : f ≤ (ssI ns').getLast hz
      · have e0 : ackd (ky b) (ssI ns') = { ky b with c := true } := by simp only [ackd, hf, hsl.mpr hg, if_true]
        have e2 := kvR (k := ky b)
        rw [e0] at ha h6 ⊢
        rw [e2] at ha h6
        simp only [hf, oI_s, List.cons_append, List.nil_append] at ha h6 e2
        cases b <;> simp only [sto, vS, hbk, hbk1, if_true, if_false, Bool.false_eq_true, upB_ff, upB_ft, upB_tf, upB_tt, e2] at cc ⊢ <;> simp -implicitDefEqProofs [b__law_learns, frame, R, cc, h64, hz, hp, hf, ha, h6, hla, hg, e2]
      · have e0 : ackd (ky b) (ssI ns') = ky b := by unfold ackd; rw [hf]; simp only; rw [if_neg fun h => hg (hsl.mp h)]
        rw [e0] at ha h6 ⊢
        cases b <;> simp only [sto, vS, hbk, hbk1, if_true, if_false, Bool.false_eq_true] at cc ⊢ <;> simp -implicitDefEqProofs [b__law_learns, frame, R, cc, h64, hz, hp, hf, ha, h6, hla, hg]
end
end K35
end
section
set_option maxRecDepth 100000
set_option maxHeartbeats 4000000
namespace K35
open PySem PySem.Spec PyProof.Rows L2 Pyx
/-! ### the plain law: chains of keys -/
abbrev Ch := Bool → List Nat
def At (ch : Ch) (b : Bool) (i x : Int) : Prop := ∃ n m : Nat, i = (n : Int) ∧ (ch b)[n]? = some m ∧ x = (m : Int)
def Inj (ch : Ch) : Prop := ∀ (b b' : Bool) (i j x : Nat), (ch b)[i]? = some x → (ch b')[j]? = some x → b = b' ∧ i = j
section
variable {ch : Ch} {b b' : Bool} {i j x y : Int}
theorem At.inj (h : Inj ch) (h1 : At ch b i x) (h2 : At ch b' j x) : b = b' ∧ i = j := by
  obtain ⟨n, m, rfl, e1, rfl⟩ := h1
  obtain ⟨n', m', rfl, e2, e⟩ := h2
  have : m = m' := by omega
  subst this
  obtain ⟨q1, q2⟩ := h _ _ _ _ _ e1 e2
  exact ⟨q1, by omega⟩
theorem At.uniq (h1 : At ch b i x) (h2 : At ch b i y) : x = y := by
  obtain ⟨n, m, rfl, e1, rfl⟩ := h1
  obtain ⟨n', m', q, e2, rfl⟩ := h2
  have : n = n' := by omega
  subst this
  rw [e1] at e2
  cases e2; rfl
theorem At.lt (h : At ch b i x) : 0 ≤ i ∧ i < ((ch b).length : Int) := by
  obtain ⟨n, m, rfl, e, rfl⟩ := h
  have := (List.getElem?_eq_some_iff.mp e).1
  omega
theorem At.ex (h0 : 0 ≤ i) (h1 : i < ((ch b).length : Int)) : ∃ m : Nat, At ch b i m := by
  obtain ⟨n, rfl⟩ := Int.eq_ofNat_of_zero_le h0
  have hn : n < (ch b).length := by omega
  exact ⟨(ch b)[n], n, (ch b)[n], rfl, List.getElem?_eq_getElem hn, rfl⟩
end
def grow (ch : Ch) (b : Bool) (m : Nat) : Ch := upB ch b (ch b ++ [m])
theorem At.grow {ch : Ch} {b b' : Bool} {i x : Int} {m : Nat} (h : At ch b' i x) : At (K35.grow ch b m) b' i x := by
  obtain ⟨n, k, rfl, e, rfl⟩ := h
  refine ⟨n, k, rfl, ?_, rfl⟩
  unfold K35.grow upB
  split
  · rename_i q; subst q
    rw [List.getElem?_append_left (List.getElem?_eq_some_iff.mp e).1]; exact e
  · exact e
theorem At.last {ch : Ch} {b : Bool} {m : Nat} : At (K35.grow ch b m) b ((ch b).length : Int) m := by
  refine ⟨(ch b).length, m, rfl, ?_, rfl⟩
  unfold K35.grow upB
  simp
theorem At.ungrow {ch : Ch} {b b' : Bool} {i x : Int} {m : Nat} (h : At (K35.grow ch b m) b' i x) : At ch b' i x ∨ (b' = b ∧ i = ((ch b).length : Int) ∧ x = m) := by
  obtain ⟨n, k, rfl, e, rfl⟩ := h
  unfold K35.grow upB at e
  split at e
  · rename_i q; subst q
    rw [List.getElem?_append] at e
    split at e
    · exact .inl ⟨n, k, rfl, e, rfl⟩
    · rename_i hn
      rw [List.getElem?_singleton] at e
      split at e
      · cases e
        exact .inr ⟨rfl, by omega, rfl⟩
      · cases e
  · exact .inl ⟨n, k, rfl, e, rfl⟩
theorem rDer_inj {k k' : Int} {l l' : Str} (h : rDer k l = rDer k' l') : k = k' ∧ l = l' := by
  unfold rDer at h
  simp only [AV.tup.injEq, List.cons.injEq, AV.int.injEq, AV.str.injEq] at h
  exact ⟨h.2.1, h.2.2.1⟩
structure InvC (s : St) (ch : Ch) : Prop where
  rs : Rows 5 s.sec
  len : ∀ b, ((ch b).length : Int) = (s.ky b).g + 1
  cs : ∀ b, At ch b (s.ky b).g (s.ky b).s
  cr : ∀ b, At ch (!b) (s.ky b).rg (s.ky b).r
  cp : ∀ b y, (s.ky b).pu = some y → At ch (!b) ((s.ky b).rg - 1) y.1
  inj : Inj ch
  lt : ∀ b i x, At ch b i x → x < (s.sec.length : Int)
  nxt : ∀ b i x y, At ch b i x → At ch b (i + 1) y → ∃ n : Nat, y = n ∧ pos s.sec (rDer x "update") = some n
  top : ∀ b, pos s.sec (rDer (s.ky b).s "update") = none
  der : ∀ k l, rDer k l ∈ s.sec → k < (s.sec.length : Int)
  pk : ∀ p ∈ s.ps, p.g ≤ (s.ky p.snd).g ∧ p.num < s.nx p.snd ∧ (∀ f, (s.ky p.snd).f = some f → f ≤ p.num → p.g = (s.ky p.snd).g) ∧ ∃ key : Int, At ch p.snd p.g key ∧ s.ent[p.e]? = some (rBox key p.num (hdrA p.tgt p.g) p.con)
  rv : ∀ b, ∀ n ∈ s.rc b, n < s.nx (!b) ∧ ∀ f, (s.ky (!b)).f = some f → f ≤ n → (s.ky (!b)).g ≤ (s.ky b).rg
structure InvB (s : St) : Prop where
  bd1 : ∀ b, (s.ky b).g - (s.ky (!b)).rg = 0 ∨ (s.ky b).g - (s.ky (!b)).rg = 1
  bd2 : ∀ b, (s.ky b).g - (s.ky b).rg = 0 ∨ (s.ky b).g - (s.ky b).rg = 1
  cf : ∀ b, (s.ky b).c = true → (s.ky b).g ≤ (s.ky (!b)).rg
section
variable {s : St} {ch : Ch}
/-- a renewal: the sender's next key -/
theorem InvC.goes (I : InvC s ch) (b : Bool) : goesOn s.sec (s.ky b) = (s.sec ++ [rDer (s.ky b).s "update"], { s.ky b with s := s.sec.length, g := (s.ky b).g + 1, f := none, c := false }) := by
  unfold goesOn wsec
  rw [I.top b]
theorem InvC.renew (I : InvC s ch) (b : Bool) : InvC { s with sec := (goesOn s.sec (s.ky b)).1, ky := upB s.ky b (goesOn s.sec (s.ky b)).2 } (grow ch b s.sec.length) := by
  rw [I.goes b]
  have hrow := rDer_cn (s.ky b).s "update" up_ok
  have hn := (pos_none hrow I.rs).mp (I.top b)
  have g0 := (I.cs b).lt
  have gl := I.len b
  have gx : ∀ b', (upB s.ky b { s.ky b with s := (s.sec.length : Int), g := (s.ky b).g + 1, f := none, c := false } b').r = (s.ky b').r := fun b' => by unfold upB; split <;> simp_all
  have grg : ∀ b', (upB s.ky b { s.ky b with s := (s.sec.length : Int), g := (s.ky b).g + 1, f := none, c := false } b').rg = (s.ky b').rg := fun b' => by unfold upB; split <;> simp_all
  have gpu : ∀ b', (upB s.ky b { s.ky b with s := (s.sec.length : Int), g := (s.ky b).g + 1, f := none, c := false } b').pu = (s.ky b').pu := fun b' => by unfold upB; split <;> simp_all
  have gg : ∀ b', (s.ky b').g ≤ (upB s.ky b { s.ky b with s := (s.sec.length : Int), g := (s.ky b).g + 1, f := none, c := false } b').g := fun b' => by
    unfold upB; split
    · rename_i e; subst e; simp only; omega
    · omega
  constructor
  · exact I.rs.snoc hrow
  · intro b'
    show (((grow ch b s.sec.length) b').length : Int) = (upB s.ky b _ b').g + 1
    unfold grow upB
    split
    · rename_i e; subst e
      rw [List.length_append]; simp only [List.length_singleton]; omega
    · exact I.len b'
  · intro b'
    show At _ b' (upB s.ky b _ b').g (upB s.ky b _ b').s
    by_cases e : b' = b
    · subst e
      have := At.last (ch := ch) (b := b') (m := s.sec.length)
      rw [gl] at this
      simpa [upB] using this
    · have := (I.cs b').grow (b := b) (m := s.sec.length)
      simpa [upB, e] using this
  · intro b'
    show At _ (!b') (upB s.ky b _ b').rg (upB s.ky b _ b').r
    rw [grg, gx]
    exact (I.cr b').grow
  · intro b' y hy
    change (upB s.ky b _ b').pu = some y at hy
    show At _ (!b') ((upB s.ky b _ b').rg - 1) y.1
    rw [gpu] at hy
    rw [grg]
    exact (I.cp b' y hy).grow
  · intro b1 b2 i j x h1 h2
    have a1 : At (grow ch b s.sec.length) b1 i x := ⟨i, x, rfl, h1, rfl⟩
    have a2 : At (grow ch b s.sec.length) b2 j x := ⟨j, x, rfl, h2, rfl⟩
    rcases a1.ungrow with a1 | ⟨e1, e2, e3⟩
    · rcases a2.ungrow with a2 | ⟨e1', e2', e3'⟩
      · obtain ⟨q1, q2⟩ := At.inj I.inj a1 a2
        exact ⟨q1, by omega⟩
      · have := I.lt _ _ _ a1; omega
    · rcases a2.ungrow with a2 | ⟨e1', e2', e3'⟩
      · have := I.lt _ _ _ a2; omega
      · exact ⟨e1.trans e1'.symm, by omega⟩
  · intro b' i x h
    show x < ((s.sec ++ [_]).length : Int)
    rw [List.length_append]
    rcases h.ungrow with h | ⟨_, _, h⟩
    · have := I.lt _ _ _ h; simp; omega
    · simp; omega
  · intro b' i x y h1 h2
    show ∃ n : Nat, y = n ∧ pos (s.sec ++ [_]) _ = some n
    rcases h2.ungrow with k2 | ⟨e1, e2, e3⟩
    · rcases h1.ungrow with k1 | ⟨e1', e2', e3'⟩
      · obtain ⟨n, q1, q2⟩ := I.nxt b' i x y k1 k2
        exact ⟨n, q1, pos_append_some q2⟩
      · have := k2.lt
        rw [e1'] at this
        omega
    · subst e1
      rcases h1.ungrow with h1 | ⟨e1', e2', e3'⟩
      · have : i = (s.ky b').g := by omega
        subst this
        have := h1.uniq (I.cs b')
        subst this
        exact ⟨s.sec.length, e3, pos_append_new hrow (I.top b')⟩
      · omega
  · intro b'
    show pos (s.sec ++ [_]) (rDer (upB s.ky b _ b').s "update") = none
    have hc := rDer_cn (upB s.ky b { s.ky b with s := (s.sec.length : Int), g := (s.ky b).g + 1, f := none, c := false } b').s "update" up_ok
    rw [pos_none hc (I.rs.snoc hrow)]
    intro hm
    rcases List.mem_append.mp hm with hm | hm
    · by_cases e : b' = b
      · subst e
        have := I.der _ _ hm
        simp only [upB, if_true] at this
        omega
      · have := (pos_none (rDer_cn (s.ky b').s "update" up_ok) I.rs).mp (I.top b')
        simp only [upB, e, if_false] at hm
        exact this hm
    · have := (rDer_inj (List.mem_singleton.mp hm)).1
      by_cases e : b' = b
      · subst e
        simp only [upB, if_true] at this
        have := I.lt _ _ _ (I.cs b')
        omega
      · simp only [upB, e, if_false] at this
        have h1 := I.cs b'
        rw [this] at h1
        exact e (At.inj I.inj h1 (I.cs b)).1
  · intro k l hm
    show k < ((s.sec ++ [_]).length : Int)
    rw [List.length_append]
    rcases List.mem_append.mp hm with hm | hm
    · have := I.der _ _ hm; simp; omega
    · have := (rDer_inj (List.mem_singleton.mp hm)).1
      have := I.lt _ _ _ (I.cs b)
      simp; omega
  · intro p hp
    obtain ⟨h1, h2, h3, key, h4, h5⟩ := I.pk p hp
    have hg := gg p.snd
    refine ⟨Int.le_trans h1 hg, h2, fun f hf hfn => ?_, key, h4.grow, h5⟩
    change (upB s.ky b _ p.snd).f = some f at hf
    show p.g = (upB s.ky b _ p.snd).g
    unfold upB at hf ⊢
    split at hf
    · cases hf
    · rename_i e
      rw [if_neg e]
      exact h3 f hf hfn
  · intro b' n hn
    obtain ⟨h1, h2⟩ := I.rv b' n hn
    refine ⟨h1, fun f hf hfn => ?_⟩
    change (upB s.ky b _ (!b')).f = some f at hf
    show (upB s.ky b _ (!b')).g ≤ (upB s.ky b _ b').rg
    rw [grg]
    unfold upB at hf ⊢
    split at hf
    · cases hf
    · rename_i e
      rw [if_neg e]
      exact h2 f hf hfn
/-- the receiver goes on to the other end's next key -/
theorem InvC.recv (I : InvC s ch) (b : Bool) {w u : Int} (hw : At ch (!b) ((s.ky b).rg + 1) w) : InvC { s with ky := upB s.ky b { s.ky b with r := w, rg := (s.ky b).rg + 1, pu := some ((s.ky b).r, u) } } ch := by
  generalize hk : ({ s.ky b with r := w, rg := (s.ky b).rg + 1, pu := some ((s.ky b).r, u) } : Ky) = k'
  have gs : ∀ b', (upB s.ky b k' b').s = (s.ky b').s := fun b' => by unfold upB; split <;> simp_all [← hk]
  have gg : ∀ b', (upB s.ky b k' b').g = (s.ky b').g := fun b' => by unfold upB; split <;> simp_all [← hk]
  have gf : ∀ b', (upB s.ky b k' b').f = (s.ky b').f := fun b' => by unfold upB; split <;> simp_all [← hk]
  have grg : ∀ b', (s.ky b').rg ≤ (upB s.ky b k' b').rg := fun b' => by
    unfold upB; split
    · rename_i e; subst e; rw [← hk]; simp only; omega
    · omega
  constructor
  · exact I.rs
  · intro b'; show _ = (upB s.ky b k' b').g + 1; rw [gg]; exact I.len b'
  · intro b'; show At ch b' (upB s.ky b k' b').g (upB s.ky b k' b').s; rw [gg, gs]; exact I.cs b'
  · intro b'
    show At ch (!b') (upB s.ky b k' b').rg (upB s.ky b k' b').r
    by_cases e : b' = b
    · subst e; simp only [upB, if_true, ← hk]; exact hw
    · simp only [upB, e, if_false]; exact I.cr b'
  · intro b' y hy
    change (upB s.ky b k' b').pu = some y at hy
    show At ch (!b') ((upB s.ky b k' b').rg - 1) y.1
    by_cases e : b' = b
    · subst e
      simp only [upB, if_true, ← hk] at hy ⊢
      cases hy
      rw [Int.add_sub_cancel]
      exact I.cr b'
    · simp only [upB, e, if_false] at hy ⊢; exact I.cp b' y hy
  · exact I.inj
  · exact I.lt
  · exact I.nxt
  · intro b'; show pos s.sec (rDer (upB s.ky b k' b').s "update") = none; rw [gs]; exact I.top b'
  · exact I.der
  · intro p hp
    obtain ⟨h1, h2, h3, h4⟩ := I.pk p hp
    refine ⟨?_, h2, fun f hf hfn => ?_, h4⟩
    · show p.g ≤ (upB s.ky b k' p.snd).g; rw [gg]; exact h1
    · change (upB s.ky b k' p.snd).f = some f at hf
      rw [gf] at hf
      show p.g = (upB s.ky b k' p.snd).g; rw [gg]; exact h3 f hf hfn
  · intro b' n hn
    obtain ⟨h1, h2⟩ := I.rv b' n hn
    refine ⟨h1, fun f hf hfn => ?_⟩
    change (upB s.ky b k' (!b')).f = some f at hf
    rw [gf] at hf
    show (upB s.ky b k' (!b')).g ≤ (upB s.ky b k' b').rg
    rw [gg]
    exact Int.le_trans (h2 f hf hfn) (grg b')
/-- a number comes to those that were unsealed -/
theorem InvC.got (I : InvC s ch) (b : Bool) {n : Int} (h1 : n < s.nx (!b)) (h2 : ∀ f, (s.ky (!b)).f = some f → f ≤ n → (s.ky (!b)).g ≤ (s.ky b).rg) : InvC { s with rc := upB s.rc b (s.rc b ++ [n]) } ch := by
  refine ⟨I.rs, I.len, I.cs, I.cr, I.cp, I.inj, I.lt, I.nxt, I.top, I.der, I.pk, fun b' m hm => ?_⟩
  change m ∈ upB s.rc b (s.rc b ++ [n]) b' at hm
  unfold upB at hm
  split at hm
  · rename_i e; subst e
    rcases List.mem_append.mp hm with hm | hm
    · exact I.rv b' m hm
    · rw [List.mem_singleton.mp hm]; exact ⟨h1, h2⟩
  · exact I.rv b' m hm
/-- only what is confirmed or erased changes -/
theorem InvC.soft (I : InvC s ch) (b : Bool) {k' : Ky} (e1 : k'.s = (s.ky b).s) (e2 : k'.g = (s.ky b).g) (e3 : k'.r = (s.ky b).r) (e4 : k'.rg = (s.ky b).rg) (e5 : k'.f = (s.ky b).f) (e6 : ∀ y, k'.pu = some y → (s.ky b).pu = some y) :
    InvC { s with ky := upB s.ky b k' } ch := by
  have gs : ∀ b', (upB s.ky b k' b').s = (s.ky b').s := fun b' => by unfold upB; split <;> simp_all
  have gg : ∀ b', (upB s.ky b k' b').g = (s.ky b').g := fun b' => by unfold upB; split <;> simp_all
  have gr : ∀ b', (upB s.ky b k' b').r = (s.ky b').r := fun b' => by unfold upB; split <;> simp_all
  have grg : ∀ b', (upB s.ky b k' b').rg = (s.ky b').rg := fun b' => by unfold upB; split <;> simp_all
  have gf : ∀ b', (upB s.ky b k' b').f = (s.ky b').f := fun b' => by unfold upB; split <;> simp_all
  have gp : ∀ b' y, (upB s.ky b k' b').pu = some y → (s.ky b').pu = some y := fun b' y => by
    unfold upB; split
    · rename_i e; subst e; exact e6 y
    · exact id
  constructor
  · exact I.rs
  · intro b'; show _ = (upB s.ky b k' b').g + 1; rw [gg]; exact I.len b'
  · intro b'; show At ch b' (upB s.ky b k' b').g (upB s.ky b k' b').s; rw [gg, gs]; exact I.cs b'
  · intro b'; show At ch (!b') (upB s.ky b k' b').rg (upB s.ky b k' b').r; rw [grg, gr]; exact I.cr b'
  · intro b' y hy; show At ch (!b') ((upB s.ky b k' b').rg - 1) y.1; rw [grg]; exact I.cp b' y (gp b' y hy)
  · exact I.inj
  · exact I.lt
  · exact I.nxt
  · intro b'; show pos s.sec (rDer (upB s.ky b k' b').s "update") = none; rw [gs]; exact I.top b'
  · exact I.der
  · intro p hp
    obtain ⟨h1, h2, h3, h4⟩ := I.pk p hp
    refine ⟨?_, h2, fun f hf hfn => ?_, h4⟩
    · show p.g ≤ (upB s.ky b k' p.snd).g; rw [gg]; exact h1
    · change (upB s.ky b k' p.snd).f = some f at hf
      rw [gf] at hf
      show p.g = (upB s.ky b k' p.snd).g; rw [gg]; exact h3 f hf hfn
  · intro b' n hn
    obtain ⟨h1, h2⟩ := I.rv b' n hn
    refine ⟨h1, fun f hf hfn => ?_⟩
    change (upB s.ky b k' (!b')).f = some f at hf
    rw [gf] at hf
    show (upB s.ky b k' (!b')).g ≤ (upB s.ky b k' b').rg
    rw [gg, grg]
    exact h2 f hf hfn
/-- the tape and the time are not looked at -/
theorem InvC.tn (I : InvC s ch) (t : Tp) (now : Int) : InvC { s with t := t, now := now } ch := ⟨I.rs, I.len, I.cs, I.cr, I.cp, I.inj, I.lt, I.nxt, I.top, I.der, I.pk, I.rv⟩
/-- sealing -/
theorem InvC.seals (I : InvC s ch) (b : Bool) (t : Tp) (tgt : Int) (con : AV) {dl : Int} (hd : 0 ≤ dl) : InvC (sealsTo s b t tgt con dl) ch := by
  have gs : ∀ b', (upB s.ky b (sent (s.ky b) (s.nx b)) b').s = (s.ky b').s := fun b' => by unfold upB sent; split <;> simp_all
  have gg : ∀ b', (upB s.ky b (sent (s.ky b) (s.nx b)) b').g = (s.ky b').g := fun b' => by unfold upB sent; split <;> simp_all
  have gr : ∀ b', (upB s.ky b (sent (s.ky b) (s.nx b)) b').r = (s.ky b').r := fun b' => by unfold upB sent; split <;> simp_all
  have grg : ∀ b', (upB s.ky b (sent (s.ky b) (s.nx b)) b').rg = (s.ky b').rg := fun b' => by unfold upB sent; split <;> simp_all
  have gp : ∀ b', (upB s.ky b (sent (s.ky b) (s.nx b)) b').pu = (s.ky b').pu := fun b' => by unfold upB sent; split <;> simp_all
  have gn : ∀ b', s.nx b' ≤ upB s.nx b (s.nx b + 1 + dl) b' := fun b' => by
    unfold upB; split
    · rename_i e; subst e; omega
    · omega
  have gf : ∀ b' f n, (upB s.ky b (sent (s.ky b) (s.nx b)) b').f = some f → n < s.nx b' → f ≤ n → (s.ky b').f = some f := fun b' f n hf hn hfn => by
    unfold upB sent at hf
    split at hf
    · rename_i e; subst e
      simp only at hf
      cases q : (s.ky b').f with
      | none =>
        rw [q] at hf
        simp only [Option.getD_none, Option.some.injEq] at hf
        omega
      | some f' => rw [q] at hf; simpa using hf
    · exact hf
  constructor
  · exact I.rs
  · intro b'; show _ = (upB s.ky b _ b').g + 1; rw [gg]; exact I.len b'
  · intro b'; show At ch b' (upB s.ky b _ b').g (upB s.ky b _ b').s; rw [gg, gs]; exact I.cs b'
  · intro b'; show At ch (!b') (upB s.ky b _ b').rg (upB s.ky b _ b').r; rw [grg, gr]; exact I.cr b'
  · intro b' y hy
    change (upB s.ky b _ b').pu = some y at hy
    rw [gp] at hy
    show At ch (!b') ((upB s.ky b _ b').rg - 1) y.1; rw [grg]; exact I.cp b' y hy
  · exact I.inj
  · exact I.lt
  · exact I.nxt
  · intro b'; show pos s.sec (rDer (upB s.ky b _ b').s "update") = none; rw [gs]; exact I.top b'
  · exact I.der
  · intro p hp
    rcases List.mem_append.mp hp with hp | hp
    · obtain ⟨h1, h2, h3, key, h4, h5⟩ := I.pk p hp
      refine ⟨?_, Int.lt_of_lt_of_le h2 (gn _), fun f hf hfn => ?_, key, h4, ?_⟩
      · show p.g ≤ (upB s.ky b _ p.snd).g; rw [gg]; exact h1
      · show p.g = (upB s.ky b _ p.snd).g; rw [gg]; exact h3 f (gf _ f _ hf h2 hfn) hfn
      · show (s.ent ++ [_])[p.e]? = _
        rw [List.getElem?_append_left (List.getElem?_eq_some_iff.mp h5).1]; exact h5
    · rw [List.mem_singleton.mp hp]
      refine ⟨?_, ?_, fun f hf hfn => ?_, (s.ky b).s, I.cs b, ?_⟩
      · show (s.ky b).g ≤ (upB s.ky b _ b).g; rw [gg]; exact Int.le_refl _
      · show s.nx b < upB s.nx b _ b
        unfold upB; rw [if_pos rfl]; omega
      · show (s.ky b).g = (upB s.ky b _ b).g; rw [gg]
      · show (s.ent ++ [_])[s.ent.length]? = _
        simp
  · intro b' n hn
    obtain ⟨h1, h2⟩ := I.rv b' n hn
    refine ⟨Int.lt_of_lt_of_le h1 (gn _), fun f hf hfn => ?_⟩
    show (upB s.ky b _ (!b')).g ≤ (upB s.ky b _ b').rg
    rw [gg, grg]
    exact h2 f (gf _ f _ hf h1 hfn) hfn
end
end K35
end
section
set_option maxRecDepth 100000
set_option maxHeartbeats 4000000
namespace K35
open PySem PySem.Spec PyProof.Rows L2 Pyx
theorem ne_not {a b : Bool} (h : a ≠ b) : a = !b := by cases a <;> cases b <;> simp_all
theorem not_ne (b : Bool) : (!b) ≠ b := by cases b <;> simp
section
variable {s : St} {ch : Ch}
theorem uns_none (I : InvC s ch) (B : InvB s) (b : Bool) {p : Pk} (hp : p ∈ s.ps) {key : Int} (hk : At ch p.snd p.g key) (hf : ¬ finA (s.ky b) b p) (u : Int) : uns s.sec (s.ky b) (p.g % 2) key u = none ∧ lawUns s.sec (s.ky b) (p.g % 2) key u = none := by
  obtain ⟨h1, _⟩ := I.pk p hp
  have hkl := I.lt _ _ _ hk
  have hcr := I.cr b
  have hr0 := hcr.lt
  have hl := I.len (!b)
  have eqr : key = (s.ky b).r → False ∨ (p.snd = !b ∧ p.g = (s.ky b).rg) := fun e => by
    rw [e] at hk
    exact .inr (At.inj I.inj hk hcr)
  unfold uns lawUns
  by_cases c1 : p.g % 2 = (s.ky b).rg % 2
  · rw [if_pos c1, if_pos c1]
    have : ¬ key = (s.ky b).r := fun e => by
      rcases eqr e with h | ⟨q1, q2⟩
      · exact h
      · exact hf ⟨by rw [q1]; exact not_ne b, .inl (.inl q2)⟩
    rw [if_neg this]
    exact ⟨rfl, rfl⟩
  · rw [if_neg c1, if_neg c1]
    have hpu : ¬ (s.ky b).pu.map (·.1) = some key := fun e => by
      obtain ⟨y, q1, q2⟩ := Option.map_eq_some_iff.mp e
      have := I.cp b y q1
      rw [q2] at this
      obtain ⟨r1, r2⟩ := At.inj I.inj hk this
      exact hf ⟨by rw [r1]; exact not_ne b, .inr ⟨r2, by rw [q1]; rfl⟩⟩
    rw [if_neg hpu, if_neg hpu]
    by_cases c2 : (s.ky b).rg + 1 < ((ch (!b)).length : Int)
    · obtain ⟨w, hw⟩ := At.ex (ch := ch) (b := !b) (i := (s.ky b).rg + 1) (by omega) c2
      obtain ⟨n, e1, e2⟩ := I.nxt _ _ _ _ hcr hw
      have : n = w := by omega
      subst this
      have hne : ¬ key = (n : Int) := fun e => by
        rw [e] at hk
        obtain ⟨r1, r2⟩ := At.inj I.inj hk hw
        exact hf ⟨by rw [r1]; exact not_ne b, .inl (.inr r2)⟩
      unfold wsec
      rw [e2]
      simp only
      rw [if_neg hne]
      exact ⟨rfl, rfl⟩
    · have e0 : (s.ky b).rg = (s.ky (!b)).g := by omega
      have hs := I.cs (!b)
      rw [← e0] at hs
      have := hcr.uniq hs
      have ht := I.top (!b)
      rw [← this] at ht
      unfold wsec
      rw [ht]
      simp only
      have hne : ¬ key = (s.sec.length : Int) := by omega
      rw [if_neg hne]
      simp
theorem uns_some (I : InvC s ch) (B : InvB s) (b : Bool) {p : Pk} (hp : p ∈ s.ps) {key : Int} (hk : At ch p.snd p.g key) (hf : finA (s.ky b) b p) (u : Int) :
    ∃ q, uns s.sec (s.ky b) (p.g % 2) key u = some q ∧ lawUns s.sec (s.ky b) (p.g % 2) key u = some q ∧ ((q = (s.sec, s.ky b) ∧ p.g ≤ (s.ky b).rg) ∨ ∃ w : Int, At ch (!b) ((s.ky b).rg + 1) w ∧ q = goOn s.sec (s.ky b) w u ∧ p.g = (s.ky b).rg + 1) := by
  obtain ⟨hs, hg⟩ := hf
  have hs := ne_not hs
  rw [hs] at hk
  have hcr := I.cr b
  unfold uns lawUns
  by_cases c1 : p.g % 2 = (s.ky b).rg % 2
  · have e : p.g = (s.ky b).rg := by
      rcases hg with (h | h) | ⟨h, _⟩
      · exact h
      · omega
      · omega
    rw [if_pos c1, if_pos c1]
    rw [e] at hk
    have := hk.uniq hcr
    rw [if_pos this]
    exact ⟨_, rfl, rfl, .inl ⟨rfl, by omega⟩⟩
  · rw [if_neg c1, if_neg c1]
    by_cases c2 : p.g = (s.ky b).rg + 1
    · rw [c2] at hk
      have hpu : ¬ (s.ky b).pu.map (·.1) = some key := fun e => by
        obtain ⟨y, q1, q2⟩ := Option.map_eq_some_iff.mp e
        have := I.cp b y q1
        rw [q2] at this
        obtain ⟨r1, r2⟩ := At.inj I.inj hk this
        omega
      rw [if_neg hpu, if_neg hpu]
      obtain ⟨n, e1, e2⟩ := I.nxt _ _ _ _ hcr hk
      unfold wsec
      rw [e2]
      simp only
      rw [if_pos e1]
      exact ⟨_, rfl, rfl, .inr ⟨n, by rw [← e1]; exact hk, rfl, c2⟩⟩
    · obtain ⟨h1, h2⟩ : p.g = (s.ky b).rg - 1 ∧ (s.ky b).pu.isSome = true := by
        rcases hg with (h | h) | h
        · rw [h] at c1; exact absurd rfl c1
        · exact absurd h c2
        · exact h
      obtain ⟨y, hy⟩ := Option.isSome_iff_exists.mp h2
      have := I.cp b y hy
      rw [h1] at hk
      have hpu : (s.ky b).pu.map (·.1) = some key := by rw [hy, hk.uniq this]; rfl
      rw [if_pos hpu, if_pos hpu]
      exact ⟨_, rfl, rfl, .inl ⟨rfl, by omega⟩⟩
/-- behind an unsealing -/
theorem inv_del (I : InvC s ch) (B : InvB s) (b : Bool) {p : Pk} (hp : p ∈ s.ps) (hs : p.snd = !b) {q : List AV × Ky} {u : Int} (h : (q = (s.sec, s.ky b) ∧ p.g ≤ (s.ky b).rg) ∨ ∃ w : Int, At ch (!b) ((s.ky b).rg + 1) w ∧ q = goOn s.sec (s.ky b) w u ∧ p.g = (s.ky b).rg + 1) (t : Tp) :
    ∃ ch', InvC (delTo s b t q p.num) ch' ∧ InvB (delTo s b t q p.num) ∧ q.1.length ≤ s.sec.length + 1 ∧ Rows 5 q.1 := by
  obtain ⟨h1, h2, h3, _⟩ := I.pk p hp
  rw [hs] at h1 h2 h3
  have a1 := B.bd1 b
  have a2 := B.bd1 (!b)
  have a3 := B.bd2 b
  have a4 := B.bd2 (!b)
  have a5 := B.cf b
  have a6 := B.cf (!b)
  rw [Bool.not_not] at a2 a6
  rcases h with ⟨rfl, hg⟩ | ⟨w, hw, rfl, hg⟩
  · refine ⟨ch, ?_, ?_, Nat.le_succ _, I.rs⟩
    · have J := ((I.got b h2 (fun f hf hfn => by have := h3 f hf hfn; omega)).soft b (k' := s.ky b) rfl rfl rfl rfl rfl fun _ h => h).tn t s.now
      exact J
    · have e : upB s.ky b (s.ky b) = s.ky := funext fun c => by unfold upB; split <;> simp_all
      refine ⟨fun b' => ?_, fun b' => ?_, fun b' => ?_⟩
      · simp only [delTo, e]; exact B.bd1 b'
      · simp only [delTo, e]; exact B.bd2 b'
      · show (upB s.ky b (s.ky b) b').c = true → (upB s.ky b (s.ky b) b').g ≤ (upB s.ky b (s.ky b) (!b')).rg; rw [e]; exact B.cf b'
  · have I1 := I.recv b (u := u) hw
    have I2 := I1.got b (n := p.num) (by exact h2) (fun f hf hfn => by
      have nb := not_ne b
      change (upB s.ky b _ (!b)).f = some f at hf
      show (upB s.ky b _ (!b)).g ≤ (upB s.ky b _ b).rg
      unfold upB at hf ⊢
      rw [if_neg nb] at hf ⊢
      rw [if_pos rfl]
      have := h3 f hf hfn
      simp only
      omega)
    unfold goOn
    by_cases c : (s.ky b).g < (s.ky b).rg + 1
    · rw [if_pos c]
      have I3 := I2.renew b
      have ek : upB s.ky b { s.ky b with r := w, rg := (s.ky b).rg + 1, pu := some ((s.ky b).r, u) } b = { s.ky b with r := w, rg := (s.ky b).rg + 1, pu := some ((s.ky b).r, u) } := by unfold upB; rw [if_pos rfl]
      have eu : ∀ k1 k2 : Ky, upB (upB s.ky b k1) b k2 = upB s.ky b k2 := fun k1 k2 => funext fun c => by unfold upB; split <;> rfl
      simp only [ek, eu] at I3
      refine ⟨_, I3.tn t s.now, ?_, ?_, ?_⟩
      · have gy := InvC.goes I1 b
        simp only [ek] at gy
        refine ⟨fun b' => ?_, fun b' => ?_, fun b' => ?_⟩
        all_goals simp only [delTo, gy]
        all_goals (by_cases e : b' = b)
        all_goals first
          | (subst e; simp only [upB, if_true, if_neg (not_ne b')]; intros; first | omega | (rename_i hx; cases hx))
          | (have e' := ne_not e; subst e'; simp only [upB, if_neg (not_ne b), Bool.not_not, if_true]; intros; first | omega | (have := a6 (by assumption); omega))
      · exact wsec_len
      · exact wsec_rows (rDer_cn _ _ up_ok) I.rs
    · rw [if_neg c]
      refine ⟨ch, I2.tn t s.now, ?_, Nat.le_succ _, I.rs⟩
      refine ⟨fun b' => ?_, fun b' => ?_, fun b' => ?_⟩
      all_goals simp only [delTo]
      all_goals (by_cases e : b' = b)
      all_goals first
        | (subst e; simp only [upB, if_true, if_neg (not_ne b')]; intros; first | omega | (have := a5 (by assumption); omega))
        | (have e' := ne_not e; subst e'; simp only [upB, if_neg (not_ne b), Bool.not_not, if_true]; intros; first | omega | (have := a6 (by assumption); omega))
end
end K35
end
section
set_option maxRecDepth 100000
set_option maxHeartbeats 4000000
namespace K35
open PySem PySem.Spec PyProof.Rows L2 Pyx
structure Inv (s : St) (c r : Nat) : Prop where
  ex : ∃ ch, InvC s ch
  bb : InvB s
  tk : s.t.Ok
  re : Rows 5 s.ent
  hp : ∀ p ∈ s.ps, Con p.con
  l1 : s.sec.length ≤ 10 + c
  l2 : s.ent.length ≤ 10 + c
  l3 : s.ps.length ≤ c
  l4 : ∀ b, (s.rc b).length ≤ r
section
variable {s : St} {c r : Nat}
theorem Inv.shp (I : Inv s c r) (hc : c ≤ 4000) (hr : r < 60) : Shp s := by
  obtain ⟨ch, C⟩ := I.ex
  have h1 := I.l1
  have h2 := I.l2
  have h3 := I.l3
  exact ⟨I.tk, C.rs, I.re, by omega, by omega, by omega, fun b => by have := I.l4 b; omega, I.hp⟩
theorem Inv.mono {c' r' : Nat} (I : Inv s c r) (hc : c ≤ c') (hr : r ≤ r') : Inv s c' r' := by
  have h1 := I.l1
  have h2 := I.l2
  have h3 := I.l3
  exact ⟨I.ex, I.bb, I.tk, I.re, I.hp, by omega, by omega, by omega, fun b => by have := I.l4 b; omega⟩
theorem i_seals (d : Nat) (I : Inv s c r) (hc : c ≤ 4000) (hr : r < 60) (b : Bool) : ∃ s', lvl T (d + 12) "_law_seals" [.ref 0, .ref 10, .int (bI b)] (sto s) = some (.bl true, sto s') ∧ Inv s' (c + 1) r ∧ s'.ps ≠ [] := by
  obtain ⟨t, tgt, con, dl, e, k, hcon, hdl⟩ := s_seals d (I.shp hc hr) b
  obtain ⟨ch, C⟩ := I.ex
  have h1 := I.l1
  have h2 := I.l2
  have h3 := I.l3
  refine ⟨_, e, ⟨⟨ch, C.seals b t tgt con (by omega)⟩, ?_, k, I.re.snoc (cn_box hcon), fun p hp => ?_, by show s.sec.length ≤ _; omega, ?_, ?_, I.l4⟩, ?_⟩
  · have B := I.bb
    have gg : ∀ b', (upB s.ky b (sent (s.ky b) (s.nx b)) b').g = (s.ky b').g := fun b' => by unfold upB sent; split <;> simp_all
    have grg : ∀ b', (upB s.ky b (sent (s.ky b) (s.nx b)) b').rg = (s.ky b').rg := fun b' => by unfold upB sent; split <;> simp_all
    have gc : ∀ b', (upB s.ky b (sent (s.ky b) (s.nx b)) b').c = (s.ky b').c := fun b' => by unfold upB sent; split <;> simp_all
    refine ⟨fun b' => ?_, fun b' => ?_, fun b' => ?_⟩
    · simp only [sealsTo, gg, grg]; exact B.bd1 b'
    · simp only [sealsTo, gg, grg]; exact B.bd2 b'
    · simp only [sealsTo, gg, grg, gc]; exact B.cf b'
  · rcases List.mem_append.mp hp with hp | hp
    · exact I.hp p hp
    · rw [List.mem_singleton.mp hp]; exact hcon
  · show (s.ent ++ [_]).length ≤ _
    rw [List.length_append]; simp; omega
  · show (s.ps ++ [_]).length ≤ _
    rw [List.length_append]; simp; omega
  · show s.ps ++ [_] ≠ []
    simp
theorem i_delivers (d : Nat) (I : Inv s c r) (hc : c ≤ 4000) (hr : r < 60) (b : Bool) {j : Nat} (hj : j < s.ps.length) : ∃ s', lvl T (d + 12) "_law_delivers" [.ref 0, .ref 10, .int j, .int (bI b)] (sto s) = some (.bl true, sto s') ∧ Inv s' (c + 1) (r + 1) ∧ s'.ps = s.ps := by
  obtain ⟨ch, C⟩ := I.ex
  have hp : s.ps[j] ∈ s.ps := List.getElem_mem hj
  have hpj : s.ps[j]? = some s.ps[j] := List.getElem?_eq_getElem hj
  generalize s.ps[j] = p at hp hpj
  obtain ⟨h1, h2, h3, key, hk, he⟩ := C.pk p hp
  have g1 := I.l1
  have g2 := I.l2
  have g3 := I.l3
  by_cases hf : finA (s.ky b) b p
  · obtain ⟨t, u, q, e1, e2, k⟩ := s_deliversT d (I.shp hc hr) b hpj he hf fun u => by
      obtain ⟨q, q1, q2, q3⟩ := uns_some C I.bb b hp hk hf u
      obtain ⟨ch', _, _, l, rr⟩ := inv_del C I.bb b hp (ne_not hf.1) q3 s.t
      exact ⟨q, q1, q2, rr, by omega⟩
    obtain ⟨q', q1, q2, q3⟩ := uns_some C I.bb b hp hk hf u
    rw [e1] at q1
    cases q1
    obtain ⟨ch', C', B', l, rr⟩ := inv_del C I.bb b hp (ne_not hf.1) q3 t
    refine ⟨_, e2, ⟨⟨ch', C'⟩, B', k, I.re, I.hp, by show q.1.length ≤ _; omega, by show s.ent.length ≤ _; omega, by show s.ps.length ≤ _; omega, fun b' => ?_⟩, rfl⟩
    show (upB s.rc b (s.rc b ++ [p.num]) b').length ≤ r + 1
    have := I.l4 b'
    unfold upB
    split
    · rename_i e; subst e; rw [List.length_append]; simp; omega
    · omega
  · obtain ⟨t, e, k⟩ := s_deliversF d (I.shp hc hr) b hpj he hf (fun u => (uns_none C I.bb b hp hk hf u).1) fun u => (uns_none C I.bb b hp hk hf u).2
    exact ⟨_, e, ⟨⟨ch, C.tn t s.now⟩, ⟨I.bb.bd1, I.bb.bd2, I.bb.cf⟩, k, I.re, I.hp, by show s.sec.length ≤ _; omega, by show s.ent.length ≤ _; omega, by show s.ps.length ≤ _; omega, fun b' => by have := I.l4 b'; show (s.rc b').length ≤ _; omega⟩, rfl⟩
theorem ackd_same (k : Ky) (ns : List Int) : (ackd k ns).s = k.s ∧ (ackd k ns).g = k.g ∧ (ackd k ns).r = k.r ∧ (ackd k ns).rg = k.rg ∧ (ackd k ns).f = k.f ∧ (ackd k ns).pu = k.pu ∧ ((ackd k ns).c = true → k.c = true ∨ ∃ f, k.f = some f ∧ ∃ n ∈ ns, f ≤ n) := by
  unfold ackd
  cases hf : k.f with
  | none => exact ⟨rfl, rfl, rfl, rfl, hf, rfl, fun h => .inl h⟩
  | some f =>
    simp only
    split
    · rename_i h
      refine ⟨rfl, rfl, rfl, rfl, rfl, rfl, fun _ => .inr ⟨f, rfl, ?_⟩⟩
      obtain ⟨n, h1, h2⟩ := List.any_eq_true.mp h
      exact ⟨n, h1, of_decide_eq_true h2⟩
    · exact ⟨rfl, rfl, rfl, rfl, hf, rfl, fun h => .inl h⟩
/-- what is learned from received numbers keeps all -/
theorem inv_ack (I : Inv s c r) (b : Bool) (ns : List Int) (hns : ∀ x ∈ ns, x ∈ s.rc (!b)) (t : Tp) (ht : t.Ok) : Inv { s with t := t, ky := upB s.ky b (ackd (s.ky b) ns) } c r := by
  obtain ⟨ch, C⟩ := I.ex
  obtain ⟨a1, a2, a3, a4, a5, a6, a7⟩ := ackd_same (s.ky b) ns
  refine ⟨⟨ch, (C.soft b a1 a2 a3 a4 a5 fun y h => by rw [← a6]; exact h).tn t s.now⟩, ?_, ht, I.re, I.hp, I.l1, I.l2, I.l3, I.l4⟩
  have B := I.bb
  have gg : ∀ b', (upB s.ky b (ackd (s.ky b) ns) b').g = (s.ky b').g := fun b' => by unfold upB; split <;> simp_all
  have grg : ∀ b', (upB s.ky b (ackd (s.ky b) ns) b').rg = (s.ky b').rg := fun b' => by unfold upB; split <;> simp_all
  refine ⟨fun b' => ?_, fun b' => ?_, fun b' => ?_⟩
  · simp only [gg, grg]; exact B.bd1 b'
  · simp only [gg, grg]; exact B.bd2 b'
  · simp only [gg, grg]
    intro h
    by_cases e : b' = b
    · subst e
      simp only [upB, if_true] at h
      rcases a7 h with h | ⟨f, hf, n, hn, hfn⟩
      · exact B.cf b' h
      · have := (C.rv (!b') n (hns n hn)).2 f (by rw [Bool.not_not]; exact hf) hfn
        rw [Bool.not_not] at this
        exact this
    · simp only [upB, e, if_false] at h
      exact B.cf b' h
theorem i_learns (d : Nat) (I : Inv s c r) (hc : c ≤ 4000) (hr : r < 60) (b : Bool) : ∃ s', lvl T (d + 12) "_law_learns" [.ref 0, .ref 10, .int (bI b)] (sto s) = some (.bl true, sto s') ∧ Inv s' c r := by
  obtain ⟨t, ns, e, k, hns⟩ := s_learns d (I.shp hc hr) b
  exact ⟨_, e, inv_ack I b ns hns t k⟩
theorem i_renews (d : Nat) (I : Inv s c r) (hc : c ≤ 4000) (hr : r < 60) (b : Bool) : ∃ s', lvl T (d + 12) "_law_renews" [.ref 10, .int (bI b)] (sto s) = some (.bl true, sto s') ∧ Inv s' (c + 1) r := by
  have e := s_renews d (I.shp hc hr) b
  obtain ⟨ch, C⟩ := I.ex
  split at e
  · rename_i h
    obtain ⟨⟨h1, h2, h3⟩, h4⟩ := h
    have g1 := I.l1
    have g2 := I.l2
    have g3 := I.l3
    have B := I.bb
    have a1 := B.bd1 b
    have a2 := B.bd1 (!b)
    have a3 := B.bd2 b
    have a4 := B.bd2 (!b)
    have a5 := B.cf b h2
    have a6 := B.cf (!b)
    rw [Bool.not_not] at a2 a6
    refine ⟨_, e, ⟨⟨_, C.renew b⟩, ?_, I.tk, I.re, I.hp, Nat.le_trans wsec_len (by omega), by show s.ent.length ≤ _; omega, by show s.ps.length ≤ _; omega, I.l4⟩⟩
    rw [C.goes b]
    refine ⟨fun b' => ?_, fun b' => ?_, fun b' => ?_⟩
    all_goals (by_cases e : b' = b)
    all_goals first
      | (subst e; simp only [upB, if_true, if_neg (not_ne b')]; intros; first | omega | (rename_i hx; cases hx))
      | (have e' := ne_not e; subst e'; simp only [upB, if_neg (not_ne b), Bool.not_not, if_true]; intros; first | omega | (have := a6 (by assumption); omega))
  · exact ⟨_, e, I.mono (by omega) (Nat.le_refl _)⟩
theorem i_erases (d : Nat) (I : Inv s c r) (hc : c ≤ 4000) (hr : r < 60) (b : Bool) : ∃ s', lvl T (d + 12) "_law_erases" [.ref 0, .ref 10, .int (bI b)] (sto s) = some (.bl true, sto s') ∧ Inv s' c r ∧ s'.ps = s.ps := by
  obtain ⟨t, x, e, k⟩ := s_erases d (I.shp hc hr) b
  obtain ⟨ch, C⟩ := I.ex
  refine ⟨_, e, ⟨⟨ch, (C.soft b (k' := erased (s.ky b) (s.now + x)) rfl rfl rfl rfl rfl fun y h => ?_).tn t (s.now + x)⟩, ?_, k, I.re, I.hp, I.l1, I.l2, I.l3, I.l4⟩, rfl⟩
  · have h' : (s.ky b).pu.filter _ = some y := h
    cases q : (s.ky b).pu with
    | none => rw [q] at h'; cases h'
    | some z =>
      rw [q] at h'
      simp only [Option.filter] at h'
      split at h'
      · exact h'
      · cases h'
  · have B := I.bb
    have gg : ∀ b', (upB s.ky b (erased (s.ky b) (s.now + x)) b').g = (s.ky b').g := fun b' => by unfold upB erased; split <;> simp_all
    have grg : ∀ b', (upB s.ky b (erased (s.ky b) (s.now + x)) b').rg = (s.ky b').rg := fun b' => by unfold upB erased; split <;> simp_all
    have gc : ∀ b', (upB s.ky b (erased (s.ky b) (s.now + x)) b').c = (s.ky b').c := fun b' => by unfold upB erased; split <;> simp_all
    refine ⟨fun b' => ?_, fun b' => ?_, fun b' => ?_⟩
    · simp only [gg, grg]; exact B.bd1 b'
    · simp only [gg, grg]; exact B.bd2 b'
    · simp only [gg, grg, gc]; exact B.cf b'
end
end K35
end
section
set_option maxRecDepth 100000
set_option maxHeartbeats 4000000
namespace K35
open PySem PySem.Spec PyProof.Rows L2 Pyx
section
variable {s : St} {c r : Nat}
theorem Inv.tape (I : Inv s c r) {t : Tp} (h : t.Ok) : Inv { s with t := t } c r := by
  obtain ⟨ch, C⟩ := I.ex
  exact ⟨⟨ch, C.tn t s.now⟩, ⟨I.bb.bd1, I.bb.bd2, I.bb.cf⟩, h, I.re, I.hp, I.l1, I.l2, I.l3, I.l4⟩
def rest (s : St) : List SObj := .lst s.sec :: .lst s.ent :: .lst [.ref 1, .ref 2] :: [.lst [kA (s.ky false), kA (s.ky true)], .lst [.int (s.nx false), .int (s.nx true)], .lst (s.ps.map pRow), .lst ((s.rc false).map .int), .lst ((s.rc true).map .int), .lst [.ref 7, .ref 8], .lst [.ref 3, .ref 4, .ref 5, .ref 6, .int s.now, .ref 9]]
theorem sto_eq (s : St) : sto s = tpO s.t :: rest s := rfl
theorem bI_not (b : Bool) : 1 - bI b = bI (!b) := by cases b <;> rfl
/-- which end is meant -/
def who (p : Pk) (b : Bool) (x : Int) : Bool := if x = 0 then b else !p.snd
theorem ix_2 {x y r : Int} : L2.atI [AV.int x, AV.int y] (if r = 0 then 1 else 0) = some (.int (if r = 0 then y else x)) := by
  by_cases h : r = 0
  · rw [if_pos h, if_pos h]; rfl
  · rw [if_neg h, if_neg h]; rfl
theorem who_eq (p : Pk) (b : Bool) (x : Int) : (if x = 0 then bI b else 1 - bI p.snd) = bI (who p b x) := by
  unfold who
  by_cases h : x = 0
  · rw [if_pos h, if_pos h]
  · rw [if_neg h, if_neg h, bI_not]
theorem i_does (d : Nat) (I : Inv s c r) (hc : c ≤ 4000) (hr : r < 60) (b : Bool) {deed : Int} (hd : 0 ≤ deed ∧ deed ≤ 5) : ∃ s', lvl T (d + 13) "_law_does" [.ref 0, .ref 10, .int deed, .int (bI b)] (sto s) = some (.bl true, sto s') ∧ Inv s' (c + 1) (r + 1) := by
  rw [l__law_does]
  by_cases h0 : deed = 0 ∨ (deed < 3 ∧ s.ps = [])
  · obtain ⟨s', e, J, _⟩ := i_seals d I hc hr b
    refine ⟨s', ?_, J.mono (Nat.le_refl _) (by omega)⟩
    generalize sto s' = S' at e ⊢
    rw [sto_eq] at e ⊢
    by_cases h1 : deed = 0
    · subst h1
      simp only [rest] at e ⊢
      simp -implicitDefEqProofs [b__law_does, frame, e]
    · obtain ⟨h2, h3⟩ := h0.resolve_left h1
      simp only [rest, h3, List.map_nil] at e ⊢
      simp -implicitDefEqProofs [b__law_does, frame, e, h1, h2]
  · have hd0 : ¬ deed = 0 := fun h => h0 (.inl h)
    by_cases h3 : deed < 3
    · have hne : s.ps ≠ [] := fun h => h0 (.inr ⟨h3, h⟩)
      have hl : ¬ s.ps.length = 0 := fun h => hne (List.length_eq_zero_iff.mp h)
      have hlp : 0 < s.ps.length := by omega
      have hle : (s.ps.map pRow).length = s.ps.length := by simp
      by_cases h1 : deed = 1
      · subst h1
        obtain ⟨x, t1, e1, k1, x0, x1⟩ := s_draw (d + 11) I.tk 4 (by omega) (rest s)
        obtain ⟨y, t2, e2, k2, _⟩ := s_draw (d + 11) k1 8 (by omega) (rest s)
        obtain ⟨j, hj, hjl⟩ : ∃ j : Nat, (if 0 > (s.ps.length : Int) - 1 - x then (0 : Int) else (s.ps.length : Int) - 1 - x) = (j : Int) ∧ j < s.ps.length := by
          split
          · exact ⟨0, rfl, hlp⟩
          · exact ⟨((s.ps.length : Int) - 1 - x).toNat, by omega, by omega⟩
        obtain ⟨s', e, J, _⟩ := i_delivers d (I.tape k2) hc hr (who s.ps[j] b y) (j := j) hjl
        refine ⟨s', ?_, J⟩
        have hjm : L2.atI (s.ps.map pRow) (j : Int) = some (pRow s.ps[j]) := by rw [Pyx.atI_nat, List.getElem?_map, List.getElem?_eq_getElem hjl]; rfl
        generalize sto s' = S' at e ⊢
        rw [sto_eq] at e ⊢
        rw [← who_eq] at e
        simp only [rest] at e e1 e2 ⊢
        simp -implicitDefEqProofs [b__law_does, frame, e1, e2, hl, hj, hjm, biInt_d, ix_2, e, -gt_iff_lt]
      · have h2 : deed = 2 := by omega
        subst h2
        have hlt := I.l3
        obtain ⟨x, t1, e1, k1, x0, x1⟩ := s_draw (d + 11) I.tk (s.ps.length : Int) (by omega) (rest s)
        obtain ⟨y, t2, e2, k2, _⟩ := s_draw (d + 11) k1 8 (by omega) (rest s)
        obtain ⟨j, rfl⟩ := Int.eq_ofNat_of_zero_le x0
        have hjl : j < s.ps.length := by omega
        obtain ⟨s', e, J, _⟩ := i_delivers d (I.tape k2) hc hr (who s.ps[j] b y) (j := j) hjl
        refine ⟨s', ?_, J⟩
        have hjm : L2.atI (s.ps.map pRow) (j : Int) = some (pRow s.ps[j]) := by rw [Pyx.atI_nat, List.getElem?_map, List.getElem?_eq_getElem hjl]; rfl
        have e1' : lvl T (d + 11 + 1) "_law_draw" [.ref 0, .int (s.ps.length : Int)] (tpO s.t :: rest s) = some (.int (j : Int), tpO t1 :: rest s) := e1
        generalize sto s' = S' at e ⊢
        rw [sto_eq] at e ⊢
        rw [← who_eq] at e
        simp only [rest] at e e1' e2 ⊢
        simp -implicitDefEqProofs [b__law_does, frame, e1', e2, hl, hjm, biInt_d, ix_2, e, -gt_iff_lt]
    · have h1 : ¬ deed = 1 := by omega
      have h2 : ¬ deed = 2 := by omega
      by_cases h3' : deed = 3
      · subst h3'
        obtain ⟨s', e, J⟩ := i_learns d I hc hr b
        refine ⟨s', ?_, J.mono (by omega) (by omega)⟩
        generalize sto s' = S' at e ⊢
        rw [sto_eq] at e ⊢
        simp only [rest] at e ⊢
        simp -implicitDefEqProofs [b__law_does, frame, e]
      · by_cases h4 : deed = 4
        · subst h4
          obtain ⟨s', e, J⟩ := i_renews d I hc hr b
          refine ⟨s', ?_, J.mono (Nat.le_refl _) (by omega)⟩
          generalize sto s' = S' at e ⊢
          rw [sto_eq] at e ⊢
          simp only [rest] at e ⊢
          simp -implicitDefEqProofs [b__law_does, frame, e]
        · obtain ⟨s', e, J, _⟩ := i_erases d I hc hr b
          refine ⟨s', ?_, J.mono (by omega) (by omega)⟩
          generalize sto s' = S' at e ⊢
          rw [sto_eq] at e ⊢
          simp only [rest] at e ⊢
          simp -implicitDefEqProofs [b__law_does, frame, e, h1, h2, h3, h3', h4, hd0]
theorem i_last_to (d : Nat) (I : Inv s c r) (hc : c ≤ 4000) (hr : r < 60) (b : Bool) (hne : s.ps ≠ []) : ∃ s', lvl T (d + 13) "_law_last_to" [.ref 0, .ref 10, .int (bI b)] (sto s) = some (.bl true, sto s') ∧ Inv s' (c + 1) (r + 1) ∧ s'.ps = s.ps := by
  have hl : 0 < s.ps.length := List.length_pos_iff.mpr hne
  have hlt := I.l3
  obtain ⟨a', e1, j, x4, hj, ea⟩ := loopL_inv (tg := .one 4) (body := (sSeq (sIf (mBool (eBin opNe (oE (eBin opIx (oE (eBin opIx (oE (eBin opIx (oVar 1) (oE (eCon (.int 3))))) (oVar 4))) (oE (eCon (.int 0))))) (oVar 2))) (sSeq (sAsg 3 (eVar 4)) sSkip) sSkip) sSkip) (lvl T (d + 12))) (fun _ a => ∃ (j : Nat) (x4 : Option Slt), j < s.ps.length ∧ a = ⟨[some (.val (.ref 0)), some (.val (.ref 10)), some (.val (.int (bI b))), some (.val (.int (j : Int))), x4], sto s⟩) (xs := rgA 0 s.ps.length) (n := 0) (a := ⟨[some (.val (.ref 0)), some (.val (.ref 10)), some (.val (.int (bI b))), some (.val (.int ((s.ps.length - 1 : Nat) : Int))), none], sto s⟩)
    (fun k x a hk ⟨j, x4, hj, ea⟩ => by
      have hk' : k < s.ps.length := by
        have := (List.getElem?_eq_some_iff.mp hk).1
        rwa [rgA_length] at this
      rw [rgA0_get hk'] at hk
      cases hk
      subst ea
      have hjm : L2.atI (s.ps.map pRow) (k : Int) = some (pRow s.ps[k]) := by rw [Pyx.atI_nat, List.getElem?_map, List.getElem?_eq_getElem hk']; rfl
      by_cases h : bI s.ps[k].snd = bI b
      · refine ⟨_, .nx, ⟨[some (.val (.ref 0)), some (.val (.ref 10)), some (.val (.int (bI b))), some (.val (.int (j : Int))), some (.val (.int (k : Int)))], sto s⟩, rfl, ?_, .inl rfl, ⟨j, _, hj, rfl⟩⟩
        simp only [sto_eq, rest]
        simp -implicitDefEqProofs [hjm, eq_true h]
      · refine ⟨_, .nx, ⟨[some (.val (.ref 0)), some (.val (.ref 10)), some (.val (.int (bI b))), some (.val (.int (k : Int))), some (.val (.int (k : Int)))], sto s⟩, rfl, ?_, .inl rfl, ⟨k, _, hk', rfl⟩⟩
        simp only [sto_eq, rest]
        simp -implicitDefEqProofs [hjm, h]) ⟨s.ps.length - 1, none, by omega, rfl⟩
  obtain ⟨s', e, J, hps⟩ := i_delivers d I hc hr b (j := j) hj
  refine ⟨s', ?_, J, hps⟩
  subst ea
  generalize sto s' = S' at e ⊢
  rw [l__law_last_to]
  have hcast : ((s.ps.length - 1 : Nat) : Int) = (s.ps.length : Int) - 1 := by omega
  rw [hcast] at e1
  have hfr := kFr_1 (G := lvl T (d + 12)) (tg := .one 4) (n := s.ps.length) (b := (sSeq (sIf (mBool (eBin opNe (oE (eBin opIx (oE (eBin opIx (oE (eBin opIx (oVar 1) (oE (eCon (.int 3))))) (oVar 4))) (oE (eCon (.int 0))))) (oVar 2))) (sSeq (sAsg 3 (eVar 4)) sSkip) sSkip) sSkip)) (a := ⟨[some (.val (.ref 0)), some (.val (.ref 10)), some (.val (.int (bI b))), some (.val (.int ((s.ps.length : Int) - 1))), none], sto s⟩) (by omega)
  rw [e1] at hfr
  simp only [sto_eq, rest] at e hfr ⊢
  simp -implicitDefEqProofs [b__law_last_to, frame, hfr, e]
end
end K35
end
section
set_option maxRecDepth 100000
set_option maxHeartbeats 4000000
namespace K35
open PySem PySem.Spec PyProof.Rows L2 Pyx
def B1 : MS := (sSeq (sIf (mOr (mNot (mTru (oE (eCall "_law_seals" (aCons (eVar 0) (aCons (eVar 1) (aCons (eVar 3) aNil))))))) (mNot (mTru (oE (eCall "_law_last_to" (aCons (eVar 0) (aCons (eVar 1) (aCons (eBin opSub (oE (eCon (.int 1))) (oVar 3)) aNil)))))))) (sSeq (sRet (eCon (.bl false))) sSkip) sSkip) sSkip)
def B2 : MS := (sSeq (sAsg 4 (eBin opIx (oE (eBin opIx (oVar 1) (oE (eCon (.int 1))))) (oVar 3))) (sSeq (sAsg 5 (eVar 4)) (sSeq (sIf (mAnd (mBool (eBin opIsN (oE (eBin opIx (oVar 4) (oE (eCon (.int 6))))) (oE (eCon .non)))) (mAnd (mBool (eBin opNe (oE (eBin opIx (oE (eBin opIx (oVar 1) (oE (eCon (.int 5))))) (oE (eBin opSub (oE (eCon (.int 1))) (oVar 3))))) (oE (eFrz (fLst aNil))))) (mBool (eBin opGe (oE (eBi biMax (osCons (oE (eBin opIx (oE (eBin opIx (oVar 1) (oE (eCon (.int 5))))) (oE (eBin opSub (oE (eCon (.int 1))) (oVar 3))))) osNil))) (oE (eBin opIx (oVar 4) (oE (eCon (.int 6))))))))) (sSeq (sAsg 5 (eBin opAdd (oE (eSl (oVar 4) pNone (pSome (eCon (.int 7))))) (oE (eTup (aCons (eCon (.bl true)) aNil))))) sSkip) sSkip) (sSeq (sIf (mBool (eBin opNe (oE (eBin opIx (oE (eBin opIx (oVar 1) (oE (eCon (.int 5))))) (oE (eBin opSub (oE (eCon (.int 1))) (oVar 3))))) (oE (eFrz (fLst aNil))))) (sSeq (sIf (mNot (mTru (oE (eCall "_law_same" (aCons (eCall "learn_acknowledged" (aCons (eVar 4) (aCons (eBi biTuple (osCons (oE (eFrz (fSS (oE (eBin opIx (oE (eBin opIx (oVar 1) (oE (eCon (.int 5))))) (oE (eBin opSub (oE (eCon (.int 1))) (oVar 3)))))))) osNil)) aNil))) (aCons (eVar 5) aNil)))))) (sSeq (sRet (eCon (.bl false))) sSkip) sSkip) (sSeq (sSet (oE (eBin opIx (oVar 1) (oE (eCon (.int 1))))) (eVar 3) (eVar 5)) sSkip)) sSkip) (sSeq (sIf (mNot (mTru (oE (eCall "_law_erases" (aCons (eVar 0) (aCons (eVar 1) (aCons (eVar 3) aNil))))))) (sSeq (sRet (eCon (.bl false))) sSkip) sSkip) sSkip)))))
def BL : MS := (sSeq (sIf (mAnd (mTru (oVar 8)) (mAnd (mBool (eBin opLt (oVar 10) (oE (eCon (.int 8))))) (mNot (mTru (oE (eCall "_law_round" (aCons (eVar 1) (aCons (eVar 7) (aCons (eCall "_law_draw" (aCons (eVar 1) (aCons (eCon (.int 2)) aNil))) aNil))))))))) (sSeq (sRet (eCon (.bl false))) sSkip) sSkip) (sSeq (sAsg 11 (eCall "_law_pick" (aCons (eVar 1) (aCons (eFrz (fLst (aCons (eCon (.int 0)) (aCons (eCon (.int 0)) (aCons (eCon (.int 1)) (aCons (eCon (.int 1)) (aCons (eCon (.int 1)) (aCons (eCon (.int 2)) (aCons (eCon (.int 2)) (aCons (eCon (.int 3)) (aCons (eCon (.int 3)) (aCons (eCon (.int 4)) (aCons (eCon (.int 4)) (aCons (eCon (.int 5)) (aCons (eCon (.int 5)) aNil))))))))))))))) aNil)))) (sSeq (sIf (mOr (mNot (mTru (oE (eCall "_law_does" (aCons (eVar 1) (aCons (eVar 7) (aCons (eVar 11) (aCons (eCall "_law_draw" (aCons (eVar 1) (aCons (eCon (.int 2)) aNil))) aNil)))))))) (mNot (mTru (oE (eCall "_law_bounds_hold" (aCons (eBin opIx (oVar 7) (oE (eCon (.int 1)))) aNil)))))) (sSeq (sRet (eCon (.bl false))) sSkip) sSkip) sSkip)))
def BN : MS := (sSeq (sAsg 3 (eCall "_law_draw" (aCons (eVar 0) (aCons (eCon (.int 6)) aNil)))) (sSeq (sIf (mBool (eBin opEq (oVar 3) (oE (eCon (.int 0))))) (sSeq (sExpr (eCall "_law_pair" (aCons (eVar 1) aNil))) sSkip) (sSeq (sIf (mOr (mBool (eBin opEq (oVar 3) (oE (eCon (.int 1))))) (mBool (eBin opEq (oE (eBi biLen (osCons (oE (eBin opIx (oVar 1) (oE (eCon (.int 0))))) osNil))) (oE (eCon (.int 0)))))) (sSeq (sExpr (eCall "_law_entry" (aCons (eVar 1) (aCons (eTup (aCons (eCon (.str "drawn")) aNil)) aNil)))) sSkip) (sSeq (sIf (mBool (eBin opEq (oVar 3) (oE (eCon (.int 2))))) (sSeq (sExpr (eCall "_law_secret" (aCons (eVar 1) (aCons (eTup (aCons (eCon (.str "plain")) (aCons (eCall "_law_pick" (aCons (eVar 0) (aCons (eFrz (fLst (aCons (eTup aNil) (aCons (eCon (.int 0)) (aCons (eCon (.str "update")) (aCons (eTup (aCons (eCon (.int 1)) (aCons (eCon (.int 2)) aNil))) aNil)))))) aNil))) aNil))) aNil)))) sSkip) (sSeq (sAsg 4 (eCall "_law_draw" (aCons (eVar 0) (aCons (eBi biLen (osCons (oE (eBin opIx (oVar 1) (oE (eCon (.int 0))))) osNil)) aNil)))) (sSeq (sAsg 5 (eFrz (fLst (aCons (eTup (aCons (eCon (.str "tag")) (aCons (eVar 4) (aCons (eTup (aCons (eVar 2) aNil)) aNil)))) (aCons (eTup (aCons (eCon (.str "box")) (aCons (eVar 4) (aCons (eCon (.int 0)) (aCons (eTup (aCons (eCon (.str "route")) aNil)) (aCons (eTup (aCons (eCon (.int 7)) aNil)) aNil)))))) (aCons (eTup (aCons (eCon (.str "wrapped")) (aCons (eVar 4) (aCons (eTup aNil) (aCons (eVar 4) (aCons (eTup aNil) aNil)))))) aNil)))))) (sSeq (sExpr (eCall "_law_entry" (aCons (eVar 1) (aCons (eBin opIx (oVar 5) (oE (eBin opSub (oVar 3) (oE (eCon (.int 3)))))) aNil)))) sSkip)))) sSkip)) sSkip)) sSkip))
section
variable {s : St} {c r : Nat} {ρ : List (Option Slt)} {S : List SObj}
theorem loopL_nil {tg : Tg} {b : AS → Option (Out × AS)} {a : AS} : loopL tg b [] a = some (.nx, a) := rfl
theorem loopL_nx {i : Nat} {b : AS → Option (Out × AS)} {x : AV} {xs : List AV} {a' : AS} (h : b ⟨ρ.set i (some (.val x)), S⟩ = some (.nx, a')) : loopL (.one i) b (x :: xs) ⟨ρ, S⟩ = loopL (.one i) b xs a' := by
  show ((asgT (.one i) x ⟨ρ, S⟩).bind fun a' => (b a').bind (turn (loopL (.one i) b xs))) = _
  show (b ⟨ρ.set i (some (.val x)), S⟩).bind _ = _
  rw [h]
  rfl
theorem s_bounds (d : Nat) (B : InvB s) : lvl T (d + 1) "_law_bounds_hold" [.ref 4] (sto s) = some (.bl true, sto s) := by
  have h1 := B.bd1 false
  have h2 := B.bd1 true
  have h3 := B.bd2 false
  have h4 := B.bd2 true
  have h5 := B.cf false
  have h6 := B.cf true
  simp only [Bool.not_false, Bool.not_true] at h1 h2 h5 h6
  rw [l__law_bounds_hold]
  have body : ∀ (b : Bool) (x1 x2 x3 : Option Slt), (sSeq (sAsg 2 (eBin opIx (oVar 0) (oVar 1))) (sSeq (sAsg 3 (eBin opIx (oVar 0) (oE (eBin opSub (oE (eCon (.int 1))) (oVar 1))))) (sSeq (sIf (mOr (mBool (eBin opNotIn (oE (eBin opSub (oE (eBin opIx (oVar 2) (oE (eCon (.int 1))))) (oE (eBin opIx (oVar 3) (oE (eCon (.int 3))))))) (oE (eFrz (fLst (aCons (eCon (.int 0)) (aCons (eCon (.int 1)) aNil))))))) (mBool (eBin opNotIn (oE (eBin opSub (oE (eBin opIx (oVar 2) (oE (eCon (.int 1))))) (oE (eBin opIx (oVar 2) (oE (eCon (.int 3))))))) (oE (eFrz (fLst (aCons (eCon (.int 0)) (aCons (eCon (.int 1)) aNil)))))))) (sSeq (sRet (eCon (.bl false))) sSkip) sSkip) (sSeq (sIf (mAnd (mTru (oE (eBin opIx (oVar 2) (oE (eCon (.int 7)))))) (mBool (eBin opLt (oE (eBin opIx (oVar 3) (oE (eCon (.int 3))))) (oE (eBin opIx (oVar 2) (oE (eCon (.int 1)))))))) (sSeq (sRet (eCon (.bl false))) sSkip) sSkip) sSkip)))) (lvl T d) ⟨[some (.val (.ref 4)), some (.val (.int (bI b))), x2, x3], sto s⟩ = some (.nx, ⟨[some (.val (.ref 4)), some (.val (.int (bI b))), some (.val (kA (s.ky b))), some (.val (kA (s.ky (!b))))], sto s⟩) := by
    intro b x1 x2 x3
    simp only [sto_eq, rest]
    cases b
    · cases hc : (s.ky false).c with
      | false => simp -implicitDefEqProofs [show bI false = 0 from rfl, opNotIn_2, eq_true h1, eq_true h3, hc]
      | true =>
        have := h5 hc
        simp -implicitDefEqProofs [show bI false = 0 from rfl, opNotIn_2, eq_true h1, eq_true h3, hc, show ¬ (s.ky true).rg < (s.ky false).g by omega]
    · cases hc : (s.ky true).c with
      | false => simp -implicitDefEqProofs [show bI true = 1 from rfl, opNotIn_2, eq_true h2, eq_true h4, hc]
      | true =>
        have := h6 hc
        simp -implicitDefEqProofs [show bI true = 1 from rfl, opNotIn_2, eq_true h2, eq_true h4, hc, show ¬ (s.ky false).rg < (s.ky true).g by omega]
  have hr : asR1 [.int 2] = some (0, 2) := by rfl
  have hl := kFr_1 (G := lvl T d) (tg := .one 1) (n := 2) (b := (sSeq (sAsg 2 (eBin opIx (oVar 0) (oVar 1))) (sSeq (sAsg 3 (eBin opIx (oVar 0) (oE (eBin opSub (oE (eCon (.int 1))) (oVar 1))))) (sSeq (sIf (mOr (mBool (eBin opNotIn (oE (eBin opSub (oE (eBin opIx (oVar 2) (oE (eCon (.int 1))))) (oE (eBin opIx (oVar 3) (oE (eCon (.int 3))))))) (oE (eFrz (fLst (aCons (eCon (.int 0)) (aCons (eCon (.int 1)) aNil))))))) (mBool (eBin opNotIn (oE (eBin opSub (oE (eBin opIx (oVar 2) (oE (eCon (.int 1))))) (oE (eBin opIx (oVar 2) (oE (eCon (.int 3))))))) (oE (eFrz (fLst (aCons (eCon (.int 0)) (aCons (eCon (.int 1)) aNil)))))))) (sSeq (sRet (eCon (.bl false))) sSkip) sSkip) (sSeq (sIf (mAnd (mTru (oE (eBin opIx (oVar 2) (oE (eCon (.int 7)))))) (mBool (eBin opLt (oE (eBin opIx (oVar 3) (oE (eCon (.int 3))))) (oE (eBin opIx (oVar 2) (oE (eCon (.int 1)))))))) (sSeq (sRet (eCon (.bl false))) sSkip) sSkip) sSkip))))) (a := ⟨[some (.val (.ref 4)), none, none, none], sto s⟩) (by omega)
  rw [show rgA 0 2 = [.int (bI false), .int (bI true)] from rfl, loopL_nx (body false none none none), loopL_nx (body true none _ _), loopL_nil] at hl
  have hl' := hl
  simp only [Int.cast_ofNat_Int] at hl'
  simp -implicitDefEqProofs [b__law_bounds_hold, frame, hl']
end
end K35
end
section
set_option maxRecDepth 100000
set_option maxHeartbeats 4000000
namespace K35
open PySem PySem.Spec PyProof.Rows L2 Pyx
section
variable {s : St} {c r : Nat} {ρ : List (Option Slt)} {S : List SObj}
theorem turn1 (d : Nat) (I : Inv s c r) (hc : c ≤ 3990) (hr : r < 59) (b : Bool) (xk x4 x5 : Option Slt) : ∃ s', B1 (lvl T (d + 14)) ⟨[some (.val (.ref 0)), some (.val (.ref 10)), xk, some (.val (.int (bI b))), x4, x5], sto s⟩ = some (.nx, ⟨[some (.val (.ref 0)), some (.val (.ref 10)), xk, some (.val (.int (bI b))), x4, x5], sto s'⟩) ∧ Inv s' (c + 2) (r + 1) := by
  obtain ⟨s1, e1, J1, n1⟩ := i_seals (d + 2) I (by omega) (by omega) b
  obtain ⟨s2, e2, J2, _⟩ := i_last_to (d + 1) J1 (by omega) (by omega) (!b) n1
  refine ⟨s2, ?_, J2⟩
  have hb := bI_not b
  unfold B1
  simp -implicitDefEqProofs [e1, e2, hb]
theorem opNe_nil {ns : List Int} : opNe S (.lst (ns.map .int)) (.lst []) = some (.bl (!ns.isEmpty)) := by
  have h1 : (AV.lst (ns.map .int)).okD = true := okDs_all fun y hy => by
    obtain ⟨n, _, rfl⟩ := List.mem_map.mp hy; rfl
  have h2 : (AV.lst []).okD = true := rfl
  have h3 : (AV.lst []).dep ≤ 1 := by decide
  unfold opNe
  rw [if_pos ⟨h1, h2, by omega⟩]
  cases ns with
  | nil => rfl
  | cons n r => rfl
theorem biMax_l {ns : List Int} (h : ns ≠ []) : biMax S [.lst (ns.map .int)] = some (.int (maxI ns)) := by
  show pickI maxI (ns.map AV.int) = _
  unfold pickI
  rw [asInts_map]
  show (if ns.isEmpty then none else some (AV.int (maxI ns))) = _
  rw [if_neg]
  cases ns <;> simp_all
theorem max_any {f : Int} {ns : List Int} (h : ns ≠ []) : ((ssI ns).any fun n => decide (f ≤ n)) = decide (f ≤ maxI ns) := by
  rw [Bool.eq_iff_iff, List.any_eq_true, decide_eq_true_iff]
  constructor
  · rintro ⟨n, h1, h2⟩
    have := maxI_ge n ((ssI_mem ns).mp h1)
    have := of_decide_eq_true h2
    omega
  · intro hf
    exact ⟨maxI ns, (ssI_mem ns).mpr (maxI_mem h), decide_eq_true hf⟩
theorem turn2 (d : Nat) (I : Inv s c r) (hc : c ≤ 3990) (hr : r < 59) (b : Bool) (xk x4 x5 : Option Slt) : ∃ s' y4 y5, B2 (lvl T (d + 14)) ⟨[some (.val (.ref 0)), some (.val (.ref 10)), xk, some (.val (.int (bI b))), x4, x5], sto s⟩ = some (.nx, ⟨[some (.val (.ref 0)), some (.val (.ref 10)), xk, some (.val (.int (bI b))), y4, y5], sto s'⟩) ∧ Inv s' c r := by
  have hb := bI_not b
  have hlen := I.l4 (!b)
  have hrc : ∀ (R : List SObj), opIx (sto s) (.lst [.ref 7, .ref 8]) (.int (bI (!b))) = some (.ref (if b then 7 else 8)) := fun _ => by cases b <;> rfl
  by_cases he : s.rc (!b) = []
  · obtain ⟨s', e, J, _⟩ := i_erases (d + 2) I (by omega) (by omega) b
    refine ⟨s', some (.val (kA (s.ky b))), some (.val (kA (s.ky b))), ?_, J⟩
    generalize sto s' = S' at e ⊢
    unfold B2
    simp only [sto_eq, rest] at e ⊢
    have on := opNe_nil (S := [tpO s.t, .lst s.sec, .lst s.ent, .lst [.ref 1, .ref 2], .lst [kA (s.ky false), kA (s.ky true)], .lst [.int (s.nx false), .int (s.nx true)], .lst (s.ps.map pRow), .lst ((s.rc false).map .int), .lst ((s.rc true).map .int), .lst [.ref 7, .ref 8], .lst [.ref 3, .ref 4, .ref 5, .ref 6, .int s.now, .ref 9]]) (ns := [])
    simp only [List.map_nil, List.isEmpty_nil, Bool.not_true] at on
    cases b
    · simp only [Bool.not_false] at he hb
      simp only [he, List.map_nil] at e on ⊢
      cases hf : (s.ky false).f <;> simp -implicitDefEqProofs [e, on, show bI false = 0 from rfl, he, hf] at e ⊢ <;> simp -implicitDefEqProofs [e, on, hf]
    · simp only [Bool.not_true] at he hb
      simp only [he, List.map_nil] at e on ⊢
      cases hf : (s.ky true).f <;> simp -implicitDefEqProofs [e, on, show bI true = 1 from rfl, he, hf] at e ⊢ <;> simp -implicitDefEqProofs [e, on, hf]
  · have J1 := inv_ack I b (ssI (s.rc (!b))) (fun x hx => (ssI_mem _).mp hx) s.t I.tk
    obtain ⟨s', e, J, _⟩ := i_erases (d + 2) J1 (by omega) (by omega) b
    refine ⟨s', some (.val (kA (s.ky b))), some (.val (kA (ackd (s.ky b) (ssI (s.rc (!b)))))), ?_, J⟩
    generalize sto s' = S' at e ⊢
    have h64 : (s.rc (!b)).length < 64 := by omega
    have hss : (ssI (s.rc (!b))).length ≤ 1000 := by have := ssI_len (s.rc (!b)); omega
    have ha := fun S => s_learn_ack (d := d + 13) (S := S) (k := s.ky b) (ns := ssI (s.rc (!b))) hss
    have h6 := fun S => s_same (d + 12) 1 _ S (sm_kA (k := 0) (y := ackd (s.ky b) (ssI (s.rc (!b)))))
    have on := fun S => opNe_nil (S := S) (ns := s.rc (!b))
    have hie : (s.rc (!b)).isEmpty = false := by cases q : s.rc (!b) <;> simp_all
    rw [hie] at on
    have hm := fun S => biMax_l (S := S) he
    unfold B2
    simp only [sto_eq, rest] at e ⊢
    cases hf : (s.ky b).f with
    | none =>
      have e0 : ackd (s.ky b) (ssI (s.rc (!b))) = s.ky b := by unfold ackd; rw [hf]
      rw [e0] at ha h6 e ⊢
      cases b <;> simp only [upB_ff, upB_ft, upB_tf, upB_tt, Bool.not_false, Bool.not_true, show bI false = 0 from rfl, show bI true = 1 from rfl] at e ha h6 on hm h64 hf ⊢ <;> simp -implicitDefEqProofs [e, ha, h6, on, h64, hf]
    | some f =>
      have hma := max_any (f := f) he
      by_cases hg : f ≤ maxI (s.rc (!b))
      · have e0 : ackd (s.ky b) (ssI (s.rc (!b))) = { s.ky b with c := true } := by simp only [ackd, hf, hma, hg, decide_true, if_true]
        have e2 := kvR (k := s.ky b)
        rw [e0] at ha h6 e ⊢
        rw [e2] at ha h6
        simp only [hf, oI_s, List.cons_append, List.nil_append] at ha h6 e2
        cases b <;> simp only [upB_ff, upB_ft, upB_tf, upB_tt, Bool.not_false, Bool.not_true, show bI false = 0 from rfl, show bI true = 1 from rfl, hf, e2] at e ha h6 on hm h64 hg ⊢ <;> simp -implicitDefEqProofs [e, ha, h6, on, hm, h64, hf, hg]
      · have e0 : ackd (s.ky b) (ssI (s.rc (!b))) = s.ky b := by simp only [ackd, hf, hma, hg, decide_false, Bool.false_eq_true, if_false]
        rw [e0] at ha h6 e ⊢
        cases b <;> simp only [upB_ff, upB_ft, upB_tf, upB_tt, Bool.not_false, Bool.not_true, show bI false = 0 from rfl, show bI true = 1 from rfl] at e ha h6 on hm h64 hf hg ⊢ <;> simp -implicitDefEqProofs [e, ha, h6, on, hm, h64, hf, hg]
end
end K35
end
section
set_option maxRecDepth 100000
set_option maxHeartbeats 4000000
namespace K35
open PySem PySem.Spec PyProof.Rows L2 Pyx
section
variable {s : St} {c r : Nat} {ρ : List (Option Slt)} {S : List SObj}
theorem Inv.now (I : Inv s c r) (x : Int) : Inv { s with now := x } c r := by
  obtain ⟨ch, C⟩ := I.ex
  exact ⟨⟨ch, C.tn s.t x⟩, ⟨I.bb.bd1, I.bb.bd2, I.bb.cf⟩, I.tk, I.re, I.hp, I.l1, I.l2, I.l3, I.l4⟩
theorem i_round (d : Nat) (I : Inv s c r) (hc : c ≤ 3900) (hr : r < 56) (b : Bool) : ∃ s', lvl T (d + 15) "_law_round" [.ref 0, .ref 10, .int (bI b)] (sto s) = some (.bl true, sto s') ∧ Inv s' (c + 7) (r + 3) := by
  obtain ⟨s1, e1, J1⟩ := turn1 d I (by omega) (by omega) (!b) (some (.val (.int (bI b)))) none none
  obtain ⟨s2, e2, J2⟩ := turn1 d J1 (by omega) (by omega) b (some (.val (.int (bI b)))) none none
  obtain ⟨s3, e3, J3⟩ := turn1 d J2 (by omega) (by omega) (!b) (some (.val (.int (bI b)))) none none
  obtain ⟨s5, y4, y5, e5, J5⟩ := turn2 d (J3.now (s3.now + 41)) (by omega) (by omega) b (some (.val (.int (bI b)))) none none
  obtain ⟨s6, z4, z5, e6, J6⟩ := turn2 d J5 (by omega) (by omega) (!b) (some (.val (.int (bI b)))) y4 y5
  obtain ⟨s7, e7, J7⟩ := i_renews (d + 2) J6 (by omega) (by omega) b
  refine ⟨s7, ?_, J7.mono (by omega) (by omega)⟩
  have hb := bI_not b
  have l1 : loopL (.one 3) (B1 (lvl T (d + 14))) [.int (bI (!b)), .int (bI b), .int (bI (!b))] ⟨[some (.val (.ref 0)), some (.val (.ref 10)), some (.val (.int (bI b))), none, none, none], sto s⟩ = some (.nx, ⟨[some (.val (.ref 0)), some (.val (.ref 10)), some (.val (.int (bI b))), some (.val (.int (bI (!b)))), none, none], sto s3⟩) := by
    rw [loopL_nx (ρ := [some (.val (.ref 0)), some (.val (.ref 10)), some (.val (.int (bI b))), none, none, none]) (i := 3) (x := .int (bI (!b))) e1, loopL_nx (ρ := [some (.val (.ref 0)), some (.val (.ref 10)), some (.val (.int (bI b))), some (.val (.int (bI (!b)))), none, none]) (i := 3) (x := .int (bI b)) e2, loopL_nx (ρ := [some (.val (.ref 0)), some (.val (.ref 10)), some (.val (.int (bI b))), some (.val (.int (bI b))), none, none]) (i := 3) (x := .int (bI (!b))) e3, loopL_nil]
  have l2 : loopL (.one 3) (B2 (lvl T (d + 14))) [.int (bI b), .int (bI (!b))] ⟨[some (.val (.ref 0)), some (.val (.ref 10)), some (.val (.int (bI b))), some (.val (.int (bI (!b)))), none, none], sto { s3 with now := s3.now + 41 }⟩ = some (.nx, ⟨[some (.val (.ref 0)), some (.val (.ref 10)), some (.val (.int (bI b))), some (.val (.int (bI (!b)))), z4, z5], sto s6⟩) := by
    rw [loopL_nx (ρ := [some (.val (.ref 0)), some (.val (.ref 10)), some (.val (.int (bI b))), some (.val (.int (bI (!b)))), none, none]) (i := 3) (x := .int (bI b)) e5, loopL_nx (ρ := [some (.val (.ref 0)), some (.val (.ref 10)), some (.val (.int (bI b))), some (.val (.int (bI b))), y4, y5]) (i := 3) (x := .int (bI (!b))) e6, loopL_nil]
  rw [l__law_round]
  generalize sto s7 = S7 at e7 ⊢
  generalize sto s6 = S6 at e7 l2
  have hs3 : sto { s3 with now := s3.now + 41 } = [tpO s3.t, .lst s3.sec, .lst s3.ent, .lst [.ref 1, .ref 2], .lst [kA (s3.ky false), kA (s3.ky true)], .lst [.int (s3.nx false), .int (s3.nx true)], .lst (s3.ps.map pRow), .lst ((s3.rc false).map .int), .lst ((s3.rc true).map .int), .lst [.ref 7, .ref 8], .lst [.ref 3, .ref 4, .ref 5, .ref 6, .int (s3.now + 41), .ref 9]] := rfl
  rw [hs3] at l2
  have hs3' : sto s3 = [tpO s3.t, .lst s3.sec, .lst s3.ent, .lst [.ref 1, .ref 2], .lst [kA (s3.ky false), kA (s3.ky true)], .lst [.int (s3.nx false), .int (s3.nx true)], .lst (s3.ps.map pRow), .lst ((s3.rc false).map .int), .lst ((s3.rc true).map .int), .lst [.ref 7, .ref 8], .lst [.ref 3, .ref 4, .ref 5, .ref 6, .int s3.now, .ref 9]] := rfl
  rw [hs3'] at l1
  have fold : b__law_round = sSeq (sForV (eFrz (fLst (aCons (eBin opSub (oE (eCon (.int 1))) (oVar 2)) (aCons (eVar 2) (aCons (eBin opSub (oE (eCon (.int 1))) (oVar 2)) aNil))))) (.one 3) B1) (sSeq (sSet (oVar 1) (eCon (.int 4)) (eBin opAdd (oE (eBin opIx (oVar 1) (oE (eCon (.int 4))))) (oE (eCon (.int 41))))) (sSeq (sForV (eFrz (fLst (aCons (eVar 2) (aCons (eBin opSub (oE (eCon (.int 1))) (oVar 2)) aNil)))) (.one 3) B2) (sSeq (sRet (eCall "_law_renews" (aCons (eVar 1) (aCons (eVar 2) aNil)))) sSkip))) := rfl
  rw [fold]
  simp -implicitDefEqProofs [frame, hb, l1, l2, e7]
end
end K35
end
section
set_option maxRecDepth 100000
set_option maxHeartbeats 4000000
namespace K35
open PySem PySem.Spec PyProof.Rows L2 Pyx
section
variable {c r : Nat}
theorem s_tape (d : Nat) (ns : List Int) : ∃ t : Tp, lvl T (d + 1) "_law_tape" [.lst (ns.map .int)] [] = some (.ref 0, [tpO t]) ∧ t.Ok := by
  obtain ⟨a', e1, x, x2, ea⟩ := loopL_inv (tg := .one 2) (body := (sSeq (sAsg 1 (eBin opMod (oE (eBi biInt (osCons (oE (eBin opAdd (oE (eBin opMul (oVar 1) (oE (eCon (.int 31))))) (oE (eBi biAbs (osCons (oE (eBi biInt (osCons (oVar 2) osNil))) osNil))))) osNil))) (oE (eCon (.int 2147483647))))) sSkip) (lvl T d)) (fun _ a => ∃ (x : Int) (x2 : Option Slt), a = ⟨[some (.val (.lst (ns.map .int))), some (.val (.int x)), x2], []⟩) (xs := ns.map .int) (n := 0) (a := ⟨[some (.val (.lst (ns.map .int))), some (.val (.int 7)), none], []⟩)
    (fun k y a hk ⟨x, x2, ea⟩ => by
      obtain ⟨n, _, rfl⟩ := List.mem_map.mp (List.mem_of_getElem? hk)
      subst ea
      refine ⟨_, .nx, ⟨[some (.val (.lst (ns.map .int))), some (.val (.int ((x * 31 + (if n < 0 then -n else n)) % 2147483647))), some (.val (.int n))], []⟩, rfl, ?_, .inl rfl, ⟨_, _, rfl⟩⟩
      simp -implicitDefEqProofs [opMul_i, opMod_i]) ⟨7, none, rfl⟩
  subst ea
  refine ⟨⟨ns, 0, 0, x⟩, ?_, ⟨by simp, by simp⟩⟩
  rw [l__law_tape]
  simp -implicitDefEqProofs [b__law_tape, frame, e1, tpO]
structure NI (sec ent : List AV) (k : Nat) : Prop where
  rs : Rows 5 sec
  re : Rows 5 ent
  nd : ∀ (i : Int) (l : Str), rDer i l ∉ sec
  ls : sec.length ≤ k
  le : ent.length ≤ k
theorem cn5 {x : AV} (h : cn 5 x = true) : cn 5 x = true := h
theorem w_plain : PyData.strOk ("plain" : Str) = true := by decide +kernel
theorem w_drawn : PyData.strOk ("drawn" : Str) = true := by decide +kernel
theorem w_tag : PyData.strOk ("tag" : Str) = true := by decide +kernel
theorem w_route : PyData.strOk ("route" : Str) = true := by decide +kernel
theorem w_wrapped : PyData.strOk ("wrapped" : Str) = true := by decide +kernel
theorem w_pair : PyData.strOk ("pair" : Str) = true := by decide +kernel
theorem w_public : PyData.strOk ("public" : Str) = true := by decide +kernel
theorem NI.secA {sec ent : List AV} {k : Nat} (h : NI sec ent k) {x : AV} (hx : cn 5 x = true) (hn : ∀ i l, rDer i l ≠ x) : NI (sec ++ [x]) ent (k + 1) :=
  ⟨h.rs.snoc hx, h.re, fun i l hm => by
    rcases List.mem_append.mp hm with hm | hm
    · exact h.nd i l hm
    · exact hn i l (List.mem_singleton.mp hm), by have := h.ls; simp; omega, by have := h.le; omega⟩
theorem NI.entA {sec ent : List AV} {k : Nat} (h : NI sec ent k) {x : AV} (hx : cn 5 x = true) : NI sec (ent ++ [x]) (k + 1) :=
  ⟨h.rs, h.re.snoc hx, h.nd, by have := h.ls; omega, by have := h.le; simp; omega⟩
theorem NI.mono {sec ent : List AV} {k k' : Nat} (h : NI sec ent k) (hk : k ≤ k') : NI sec ent k' := ⟨h.rs, h.re, h.nd, by have := h.ls; omega, by have := h.le; omega⟩
theorem NI.wsecA {sec ent : List AV} {k : Nat} (h : NI sec ent k) {x : AV} (hx : cn 5 x = true) (hn : ∀ i l, rDer i l ≠ x) : NI (wsec sec x).1 ent (k + 1) := by
  unfold wsec
  cases pos sec x with
  | some n => exact h.mono (by omega)
  | none => exact h.secA hx hn
theorem cn_pair (n : Int) : cn 5 (rPair n) = true := by simp [rPair, cn, w_pair]
theorem cn_pub (n : Int) : cn 5 (rPub n) = true := by simp [rPub, cn, w_public]
theorem turnN (d : Nat) {t : Tp} (ht : t.Ok) {sec ent : List AV} {k : Nat} (h : NI sec ent k) (hk : k ≤ 100) (i : Int) (x3 x4 x5 : Option Slt) :
    ∃ (t' : Tp) (sec' ent' : List AV) (y3 y4 y5 : Option Slt), BN (lvl T (d + 3)) ⟨[some (.val (.ref 0)), some (.val (.ref 3)), some (.val (.int i)), x3, x4, x5], vS t sec ent []⟩ = some (.nx, ⟨[some (.val (.ref 0)), some (.val (.ref 3)), some (.val (.int i)), y3, y4, y5], vS t' sec' ent' []⟩) ∧ t'.Ok ∧ NI sec' ent' (k + 2) := by
  have l1 := h.ls
  have l2 := h.le
  obtain ⟨x, t1, e1, k1, x0, x1⟩ := s_draw (d + 2) ht 6 (by omega) (.lst sec :: .lst ent :: .lst [.ref 1, .ref 2] :: [])
  by_cases c0 : x = 0
  · subst c0
    have e2 := s_law_pair (d := d + 2) (t := t1) (R := []) (sec := sec) (ent := ent) (by omega) (by omega)
    refine ⟨t1, sec ++ [rPair ent.length], ent ++ [rPub sec.length], some (.val (.int 0)), x4, x5, ?_, k1, ((h.secA (cn_pair _) fun i l hh => by simp [rDer, rPair] at hh).entA (cn_pub _))⟩
    unfold BN
    simp only [vS] at e2 ⊢
    simp -implicitDefEqProofs [e1, e2]
  · by_cases c1 : x = 1 ∨ sec.length = 0
    · have e2 := s_law_entry (d := d + 2) (t := t1) (R := []) (sec := sec) (ent := ent) (row := .tup [.str "drawn"]) (by omega)
      refine ⟨t1, sec, ent ++ [.tup [.str "drawn"]], some (.val (.int x)), x4, x5, ?_, k1, (h.entA (by simp [cn, w_drawn])).mono (by omega)⟩
      unfold BN
      simp only [vS] at e2 ⊢
      rcases c1 with c1 | c1
      · subst c1
        simp -implicitDefEqProofs [e1, e2]
      · by_cases c2 : x = 1
        · subst c2
          simp -implicitDefEqProofs [e1, e2]
        · have hs : sec = [] := List.length_eq_zero_iff.mp c1
          subst hs
          simp -implicitDefEqProofs [e1, e2, c0, c2]
    · have c1a : ¬ x = 1 := fun h => c1 (.inl h)
      have c1b : ¬ sec.length = 0 := fun h => c1 (.inr h)
      have c1c : ¬ sec = [] := fun h => c1b (by rw [h]; rfl)
      by_cases c2 : x = 2
      · subst c2
        obtain ⟨y, t2, e2, k2, hy⟩ := s_pick (d + 1) k1 (xs := [.tup [], .int 0, .str "update", .tup [.int 1, .int 2]]) (by simp) (by simp) (.lst sec :: .lst ent :: .lst [.ref 1, .ref 2] :: [])
        have hyc : cn 5 (.tup [.str "plain", y]) = true := by
          simp only [List.mem_cons, List.not_mem_nil, or_false] at hy
          rcases hy with rfl | rfl | rfl | rfl <;> simp [cn, w_plain, up_ok]
        have e3 := s_law_secret (d := d + 2) (t := t2) (R := []) (sec := sec) (ent := ent) hyc h.rs (by omega)
        refine ⟨t2, (wsec sec (.tup [.str "plain", y])).1, ent, some (.val (.int 2)), x4, x5, ?_, k2, (h.wsecA hyc fun i l hh => by simp [rDer] at hh).mono (by omega)⟩
        unfold BN
        simp only [vS] at e3 ⊢
        simp -implicitDefEqProofs [e1, e2, e3, c1b, c1c]
      · obtain ⟨y, t2, e2, k2, _⟩ := s_draw (d + 2) k1 (sec.length : Int) (by omega) (.lst sec :: .lst ent :: .lst [.ref 1, .ref 2] :: [])
        have hx3 : x = 3 ∨ x = 4 ∨ x = 5 := by omega
        have e3 := fun row => s_law_entry (d := d + 2) (t := t2) (R := []) (sec := sec) (ent := ent) (row := row) (by omega)
        simp only [vS] at e3 ⊢
        rcases hx3 with rfl | rfl | rfl
        · refine ⟨t2, sec, ent ++ [.tup [.str "tag", .int y, .tup [.int i]]], some (.val (.int 3)), some (.val (.int y)), some (.val (.lst [.tup [.str "tag", .int y, .tup [.int i]], .tup [.str "box", .int y, .int 0, .tup [.str "route"], .tup [.int 7]], .tup [.str "wrapped", .int y, .tup [], .int y, .tup []]])), ?_, k2, (h.entA (by simp [cn, w_tag])).mono (by omega)⟩
          unfold BN
          simp -implicitDefEqProofs [e1, e2, e3, c1b, c1c]
        · refine ⟨t2, sec, ent ++ [.tup [.str "box", .int y, .int 0, .tup [.str "route"], .tup [.int 7]]], some (.val (.int 4)), some (.val (.int y)), some (.val (.lst [.tup [.str "tag", .int y, .tup [.int i]], .tup [.str "box", .int y, .int 0, .tup [.str "route"], .tup [.int 7]], .tup [.str "wrapped", .int y, .tup [], .int y, .tup []]])), ?_, k2, (h.entA (by simp [cn, box_ok, w_route])).mono (by omega)⟩
          unfold BN
          simp -implicitDefEqProofs [e1, e2, e3, c1b, c1c]
        · refine ⟨t2, sec, ent ++ [.tup [.str "wrapped", .int y, .tup [], .int y, .tup []]], some (.val (.int 5)), some (.val (.int y)), some (.val (.lst [.tup [.str "tag", .int y, .tup [.int i]], .tup [.str "box", .int y, .int 0, .tup [.str "route"], .tup [.int 7]], .tup [.str "wrapped", .int y, .tup [], .int y, .tup []]])), ?_, k2, (h.entA (by simp [cn, w_wrapped])).mono (by omega)⟩
          unfold BN
          simp -implicitDefEqProofs [e1, e2, e3, c1b, c1c]
theorem s_noise (d : Nat) {t : Tp} (ht : t.Ok) : ∃ (t' : Tp) (sec ent : List AV), lvl T (d + 4) "_law_noise" [.ref 0, .ref 3] (vS t [] [] []) = some (.non, vS t' sec ent []) ∧ t'.Ok ∧ NI sec ent 8 := by
  obtain ⟨n, t1, e1, k1, n0, n1⟩ := s_draw (d + 2) ht 4 (by omega) (.lst [] :: .lst [] :: .lst [.ref 1, .ref 2] :: [])
  obtain ⟨m, rfl⟩ := Int.eq_ofNat_of_zero_le n0
  have hm : m ≤ 3 := by omega
  have N0 : NI [] [] (2 * 0) := by
    refine ⟨?_, ?_, ?_, ?_, ?_⟩
    · intro y hy; cases hy
    · intro y hy; cases hy
    · intro i l hm; cases hm
    · simp
    · simp
  obtain ⟨a', e2, t2, sec, ent, y2, y3, y4, y5, ea, k2, N2⟩ := loopL_inv (tg := .one 2) (body := BN (lvl T (d + 3))) (fun k a => ∃ (t : Tp) (sec ent : List AV) (y2 y3 y4 y5 : Option Slt), a = ⟨[some (.val (.ref 0)), some (.val (.ref 3)), y2, y3, y4, y5], vS t sec ent []⟩ ∧ t.Ok ∧ NI sec ent (2 * k)) (xs := rgA 0 m) (n := 0) (a := ⟨[some (.val (.ref 0)), some (.val (.ref 3)), none, none, none, none], vS t1 [] [] []⟩)
    (fun k x a hk ⟨t, sec, ent, y2, y3, y4, y5, ea, kt, N⟩ => by
      have hk' : k < m := by
        have := (List.getElem?_eq_some_iff.mp hk).1
        rwa [rgA_length] at this
      rw [rgA0_get hk'] at hk
      cases hk
      subst ea
      obtain ⟨t', sec', ent', z3, z4, z5, e3, k3, N3⟩ := turnN d kt N (by omega) (k : Int) y3 y4 y5
      exact ⟨_, .nx, _, rfl, e3, .inl rfl, ⟨t', sec', ent', _, z3, z4, z5, rfl, k3, N3.mono (by omega)⟩⟩)
    ⟨t1, [], [], none, none, none, none, rfl, k1, N0⟩
  subst ea
  refine ⟨t2, sec, ent, ?_, k2, N2.mono (by rw [rgA_length]; omega)⟩
  have hfr := kFr_1 (G := lvl T (d + 3)) (tg := .one 2) (n := m) (b := BN) (a := ⟨[some (.val (.ref 0)), some (.val (.ref 3)), none, none, none, none], vS t1 [] [] []⟩) (by omega)
  rw [e2] at hfr
  have e1' : lvl T (d + 2 + 1) "_law_draw" [.ref 0, .int 4] [tpO t, .lst [], .lst [], .lst [.ref 1, .ref 2]] = some (.int (m : Int), [tpO t1, .lst [], .lst [], .lst [.ref 1, .ref 2]]) := e1
  rw [l__law_noise]
  have fold : b__law_noise = sSeq (sForR asR1 (aCons (eCall "_law_draw" (aCons (eVar 0) (aCons (eCon (.int 4)) aNil))) aNil) (.one 2) BN) sSkip := rfl
  rw [fold]
  simp only [vS] at hfr ⊢
  simp -implicitDefEqProofs [frame, e1', hfr]
end
end K35
end
section
set_option maxRecDepth 100000
set_option maxHeartbeats 4000000
namespace K35
open PySem PySem.Spec PyProof.Rows L2 Pyx
section
variable {c r : Nat}
theorem w_client : PyData.strOk ("client" : Str) = true := by decide +kernel
theorem w_server : PyData.strOk ("server" : Str) = true := by decide +kernel
def ky0 (a b : Int) : Ky := ⟨a, 0, b, 0, none, none, false⟩
def ch0 (a b : Nat) : Ch := fun x => [if x then b else a]
theorem at0 {a b : Nat} {x : Bool} {i y : Int} : At (ch0 a b) x i y ↔ i = 0 ∧ y = ((if x then b else a : Nat) : Int) := by
  constructor
  · rintro ⟨n, m, rfl, e, rfl⟩
    unfold ch0 at e
    rw [List.getElem?_singleton] at e
    split at e
    · rename_i h; subst h; cases e; exact ⟨rfl, rfl⟩
    · cases e
  · rintro ⟨rfl, rfl⟩
    exact ⟨0, _, rfl, rfl, rfl⟩
theorem ne_cs : ("update" : Str) ≠ "client" ∧ ("update" : Str) ≠ "server" ∧ ("client" : Str) ≠ "server" := by
  refine ⟨?_, ?_, ?_⟩ <;> (intro h; exact absurd (str_inj.mp h) (by decide))
theorem inv0 {sec ent : List AV} (N : NI sec ent 8) {t : Tp} (kt : t.Ok) (n0 n1 now : Int) :
    Inv ⟨t, (sec ++ [rPair ent.length] ++ [rDer sec.length "client"]) ++ [rDer sec.length "server"], ent ++ [rPub sec.length], fun b => if b then ky0 (sec.length + 2 : Nat) (sec.length + 1 : Nat) else ky0 (sec.length + 1 : Nat) (sec.length + 2 : Nat), fun b => if b then n1 else n0, [], fun _ => [], now⟩ 20 0 := by
  have l1 := N.ls
  have l2 := N.le
  have hc := rDer_cn (sec.length : Int) "client" w_client
  have hs := rDer_cn (sec.length : Int) "server" w_server
  have rows : Rows 5 ((sec ++ [rPair ent.length] ++ [rDer sec.length "client"]) ++ [rDer sec.length "server"]) := ((N.rs.snoc (cn_pair _)).snoc hc).snoc hs
  have mem : ∀ k l, rDer k l ∈ (sec ++ [rPair (ent.length : Int)] ++ [rDer (sec.length : Int) "client"]) ++ [rDer (sec.length : Int) "server"] → k = (sec.length : Int) ∧ (l = "client" ∨ l = "server") := fun k l hm => by
    rcases List.mem_append.mp hm with hm | hm
    · rcases List.mem_append.mp hm with hm | hm
      · rcases List.mem_append.mp hm with hm | hm
        · exact absurd hm (N.nd k l)
        · have := List.mem_singleton.mp hm
          simp [rDer, rPair] at this
      · have := rDer_inj (List.mem_singleton.mp hm)
        exact ⟨this.1, .inl this.2⟩
    · have := rDer_inj (List.mem_singleton.mp hm)
      exact ⟨this.1, .inr this.2⟩
  refine ⟨⟨ch0 (sec.length + 1) (sec.length + 2), ?_⟩, ⟨fun b => ?_, fun b => ?_, fun b => ?_⟩, kt, N.re.snoc (cn_pub _), fun p hp => (by cases hp), ?_, ?_, by simp, fun b => by simp⟩
  · refine ⟨rows, fun b => ?_, fun b => ?_, fun b => ?_, fun b y hy => ?_, fun b b' i j x h1 h2 => ?_, fun b i x h => ?_, fun b i x y h1 h2 => ?_, fun b => ?_, fun k l hm => ?_, fun p hp => (by cases hp), fun b n hn => (by cases hn)⟩
    · cases b <;> rfl
    · rw [at0]; cases b <;> exact ⟨rfl, rfl⟩
    · rw [at0]; cases b <;> exact ⟨rfl, rfl⟩
    · cases b <;> cases hy
    · have a1 := at0.mp (⟨i, x, rfl, h1, rfl⟩ : At (ch0 (sec.length + 1) (sec.length + 2)) b i x)
      have a2 := at0.mp (⟨j, x, rfl, h2, rfl⟩ : At (ch0 (sec.length + 1) (sec.length + 2)) b' j x)
      refine ⟨?_, by omega⟩
      cases b <;> cases b' <;> simp at a1 a2 ⊢ <;> omega
    · have := (at0.mp h).2
      show x < (((sec ++ _ ++ _) ++ _).length : Int)
      simp only [List.length_append, List.length_singleton]
      cases b <;> simp at this <;> omega
    · have e1 := (at0.mp h1).1
      have e2 := (at0.mp h2).1
      omega
    · show pos _ (rDer _ "update") = none
      rw [pos_none (rDer_cn _ _ up_ok) rows]
      intro hm
      rcases (mem _ _ hm).2 with h | h
      · exact ne_cs.1 h
      · exact ne_cs.2.1 h
    · have := (mem k l hm).1
      show k < (((sec ++ _ ++ _) ++ _).length : Int)
      simp only [List.length_append, List.length_singleton]
      omega
  · cases b <;> exact .inl rfl
  · cases b <;> exact .inl rfl
  · intro h; cases b <;> cases h
  · show ((sec ++ _ ++ _) ++ _).length ≤ _
    simp only [List.length_append, List.length_singleton]; omega
  · show (ent ++ _).length ≤ _
    simp only [List.length_append, List.length_singleton]; omega
theorem bI_of {x : Int} (h0 : 0 ≤ x) (h1 : x < 2 ∨ x < 1) : ∃ b : Bool, x = bI b := by
  have : x = 0 ∨ x = 1 := by omega
  rcases this with rfl | rfl
  · exact ⟨false, rfl⟩
  · exact ⟨true, rfl⟩
theorem get10 (s : St) : (sto s)[10]? = some (.lst [.ref 3, .ref 4, .ref 5, .ref 6, .int s.now, .ref 9]) := rfl
theorem turnL (d : Nat) {s : St} (I : Inv s c r) (hc : c ≤ 3800) (hr : r < 55) (long : Bool) (k : Nat) (y0 y2 y3 y4 y5 y6 y9 y11 : Option Slt) :
    ∃ (s' : St) (z11 : Option Slt), BL (lvl T (d + 16)) ⟨[y0, some (.val (.ref 0)), y2, y3, y4, y5, y6, some (.val (.ref 10)), some (.val (.bl long)), y9, some (.val (.int (k : Int))), y11], sto s⟩ = some (.nx, ⟨[y0, some (.val (.ref 0)), y2, y3, y4, y5, y6, some (.val (.ref 10)), some (.val (.bl long)), y9, some (.val (.int (k : Int))), z11], sto s'⟩) ∧ Inv s' (c + 8) (r + (if long = true ∧ k < 8 then 4 else 1)) := by
  have tail : ∀ (s : St) (c r : Nat), Inv s c r → c ≤ 3900 → r < 59 → ∃ (x : Int) (t1 t2 : Tp) (b : Bool) (s' : St), lvl T (d + 16) "_law_pick" [.ref 0, .lst [.int 0, .int 0, .int 1, .int 1, .int 1, .int 2, .int 2, .int 3, .int 3, .int 4, .int 4, .int 5, .int 5]] (sto s) = some (.int x, sto { s with t := t1 }) ∧
      lvl T (d + 16) "_law_draw" [.ref 0, .int 2] (sto { s with t := t1 }) = some (.int (bI b), sto { s with t := t2 }) ∧ lvl T (d + 16) "_law_does" [.ref 0, .ref 10, .int x, .int (bI b)] (sto { s with t := t2 }) = some (.bl true, sto s') ∧ lvl T (d + 16) "_law_bounds_hold" [.ref 4] (sto s') = some (.bl true, sto s') ∧ Inv s' (c + 1) (r + 1) := by
    intro s c r I hc hr
    obtain ⟨v, t1, e1, k1, hv⟩ := s_pick (d + 14) I.tk (xs := [.int 0, .int 0, .int 1, .int 1, .int 1, .int 2, .int 2, .int 3, .int 3, .int 4, .int 4, .int 5, .int 5]) (by simp) (by simp) (rest s)
    obtain ⟨x, rfl, hx⟩ : ∃ x : Int, v = .int x ∧ 0 ≤ x ∧ x ≤ 5 := by
      simp only [List.mem_cons, List.not_mem_nil, or_false] at hv
      rcases hv with rfl | rfl | rfl | rfl | rfl | rfl | rfl | rfl | rfl | rfl | rfl | rfl | rfl <;> exact ⟨_, rfl, by omega, by omega⟩
    obtain ⟨y, t2, e2, k2, h0, h1⟩ := s_draw (d + 15) k1 2 (by omega) (rest s)
    obtain ⟨b, rfl⟩ := bI_of h0 h1
    obtain ⟨s', e3, J⟩ := i_does (d + 3) (I.tape k2) (by omega) (by omega) b hx
    exact ⟨x, t1, t2, b, s', e1, e2, e3, s_bounds (d + 15) J.bb, J⟩
  by_cases hl : long = true ∧ k < 8
  · obtain ⟨y, t1, e1, k1, h0, h1⟩ := s_draw (d + 15) I.tk 2 (by omega) (rest s)
    obtain ⟨b, rfl⟩ := bI_of h0 h1
    obtain ⟨s1, e2, J1⟩ := i_round (d + 1) (I.tape k1) (by omega) (by omega) b
    obtain ⟨x, t2, t3, b', s2, e3, e4, e5, e6, J2⟩ := tail s1 (c + 7) (r + 3) J1 (by omega) (by omega)
    refine ⟨s2, some (.val (.int x)), ?_, ?_⟩
    · obtain ⟨hl1, hl2⟩ := hl
      subst hl1
      have e1' : lvl T (d + 16) "_law_draw" [.ref 0, .int 2] (sto s) = some (.int (bI b), sto { s with t := t1 }) := e1
      have e2' : lvl T (d + 16) "_law_round" [.ref 0, .ref 10, .int (bI b)] (sto { s with t := t1 }) = some (.bl true, sto s1) := e2
      have hl3 : (k : Int) < 8 := by omega
      unfold BL
      simp -implicitDefEqProofs [e1', e2', e3, e4, e5, e6, hl3, get10]
    · rw [if_pos hl]; exact J2.mono (by omega) (by omega)
  · obtain ⟨x, t2, t3, b', s2, e3, e4, e5, e6, J2⟩ := tail s c r I (by omega) (by omega)
    refine ⟨s2, some (.val (.int x)), ?_, ?_⟩
    · unfold BL
      cases long with
      | false => simp -implicitDefEqProofs [e3, e4, e5, e6, get10]
      | true =>
        have hk : ¬ (k : Int) < 8 := fun h => hl ⟨rfl, by omega⟩
        simp -implicitDefEqProofs [e3, e4, e5, e6, hk, get10]
    · rw [if_neg hl]; exact J2.mono (by omega) (by omega)
end
end K35
end
section
set_option maxRecDepth 100000
set_option maxHeartbeats 4000000
namespace K35
open PySem PySem.Spec PyProof.Rows L2 Pyx
theorem wsec_new {sec : List AV} {row : AV} (h : cn 5 row = true) (hr : Rows 5 sec) (hn : row ∉ sec) : wsec sec row = (sec ++ [row], sec.length) := by
  unfold wsec
  rw [(pos_none h hr).mpr hn]
def rB (long : Bool) (k : Nat) : Nat := if long = true then k + 3 * min k 8 else k
theorem loop_ok (d : Nat) {s : St} (I : Inv s 20 0) (long : Bool) (m : Nat) (hm : m ≤ 40) (hl : long = true → m = 16) (y0 y2 y3 y4 y5 y6 y9 y10 y11 : Option Slt) :
    ∃ (s' : St) (z10 z11 : Option Slt), loopL (.one 10) (BL (lvl T (d + 16))) (rgA 0 m) ⟨[y0, some (.val (.ref 0)), y2, y3, y4, y5, y6, some (.val (.ref 10)), some (.val (.bl long)), y9, y10, y11], sto s⟩ = some (.nx, ⟨[y0, some (.val (.ref 0)), y2, y3, y4, y5, y6, some (.val (.ref 10)), some (.val (.bl long)), y9, z10, z11], sto s'⟩) := by
  obtain ⟨a', e2, s', z10, z11, ea, _⟩ := loopL_inv (tg := .one 10) (body := BL (lvl T (d + 16))) (fun k a => ∃ (s' : St) (z10 z11 : Option Slt), a = ⟨[y0, some (.val (.ref 0)), y2, y3, y4, y5, y6, some (.val (.ref 10)), some (.val (.bl long)), y9, z10, z11], sto s'⟩ ∧ Inv s' (20 + 8 * k) (rB long k)) (xs := rgA 0 m) (n := 0) (a := ⟨[y0, some (.val (.ref 0)), y2, y3, y4, y5, y6, some (.val (.ref 10)), some (.val (.bl long)), y9, y10, y11], sto s⟩)
    (fun k x a hk ⟨s1, z10, z11, ea, J⟩ => by
      have hk' : k < m := by
        have := (List.getElem?_eq_some_iff.mp hk).1
        rwa [rgA_length] at this
      rw [rgA0_get hk'] at hk
      cases hk
      subst ea
      rw [Nat.zero_add] at J ⊢
      have hr : rB long k < 55 := by
        unfold rB
        cases long with
        | true => have := hl rfl; simp; omega
        | false => simp; omega
      obtain ⟨s2, z, e, J2⟩ := turnL d J (by omega) hr long k y0 y2 y3 y4 y5 y6 y9 z11
      refine ⟨_, .nx, _, rfl, e, .inl rfl, ⟨s2, _, z, rfl, J2.mono (by omega) ?_⟩⟩
      unfold rB
      cases long with
      | true => by_cases h8 : k < 8 <;> simp [h8] <;> omega
      | false => simp) ⟨s, y10, y11, rfl, by unfold rB; cases long <;> simpa using I⟩
  exact ⟨s', z10, z11, by rw [e2, ea]⟩
theorem law_ok (d : Nat) (ns : List Int) : ∃ S, lvl T (d + 17) "law" [.lst (ns.map .int)] [] = some (.bl true, S) := by
  obtain ⟨t0, e0, k0⟩ := s_tape (d + 15) ns
  obtain ⟨t1, sec, ent, e1, k1, N⟩ := s_noise (d + 12) k0
  have l1 := N.ls
  have l2 := N.le
  have e2 := s_law_pair (d := d + 15) (t := t1) (R := []) (sec := sec) (ent := ent) (by omega) (by omega)
  have hc := rDer_cn (sec.length : Int) "client" w_client
  have hs := rDer_cn (sec.length : Int) "server" w_server
  have r1 : Rows 5 (sec ++ [rPair ent.length]) := N.rs.snoc (cn_pair _)
  have r2 := r1.snoc hc
  have n1 : rDer (sec.length : Int) "client" ∉ sec ++ [rPair (ent.length : Int)] := fun h => by
    rcases List.mem_append.mp h with h | h
    · exact N.nd _ _ h
    · have := List.mem_singleton.mp h; simp [rDer, rPair] at this
  have n2 : rDer (sec.length : Int) "server" ∉ sec ++ [rPair (ent.length : Int)] ++ [rDer (sec.length : Int) "client"] := fun h => by
    rcases List.mem_append.mp h with h | h
    · rcases List.mem_append.mp h with h | h
      · exact N.nd _ _ h
      · have := List.mem_singleton.mp h; simp [rDer, rPair] at this
    · exact ne_cs.2.2 (rDer_inj (List.mem_singleton.mp h)).2.symm
  have e3 := s_law_secret (d := d + 15) (t := t1) (R := []) (ent := ent ++ [rPub sec.length]) hc r1 (by simp; omega)
  rw [wsec_new hc r1 n1] at e3
  have e4 := s_law_secret (d := d + 15) (t := t1) (R := []) (ent := ent ++ [rPub sec.length]) hs r2 (by simp; omega)
  rw [wsec_new hs r2 n2] at e4
  have q1 : (sec ++ [rPair (ent.length : Int)]).length = sec.length + 1 := by simp
  have q2 : (sec ++ [rPair (ent.length : Int)] ++ [rDer (sec.length : Int) "client"]).length = sec.length + 2 := by simp
  simp only [q1] at e3
  simp only [q2] at e4
  generalize hS3 : (sec ++ [rPair (ent.length : Int)] ++ [rDer (sec.length : Int) "client"]) ++ [rDer (sec.length : Int) "server"] = sec3 at e4
  generalize hE3 : ent ++ [rPub (sec.length : Int)] = ent3 at *
  let K0 := ky0 (sec.length + 1 : Nat) (sec.length + 2 : Nat)
  let K1 := ky0 (sec.length + 2 : Nat) (sec.length + 1 : Nat)
  obtain ⟨a, t2, e5, k2, _⟩ := s_draw (d + 15) k1 4 (by omega) (.lst sec3 :: .lst ent3 :: .lst [.ref 1, .ref 2] :: [.lst [kA K0, kA K1]])
  obtain ⟨b, t3, e6, k3, _⟩ := s_draw (d + 15) k2 4 (by omega) (.lst sec3 :: .lst ent3 :: .lst [.ref 1, .ref 2] :: [.lst [kA K0, kA K1]])
  obtain ⟨n, t4, e7, k4, _⟩ := s_draw (d + 15) k3 900 (by omega) (.lst sec3 :: .lst ent3 :: .lst [.ref 1, .ref 2] :: [.lst [kA K0, kA K1], .lst [.int a, .int b], .lst []])
  let R : List SObj := .lst sec3 :: .lst ent3 :: .lst [.ref 1, .ref 2] :: [.lst [kA K0, kA K1], .lst [.int a, .int b], .lst [], .lst [], .lst [], .lst [.ref 7, .ref 8], .lst [.ref 3, .ref 4, .ref 5, .ref 6, .int n, .ref 9]]
  obtain ⟨x, t5, e8, k5, _⟩ := s_draw (d + 15) k4 8 (by omega) R
  obtain ⟨y, t6, e9, k6, y0, y1⟩ := s_draw (d + 15) k5 17 (by omega) R
  have I := inv0 N k6 a b n
  have hK0 : kA K0 = .tup [.int ((sec.length + 1 : Nat) : Int), .int 0, .int ((sec.length + 2 : Nat) : Int), .int 0, .non, .non, .non, .bl false] := rfl
  have hK1 : kA K1 = .tup [.int ((sec.length + 2 : Nat) : Int), .int 0, .int ((sec.length + 1 : Nat) : Int), .int 0, .non, .non, .non, .bl false] := rfl
  have fin : ∀ (m : Nat) (long : Bool), m ≤ 40 → (long = true → m = 16) → ∃ s' z10 z11, kFr asR1 (.one 10) BL (lvl T (d + 16)) (some ([.int (m : Int)], ⟨[some (.val (.lst (ns.map .int))), some (.val (.ref 0)), some (.val (.ref 3)), some (.val (.int (sec.length : Int))), some (.val (.int ((sec.length + 1 : Nat) : Int))), some (.val (.int ((sec.length + 2 : Nat) : Int))), some (.val (.ref 4)), some (.val (.ref 10)), some (.val (.bl long)), some (.val (.int (m : Int))), none, none], [tpO t6, .lst sec3, .lst ent3, .lst [.ref 1, .ref 2], .lst [kA K0, kA K1], .lst [.int a, .int b], .lst [], .lst [], .lst [], .lst [.ref 7, .ref 8], .lst [.ref 3, .ref 4, .ref 5, .ref 6, .int n, .ref 9]]⟩)) = some (.nx, ⟨[some (.val (.lst (ns.map .int))), some (.val (.ref 0)), some (.val (.ref 3)), some (.val (.int (sec.length : Int))), some (.val (.int ((sec.length + 1 : Nat) : Int))), some (.val (.int ((sec.length + 2 : Nat) : Int))), some (.val (.ref 4)), some (.val (.ref 10)), some (.val (.bl long)), some (.val (.int (m : Int))), z10, z11], sto s'⟩) := by
    intro m long hm hl
    subst hS3 hE3
    obtain ⟨s', z10, z11, e⟩ := loop_ok d I long m hm hl (some (.val (.lst (ns.map .int)))) (some (.val (.ref 3))) (some (.val (.int (sec.length : Int)))) (some (.val (.int ((sec.length + 1 : Nat) : Int)))) (some (.val (.int ((sec.length + 2 : Nat) : Int)))) (some (.val (.ref 4))) (some (.val (.int (m : Int)))) none none
    refine ⟨s', z10, z11, ?_⟩
    rw [kFr_1 (by omega)]
    exact e
  rw [l_law]
  simp only [vS] at e1 e2 e3 e4
  simp only [hK0, hK1, R] at e5 e6 e7 e8 e9 fin
  simp only [rDer] at e3 e4
  generalize ((sec.length + 1 : Nat) : Int) = one at e3 e4 e5 e6 e7 e8 e9 fin
  generalize ((sec.length + 2 : Nat) : Int) = two at e3 e4 e5 e6 e7 e8 e9 fin
  generalize (sec.length : Int) = pr at e2 e3 e4 fin
  generalize (sec ++ [rPair (ent.length : Int)] ++ [AV.tup [.str "derived", .int pr, .str "client", .tup []]]) = sec2 at e3 e4
  have e0' : lvl T (d + 16) "_law_tape" [.lst (ns.map .int)] [] = some (.ref 0, [tpO t0]) := e0
  by_cases hx : x = 0
  · subst hx
    obtain ⟨s', z10, z11, ef⟩ := fin 16 true (by omega) (fun _ => rfl)
    refine ⟨sto s', ?_⟩
    unfold BL at ef
    have ef' := ef
    simp only [Int.cast_ofNat_Int] at ef'
    simp -implicitDefEqProofs [b_law, frame, e0', e1, e2, e3, e4, e5, e6, e7, e8, e9, ef']
  · obtain ⟨k, hk⟩ := Int.eq_ofNat_of_zero_le (show (0 : Int) ≤ 24 + y by omega)
    obtain ⟨s', z10, z11, ef⟩ := fin k false (by omega) (fun h => by cases h)
    refine ⟨sto s', ?_⟩
    unfold BL at ef
    have hk' : (24 : Int) + y = (k : Int) := hk
    simp -implicitDefEqProofs [b_law, frame, e0', e1, e2, e3, e4, e5, e6, e7, e8, e9, ef, hx, hk']
end K35
end
section
set_option maxRecDepth 100000
set_option maxHeartbeats 0
namespace K35
open PySem PySem.Spec PyProof.Rows L2 Pyx
theorem tab : tabOf W 60 defs consts Ds = some T := by
  kernel_rfl
theorem nds : (Ds.map (·.name)).Nodup := by decide +kernel
def dd (D : DD) : He.DefD := ⟨(D.name, none), D.name, D.name, D.args, D.body, D.scope, [], []⟩
def fn : List He.DefD := Ds.map dd
def fa : List He.Fa := (Ds.map fun D => He.Fa.glo D.name) ++ (bltNames.map fun x => He.Fa.free x)
theorem scs : ∀ D ∈ Ds, FnScope D.N D.ps D.scope := by
  intro D hD
  simp only [Ds, List.mem_cons, List.not_mem_nil, or_false] at hD
  rcases hD with rfl | rfl | rfl | rfl | rfl | rfl | rfl | rfl | rfl | rfl | rfl | rfl | rfl | rfl | rfl | rfl | rfl | rfl | rfl | rfl | rfl | rfl | rfl | rfl | rfl | rfl | rfl | rfl | rfl | rfl | rfl | rfl | rfl | rfl | rfl | rfl | rfl | rfl | rfl | rfl | rfl | rfl | rfl | rfl | rfl | rfl <;>
    exact ⟨rfl, rfl, rfl, by decide +kernel, rfl, by decide +kernel, by decide +kernel⟩
end K35
end
section
set_option maxRecDepth 100000
set_option maxHeartbeats 0
namespace K35
open PySem PySem.Spec PyProof.Rows L2 Pyx
abbrev R0 : PySem.W.OpenRow := PySem.W.OpenLaw.row PySem.Challenge.rw_sealedlink_k35_whole_generations_go_toge
abbrev hk : PySem.W.Hook := He.hookD 4 fa fn
def ob (s : PySem.W.SharedT) : He.AlD := He.obsDG 4 fa fn (HandSHeadRun.getT s)
theorem ob_eq (s : PySem.W.SharedT) : ob s = hk.obs s.abs := He.obsDG_eq (HandSHeadRun.getT_eq s)
theorem run (w : World) : HandSHeadRun.RunEq R0 (PySem.W.view R0.prog [51]) hk ob 4000 ((Ds.map (·.name)).filter fun x => decide (x ≠ "law")) w := by
  intro os
  kernel_rfl
end K35
end
section
set_option maxRecDepth 100000
set_option maxHeartbeats 0
namespace K35
open PySem PySem.Spec PyProof.Rows L2 Pyx
theorem bn_size_of {K : PySem.W.Frag} {f : Addr} {fd : FuncData} (F : FunD K D_size_of.name D_size_of.name D_size_of.args D_size_of.body D_size_of.scope [] [] f fd) : Binds K fd D_size_of.ps [] := F.bindsN fun _ _ _ _ _ _ us hl => match us, hl with | [_], _ => by kernel_rfl
theorem bn_header_of {K : PySem.W.Frag} {f : Addr} {fd : FuncData} (F : FunD K D_header_of.name D_header_of.name D_header_of.args D_header_of.body D_header_of.scope [] [] f fd) : Binds K fd D_header_of.ps [] := F.bindsN fun _ _ _ _ _ _ us hl => match us, hl with | [_], _ => by kernel_rfl
theorem bn_with_secret {K : PySem.W.Frag} {f : Addr} {fd : FuncData} (F : FunD K D_with_secret.name D_with_secret.name D_with_secret.args D_with_secret.body D_with_secret.scope [] [] f fd) : Binds K fd D_with_secret.ps [] := F.bindsN fun _ _ _ _ _ _ us hl => match us, hl with | [_, _], _ => by kernel_rfl
theorem bn_with_entry {K : PySem.W.Frag} {f : Addr} {fd : FuncData} (F : FunD K D_with_entry.name D_with_entry.name D_with_entry.args D_with_entry.body D_with_entry.scope [] [] f fd) : Binds K fd D_with_entry.ps [] := F.bindsN fun _ _ _ _ _ _ us hl => match us, hl with | [_, _], _ => by kernel_rfl
theorem bn_row_of {K : PySem.W.Frag} {f : Addr} {fd : FuncData} (F : FunD K D_row_of.name D_row_of.name D_row_of.args D_row_of.body D_row_of.scope [] [] f fd) : Binds K fd D_row_of.ps [] := F.bindsN fun _ _ _ _ _ _ us hl => match us, hl with | [_, _, _], _ => by kernel_rfl
theorem bn_derive {K : PySem.W.Frag} {f : Addr} {fd : FuncData} (F : FunD K D_derive.name D_derive.name D_derive.args D_derive.body D_derive.scope [] [] f fd) : Binds K fd D_derive.ps [] := F.bindsN fun _ _ _ _ _ _ us hl => match us, hl with | [_, _, _, _], _ => by kernel_rfl
theorem bn_seal {K : PySem.W.Frag} {f : Addr} {fd : FuncData} (F : FunD K D_seal.name D_seal.name D_seal.args D_seal.body D_seal.scope [] [] f fd) : Binds K fd D_seal.ps [] := F.bindsN fun _ _ _ _ _ _ us hl => match us, hl with | [_, _, _, _, _], _ => by kernel_rfl
theorem bn_unseal {K : PySem.W.Frag} {f : Addr} {fd : FuncData} (F : FunD K D_unseal.name D_unseal.name D_unseal.args D_unseal.body D_unseal.scope [] [] f fd) : Binds K fd D_unseal.ps [] := F.bindsN fun _ _ _ _ _ _ us hl => match us, hl with | [_, _, _, _], _ => by kernel_rfl
theorem bn_next_key {K : PySem.W.Frag} {f : Addr} {fd : FuncData} (F : FunD K D_next_key.name D_next_key.name D_next_key.args D_next_key.body D_next_key.scope [] [] f fd) : Binds K fd D_next_key.ps [] := F.bindsN fun _ _ _ _ _ _ us hl => match us, hl with | [_, _], _ => by kernel_rfl
theorem bn_phase_of {K : PySem.W.Frag} {f : Addr} {fd : FuncData} (F : FunD K D_phase_of.name D_phase_of.name D_phase_of.args D_phase_of.body D_phase_of.scope [] [] f fd) : Binds K fd D_phase_of.ps [] := F.bindsN fun _ _ _ _ _ _ us hl => match us, hl with | [_], _ => by kernel_rfl
theorem bn_seal_app {K : PySem.W.Frag} {f : Addr} {fd : FuncData} (F : FunD K D_seal_app.name D_seal_app.name D_seal_app.args D_seal_app.body D_seal_app.scope [] [] f fd) : Binds K fd D_seal_app.ps [] := F.bindsN fun _ _ _ _ _ _ us hl => match us, hl with | [_, _, _, _, _], _ => by kernel_rfl
theorem bn_next_sending {K : PySem.W.Frag} {f : Addr} {fd : FuncData} (F : FunD K D_next_sending.name D_next_sending.name D_next_sending.args D_next_sending.body D_next_sending.scope [] [] f fd) : Binds K fd D_next_sending.ps [] := F.bindsN fun _ _ _ _ _ _ us hl => match us, hl with | [_, _], _ => by kernel_rfl
theorem bn_go_on {K : PySem.W.Frag} {f : Addr} {fd : FuncData} (F : FunD K D_go_on.name D_go_on.name D_go_on.args D_go_on.body D_go_on.scope [] [] f fd) : Binds K fd D_go_on.ps [] := F.bindsN fun _ _ _ _ _ _ us hl => match us, hl with | [_, _, _, _], _ => by kernel_rfl
theorem bn_unseal_app {K : PySem.W.Frag} {f : Addr} {fd : FuncData} (F : FunD K D_unseal_app.name D_unseal_app.name D_unseal_app.args D_unseal_app.body D_unseal_app.scope [] [] f fd) : Binds K fd D_unseal_app.ps [] := F.bindsN fun _ _ _ _ _ _ us hl => match us, hl with | [_, _, _, _], _ => by kernel_rfl
theorem bn_may_renew {K : PySem.W.Frag} {f : Addr} {fd : FuncData} (F : FunD K D_may_renew.name D_may_renew.name D_may_renew.args D_may_renew.body D_may_renew.scope [] [] f fd) : Binds K fd D_may_renew.ps [] := F.bindsN fun _ _ _ _ _ _ us hl => match us, hl with | [_], _ => by kernel_rfl
theorem bn_renew {K : PySem.W.Frag} {f : Addr} {fd : FuncData} (F : FunD K D_renew.name D_renew.name D_renew.args D_renew.body D_renew.scope [] [] f fd) : Binds K fd D_renew.ps [] := F.bindsN fun _ _ _ _ _ _ us hl => match us, hl with | [_, _], _ => by kernel_rfl
theorem bn_learn_acknowledged {K : PySem.W.Frag} {f : Addr} {fd : FuncData} (F : FunD K D_learn_acknowledged.name D_learn_acknowledged.name D_learn_acknowledged.args D_learn_acknowledged.body D_learn_acknowledged.scope [] [] f fd) : Binds K fd D_learn_acknowledged.ps [] := F.bindsN fun _ _ _ _ _ _ us hl => match us, hl with | [_, _], _ => by kernel_rfl
theorem bn_erase_previous {K : PySem.W.Frag} {f : Addr} {fd : FuncData} (F : FunD K D_erase_previous.name D_erase_previous.name D_erase_previous.args D_erase_previous.body D_erase_previous.scope [] [] f fd) : Binds K fd D_erase_previous.ps [] := F.bindsN fun _ _ _ _ _ _ us hl => match us, hl with | [_, _], _ => by kernel_rfl
theorem bn__law_tape {K : PySem.W.Frag} {f : Addr} {fd : FuncData} (F : FunD K D__law_tape.name D__law_tape.name D__law_tape.args D__law_tape.body D__law_tape.scope [] [] f fd) : Binds K fd D__law_tape.ps [] := F.bindsN fun _ _ _ _ _ _ us hl => match us, hl with | [_], _ => by kernel_rfl
theorem bn__law_draw {K : PySem.W.Frag} {f : Addr} {fd : FuncData} (F : FunD K D__law_draw.name D__law_draw.name D__law_draw.args D__law_draw.body D__law_draw.scope [] [] f fd) : Binds K fd D__law_draw.ps [] := F.bindsN fun _ _ _ _ _ _ us hl => match us, hl with | [_, _], _ => by kernel_rfl
theorem bn__law_pick {K : PySem.W.Frag} {f : Addr} {fd : FuncData} (F : FunD K D__law_pick.name D__law_pick.name D__law_pick.args D__law_pick.body D__law_pick.scope [] [] f fd) : Binds K fd D__law_pick.ps [] := F.bindsN fun _ _ _ _ _ _ us hl => match us, hl with | [_, _], _ => by kernel_rfl
theorem bn__law_whole {K : PySem.W.Frag} {f : Addr} {fd : FuncData} (F : FunD K D__law_whole.name D__law_whole.name D__law_whole.args D__law_whole.body D__law_whole.scope [] [] f fd) : Binds K fd D__law_whole.ps [] := F.bindsN fun _ _ _ _ _ _ us hl => match us, hl with | [_], _ => by kernel_rfl
theorem bn__law_same {K : PySem.W.Frag} {f : Addr} {fd : FuncData} (F : FunD K D__law_same.name D__law_same.name D__law_same.args D__law_same.body D__law_same.scope [] [] f fd) : Binds K fd D__law_same.ps [] := F.bindsN fun _ _ _ _ _ _ us hl => match us, hl with | [_, _], _ => by kernel_rfl
theorem bn__law_number {K : PySem.W.Frag} {f : Addr} {fd : FuncData} (F : FunD K D__law_number.name D__law_number.name D__law_number.args D__law_number.body D__law_number.scope [] [] f fd) : Binds K fd D__law_number.ps [] := F.bindsN fun _ _ _ _ _ _ us hl => match us, hl with | [_], _ => by kernel_rfl
theorem bn__law_size {K : PySem.W.Frag} {f : Addr} {fd : FuncData} (F : FunD K D__law_size.name D__law_size.name D__law_size.args D__law_size.body D__law_size.scope [] [] f fd) : Binds K fd D__law_size.ps [] := F.bindsN fun _ _ _ _ _ _ us hl => match us, hl with | [_], _ => by kernel_rfl
theorem bn__law_secret {K : PySem.W.Frag} {f : Addr} {fd : FuncData} (F : FunD K D__law_secret.name D__law_secret.name D__law_secret.args D__law_secret.body D__law_secret.scope [] [] f fd) : Binds K fd D__law_secret.ps [] := F.bindsN fun _ _ _ _ _ _ us hl => match us, hl with | [_, _], _ => by kernel_rfl
theorem bn__law_entry {K : PySem.W.Frag} {f : Addr} {fd : FuncData} (F : FunD K D__law_entry.name D__law_entry.name D__law_entry.args D__law_entry.body D__law_entry.scope [] [] f fd) : Binds K fd D__law_entry.ps [] := F.bindsN fun _ _ _ _ _ _ us hl => match us, hl with | [_, _], _ => by kernel_rfl
theorem bn__law_pair {K : PySem.W.Frag} {f : Addr} {fd : FuncData} (F : FunD K D__law_pair.name D__law_pair.name D__law_pair.args D__law_pair.body D__law_pair.scope [] [] f fd) : Binds K fd D__law_pair.ps [] := F.bindsN fun _ _ _ _ _ _ us hl => match us, hl with | [_], _ => by kernel_rfl
theorem bn__law_frozen {K : PySem.W.Frag} {f : Addr} {fd : FuncData} (F : FunD K D__law_frozen.name D__law_frozen.name D__law_frozen.args D__law_frozen.body D__law_frozen.scope [] [] f fd) : Binds K fd D__law_frozen.ps [] := F.bindsN fun _ _ _ _ _ _ us hl => match us, hl with | [_], _ => by kernel_rfl
theorem bn__law_noise {K : PySem.W.Frag} {f : Addr} {fd : FuncData} (F : FunD K D__law_noise.name D__law_noise.name D__law_noise.args D__law_noise.body D__law_noise.scope [] [] f fd) : Binds K fd D__law_noise.ps [] := F.bindsN fun _ _ _ _ _ _ us hl => match us, hl with | [_, _], _ => by kernel_rfl
theorem bn__law_at {K : PySem.W.Frag} {f : Addr} {fd : FuncData} (F : FunD K D__law_at.name D__law_at.name D__law_at.args D__law_at.body D__law_at.scope [] [] f fd) : Binds K fd D__law_at.ps [] := F.bindsN fun _ _ _ _ _ _ us hl => match us, hl with | [_, _], _ => by kernel_rfl
theorem bn__law_opened {K : PySem.W.Frag} {f : Addr} {fd : FuncData} (F : FunD K D__law_opened.name D__law_opened.name D__law_opened.args D__law_opened.body D__law_opened.scope [] [] f fd) : Binds K fd D__law_opened.ps [] := F.bindsN fun _ _ _ _ _ _ us hl => match us, hl with | [_, _, _], _ => by kernel_rfl
theorem bn__law_goes_on {K : PySem.W.Frag} {f : Addr} {fd : FuncData} (F : FunD K D__law_goes_on.name D__law_goes_on.name D__law_goes_on.args D__law_goes_on.body D__law_goes_on.scope [] [] f fd) : Binds K fd D__law_goes_on.ps [] := F.bindsN fun _ _ _ _ _ _ us hl => match us, hl with | [_, _], _ => by kernel_rfl
theorem bn__law_unsealed {K : PySem.W.Frag} {f : Addr} {fd : FuncData} (F : FunD K D__law_unsealed.name D__law_unsealed.name D__law_unsealed.args D__law_unsealed.body D__law_unsealed.scope [] [] f fd) : Binds K fd D__law_unsealed.ps [] := F.bindsN fun _ _ _ _ _ _ us hl => match us, hl with | [_, _, _, _], _ => by kernel_rfl
theorem bn__law_sealed {K : PySem.W.Frag} {f : Addr} {fd : FuncData} (F : FunD K D__law_sealed.name D__law_sealed.name D__law_sealed.args D__law_sealed.body D__law_sealed.scope [] [] f fd) : Binds K fd D__law_sealed.ps [] := F.bindsN fun _ _ _ _ _ _ us hl => match us, hl with | [_, _, _, _, _], _ => by kernel_rfl
theorem bn__law_frames {K : PySem.W.Frag} {f : Addr} {fd : FuncData} (F : FunD K D__law_frames.name D__law_frames.name D__law_frames.args D__law_frames.body D__law_frames.scope [] [] f fd) : Binds K fd D__law_frames.ps [] := F.bindsN fun _ _ _ _ _ _ us hl => match us, hl with | [_], _ => by kernel_rfl
theorem bn__law_bounds_hold {K : PySem.W.Frag} {f : Addr} {fd : FuncData} (F : FunD K D__law_bounds_hold.name D__law_bounds_hold.name D__law_bounds_hold.args D__law_bounds_hold.body D__law_bounds_hold.scope [] [] f fd) : Binds K fd D__law_bounds_hold.ps [] := F.bindsN fun _ _ _ _ _ _ us hl => match us, hl with | [_], _ => by kernel_rfl
theorem bn__law_seals {K : PySem.W.Frag} {f : Addr} {fd : FuncData} (F : FunD K D__law_seals.name D__law_seals.name D__law_seals.args D__law_seals.body D__law_seals.scope [] [] f fd) : Binds K fd D__law_seals.ps [] := F.bindsN fun _ _ _ _ _ _ us hl => match us, hl with | [_, _, _], _ => by kernel_rfl
theorem bn__law_delivers {K : PySem.W.Frag} {f : Addr} {fd : FuncData} (F : FunD K D__law_delivers.name D__law_delivers.name D__law_delivers.args D__law_delivers.body D__law_delivers.scope [] [] f fd) : Binds K fd D__law_delivers.ps [] := F.bindsN fun _ _ _ _ _ _ us hl => match us, hl with | [_, _, _, _], _ => by kernel_rfl
theorem bn__law_learns {K : PySem.W.Frag} {f : Addr} {fd : FuncData} (F : FunD K D__law_learns.name D__law_learns.name D__law_learns.args D__law_learns.body D__law_learns.scope [] [] f fd) : Binds K fd D__law_learns.ps [] := F.bindsN fun _ _ _ _ _ _ us hl => match us, hl with | [_, _, _], _ => by kernel_rfl
theorem bn__law_renews {K : PySem.W.Frag} {f : Addr} {fd : FuncData} (F : FunD K D__law_renews.name D__law_renews.name D__law_renews.args D__law_renews.body D__law_renews.scope [] [] f fd) : Binds K fd D__law_renews.ps [] := F.bindsN fun _ _ _ _ _ _ us hl => match us, hl with | [_, _], _ => by kernel_rfl
theorem bn__law_erases {K : PySem.W.Frag} {f : Addr} {fd : FuncData} (F : FunD K D__law_erases.name D__law_erases.name D__law_erases.args D__law_erases.body D__law_erases.scope [] [] f fd) : Binds K fd D__law_erases.ps [] := F.bindsN fun _ _ _ _ _ _ us hl => match us, hl with | [_, _, _], _ => by kernel_rfl
theorem bn__law_does {K : PySem.W.Frag} {f : Addr} {fd : FuncData} (F : FunD K D__law_does.name D__law_does.name D__law_does.args D__law_does.body D__law_does.scope [] [] f fd) : Binds K fd D__law_does.ps [] := F.bindsN fun _ _ _ _ _ _ us hl => match us, hl with | [_, _, _, _], _ => by kernel_rfl
theorem bn__law_last_to {K : PySem.W.Frag} {f : Addr} {fd : FuncData} (F : FunD K D__law_last_to.name D__law_last_to.name D__law_last_to.args D__law_last_to.body D__law_last_to.scope [] [] f fd) : Binds K fd D__law_last_to.ps [] := F.bindsN fun _ _ _ _ _ _ us hl => match us, hl with | [_, _, _], _ => by kernel_rfl
theorem bn__law_round {K : PySem.W.Frag} {f : Addr} {fd : FuncData} (F : FunD K D__law_round.name D__law_round.name D__law_round.args D__law_round.body D__law_round.scope [] [] f fd) : Binds K fd D__law_round.ps [] := F.bindsN fun _ _ _ _ _ _ us hl => match us, hl with | [_, _, _], _ => by kernel_rfl
theorem bn_law {K : PySem.W.Frag} {f : Addr} {fd : FuncData} (F : FunD K D_law.name D_law.name D_law.args D_law.body D_law.scope [] [] f fd) : Binds K fd D_law.ps [] := F.bindsN fun _ _ _ _ _ _ us hl => match us, hl with | [_], _ => by kernel_rfl
def Bn (K : PySem.W.Frag) (D : DD) : Prop := ∀ (f : Addr) (fd : FuncData), FunD K D.name D.name D.args D.body D.scope [] [] f fd → Binds K fd D.ps []
theorem bnd {K : PySem.W.Frag} : ∀ D ∈ Ds, Bn K D := List.forall_mem_cons.mpr ⟨fun _ _ F => bn_size_of F, List.forall_mem_cons.mpr ⟨fun _ _ F => bn_header_of F, List.forall_mem_cons.mpr ⟨fun _ _ F => bn_with_secret F, List.forall_mem_cons.mpr ⟨fun _ _ F => bn_with_entry F, List.forall_mem_cons.mpr ⟨fun _ _ F => bn_row_of F, List.forall_mem_cons.mpr ⟨fun _ _ F => bn_derive F, List.forall_mem_cons.mpr ⟨fun _ _ F => bn_seal F, List.forall_mem_cons.mpr ⟨fun _ _ F => bn_unseal F, List.forall_mem_cons.mpr ⟨fun _ _ F => bn_next_key F, List.forall_mem_cons.mpr ⟨fun _ _ F => bn_phase_of F, List.forall_mem_cons.mpr ⟨fun _ _ F => bn_seal_app F, List.forall_mem_cons.mpr ⟨fun _ _ F => bn_next_sending F, List.forall_mem_cons.mpr ⟨fun _ _ F => bn_go_on F, List.forall_mem_cons.mpr ⟨fun _ _ F => bn_unseal_app F, List.forall_mem_cons.mpr ⟨fun _ _ F => bn_may_renew F, List.forall_mem_cons.mpr ⟨fun _ _ F => bn_renew F, List.forall_mem_cons.mpr ⟨fun _ _ F => bn_learn_acknowledged F, List.forall_mem_cons.mpr ⟨fun _ _ F => bn_erase_previous F, List.forall_mem_cons.mpr ⟨fun _ _ F => bn__law_tape F, List.forall_mem_cons.mpr ⟨fun _ _ F => bn__law_draw F, List.forall_mem_cons.mpr ⟨fun _ _ F => bn__law_pick F, List.forall_mem_cons.mpr ⟨fun _ _ F => bn__law_whole F, List.forall_mem_cons.mpr ⟨fun _ _ F => bn__law_same F, List.forall_mem_cons.mpr ⟨fun _ _ F => bn__law_number F, List.forall_mem_cons.mpr ⟨fun _ _ F => bn__law_size F, List.forall_mem_cons.mpr ⟨fun _ _ F => bn__law_secret F, List.forall_mem_cons.mpr ⟨fun _ _ F => bn__law_entry F, List.forall_mem_cons.mpr ⟨fun _ _ F => bn__law_pair F, List.forall_mem_cons.mpr ⟨fun _ _ F => bn__law_frozen F, List.forall_mem_cons.mpr ⟨fun _ _ F => bn__law_noise F, List.forall_mem_cons.mpr ⟨fun _ _ F => bn__law_at F, List.forall_mem_cons.mpr ⟨fun _ _ F => bn__law_opened F, List.forall_mem_cons.mpr ⟨fun _ _ F => bn__law_goes_on F, List.forall_mem_cons.mpr ⟨fun _ _ F => bn__law_unsealed F, List.forall_mem_cons.mpr ⟨fun _ _ F => bn__law_sealed F, List.forall_mem_cons.mpr ⟨fun _ _ F => bn__law_frames F, List.forall_mem_cons.mpr ⟨fun _ _ F => bn__law_bounds_hold F, List.forall_mem_cons.mpr ⟨fun _ _ F => bn__law_seals F, List.forall_mem_cons.mpr ⟨fun _ _ F => bn__law_delivers F, List.forall_mem_cons.mpr ⟨fun _ _ F => bn__law_learns F, List.forall_mem_cons.mpr ⟨fun _ _ F => bn__law_renews F, List.forall_mem_cons.mpr ⟨fun _ _ F => bn__law_erases F, List.forall_mem_cons.mpr ⟨fun _ _ F => bn__law_does F, List.forall_mem_cons.mpr ⟨fun _ _ F => bn__law_last_to F, List.forall_mem_cons.mpr ⟨fun _ _ F => bn__law_round F, List.forall_mem_cons.mpr ⟨fun _ _ F => bn_law F, fun _ h => by cases h⟩⟩⟩⟩⟩⟩⟩⟩⟩⟩⟩⟩⟩⟩⟩⟩⟩⟩⟩⟩⟩⟩⟩⟩⟩⟩⟩⟩⟩⟩⟩⟩⟩⟩⟩⟩⟩⟩⟩⟩⟩⟩⟩⟩⟩⟩
end K35
end
section
set_option maxRecDepth 100000
set_option maxHeartbeats 0
namespace K35
open PySem PySem.Spec PyProof.Rows L2 Pyx
theorem dfs : ∀ p ∈ defs, ∃ D ∈ Ds, D.name = p.1 ∧ D.ps.length = p.2 := by
  intro p hp
  have e : defs = Ds.map fun D => (D.name, D.ps.length) := by rfl
  rw [e] at hp
  obtain ⟨D, hD, e2⟩ := List.mem_map.mp hp
  exact ⟨D, hD, by rw [← e2], by rw [← e2]⟩
def spLaw (K : PySem.W.Frag) : Sp := spG K (lvl T 17) "law" 1
theorem facts {P : Program} {w : World} {K : PySem.W.Frag} {h : Heap} {mg : Str → Option Value} {f : Addr} (X : K.In h) (G : h.Ns mainGlobals mg) (hfa : mg ("law" : Str) = some (.ref f)) (c : He.SaysD fa fn K) :
    ∃ fd : FuncData, (∀ (s : Shared) (v : Value), BindsTo s fd ⟨[v], []⟩ [("script", v)]) ∧ ∀ base : Heap, K.In base → base.Ns mainGlobals mg → FnOk P w K mg base CX0 17 f fd ["script"] (spLaw K) := by
  have glo : ∀ D ∈ Ds, ∃ f, mg D.name = some (.ref f) ∧ ∃ fd, FunD K D.name D.name D.args D.body D.scope [] [] f fd := by
    intro D hD
    obtain ⟨i, hi⟩ := List.getElem?_of_mem hD
    obtain ⟨fd, F⟩ := c.def_ i (d := dd D) (by show (Ds.map dd)[i]? = _; rw [List.getElem?_map, hi]; rfl)
    exact ⟨_, He.glo_ok X G (c.fact i (f := .glo D.name) (by
      show (Ds.map (fun D => He.Fa.glo D.name) ++ _)[i]? = _
      rw [List.getElem?_append_left (by rw [List.length_map]; exact (List.getElem?_eq_some_iff.mp hi).1), List.getElem?_map, hi]; rfl)), fd, F⟩
  have tp : Top K mg Ds defs consts := by
    refine ⟨fun D hD => ?_, dfs, fun x hx => ?_, fun p hp => by cases hp⟩
    · obtain ⟨f, h1, fd, F⟩ := glo D hD
      exact ⟨⟨f, fd, h1, F, bnd D hD f fd F⟩, scs D hD⟩
    · obtain ⟨i, hi⟩ := List.getElem?_of_mem hx
      refine He.free_ok X G (c.fact (Ds.length + i) (f := .free x) ?_)
      show (Ds.map (fun D => He.Fa.glo D.name) ++ bltNames.map fun x => He.Fa.free x)[Ds.length + i]? = _
      rw [List.getElem?_append_right (by rw [List.length_map]; omega), List.length_map, Nat.add_sub_cancel_left, List.getElem?_map, hi]; rfl
  obtain ⟨f', h1, fd, F⟩ := glo D_law (by simp [Ds])
  have e := hfa.symm.trans h1
  cases e
  have b := FunD.bindsA (ps := ["script"]) F fun _ _ _ _ _ _ us hl => match us, hl with | [_], _ => rfl
  exact ⟨fd, fun s v => b s [v] rfl, fun base _ _ => fn_ok tp tab nds 17 D_law (by simp [Ds]) f fd F⟩
theorem sp_ok {K : PySem.W.Frag} (H : Hp) (a : Addr) (ns : List Int) (hS : SqL K H a (ns.map V.int)) : spLaw K [.ref a] H (fun v _ => v = .bl true) fun _ _ _ => False := by
  obtain ⟨S, e⟩ := law_ok 0 ns
  refine ⟨rfl, fun _ => False, [], [], [.lst (ns.map .int)], _, ⟨rfl, fun i v e => by simp at e, fun i v e => by simp at e, fun i j v w p e => by simp at e, rfl, fun n o p e => by simp at e, .nil, fun p h => (by cases h), fun p h => h.elim⟩, .cons ?_ .nil, e, fun x H' m' R s r => by cases r; rfl⟩
  rcases hS with h | h
  · exact .lst h (fun h => h.elim id fun h => h.elim (fun h => by cases h) fun h => absurd h own_nil) (.ints _)
  · exact .lstK h (.ints _)
end K35
end
section
set_option maxRecDepth 100000
set_option maxHeartbeats 0
namespace K35
open PySem PySem.W PySem.Calls PyProof.Rows
abbrev Q0 : PySem.Program := view R0.prog [51]
abbrev dT := HandSHeadRun.topDef R0.prog 51
theorem g1 : opening R0.prog = plainProg R0.prog.main.scope.names := by kernel_rfl
theorem g2 (s) : fenceModules? R0.prog s = some s := by kernel_rfl
theorem g3 : defOf Q0 R0.name = some (dT, []) := by kernel_rfl
theorem g4 : R0.prog.theDef R0.name = some (dT.params, dT.body, dT.scope) := by kernel_rfl
theorem g5 : kwWritten? dT.params.kwonlyargs dT.params.kw_defaults = some [] := by kernel_rfl
theorem g7 : R0.wellSaid = true := by decide +kernel
theorem g8 : (chainsOk Q0 && opensWell R0.prog && (frees R0.toRowW && R0.within.isEmpty)) = true := by decide +kernel
theorem g9 : R0.prog.bare := ⟨rfl, rfl, rfl, rfl, rfl, by decide +kernel⟩
theorem g10 : R0.toRowW.promised := by w_witness2
theorem gN : dT.name = ("law" : PySem.Str) := by kernel_rfl
theorem walks : PySem.W.WalkO Q0 ((Ds.map (·.name)).filter fun x => decide (x ≠ "law")) (PySem.W.XL Q0 []) hk.says R0.toRowW dT [] fun f vs => PySem.call f vs := by
  refine L2.walk_ofE (l := PySem.Challenge.rw_sealedlink_k35_whole_generations_go_toge) (n := 63) (k := 17) (x := "script") (CX := L2.CX0) rfl (by decide) (by kernel_rfl) ⟨rfl, by decide, by decide⟩ ?F fun _ _ _ _ z => z
  intro w mg fa h ⟨K, KX, c⟩ G e
  rw [gN] at e
  obtain ⟨fd, hb, hF⟩ := facts (P := (PySem.Challenge.rw_sealedlink_k35_whole_generations_go_toge).prog) (w := w) KX G e c
  exact ⟨K, fd, spLaw K, KX, hb, fun H a ns _ _ hS => sp_ok H a ns hS, hF⟩
theorem holds0 : R0.Holds := by
  refine HandSHeadRun.head_any (r := R0) (q := Q0) (H := hk) (ob := ob) (M := 4000) (loose := ((Ds.map (·.name)).filter fun x => decide (x ≠ "law"))) (d := dT) (kwd := []) ob_eq g1 g2 ?run g3 g4 g5 rfl g7 g8 g9 g10 ?call
  · exact run
  · exact walks
end K35
theorem PySem.Challenge.cw_sealedlink_k35_whole_generations_go_toge_holds : PySem.Challenge.rw_sealedlink_k35_whole_generations_go_toge.Holds := by
  w_on; o_law
  exact K35.holds0
end
