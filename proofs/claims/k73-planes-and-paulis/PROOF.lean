import PyProof.Rows.All
import Wide.All
import OpenK.AllK
import Wide.FinOn
import HandS.ForMost
import HandS.ForExc
import HandS.Walk
import HandS.TupAny
import HandS.AnyAll
import HandS.Defaults
import HandS.WideBits
import HandS.TupMul
import HandS.IsInst
import HandS.Zip
import HandS.SortInts
import HandS.Text
import HandS.WordsDict
import HandS.Style
import HandS.SetFor
import HandS.More
import KE.GoesEnum
import KE.GoesMore
import KE.GoesZip
import HandS.EndTab
import HandS.WordsExc
import HandS.HeadHook1
import HandS.HeadHook2
import HandS.HeadHook3
import HandS.HeadHook4
import HandS.HeadWalk
import KE.KStateDown
import HandS.Head0
import HandS.Head1
import HandS.Head2
import HandS.HeadEnd
import HandS.Strs
import PySem.Challenge.RW_everybranch_k73_planes_and_paulis
import KE.IntBitsLaws
set_option Elab.async false
set_option linter.all false
set_option maxRecDepth 100000
set_option maxHeartbeats 1000000
/-! DL: tuples that are frozen at birth, with their object: it has no dict. -/
namespace DL
open PySem PySem.Spec PyProof.Rows L2
/-- a new tuple of these, at p -/
def NewT (H : Hp) (vs : List V) (Q : VK) : Prop := ∀ (p : Addr) (ob : Obj), H p = none → ob.dict = none → Q (.ref p) (upd H p (.frz ob (.tup vs)))
section
variable {X : Cx} {pins : List (Addr × Obj)} {σ : L2.St} {H : Hp} {s : Shared}
theorem born {vs : List V} {us : List Value} {n : Nat} {Q : VK} (I : Inv X pins σ H s) (r : Vals vs us) (z : vs.length ≤ sizeLine) (q : NewT H vs Q) :
    EP X pins σ Q (.ref s.heap.objs.size) { s with heap := s.heap.push { cls := .type "tuple", data := .seq us.toArray n } } := by
  refine ⟨.ref s.heap.objs.size, _, I.laid (t' := s.toks) (o := .frz { cls := .type "tuple", data := .seq us.toArray n } (.tup vs)) (fun b u e => Heap.get?_push_of_some _ e) (Nat.le_refl _) ?_, rfl, q _ _ (I.hok.fresh (Nat.le_refl _)) rfl⟩
  exact ⟨Heap.get?_push_size _ rfl, z, us, r, ⟨_, Heap.get?_push_size _ rfl, rfl, _, rfl⟩⟩
def tTupP (t : TA) : TE := fun σ H Q => t σ H fun xs H1 => xs.length ≤ sizeLine ∧ NewT H1 xs Q
theorem pe_tupP {es : List Expr} {t : TA} {k : Nat} {pos : Pos} (h : PA X es t) : PE X (.Tuple es k pos) (tTupP t) :=
  ⟨fun pins s σ H Q I hq => wpAny_Tuple_spliced (thn (h.run pos pins s σ H _ I hq) fun us s1 ⟨xs, H1, I1, r, z, q⟩ => ⟨by rw [← r.length]; exact z, born I1 r z q⟩)⟩
theorem call_tupleP : CallR X (.type "tuple") (fun xs H Q => ∃ p ys, xs = [.ref p] ∧ ((SqL X.K H p ys ∧ NewT H ys Q) ∨ (SqT X.K H p ys ∧ Q (.ref p) H))) := by
  intro pins s σ H xs us Q I r h
  obtain ⟨p, ys, rfl, h⟩ := h
  obtain ⟨u, rfl, rx⟩ := vals1 r
  cases rx
  rcases h with ⟨hq, q⟩ | ⟨hq, q⟩
  · obtain ⟨its, r', pl, hz⟩ := I.list hq
    have hlen := r'.length
    exact call_tuple_list pl.isList (fun h' kp => born (I.kept (t' := s.toks) kp) r' hz q) (by simp only [List.size_toArray] <;> omega)
  · obtain ⟨its, r', pl, hz⟩ := I.tuple hq
    exact call_tuple_same pl ⟨.ref p, H, I, rfl, q⟩
def rCatP (K : PySem.W.Frag) : R2 := fun x y H Q => ∃ a b xs ys, x = .ref a ∧ y = .ref b ∧ SqT K H a xs ∧ SqT K H b ys ∧ xs.length + ys.length ≤ sizeLine ∧
  (xs = [] → Q (.ref b) H) ∧ (xs ≠ [] → ys = [] → Q (.ref a) H) ∧ (xs ≠ [] → ys ≠ [] → NewT H (xs ++ ys) Q)
theorem op_catP : OpR X (binaryOp .Add) (rCatP X.K) := by
  intro pins s σ H x y v u Q I rx ry h
  obtain ⟨a, b, xs, ys, rfl, rfl, ha, hb, hz, q0, q1, q2⟩ := h
  cases rx
  cases ry
  obtain ⟨its, r1, p1, _⟩ := I.tuple ha
  obtain ⟨its2, r2, p2, _⟩ := I.tuple hb
  by_cases hx : xs = []
  · subst hx
    cases r1
    exact cat_tup0 p1 p2 ⟨.ref b, H, I, rfl, q0 rfl⟩
  · refine HT.cat_tup p1 p2 (fun z => hx (r1.nil_iff.mp z)) (fun z => ⟨.ref a, H, I, rfl, q1 hx (r2.nil_iff.mp z)⟩) (fun z => ?_) (by rw [← r1.length, ← r2.length]; exact hz)
    exact born I (r1.append r2) (by rw [List.length_append]; exact hz) (q2 hx fun w => z (r2.nil_iff.mpr w))
def rSlP (K : PySem.W.Frag) : V → Option Int → Option Int → Hp → VK → Prop := fun x lo hi H Q => ∃ a xs, x = .ref a ∧ SqT K H a xs ∧
  (HT.sIx xs.length 0 lo = 0 ∧ HT.sIx xs.length xs.length hi = xs.length → Q (.ref a) H) ∧ (¬ (HT.sIx xs.length 0 lo = 0 ∧ HT.sIx xs.length xs.length hi = xs.length) → NewT H (cutV xs lo hi) Q)
theorem sl_tupP : SlR X (rSlP X.K) := by
  intro pins s σ H x v vl vu lo hi sl Q I rx hs pl pu h
  obtain ⟨a, xs, rfl, hx, q1, q2⟩ := h
  cases rx
  obtain ⟨its, r, ht, hz⟩ := I.tuple hx
  have hlen : its.toArray.size = xs.length := by rw [List.size_toArray]; exact r.length.symm
  refine ⟨"tuple", _, PyProof.Rows.slot_tuple_getitem.lookup, ht.typeIs, ?_⟩
  by_cases hw : HT.sIx xs.length 0 lo = 0 ∧ HT.sIx xs.length xs.length hi = xs.length
  · exact getItem_tuple_whole ht hs pl pu (by rw [hlen]; exact hw) ⟨.ref a, H, I, rfl, q1 hw⟩
  · refine HT.getItem_tuple_cut ht hs pl pu (by rw [hlen]; exact hw) ?_ (by rw [hlen]; exact hz)
    rw [hlen]
    exact born I ((r.drop (HT.sIx xs.length 0 lo)).take (HT.sIx xs.length xs.length hi - HT.sIx xs.length 0 lo)) (Nat.le_trans (cutV_length xs lo hi) hz) (q2 hw)
end
end DL


set_option maxHeartbeats 1000000
/-! DL: values as trees. A name of a def holds a tree; lists are owned by one name (or on the way), or frozen. -/
namespace DL
open PySem PySem.Spec PyProof.Rows L2

/-- what is told of a tuple's object: nothing more, that it is tracked as it is, that it has no dict -/
inductive TK where
  | w | r | f
/-- a value that nobody changes any more -/
inductive D where
  | non | bl (b : Bool) | int (i : Int) | str (x : Str)
  | tg (k : TK) (xs : List D) | lst (xs : List D)
  | dk (ks : List Key) (xs : List D) | dt (ks : List (List Key)) (xs : List D)
  | cls (C : Addr)
  | pin (ob : Obj) (u : HO)
abbrev D.tup (xs : List D) : D := .tg .w xs
/-- what a name holds: nothing that is told, a frozen value, a list of its own, a dict of its own, an instance of its own -/
inductive Sl where
  | u | v (d : D) | o (xs : List Sl) | k (ks : List Key) (xs : List D) | t (ks : List (List Key)) (xs : List D)
  | i (C : Addr) (ns : List Str) (xs : List Sl)

abbrev Frg := PySem.W.Frag
/-- a list that is read only -/
def FzL (K : Frg) (H : Hp) (a : Addr) (xs : List V) : Prop :=
  (∃ ob, H a = some (.frz ob (.lst xs))) ∨
    ∃ (ob : Obj) (its : Array Value) (n : Nat), K.lookup a = some ob ∧ ob.cls = .type "list" ∧ ob.dict = none ∧ ob.data = .seq its n ∧ its.size ≤ sizeLine ∧ Vals xs its.toList
theorem FzL.sq {K : Frg} {H : Hp} {a : Addr} {xs : List V} (h : FzL K H a xs) : SqL K H a xs := by
  rcases h with ⟨ob, h⟩ | h
  · exact .inl (.inr ⟨ob, h⟩)
  · exact .inr h

/-- a tuple whose object has no dict -/
def TpF (K : Frg) (H : Hp) (a : Addr) (xs : List V) : Prop :=
  (∃ ob, H a = some (.frz ob (.tup xs)) ∧ ob.dict = none) ∨
    ∃ (ob : Obj) (its : Array Value) (n : Nat), K.lookup a = some ob ∧ ob.cls = .type "tuple" ∧ ob.dict = none ∧ ob.data = .seq its n ∧ its.size ≤ sizeLine ∧ Vals xs its.toList
theorem TpF.sq {K : Frg} {H : Hp} {a : Addr} {xs : List V} (h : TpF K H a xs) : SqT K H a xs := by
  rcases h with ⟨ob, h, _⟩ | ⟨ob, its, n, h1, h2, _, h3⟩
  · exact .inl (.inr ⟨ob, h⟩)
  · exact .inr ⟨ob, its, n, h1, h2, h3⟩
/-- a tuple, with what is told of it -/
def TpK (k : TK) (K : Frg) (H : Hp) (a : Addr) (xs : List V) : Prop := match k with
  | .w => SqT K H a xs
  | .r => H a = some (.tup xs)
  | .f => TpF K H a xs
theorem TpK.sq {k : TK} {K : Frg} {H : Hp} {a : Addr} {xs : List V} (h : TpK k K H a xs) : SqT K H a xs := by
  cases k with
  | w => exact h
  | r => exact SqT.of h
  | f => exact TpF.sq h

mutual
def RepD (K : Frg) (H : Hp) : D → V → Prop
  | .non, v => v = .non
  | .bl b, v => v = .bl b
  | .int i, v => v = .int i
  | .str x, v => v = .str x
  | .tg k xs, v => ∃ a vs, v = .ref a ∧ TpK k K H a vs ∧ RepDs K H xs vs
  | .lst xs, v => ∃ a vs, v = .ref a ∧ FzL K H a vs ∧ RepDs K H xs vs
  | .dk ks xs, v => ∃ a kvs ob, v = .ref a ∧ H a = some (.frz ob (.dK kvs)) ∧ kvs.map (·.1) = ks ∧ RepDs K H xs (kvs.map (·.2))
  | .dt ks xs, v => ∃ a kvs ob, v = .ref a ∧ H a = some (.frz ob (.dT kvs)) ∧ kvs.map (·.1) = ks ∧ RepDs K H xs (kvs.map (·.2))
  | .cls C, v => v = .ref C
  | .pin ob u, v => ∃ a, v = .ref a ∧ H a = some (.frz ob u)
def RepDs (K : Frg) (H : Hp) : List D → List V → Prop
  | [], vs => vs = []
  | d :: ds, vs => ∃ v r, vs = v :: r ∧ RepD K H d v ∧ RepDs K H ds r
end

mutual
/-- x stands at w; fp: the addresses that it owns -/
def Rp (K : Frg) (H : Hp) : Sl → Option V → List Addr → Prop
  | .u, _, fp => fp = []
  | .v d, w, fp => fp = [] ∧ ∃ v, w = some v ∧ RepD K H d v
  | .o xs, w, fp => ∃ a vs fq, w = some (.ref a) ∧ H a = some (.lst vs) ∧ Rps K H xs vs fq ∧ fp = a :: fq
  | .k ks xs, w, fp => ∃ a kvs, w = some (.ref a) ∧ H a = some (.dK kvs) ∧ kvs.map (·.1) = ks ∧ RepDs K H xs (kvs.map (·.2)) ∧ fp = [a]
  | .t ks xs, w, fp => ∃ a kvs, w = some (.ref a) ∧ H a = some (.dT kvs) ∧ kvs.map (·.1) = ks ∧ RepDs K H xs (kvs.map (·.2)) ∧ fp = [a]
  | .i C ns xs, w, fp => ∃ a dx fs fq, w = some (.ref a) ∧ H a = some (.ins C dx fs) ∧ fs.map (·.1) = ns ∧ Rps K H xs (fs.map (·.2)) fq ∧ fp = a :: fq
def Rps (K : Frg) (H : Hp) : List Sl → List V → List Addr → Prop
  | [], vs, fp => vs = [] ∧ fp = []
  | x :: xs, vs, fp => ∃ v r f1 f2, vs = v :: r ∧ Rp K H x (some v) f1 ∧ Rps K H xs r f2 ∧ fp = f1 ++ f2
end
/-- roots: pairs of a tree and where it stands -/
def Rts (K : Frg) (H : Hp) : List (Sl × Option V) → List Addr → Prop
  | [], fp => fp = []
  | x :: xs, fp => ∃ f1 f2, Rp K H x.1 x.2 f1 ∧ Rts K H xs f2 ∧ fp = f1 ++ f2

/-! ### staying -/
/-- from H to H' tuples and frozen things stay -/
structure Stf (H H' : Hp) : Prop where
  tups : ∀ a xs, H a = some (.tup xs) → H' a = some (.tup xs)
  frzs : ∀ a ob u, H a = some (.frz ob u) → H' a = some (.frz ob u)
  tbls : ∀ a ps, H a = some (.tbl ps) → ∃ qs, H' a = some (.tbl qs)
theorem Stf.refl (H : Hp) : Stf H H := ⟨fun _ _ h => h, fun _ _ _ h => h, fun _ ps h => ⟨ps, h⟩⟩
theorem Stf.trans {H H1 H2 : Hp} (a : Stf H H1) (b : Stf H1 H2) : Stf H H2 := ⟨fun c xs h => b.tups c xs (a.tups c xs h), fun c ob u h => b.frzs c ob u (a.frzs c ob u h), fun c ps h => by
  obtain ⟨qs, h⟩ := a.tbls c ps h
  exact b.tbls c qs h⟩
theorem Stf.ext {H H' : Hp} (k : ∀ a u, H a = some u → H' a = some u) : Stf H H' := ⟨fun a xs => k a _, fun a ob u => k a _, fun a ps h => ⟨ps, k a _ h⟩⟩
theorem Stf.rd {H H' : Hp} (s : Stf H H') {a : Addr} {xs : List V} (h : Rd H a (.tup xs)) : Rd H' a (.tup xs) := by
  rcases h with h | ⟨ob, h⟩
  · exact .inl (s.tups a xs h)
  · exact .inr ⟨ob, s.frzs a ob _ h⟩
theorem Stf.sqT {K : Frg} {H H' : Hp} (s : Stf H H') {a : Addr} {xs : List V} (h : SqT K H a xs) : SqT K H' a xs := by
  rcases h with h | h
  · exact .inl (s.rd h)
  · exact .inr h
theorem Stf.tpK {k : TK} {K : Frg} {H H' : Hp} (s : Stf H H') {a : Addr} {xs : List V} (h : TpK k K H a xs) : TpK k K H' a xs := by
  cases k with
  | w => exact s.sqT h
  | r => exact s.tups a xs h
  | f =>
    rcases h with ⟨ob, h, e⟩ | h
    · exact .inl ⟨ob, s.frzs a ob _ h, e⟩
    · exact .inr h
theorem Stf.fzL {K : Frg} {H H' : Hp} (s : Stf H H') {a : Addr} {xs : List V} (h : FzL K H a xs) : FzL K H' a xs := by
  rcases h with ⟨ob, h⟩ | h
  · exact .inl ⟨ob, s.frzs _ _ _ h⟩
  · exact .inr h
mutual
theorem RepD.stay {K : Frg} {H H' : Hp} (s : Stf H H') : ∀ (d : D) (v : V), RepD K H d v → RepD K H' d v
  | .non, _, h => h
  | .bl _, _, h => h
  | .int _, _, h => h
  | .str _, _, h => h
  | .cls _, _, h => h
  | .pin ob u, v, ⟨a, e, h⟩ => ⟨a, e, s.frzs a ob u h⟩
  | .tg _ xs, v, ⟨a, vs, e, h, r⟩ => ⟨a, vs, e, s.tpK h, RepDs.stay s xs vs r⟩
  | .lst xs, v, ⟨a, vs, e, h, r⟩ => ⟨a, vs, e, s.fzL h, RepDs.stay s xs vs r⟩
  | .dk ks xs, v, ⟨a, kvs, ob, e, h, q, r⟩ => ⟨a, kvs, ob, e, s.frzs _ _ _ h, q, RepDs.stay s xs _ r⟩
  | .dt ks xs, v, ⟨a, kvs, ob, e, h, q, r⟩ => ⟨a, kvs, ob, e, s.frzs _ _ _ h, q, RepDs.stay s xs _ r⟩
theorem RepDs.stay {K : Frg} {H H' : Hp} (s : Stf H H') : ∀ (d : List D) (v : List V), RepDs K H d v → RepDs K H' d v
  | [], _, h => h
  | d :: ds, _, ⟨v, r, e, h, t⟩ => ⟨v, r, e, RepD.stay s d v h, RepDs.stay s ds r t⟩
end
mutual
theorem Rp.stay {K : Frg} {H H' : Hp} (s : Stf H H') : ∀ (x : Sl) (w : Option V) (fp : List Addr), Rp K H x w fp → (∀ a ∈ fp, ∀ ob, H a = some ob → H' a = some ob) → Rp K H' x w fp
  | .u, _, _, h, _ => h
  | .v d, w, fp, ⟨e, v, ev, h⟩, _ => ⟨e, v, ev, RepD.stay s d v h⟩
  | .o xs, w, fp, ⟨a, vs, fq, e, h, r, ef⟩, k => ⟨a, vs, fq, e, k a (by rw [ef]; exact List.mem_cons_self) _ h, Rps.stay s xs vs fq r fun b hb => k b (by rw [ef]; exact List.mem_cons_of_mem _ hb), ef⟩
  | .k ks xs, w, fp, ⟨a, kvs, e, h, q, r, ef⟩, k => ⟨a, kvs, e, k a (by rw [ef]; exact List.mem_cons_self) _ h, q, RepDs.stay s xs _ r, ef⟩
  | .t ks xs, w, fp, ⟨a, kvs, e, h, q, r, ef⟩, k => ⟨a, kvs, e, k a (by rw [ef]; exact List.mem_cons_self) _ h, q, RepDs.stay s xs _ r, ef⟩
  | .i C ns xs, w, fp, ⟨a, dx, fs, fq, e, h, q, r, ef⟩, k => ⟨a, dx, fs, fq, e, k a (by rw [ef]; exact List.mem_cons_self) _ h, q, Rps.stay s xs _ fq r fun b hb => k b (by rw [ef]; exact List.mem_cons_of_mem _ hb), ef⟩
theorem Rps.stay {K : Frg} {H H' : Hp} (s : Stf H H') : ∀ (x : List Sl) (w : List V) (fp : List Addr), Rps K H x w fp → (∀ a ∈ fp, ∀ ob, H a = some ob → H' a = some ob) → Rps K H' x w fp
  | [], _, _, h, _ => h
  | x :: xs, _, _, ⟨v, r, f1, f2, e, h, t, ef⟩, k => ⟨v, r, f1, f2, e, Rp.stay s x _ f1 h fun b hb => k b (by rw [ef]; exact List.mem_append_left _ hb), Rps.stay s xs r f2 t fun b hb => k b (by rw [ef]; exact List.mem_append_right _ hb), ef⟩
end
theorem Rts.stay {K : Frg} {H H' : Hp} (s : Stf H H') : ∀ (x : List (Sl × Option V)) (fp : List Addr), Rts K H x fp → (∀ a ∈ fp, ∀ ob, H a = some ob → H' a = some ob) → Rts K H' x fp
  | [], _, h, _ => h
  | x :: xs, _, ⟨f1, f2, h, t, ef⟩, k => ⟨f1, f2, Rp.stay s x.1 _ f1 h fun b hb => k b (by rw [ef]; exact List.mem_append_left _ hb), Rts.stay s xs f2 t fun b hb => k b (by rw [ef]; exact List.mem_append_right _ hb), ef⟩
/-- what owns is a thing that may be written -/
def Own (H : Hp) (a : Addr) : Prop := ∃ u, H a = some u ∧ Mut (some u)
mutual
theorem Rp.own {K : Frg} {H : Hp} : ∀ (x : Sl) (w : Option V) (fp : List Addr), Rp K H x w fp → ∀ a ∈ fp, Own H a
  | .u, _, _, h, a, ha => by rw [show _ = [] from h] at ha; cases ha
  | .v d, w, fp, ⟨e, _⟩, a, ha => by rw [e] at ha; cases ha
  | .o xs, w, fp, ⟨b, vs, fq, e, h, r, ef⟩, a, ha => by
    rw [ef] at ha
    rcases List.mem_cons.mp ha with z | z
    · rw [z]; exact ⟨_, h, trivial⟩
    · exact Rps.own xs vs fq r a z
  | .k ks xs, w, fp, ⟨b, kvs, e, h, q, r, ef⟩, a, ha => by
    rw [ef] at ha
    rw [List.mem_singleton.mp ha]
    exact ⟨_, h, trivial⟩
  | .t ks xs, w, fp, ⟨b, kvs, e, h, q, r, ef⟩, a, ha => by
    rw [ef] at ha
    rw [List.mem_singleton.mp ha]
    exact ⟨_, h, trivial⟩
  | .i C ns xs, w, fp, ⟨b, dx, fs, fq, e, h, q, r, ef⟩, a, ha => by
    rw [ef] at ha
    rcases List.mem_cons.mp ha with z | z
    · rw [z]; exact ⟨_, h, trivial⟩
    · exact Rps.own xs _ fq r a z
theorem Rps.own {K : Frg} {H : Hp} : ∀ (x : List Sl) (w : List V) (fp : List Addr), Rps K H x w fp → ∀ a ∈ fp, Own H a
  | [], _, _, h, a, ha => by rw [h.2] at ha; cases ha
  | x :: xs, _, _, ⟨v, r, f1, f2, e, h, t, ef⟩, a, ha => by
    rw [ef] at ha
    rcases List.mem_append.mp ha with z | z
    · exact Rp.own x _ f1 h a z
    · exact Rps.own xs r f2 t a z
end
theorem Rts.own {K : Frg} {H : Hp} : ∀ (x : List (Sl × Option V)) (fp : List Addr), Rts K H x fp → ∀ a ∈ fp, Own H a
  | [], _, h, a, ha => by rw [show _ = [] from h] at ha; cases ha
  | x :: xs, _, ⟨f1, f2, h, t, ef⟩, a, ha => by
    rw [ef] at ha
    rcases List.mem_append.mp ha with z | z
    · exact Rp.own x.1 _ f1 h a z
    · exact Rts.own xs f2 t a z
theorem Own.ntup {H : Hp} {a : Addr} (o : Own H a) {xs : List V} : H a ≠ some (.tup xs) := fun e => by
  obtain ⟨u, h, m⟩ := o
  rw [e] at h; cases h; exact m
theorem Own.nfrz {H : Hp} {a : Addr} (o : Own H a) {ob : Obj} {x : HO} : H a ≠ some (.frz ob x) := fun e => by
  obtain ⟨u, h, m⟩ := o
  rw [e] at h; cases h; exact m
theorem Own.ntbl {H : Hp} {a : Addr} (o : Own H a) {ps : Array Value} : H a ≠ some (.tbl ps) := fun e => by
  obtain ⟨u, h, m⟩ := o
  rw [e] at h; cases h; exact m
theorem Own.nnone {H : Hp} {a : Addr} (o : Own H a) : H a ≠ none := fun e => by
  obtain ⟨u, h, m⟩ := o
  rw [e] at h; cases h

/-! ### lists of roots -/
theorem Rts.append {K : Frg} {H : Hp} : ∀ (x y : List (Sl × Option V)) (fp : List Addr), Rts K H (x ++ y) fp ↔ ∃ f1 f2, Rts K H x f1 ∧ Rts K H y f2 ∧ fp = f1 ++ f2
  | [], y, fp => ⟨fun h => ⟨[], fp, rfl, h, rfl⟩, fun ⟨f1, f2, h1, h2, e⟩ => by
      rw [show f1 = [] from h1] at e
      rw [e]; exact h2⟩
  | x :: xs, y, fp => ⟨fun ⟨f1, f2, h, t, e⟩ => by
      obtain ⟨g1, g2, h1, h2, e2⟩ := (Rts.append xs y f2).mp t
      exact ⟨f1 ++ g1, g2, ⟨f1, g1, h, h1, rfl⟩, h2, by rw [e, e2, List.append_assoc]⟩, fun ⟨f1, f2, ⟨g1, g2, h, t, e1⟩, h2, e⟩ =>
      ⟨g1, g2 ++ f2, h, (Rts.append xs y _).mpr ⟨g2, f2, t, h2, rfl⟩, by rw [e, e1, List.append_assoc]⟩⟩
theorem Rts.perm {K : Frg} {H : Hp} {x y : List (Sl × Option V)} (p : x.Perm y) : ∀ {fp : List Addr}, Rts K H x fp → ∃ fq, Rts K H y fq ∧ fp.Perm fq := by
  induction p with
  | nil => exact fun h => ⟨_, h, .refl _⟩
  | cons a _ ih =>
    rintro fp ⟨f1, f2, h, t, e⟩
    obtain ⟨fq, h2, p2⟩ := ih t
    exact ⟨f1 ++ fq, ⟨f1, fq, h, h2, rfl⟩, by rw [e]; exact p2.append_left f1⟩
  | swap a b l =>
    rintro fp ⟨f1, f2, h, ⟨g1, g2, h', t, e'⟩, e⟩
    refine ⟨g1 ++ (f1 ++ g2), ⟨g1, f1 ++ g2, h', ⟨f1, g2, h, t, rfl⟩, rfl⟩, ?_⟩
    rw [e, e', ← List.append_assoc, ← List.append_assoc]
    exact (List.perm_append_comm).append_right g2
  | trans _ _ ih1 ih2 =>
    intro fp h
    obtain ⟨f1, h1, p1⟩ := ih1 h
    obtain ⟨f2, h2, p2⟩ := ih2 h1
    exact ⟨f2, h2, p1.trans p2⟩

/-! ### the relation -/
/-- the entry: its heap, what it was handed to change, the number of slots -/
structure G where
  H0 : Hp
  fp : List Addr
  n : Nat
/-- from H to H' all that is tracked stays, but what is in fp, and the tables -/
structure Kp (H H' : Hp) (fp : List Addr) : Prop where
  f : Stf H H'
  r : ∀ a u, H a = some u → (∀ ps, u ≠ .tbl ps) → a ∉ fp → H' a = some u
theorem Kp.refl (H : Hp) (fp : List Addr) : Kp H H fp := ⟨.refl H, fun _ _ h _ _ => h⟩
def Tabs (T : List Addr) (H : Hp) : Prop := ∀ p ∈ T, GxR.TabG H p
def Rel (K : Frg) (T : List Addr) (g : G) (rs : List (Sl × Option V)) (H : Hp) : Prop :=
  ∃ fp, Rts K H rs fp ∧ fp.Nodup ∧ (∀ a ∈ fp, a ∈ g.fp ∨ g.H0 a = none) ∧ Kp g.H0 H g.fp ∧ Tabs T H
section
variable {K : Frg} {T : List Addr} {g : G} {H H' : Hp} {rs rs' : List (Sl × Option V)} {x : Sl} {w : Option V} {d : D} {v : V}
theorem Rel.perm (p : rs.Perm rs') (R : Rel K T g rs H) : Rel K T g rs' H := by
  obtain ⟨fp, h, nd, hf, kp, tb⟩ := R
  obtain ⟨fq, h2, p2⟩ := Rts.perm p h
  exact ⟨fq, h2, p2.nodup_iff.mp nd, fun a ha => hf a (p2.mem_iff.mpr ha), kp, tb⟩
theorem Rel.drop (R : Rel K T g (rs ++ rs') H) : Rel K T g rs' H := by
  obtain ⟨fp, h, nd, hf, kp, tb⟩ := R
  obtain ⟨f1, f2, h1, h2, e⟩ := (Rts.append _ _ _).mp h
  rw [e] at nd hf
  exact ⟨f2, h2, (List.nodup_append.mp nd).2.1, fun a ha => hf a (List.mem_append_right _ ha), kp, tb⟩
theorem Rel.tail {y : Sl × Option V} (R : Rel K T g (y :: rs) H) : Rel K T g rs H := Rel.drop (rs := [y]) R
theorem Rel.head {y : Sl × Option V} (R : Rel K T g (y :: rs) H) : ∃ f, Rp K H y.1 y.2 f := by
  obtain ⟨fp, ⟨f1, f2, h, t, e⟩, _⟩ := R
  exact ⟨f1, h⟩
theorem Rel.get {y : Sl × Option V} (R : Rel K T g rs H) (hy : y ∈ rs) : ∃ f, Rp K H y.1 y.2 f := by
  obtain ⟨s, t, e⟩ := List.append_of_mem hy
  rw [e] at R
  exact (Rel.perm (List.perm_middle) R).head
theorem Rel.getD (R : Rel K T g rs H) (hy : (Sl.v d, some v) ∈ rs) : RepD K H d v := by
  obtain ⟨f, _, v', e, h⟩ := R.get hy
  cases e; exact h
theorem Rel.tabs (R : Rel K T g rs H) : Tabs T H := by
  obtain ⟨fp, h, nd, hf, kp, tb⟩ := R
  exact tb
/-- a frozen root more -/
theorem Rel.pushD (R : Rel K T g rs H) (h : RepD K H d v) : Rel K T g ((.v d, some v) :: rs) H := by
  obtain ⟨fp, q, r⟩ := R
  exact ⟨fp, ⟨[], fp, ⟨rfl, v, rfl, h⟩, q, rfl⟩, r⟩
theorem Rel.pushU (R : Rel K T g rs H) : Rel K T g ((.u, w) :: rs) H := by
  obtain ⟨fp, q, r⟩ := R
  exact ⟨fp, ⟨[], fp, rfl, q, rfl⟩, r⟩
/-- what is tracked stays, but tables that grow -/
theorem Rel.stay (R : Rel K T g rs H) (s : Stf H H') (k : ∀ a u, H a = some u → (∀ ps, u ≠ .tbl ps) → H' a = some u) (tb : Tabs T H') : Rel K T g rs H' := by
  obtain ⟨fp, h, nd, hf, kp, _⟩ := R
  refine ⟨fp, Rts.stay s rs fp h (fun a ha ob e => k a ob e fun ps z => ?_), nd, hf, ⟨kp.f.trans s, fun a u e nt hn => k a u (kp.r a u e nt hn) nt⟩, tb⟩
  exact (Rts.own rs fp h a ha).ntbl (z ▸ e)
theorem Tabs.ext (tb : Tabs T H) (k : ∀ a u, H a = some u → H' a = some u) : Tabs T H' := fun p hp => by
  obtain ⟨ps, e, t⟩ := tb p hp
  exact ⟨ps, k _ _ e, t⟩
/-- what is tracked stays -/
theorem Rel.ext (R : Rel K T g rs H) (k : ∀ a u, H a = some u → H' a = some u) : Rel K T g rs H' :=
  R.stay (.ext k) (fun a u h _ => k a u h) (R.tabs.ext k)
theorem ext_upd {p : Addr} {u : HO} (hp : H p = none) : ∀ a o, H a = some o → upd H p u a = some o := fun a o e => by
  rw [upd_ne (ne_of_none e hp)]; exact e
theorem Rel.fresh {p : Addr} {u : HO} (R : Rel K T g rs H) (hp : H p = none) : Rel K T g rs (upd H p u) := R.ext (ext_upd hp)
/-- what is not tracked now was not at the entry -/
theorem Rel.nfresh {p : Addr} (R : Rel K T g rs H) (hp : H p = none) : p ∈ g.fp ∨ g.H0 p = none := by
  obtain ⟨fp, h, nd, hf, kp, _⟩ := R
  by_cases hm : p ∈ g.fp
  · exact .inl hm
  · cases q : g.H0 p with
    | none => exact .inr rfl
    | some u =>
      by_cases ht : ∃ ps, u = .tbl ps
      · obtain ⟨ps, e⟩ := ht
        rw [e] at q
        obtain ⟨qs, q2⟩ := kp.f.tbls p ps q
        rw [hp] at q2; cases q2
      · have := kp.r p u q (fun ps e => ht ⟨ps, e⟩) hm
        rw [hp] at this; cases this
/-- a new thing that owns what the roots in front owned -/
theorem Rel.wrap {p : Addr} {u : HO} {ts : List (Sl × Option V)} {y : Sl} {v : Option V} (R : Rel K T g (ts ++ rs) H) (hp : H p = none)
    (h : ∀ fp, Rts K (upd H p u) ts fp → Rp K (upd H p u) y v (p :: fp)) : Rel K T g ((y, v) :: rs) (upd H p u) := by
  have hn := R.nfresh hp
  obtain ⟨fp, q, nd, hf, kp, tb⟩ := R
  have hno : p ∉ fp := fun z => (Rts.own _ fp q p z).nnone hp
  have k := ext_upd (u := u) hp
  have q2 := Rts.stay (.ext k) _ fp q fun a _ => k a
  obtain ⟨f1, f2, h1, h2, e⟩ := (Rts.append _ _ _).mp q2
  subst e
  refine ⟨(p :: f1) ++ f2, ⟨p :: f1, f2, h f1 h1, h2, rfl⟩, ?_, fun a ha => ?_, ⟨kp.f.trans (.ext k), fun a u e nt hn => k a u (kp.r a u e nt hn)⟩, tb.ext k⟩
  · rw [List.cons_append]
    exact List.nodup_cons.mpr ⟨hno, nd⟩
  · rw [List.cons_append] at ha
    rcases List.mem_cons.mp ha with z | z
    · rw [z]; exact hn
    · exact hf a z
end

/-! ### freezing -/
mutual
def toD : Sl → Option D
  | .u => none
  | .v d => some d
  | .o xs => match toDs xs with
    | some ds => some (.lst ds)
    | none => none
  | .k ks xs => some (.dk ks xs)
  | .t ks xs => some (.dt ks xs)
  | .i _ _ _ => none
def toDs : List Sl → Option (List D)
  | [] => some []
  | x :: xs => match toD x with
    | some d => match toDs xs with
      | some ds => some (d :: ds)
      | none => none
    | none => none
end
theorem toDs_v : ∀ ds : List D, toDs (ds.map .v) = some ds
  | [] => rfl
  | d :: ds => by
    show (match toD (.v d) with | some d => (match toDs (ds.map .v) with | some ds => some (d :: ds) | none => none) | none => none) = _
    rw [toDs_v ds]
    rfl
/-- what may be frozen -/
def Fzb : HO → Prop
  | .lst _ => True
  | .dK _ => True
  | .dT _ => True
  | _ => False
/-- some things are frozen, then P -/
inductive Gh : Hp → (Hp → Prop) → Prop where
  | now {H : Hp} {P : Hp → Prop} (h : P H) : Gh H P
  | step {H : Hp} {P : Hp → Prop} (a : Addr) (u : HO) (e : H a = some u) (f : Fzb u) (h : ∀ ob, Gh (upd H a (.frz ob u)) P) : Gh H P
theorem Gh.bind {H : Hp} {P P' : Hp → Prop} (h : Gh H P) (k : ∀ H', P H' → Gh H' P') : Gh H P' := by
  induction h with
  | now h => exact k _ h
  | step a u e f _ ih => exact .step a u e f fun ob => ih ob k
theorem Gh.imp {H : Hp} {P P' : Hp → Prop} (h : Gh H P) (k : ∀ H', P H' → P' H') : Gh H P' := h.bind fun H' q => .now (k H' q)
theorem stf_frz {H : Hp} {a : Addr} {u : HO} {ob : Obj} (e : H a = some u) (f : Fzb u) : Stf H (upd H a (.frz ob u)) :=
  ⟨fun b xs h => by
    rw [upd_ne (fun z => by rw [z, e] at h; cases h; exact f)]; exact h,
   fun b o2 x h => by
    rw [upd_ne (fun z => by rw [z, e] at h; cases h; exact f)]; exact h,
   fun b ps h => ⟨ps, by rw [upd_ne (fun z => by rw [z, e] at h; cases h; exact f)]; exact h⟩⟩
/-- all but fp as it was -/
structure FzT (H H' : Hp) (fp : List Addr) : Prop where
  s : Stf H H'
  r : ∀ a, a ∉ fp → H' a = H a
theorem FzT.refl (H : Hp) (fp : List Addr) : FzT H H fp := ⟨.refl H, fun _ _ => rfl⟩
theorem FzT.mono {H H' : Hp} {fp fq : List Addr} (f : FzT H H' fp) (h : ∀ a ∈ fp, a ∈ fq) : FzT H H' fq := ⟨f.s, fun a ha => f.r a fun z => ha (h a z)⟩
theorem FzT.trans {H H1 H2 : Hp} {fp : List Addr} (a : FzT H H1 fp) (b : FzT H1 H2 fp) : FzT H H2 fp := ⟨a.s.trans b.s, fun c hc => (b.r c hc).trans (a.r c hc)⟩
mutual
theorem gh_fz {K : Frg} : ∀ (x : Sl) (H : Hp) (w : Option V) (fp : List Addr) (d : D), Rp K H x w fp → fp.Nodup → toD x = some d → Gh H fun H' => (∃ v, w = some v ∧ RepD K H' d v) ∧ FzT H H' fp
  | .u, H, w, fp, d, h, nd, e => by cases e
  | .i _ _ _, H, w, fp, d, h, nd, e => by cases e
  | .v d', H, w, fp, d, ⟨ef, v, ev, h⟩, nd, e => by
    cases e
    exact .now ⟨⟨v, ev, h⟩, .refl _ _⟩
  | .o xs, H, w, fp, d, ⟨a, vs, fq, ew, ha, r, ef⟩, nd, e => by
    have e' : (match toDs xs with | some ds => some (D.lst ds) | none => none) = some d := e
    cases q : toDs xs with
    | none => rw [q] at e'; cases e'
    | some ds =>
      rw [q] at e'
      cases e'
      rw [ef] at nd
      obtain ⟨n1, n2⟩ := List.nodup_cons.mp nd
      refine (ghs_fz xs H vs fq ds r n2 q).bind fun H1 ⟨r1, f1⟩ => ?_
      have ha1 : H1 a = some (.lst vs) := (f1.r a n1).trans ha
      refine .step a _ ha1 trivial fun ob => .now ⟨⟨.ref a, ew, a, vs, rfl, .inl ⟨ob, upd_same⟩, RepDs.stay (stf_frz ha1 trivial) ds vs r1⟩, ⟨f1.s.trans (stf_frz ha1 trivial), fun b hb => ?_⟩⟩
      rw [ef] at hb
      rw [upd_ne fun z => hb (by rw [z]; exact List.mem_cons_self)]
      exact f1.r b fun z => hb (List.mem_cons_of_mem _ z)
  | .k ks xs, H, w, fp, d, ⟨a, kvs, ew, ha, q, r, ef⟩, nd, e => by
    cases e
    refine .step a _ ha trivial fun ob => .now ⟨⟨.ref a, ew, a, kvs, ob, rfl, upd_same, q, RepDs.stay (stf_frz ha trivial) xs _ r⟩, ⟨stf_frz ha trivial, fun b hb => ?_⟩⟩
    rw [upd_ne fun z => hb (by rw [ef, z]; exact List.mem_cons_self)]
  | .t ks xs, H, w, fp, d, ⟨a, kvs, ew, ha, q, r, ef⟩, nd, e => by
    cases e
    refine .step a _ ha trivial fun ob => .now ⟨⟨.ref a, ew, a, kvs, ob, rfl, upd_same, q, RepDs.stay (stf_frz ha trivial) xs _ r⟩, ⟨stf_frz ha trivial, fun b hb => ?_⟩⟩
    rw [upd_ne fun z => hb (by rw [ef, z]; exact List.mem_cons_self)]
theorem ghs_fz {K : Frg} : ∀ (xs : List Sl) (H : Hp) (vs : List V) (fp : List Addr) (ds : List D), Rps K H xs vs fp → fp.Nodup → toDs xs = some ds → Gh H fun H' => RepDs K H' ds vs ∧ FzT H H' fp
  | [], H, vs, fp, ds, ⟨h, _⟩, nd, e => by
    cases e
    exact .now ⟨h, .refl _ _⟩
  | x :: xs, H, vs, fp, ds, ⟨v, r, f1, f2, ev, h, t, ef⟩, nd, e => by
    have e' : (match toD x with | some d => (match toDs xs with | some ds => some (d :: ds) | none => none) | none => none) = some ds := e
    cases q : toD x with
    | none => rw [q] at e'; cases e'
    | some d =>
      rw [q] at e'
      cases q2 : toDs xs with
      | none => rw [q2] at e'; cases e'
      | some dr =>
        rw [q2] at e'
        cases e'
        rw [ef] at nd
        obtain ⟨n1, n2, n3⟩ := List.nodup_append.mp nd
        refine (gh_fz x H (some v) f1 d h n1 q).bind fun H1 ⟨⟨v1, e1, r1⟩, g1⟩ => ?_
        cases e1
        have t1 : Rps K H1 xs r f2 := Rps.stay g1.s xs r f2 t fun a ha ob eo => by
          rw [g1.r a fun z => n3 a z a ha rfl]; exact eo
        refine (ghs_fz xs H1 r f2 dr t1 n2 q2).imp fun H2 ⟨r2, g2⟩ => ⟨⟨v, r, ev, RepD.stay g2.s d v r1, r2⟩, ?_⟩
        rw [ef]
        exact (g1.mono fun a ha => List.mem_append_left _ ha).trans (g2.mono fun a ha => List.mem_append_right _ ha)
end
/-- the root in front is frozen -/
theorem Rel.fz {K : Frg} {T : List Addr} {g : G} {H : Hp} {rs : List (Sl × Option V)} {x : Sl} {w : Option V} {d : D} (R : Rel K T g ((x, w) :: rs) H) (e : toD x = some d) : Gh H fun H' => Rel K T g ((.v d, w) :: rs) H' := by
  obtain ⟨fp, ⟨f1, f2, h, t, ef⟩, nd, hf, kp, tb⟩ := R
  rw [ef] at nd hf
  obtain ⟨n1, n2, n3⟩ := List.nodup_append.mp nd
  have own := Rp.own x w f1 h
  refine (gh_fz x H w f1 d h n1 e).imp fun H1 ⟨hv, g1⟩ => ?_
  refine ⟨f2, ⟨[], f2, ⟨rfl, hv⟩, Rts.stay g1.s rs f2 t (fun a ha ob eo => ?_), rfl⟩, n2, fun a ha => hf a (List.mem_append_right _ ha), ⟨kp.f.trans g1.s, fun a u eu nt hn => ?_⟩, fun p hp => ?_⟩
  · rw [g1.r a fun z => n3 a z a ha rfl]; exact eo
  · have e1 := kp.r a u eu nt hn
    rw [g1.r a fun z => ?_]
    · exact e1
    · rcases hf a (List.mem_append_left _ z) with y | y
      · exact hn y
      · rw [y] at eu; cases eu
  · obtain ⟨ps, ep, ht⟩ := tb p hp
    refine ⟨ps, ?_, ht⟩
    rw [g1.r p fun z => (own p z).ntbl ep]
    exact ep

/-! ### a ghost step in the machine's invariant -/
theorem objOk_frz {P : Program} {w : World} {H : Hp} {h : Heap} {a : Addr} {u : HO} {ob : Obj} (e : H a = some u) (f : Fzb u) (x : ObjOk P w H h a u) (eo : h.get? a = some ob) : ObjOk P w (upd H a (.frz ob u)) h a (.frz ob u) := by
  have st := stf_frz (ob := ob) e f
  refine ⟨eo, x.stay (fun _ _ _ q => q) (fun b q => ?_) (fun b xs q => st.tups b xs q)⟩
  rw [upd_ne (fun z => by rw [z, e] at q; cases q; exact f)]
  exact q
theorem inv_frz {X : Cx} {pins : List (Addr × Obj)} {σ : L2.St} {H : Hp} {s : Shared} {a : Addr} {u : HO} (I : Inv X pins σ H s) (e : H a = some u) (f : Fzb u) : ∃ ob, Inv X pins σ (upd H a (.frz ob u)) s := by
  have hx := I.hok a u e
  obtain ⟨ob, eo⟩ : ∃ ob, s.heap.get? a = some ob := by
    cases u with
    | lst xs => obtain ⟨_, _, _, _, q⟩ := hx; exact ⟨_, q⟩
    | dK kvs => obtain ⟨_, _, _, _, o, _, _, q, _⟩ := hx; exact ⟨_, q⟩
    | dT kvs => obtain ⟨_, _, _, _, o, _, _, q, _⟩ := hx; exact ⟨_, q⟩
    | _ => exact f.elim
  have st := stf_frz (ob := ob) e f
  have hne : ∀ b, H b = none → b ≠ a := fun b n z => by rw [z, e] at n; cases n
  refine ⟨ob, I.ok, I.os, I.bare, ⟨I.base.keep, I.base.slot, fun b o q n hx => ?_, I.base.there, fun b xs q => st.tups b xs (I.base.tups b xs q), fun b o x q => st.frzs b o x (I.base.frzs b o x q), fun b ps q => ?_⟩, I.loc, I.cell, ?_, fun x c q => ?_, fun p hp => ?_, fun b x q => ?_, I.len⟩
  · have n2 := I.base.free b o q n hx
    rw [upd_ne (hne b n2)]; exact n2
  · obtain ⟨more, q2⟩ := I.base.tbls b ps q
    refine ⟨more, ?_⟩
    rw [upd_ne (fun z => by rw [z, e] at q2; cases q2; exact f)]
    exact q2
  · rw [upd_ne (hne _ I.free)]; exact I.free
  · rw [upd_ne (hne _ (I.freeC x c q))]; exact I.freeC x c q
  · obtain ⟨p1, p2, p3⟩ := I.pin p hp
    exact ⟨p1, by rw [upd_ne (hne _ p2)]; exact p2, p3⟩
  · by_cases hb : b = a
    · rw [hb, upd_same] at q
      cases q
      rw [hb]
      exact objOk_frz e f hx eo
    · rw [upd_ne hb] at q
      refine (I.hok b x q).stay (fun _ _ _ z => z) (fun c z => ?_) (fun c xs z => st.tups c xs z)
      rw [upd_ne (fun y => by rw [y, e] at z; cases z; exact f)]
      exact z
theorem inv_gh {X : Cx} {pins : List (Addr × Obj)} {σ : L2.St} {s : Shared} {H : Hp} {P : Hp → Prop} (h : Gh H P) (I : Inv X pins σ H s) : ∃ H', Inv X pins σ H' s ∧ P H' := by
  induction h with
  | now h => exact ⟨_, I, h⟩
  | step a u e f _ ih =>
    obtain ⟨ob, I2⟩ := inv_frz I e f
    exact ih ob I2

/-! ### weaker readings; readings with ghost steps behind -/
section
variable {X : Cx} {e : Expr} {es : List Expr} {t t' : TE} {ta ta' : TA} {tt tt' : TT} {st : Stmt} {sts : List Stmt} {ts ts' : TS}
theorem _root_.L2.PE.mono (h : PE X e t) (m : ∀ σ H Q, t' σ H Q → t σ H Q) : PE X e t' := ⟨fun pins s σ H Q I q => h.run pins s σ H Q I (m σ H Q q)⟩
theorem _root_.L2.PT.mono (h : PT X e tt) (m : ∀ σ H Q, tt' σ H Q → tt σ H Q) : PT X e tt' := ⟨fun pins s σ H Q I q => h.run pins s σ H Q I (m σ H Q q)⟩
theorem _root_.L2.PA.mono (h : PA X es ta) (m : ∀ σ H Q, ta' σ H Q → ta σ H Q) : PA X es ta' := ⟨fun pos pins s σ H Q I q => h.run pos pins s σ H Q I (m σ H Q q)⟩
theorem _root_.L2.PS.mono (h : PS X st ts) (m : ∀ D σ H, ts' D σ H → ts D σ H) : PS X st ts' := ⟨fun pins s σ H D I q => h.run pins s σ H D I (m D σ H q)⟩
theorem _root_.L2.PSs.mono (h : PSs X sts ts) (m : ∀ D σ H, ts' D σ H → ts D σ H) : PSs X sts ts' := ⟨fun pins s σ H D I q => h.run pins s σ H D I (m D σ H q)⟩
theorem _root_.L2.PE.gh (h : PE X e t) : PE X e (fun σ H Q => t σ H fun v H1 => Gh H1 (Q v)) := ⟨fun pins s σ H Q I q => thn (h.run pins s σ H _ I q) fun _ _ ⟨v, _, I1, r, z⟩ =>
  let ⟨H2, I2, z2⟩ := inv_gh z I1
  ⟨v, H2, I2, r, z2⟩⟩
theorem _root_.L2.PA.gh (h : PA X es ta) : PA X es (fun σ H Q => ta σ H fun v H1 => Gh H1 (Q v)) := ⟨fun pos pins s σ H Q I q => thn (h.run pos pins s σ H _ I q) fun _ _ ⟨v, _, I1, r, z⟩ =>
  let ⟨H2, I2, z2⟩ := inv_gh z I1
  ⟨v, H2, I2, r, z2⟩⟩
/-- ghost steps ahead -/
theorem _root_.L2.PE.pre (h : PE X e t) : PE X e (fun σ H Q => Gh H fun H1 => t σ H1 Q) := ⟨fun pins s σ H Q I q =>
  let ⟨H2, I2, z2⟩ := inv_gh q I
  h.run pins s σ H2 Q I2 z2⟩
theorem _root_.L2.PS.pre (h : PS X st ts) : PS X st (fun D σ H => Gh H fun H1 => ts D σ H1) := ⟨fun pins s σ H Q I q =>
  let ⟨H2, I2, z2⟩ := inv_gh q I
  h.run pins s σ H2 Q I2 z2⟩
theorem _root_.L2.PSs.pre (h : PSs X sts ts) : PSs X sts (fun D σ H => Gh H fun H1 => ts D σ H1) := ⟨fun pins s σ H Q I q =>
  let ⟨H2, I2, z2⟩ := inv_gh q I
  h.run pins s σ H2 Q I2 z2⟩
end
end DL


set_option maxHeartbeats 1000000
namespace DL
open PySem PySem.Spec PyProof.Rows L2

abbrev Env := List Sl
/-- an error: its class, its fields -/
structure Ex where
  C : Addr
  ns : List Str
  vs : List D
/-- what a piece of code does: not served, a value and the slots, an error -/
inductive Rs (α : Type) where
  | bad
  | ok (a : α) (e : Env)
  | ex (x : Ex)
def Rs.bind {α β : Type} : Rs α → (α → Env → Rs β) → Rs β
  | .bad, _ => .bad
  | .ok a e, f => f a e
  | .ex x, _ => .ex x
@[simp] theorem Rs.bind_ok {α β : Type} (a : α) (e : Env) (f : α → Env → Rs β) : (Rs.ok a e).bind f = f a e := rfl
@[simp] theorem Rs.bind_bad {α β : Type} (f : α → Env → Rs β) : (Rs.bad : Rs α).bind f = .bad := rfl
@[simp] theorem Rs.bind_ex {α β : Type} (x : Ex) (f : α → Env → Rs β) : (Rs.ex x : Rs α).bind f = .ex x := rfl
/-- what is to be shown of it -/
def Rs.Wp {α : Type} (r : Rs α) (k : α → Env → Prop) (h : Ex → Prop) : Prop := match r with
  | .bad => False
  | .ok a e => k a e
  | .ex x => h x
theorem Rs.Wp.bind {α β : Type} {r : Rs α} {f : α → Env → Rs β} {k : β → Env → Prop} {h : Ex → Prop} (w : (r.bind f).Wp k h) : r.Wp (fun a e => (f a e).Wp k h) h := by
  cases r with
  | bad => exact w
  | ok a e => exact w
  | ex x => exact w
theorem Rs.Wp.imp {α : Type} {r : Rs α} {k k' : α → Env → Prop} {h h' : Ex → Prop} (w : r.Wp k h) (i : ∀ a e, r = .ok a e → k a e → k' a e) (j : ∀ x, h x → h' x) : r.Wp k' h' := by
  cases r with
  | bad => exact w
  | ok a e => exact i a e rfl w
  | ex x => exact j x w
abbrev Ev := Env → Rs Sl
/-- an option's value -/
def Rs.of {α : Type} (o : Option α) (e : Env) : Rs α := match o with
  | some a => .ok a e
  | none => .bad
@[simp] theorem Rs.of_some {α : Type} (a : α) (e : Env) : Rs.of (some a) e = .ok a e := rfl
@[simp] theorem Rs.of_none {α : Type} (e : Env) : Rs.of (none : Option α) e = .bad := rfl
theorem Rs.Wp.of {α : Type} {o : Option α} {e : Env} {k : α → Env → Prop} {h : Ex → Prop} (w : (Rs.of o e).Wp k h) : ∃ a, o = some a ∧ k a e := by
  cases o with
  | none => exact w.elim
  | some a => exact ⟨a, rfl, w⟩
def pr (env : Env) (σ : L2.St) : List (Sl × Option V) := env.zip σ
theorem pr_get {env : Env} {σ : L2.St} {i : Nat} {s : Sl} {w : Option V} (h : env[i]? = some s) (h2 : σ[i]? = some w) : (s, w) ∈ pr env σ := by
  refine List.mem_of_getElem? (i := i) ?_
  unfold pr
  rw [List.getElem?_zip_eq_some]
  exact ⟨h, h2⟩
theorem pr_split {env : Env} {σ : L2.St} {i : Nat} {s : Sl} (len : env.length = σ.length) (h : env[i]? = some s) :
    ∃ w l1 l2, σ[i]? = some w ∧ pr env σ = l1 ++ (s, w) :: l2 ∧ ∀ s' w', pr (env.set i s') (σ.set i w') = l1 ++ (s', w') :: l2 := by
  induction env generalizing σ i with
  | nil => simp at h
  | cons x env ih =>
    cases σ with
    | nil => simp at len
    | cons y σ =>
      cases i with
      | zero =>
        simp at h
        subst h
        exact ⟨y, [], pr env σ, rfl, rfl, fun s' w' => rfl⟩
      | succ i =>
        obtain ⟨w, l1, l2, e1, e2, e3⟩ := ih (σ := σ) (i := i) (by simpa using len) (by simpa using h)
        refine ⟨w, (x, y) :: l1, l2, by simpa using e1, ?_, fun s' w' => ?_⟩
        · show (x, y) :: pr env σ = _
          rw [e2]; rfl
        · show (x, y) :: pr (env.set i s') (σ.set i w') = _
          rw [e3]; rfl

/-- the slot i, if something is told of it -/
def gt (e : Env) (i : Nat) : Option Sl := match e[i]? with
  | some .u => none
  | x => x
theorem gt_some {e : Env} {i : Nat} {s : Sl} (h : gt e i = some s) : e[i]? = some s ∧ s ≠ .u := by
  unfold gt at h
  cases q : e[i]? with
  | none => rw [q] at h; cases h
  | some x =>
    rw [q] at h
    cases x <;> first | (cases h; exact ⟨rfl, fun z => by cases z⟩) | cases h

section
variable {K : Frg} {T : List Addr} {g : G} {H H' : Hp} {rs : List (Sl × Option V)} {ts : List (Sl × Option V)} {env env' : Env} {σ : L2.St} {s : Sl} {d : D} {v : V} {w : Option V} {i : Nat}
theorem Rp.val {s : Sl} {f : List Addr} (h : Rp K H s w f) (hu : s ≠ .u) : ∃ v, w = some v := by
  cases s with
  | u => exact (hu rfl).elim
  | v d => obtain ⟨_, v, e, _⟩ := h; exact ⟨v, e⟩
  | o xs => obtain ⟨a, _, _, e, _⟩ := h; exact ⟨_, e⟩
  | k ks xs => obtain ⟨a, _, e, _⟩ := h; exact ⟨_, e⟩
  | t ks xs => obtain ⟨a, _, e, _⟩ := h; exact ⟨_, e⟩
  | i C ns xs => obtain ⟨a, _, _, _, e, _⟩ := h; exact ⟨_, e⟩
theorem Rel.slot (len : env.length = σ.length) (R : Rel K T g (pr env σ ++ ts) H) (h : gt env i = some s) : ∃ v f, σ[i]? = some (some v) ∧ Rp K H s (some v) f := by
  obtain ⟨h1, hu⟩ := gt_some h
  obtain ⟨w, l1, l2, e1, e2, _⟩ := pr_split len h1
  obtain ⟨f, q⟩ := R.get (y := (s, w)) (List.mem_append_left _ (by rw [e2]; simp))
  obtain ⟨v, rfl⟩ := q.val hu
  exact ⟨v, f, e1, q⟩
/-- the slot's root in front -/
theorem Rel.out (len : env.length = σ.length) (R : Rel K T g (pr env σ ++ ts) H) (h : env[i]? = some s) : ∃ w l, σ[i]? = some w ∧ Rel K T g ((s, w) :: (l ++ ts)) H ∧
    (∀ H' s', Rel K T g ((s', w) :: (l ++ ts)) H' → Rel K T g (pr (env.set i s') σ ++ ts) H') ∧ ∀ H' s' w' tt, Rel K T g ((s', w') :: (l ++ tt)) H' → Rel K T g (pr (env.set i s') (σ.set i w') ++ tt) H' := by
  obtain ⟨w, l1, l2, e1, e2, e3⟩ := pr_split len h
  have back : ∀ H' s' w' tt, Rel K T g ((s', w') :: (l1 ++ l2 ++ tt)) H' → Rel K T g (pr (env.set i s') (σ.set i w') ++ tt) H' := fun H' s' w' tt R' => by
    rw [e3 s' w', List.append_assoc, List.cons_append]
    rw [List.append_assoc] at R'
    exact R'.perm List.perm_middle.symm
  refine ⟨w, l1 ++ l2, e1, ?_, fun H' s' R' => ?_, back⟩
  · rw [e2, List.append_assoc, List.cons_append] at R
    rw [List.append_assoc]
    exact R.perm List.perm_middle
  · have q := back H' s' w ts R'
    have es : σ.set i w = σ := by
      obtain ⟨hi, he⟩ := List.getElem?_eq_some_iff.mp e1
      rw [← he]; exact List.set_getElem_self hi
    rw [es] at q
    exact q
end

/-- as many slots as there are -/
def Ln (g : G) (env : Env) (σ : L2.St) : Prop := env.length = σ.length ∧ σ.length = g.n
theorem Ln.set {g : G} {env : Env} {σ : L2.St} {i : Nat} {s : Sl} (l : Ln g env σ) : Ln g (env.set i s) σ := ⟨by rw [List.length_set]; exact l.1, l.2⟩
theorem Ln.set2 {g : G} {env : Env} {σ : L2.St} {i : Nat} {s : Sl} {w : Option V} (l : Ln g env σ) : Ln g (env.set i s) (σ.set i w) := ⟨by rw [List.length_set, List.length_set]; exact l.1, by rw [List.length_set]; exact l.2⟩

/-! ### expressions -/
/-- an error's own dict -/
def ExRep (K : Frg) (H : Hp) (x : Ex) (d : Addr) : Prop := ∃ fs, H d = some (.xd fs) ∧ fs.map (·.1) = x.ns ∧ RepDs K H x.vs (fs.map (·.2))
def exW (K : Frg) (T : List Addr) (g : G) (W : XK) (x : Ex) : Prop := ∀ d H', Kp g.H0 H' g.fp → Tabs T H' → ExRep K H' x d → W (.ref x.C) (some d) H'
def rdE (K : Frg) (T : List Addr) (W : XK) (f : Ev) : TE := fun σ H Q => ∃ g env ts, Ln g env σ ∧ Rel K T g (pr env σ ++ ts) H ∧
  (f env).Wp (fun r env' => ∀ v H', Ln g env' σ → Rel K T g ((r, some v) :: (pr env' σ ++ ts)) H' → Q v H') (exW K T g W)
structure DE (X : Cx) (T : List Addr) (W : XK) (e : Expr) (f : Ev) : Prop where
  pe : PE X e (rdE X.K T W f)
inductive Opd where
  | nm (i : Nat)
  | ex (f : Ev)
def rdO (K : Frg) (T : List Addr) (W : XK) : Opd → TE
  | .nm i => tVar i
  | .ex f => rdE K T W f
structure DO (X : Cx) (T : List Addr) (W : XK) (e : Expr) (o : Opd) : Prop where
  pe : PE X e (rdO X.K T W o)
theorem d_opn {X : Cx} {T : List Addr} {W : XK} {e : Expr} {i : Nat} (h : PE X e (tVar i)) : DO X T W e (.nm i) := ⟨h⟩
theorem d_opx {X : Cx} {T : List Addr} {W : XK} {e : Expr} {f : Ev} (h : DE X T W e f) : DO X T W e (.ex f) := ⟨h.pe⟩

def evA : List Opd → Env → Rs (List (Option Sl))
  | [], e => .ok [] e
  | .nm i :: as, e => (Rs.of (gt e i) e).bind fun _ _ => (evA as e).bind fun rs e1 => .ok (none :: rs) e1
  | .ex f :: as, e => (f e).bind fun r e1 => (evA as e1).bind fun rs e2 => .ok (some r :: rs) e2
def tmps : List (Option Sl) → List V → List (Sl × Option V)
  | none :: rs, _ :: vs => tmps rs vs
  | some r :: rs, v :: vs => (r, some v) :: tmps rs vs
  | _, _ => []
/-- results and values, argument by argument -/
def named (σ : L2.St) : List Opd → List (Option Sl) → List V → Prop
  | [], rs, vs => rs = [] ∧ vs = []
  | .nm i :: as, rs, vs => ∃ v r q, rs = none :: q ∧ vs = v :: r ∧ σ[i]? = some (some v) ∧ named σ as q r
  | .ex _ :: as, rs, vs => ∃ v r x q, rs = some x :: q ∧ vs = v :: r ∧ named σ as q r
def nestA : List TE → TA
  | [] => tNil
  | t :: ts => tCons t (nestA ts)
theorem nest_of {K : Frg} {T : List Addr} {W : XK} {g : G} {σ : L2.St} : ∀ (as : List Opd) (env : Env) (ts : List (Sl × Option V)) (H : Hp) (Q : List V → Hp → Prop), Ln g env σ → Rel K T g (pr env σ ++ ts) H →
    (evA as env).Wp (fun rs env' => ∀ vs H', Ln g env' σ → named σ as rs vs → Rel K T g (tmps rs vs ++ (pr env' σ ++ ts)) H' → Q vs H') (exW K T g W) → nestA (as.map (rdO K T W)) σ H Q
  | [], env, ts, H, Q, len, R, h => h [] H len ⟨rfl, rfl⟩ R
  | .nm i :: as, env, ts, H, Q, len, R, h => by
    obtain ⟨s, q, h⟩ := Rs.Wp.of (Rs.Wp.bind h)
    have h := Rs.Wp.bind h
    obtain ⟨v, f, hv, _⟩ := Rel.slot len.1 R q
    exact ⟨v, hv, nest_of as env ts H _ len R (h.imp (fun rs1 e1 _ k vs H' len' nm R' => k (v :: vs) H' len' ⟨v, vs, rs1, rfl, rfl, hv, nm⟩ R') fun _ z => z)⟩
  | .ex f :: as, env, ts, H, Q, len, R, h => by
    refine ⟨g, env, ts, len, R, (Rs.Wp.bind h).imp (fun r e1 _ h v H1 len1 R1 => ?_) fun _ z => z⟩
    refine nest_of as e1 ((r, some v) :: ts) H1 _ len1 (R1.perm List.perm_middle.symm) ((Rs.Wp.bind h).imp (fun rs1 e2 _ k vs H' len' nm R' => k (v :: vs) H' len' ⟨v, vs, r, rs1, rfl, rfl, nm⟩ ?_) fun _ z => z)
    show Rel K T g ((r, some v) :: (tmps rs1 vs ++ (pr e2 σ ++ ts))) H'
    refine R'.perm ?_
    refine (List.Perm.append_left _ List.perm_middle).trans ?_
    exact List.perm_middle
/-- the arguments of a call -/
structure DA (X : Cx) (T : List Addr) (W : XK) (es : List Expr) (as : List Opd) : Prop where
  pa : PA X es (nestA (as.map (rdO X.K T W)))
theorem da_nil {X : Cx} {T : List Addr} {W : XK} : DA X T W [] [] := ⟨pa_nil⟩
theorem da_cons {X : Cx} {T : List Addr} {W : XK} {e : Expr} {es : List Expr} {o : Opd} {as : List Opd} (h : DO X T W e o) (t : DA X T W es as) (hs : starEach (e :: es) X.env = (false, eval e X.env) :: starEach es X.env := by rfl) : DA X T W (e :: es) (o :: as) :=
  ⟨pa_cons h.pe t.pa hs⟩

/-! ### operations that change nothing -/
/-- what the arguments are -/
def cont : List Opd → List (Option Sl) → Env → List Sl
  | .nm i :: as, _ :: rs, e => e.getD i .u :: cont as rs e
  | .ex _ :: as, some r :: rs, e => r :: cont as rs e
  | .ex _ :: as, none :: rs, e => .u :: cont as rs e
  | _, _, _ => []
def Seen (K : Frg) (H : Hp) : List Sl → List V → Prop
  | [], vs => vs = []
  | x :: xs, vs => ∃ v r, vs = v :: r ∧ (∃ f, Rp K H x (some v) f) ∧ Seen K H xs r
theorem seen_of {K : Frg} {T : List Addr} {g : G} {σ : L2.St} {H : Hp} {env : Env} (len : env.length = σ.length) {ts : List (Sl × Option V)} : ∀ (as : List Opd) (rs : List (Option Sl)) (vs : List V), named σ as rs vs →
    Rel K T g (tmps rs vs ++ (pr env σ ++ ts)) H → Seen K H (cont as rs env) vs
  | [], rs, vs, ⟨e, e2⟩, R => by subst e; exact e2
  | .nm i :: as, rs, vs, ⟨v, r, q, e, e2, hv, nm⟩, R => by
    subst e e2
    have hi : i < σ.length := (List.getElem?_eq_some_iff.mp hv).1
    refine ⟨v, r, rfl, ?_, seen_of len as q r nm R⟩
    have he : env[i]? = some (env.getD i .u) := by
      rw [List.getD_eq_getElem?_getD]
      have : i < env.length := by omega
      simp [this]
    exact R.drop.get (y := (env.getD i .u, some v)) (List.mem_append_left _ (pr_get he hv))
  | .ex f :: as, rs, vs, ⟨v, r, x, q, e, e2, nm⟩, R => by
    subst e e2
    have R1 : Rel K T g ((x, some v) :: (tmps q r ++ (pr env σ ++ ts))) H := R
    exact ⟨v, r, rfl, R1.head, seen_of len as q r nm R1.tail⟩
/-- a result that owns only new things -/
def Res (K : Frg) (H H' : Hp) (q : Sl) (v : V) : Prop := (∀ a u, H a = some u → H' a = some u) ∧ ∃ fq, Rp K H' q (some v) fq ∧ fq.Nodup ∧ ∀ a ∈ fq, H a = none
theorem Res.same {K : Frg} {H : Hp} {d : D} {v : V} (h : RepD K H d v) : Res K H H (.v d) v := ⟨fun _ _ h => h, [], ⟨rfl, v, rfl, h⟩, List.nodup_nil, fun _ z => nomatch z⟩
theorem Rel.res {K : Frg} {T : List Addr} {g : G} {H H' : Hp} {rs : List (Sl × Option V)} {q : Sl} {v : V} (R : Rel K T g rs H) (r : Res K H H' q v) : Rel K T g ((q, some v) :: rs) H' := by
  obtain ⟨k, fq, hq, nd, hn⟩ := r
  have hf := fun a ha => R.nfresh (hn a ha)
  obtain ⟨fp0, q0, _⟩ := id R
  obtain ⟨fp, h, nd2, hf2, kp, tb⟩ := R
  refine ⟨fq ++ fp, ⟨fq, fp, hq, Rts.stay (.ext k) rs fp h fun a _ => k a, rfl⟩, List.nodup_append.mpr ⟨nd, nd2, fun a ha b hb e => ?_⟩, fun a ha => ?_, ⟨kp.f.trans (.ext k), fun a u e nt hn => k a u (kp.r a u e nt hn)⟩, tb.ext k⟩
  · subst e
    exact (Rts.own rs fp h a hb).nnone (hn a ha)
  · rcases List.mem_append.mp ha with z | z
    · exact hf a z
    · exact hf2 a z
/-- r, a rule's reading by values, does what op says -/
def RO (K : Frg) (r : List V → Hp → VK → Prop) (op : List Sl → Option Sl) : Prop :=
  ∀ H xs vs q Q, Seen K H xs vs → op xs = some q → (∀ v H', Res K H H' q v → Q v H') → r vs H Q
def opS (op : List Sl → Option Sl) (as : List Opd) : Ev := fun env => (evA as env).bind fun rs e => Rs.of (op (cont as rs e)) e
theorem op_nest {K : Frg} {T : List Addr} {W : XK} {r : List V → Hp → VK → Prop} {op : List Sl → Option Sl} (ro : RO K r op) (as : List Opd) (σ : L2.St) (H : Hp) (Q : VK) (h : rdE K T W (opS op as) σ H Q) :
    nestA (as.map (rdO K T W)) σ H fun vs H2 => r vs H2 Q := by
  obtain ⟨g, env, ts, len, R, h⟩ := h
  refine nest_of as env ts H _ len R ((Rs.Wp.bind h).imp (fun rs e _ h vs H' len' nm R' => ?_) fun _ z => z)
  obtain ⟨q, hq, k⟩ := Rs.Wp.of h
  exact ro H' _ vs q Q (seen_of len'.1 as rs vs nm R') hq fun v H2 rz => k v H2 len' (R'.drop.res rz)
/-- f(e, ..), f a built-in -/
theorem d_callB {X : Cx} {T : List Addr} {W : XK} {r : List V → Hp → VK → Prop} {op : List Sl → Option Sl} {es : List Expr} {as : List Opd} {e : Expr}
    (pe : ∀ {t : TA}, PA X es t → PE X e (tCB r t)) (ro : RO X.K r op) (ha : DA X T W es as) : DE X T W e (opS op as) :=
  ⟨(pe ha.pa).mono fun σ H Q h => op_nest ro as σ H Q h⟩
def r2L (r : R2) : List V → Hp → VK → Prop := fun vs H Q => ∃ x y, vs = [x, y] ∧ r x y H Q
def r1L (r : V → Hp → VK → Prop) : List V → Hp → VK → Prop := fun vs H Q => ∃ x, vs = [x] ∧ r x H Q
theorem rdO_imp {K : Frg} {T : List Addr} {W : XK} {σ : L2.St} {o : Opd} {P P' : VK} {H : Hp} (im : ∀ v H', P v H' → P' v H') (h : rdO K T W o σ H P) : rdO K T W o σ H P' := by
  cases o with
  | nm i => exact ⟨h.choose, h.choose_spec.1, im _ _ h.choose_spec.2⟩
  | ex f =>
    obtain ⟨g, env, ts, h1, h2, h3⟩ := h
    exact ⟨g, env, ts, h1, h2, h3.imp (fun a e _ k v H' l r => im _ _ (k v H' l r)) fun _ z => z⟩
theorem op_nest2 {K : Frg} {T : List Addr} {W : XK} {r : R2} {op : List Sl → Option Sl} (ro : RO K (r2L r) op) (A B : Opd) (σ : L2.St) (H : Hp) (Q : VK) (h : rdE K T W (opS op [A, B]) σ H Q) : tOp r (rdO K T W A) (rdO K T W B) σ H Q := by
  refine rdO_imp (fun v H' h1 => rdO_imp (fun v2 H2 h2 => ?_) h1) (op_nest ro [A, B] σ H Q h)
  obtain ⟨x, y, e, h⟩ := h2
  cases e
  exact h
theorem op_nest1 {K : Frg} {T : List Addr} {W : XK} {r : V → Hp → VK → Prop} {op : List Sl → Option Sl} (ro : RO K (r1L r) op) (A : Opd) (σ : L2.St) (H : Hp) (Q : VK) (h : rdE K T W (opS op [A]) σ H Q) : tUn r (rdO K T W A) σ H Q := by
  refine rdO_imp (fun v H' h1 => ?_) (op_nest ro [A] σ H Q h)
  obtain ⟨x, e, h⟩ := h1
  cases e
  exact h
theorem d_bin {X : Cx} {T : List Addr} {W : XK} {a b e : Expr} {A B : Opd} {r : R2} {op : List Sl → Option Sl} (pe : ∀ {ta tb : TE}, PE X a ta → PE X b tb → PE X e (tOp r ta tb)) (ro : RO X.K (r2L r) op) (ha : DO X T W a A) (hb : DO X T W b B) : DE X T W e (opS op [A, B]) :=
  ⟨(pe ha.pe hb.pe).mono fun σ H Q h => op_nest2 ro A B σ H Q h⟩
theorem d_un {X : Cx} {T : List Addr} {W : XK} {a e : Expr} {A : Opd} {r : V → Hp → VK → Prop} {op : List Sl → Option Sl} (pe : ∀ {ta : TE}, PE X a ta → PE X e (tUn r ta)) (ro : RO X.K (r1L r) op) (ha : DO X T W a A) : DE X T W e (opS op [A]) :=
  ⟨(pe ha.pe).mono fun σ H Q h => op_nest1 ro A σ H Q h⟩

/-! ### names and constants -/
/-- a name as a value: what it owns is frozen -/
def vVar (i : Nat) : Ev := fun e => (Rs.of ((gt e i).bind toD) e).bind fun d e => .ok (.v d) (e.set i (.v d))
theorem d_var {X : Cx} {T : List Addr} {W : XK} {e : Expr} {i : Nat} (h : PE X e (tVar i)) : DE X T W e (vVar i) := ⟨(PE.pre h).mono fun σ H Q q => by
  obtain ⟨g, env, ts, len, R, he⟩ := q
  obtain ⟨d, q1, k⟩ := Rs.Wp.of (Rs.Wp.bind he)
  obtain ⟨s, q1, q2⟩ := Option.bind_eq_some_iff.mp q1
  obtain ⟨v, f, hv, hr⟩ := Rel.slot len.1 R q1
  obtain ⟨w, l, e1, R1, back, _⟩ := Rel.out len.1 R (gt_some q1).1
  rw [hv] at e1
  cases e1
  refine (R1.fz q2).imp fun H1 R2 => ⟨v, hv, k v H1 len.set ?_⟩
  exact (back H1 _ R2).pushD (R2.getD List.mem_cons_self)⟩
def vC (d : D) : Ev := fun e => .ok (.v d) e
theorem d_const {X : Cx} {T : List Addr} {W : XK} {e : Expr} {d : D} {v : V} (h : PE X e (tC v)) (r : ∀ H, RepD X.K H d v) : DE X T W e (vC d) := ⟨h.mono fun σ H Q q => by
  obtain ⟨g, env, ts, len, R, k⟩ := q
  exact k v H len (R.pushD (r H))⟩
theorem d_int {X : Cx} {T : List Addr} {W : XK} {i : Int} {j pos} : DE X T W (.Constant (.int i) j pos) (vC (.int i)) := d_const pe_int fun _ => rfl
theorem d_bl {X : Cx} {T : List Addr} {W : XK} {b : Bool} {j pos} : DE X T W (.Constant (.bool b) j pos) (vC (.bl b)) := d_const pe_bl fun _ => rfl
theorem d_non {X : Cx} {T : List Addr} {W : XK} {j pos} : DE X T W (.Constant .none j pos) (vC .non) := d_const pe_non fun _ => rfl
theorem d_str {X : Cx} {T : List Addr} {W : XK} {x : Str} {j pos} : DE X T W (.Constant (.str x) j pos) (vC (.str x)) := d_const pe_str fun _ => rfl

/-! ### displays -/
/-- the arguments as frozen values: a name's things are frozen, too -/
def frzA : List Opd → List (Option Sl) → Env → Rs (List D)
  | .nm i :: as, _ :: rs, e => (Rs.of ((gt e i).bind toD) e).bind fun d e => (frzA as rs (e.set i (.v d))).bind fun ds e2 => .ok (d :: ds) e2
  | .ex _ :: as, some r :: rs, e => (Rs.of (toD r) e).bind fun d e => (frzA as rs e).bind fun ds e2 => .ok (d :: ds) e2
  | [], [], e => .ok [] e
  | _, _, _ => .bad
/-- what frozen arguments make: roots, all frozen -/
theorem frz_of {K : Frg} {T : List Addr} {g : G} {σ : L2.St} {ts : List (Sl × Option V)} {kE : Ex → Prop} : ∀ (as : List Opd) (rs : List (Option Sl)) (vs : List V) (env : Env) (H : Hp) (k : List D → Env → Prop), named σ as rs vs → Ln g env σ → Rel K T g (tmps rs vs ++ (pr env σ ++ ts)) H →
    (frzA as rs env).Wp k kE → Gh H fun H' => ∃ ds env', k ds env' ∧ Ln g env' σ ∧ RepDs K H' ds vs ∧ Rel K T g (pr env' σ ++ ts) H'
  | [], rs, vs, env, H, k, ⟨e1, e2⟩, len, R, h => by
    subst e1 e2
    exact .now ⟨[], env, h, len, rfl, R⟩
  | .nm i :: as, rs, vs, env, H, k, ⟨v, r, q, e1, e2, hv, nm⟩, len, R, h => by
    subst e1 e2
    obtain ⟨d, q1, h⟩ := Rs.Wp.of (Rs.Wp.bind h)
    obtain ⟨s, q1, q2⟩ := Option.bind_eq_some_iff.mp q1
    have R0 : Rel K T g (pr env σ ++ (tmps q r ++ ts)) H := R.perm (List.perm_append_comm_assoc _ _ _)
    obtain ⟨w, l, ew, R1, back, _⟩ := Rel.out len.1 R0 (gt_some q1).1
    rw [hv] at ew
    cases ew
    refine (R1.fz q2).bind fun H1 R2 => ?_
    have hd := R2.getD (d := d) (v := v) List.mem_cons_self
    have R3 := back H1 _ R2
    have len3 : Ln g (env.set i (.v d)) σ := len.set
    -- the value is kept as a root through the rest
    have R4 : Rel K T g (tmps q r ++ (pr (env.set i (.v d)) σ ++ ((.v d, some v) :: ts))) H1 := (R3.pushD hd).perm (by
      refine List.Perm.trans ?_ (List.perm_append_comm_assoc _ _ _)
      refine List.Perm.trans ?_ (List.Perm.append_left _ List.perm_middle.symm)
      exact List.perm_middle.symm)
    refine (frz_of as q r _ H1 _ nm len3 R4 (Rs.Wp.bind h)).imp fun H2 ⟨ds, e2, hk, len2, hr, R5⟩ => ?_
    have R6 := R5.perm List.perm_middle
    exact ⟨d :: ds, e2, hk, len2, ⟨v, r, rfl, R6.getD List.mem_cons_self, hr⟩, R6.tail⟩
  | .ex f :: as, rs, vs, env, H, k, ⟨v, r, x, q, e1, e2, nm⟩, len, R, h => by
    subst e1 e2
    obtain ⟨d, q1, h⟩ := Rs.Wp.of (Rs.Wp.bind h)
    have R0 : Rel K T g ((x, some v) :: (tmps q r ++ (pr env σ ++ ts))) H := R
    refine (R0.fz q1).bind fun H1 R1 => ?_
    have R4 : Rel K T g (tmps q r ++ (pr env σ ++ ((.v d, some v) :: ts))) H1 := R1.perm (by
      refine List.Perm.trans ?_ (List.Perm.append_left _ List.perm_middle.symm)
      exact List.perm_middle.symm)
    refine (frz_of as q r _ H1 _ nm len R4 (Rs.Wp.bind h)).imp fun H2 ⟨ds, e2, hk, len2, hr, R5⟩ => ?_
    have R6 := R5.perm List.perm_middle
    exact ⟨d :: ds, e2, hk, len2, ⟨v, r, rfl, R6.getD List.mem_cons_self, hr⟩, R6.tail⟩
theorem RepDs.length {K : Frg} {H : Hp} : ∀ (ds : List D) (vs : List V), RepDs K H ds vs → ds.length = vs.length
  | [], vs, h => by rw [show vs = [] from h]; rfl
  | d :: ds, _, ⟨v, r, e, _, t⟩ => by rw [e, List.length_cons, List.length_cons, RepDs.length ds r t]
def vTg (k : TK) (as : List Opd) : Ev := fun env => (evA as env).bind fun rs e => (frzA as rs e).bind fun ds e2 => .ok (.v (.tg k ds)) e2
abbrev vTup (as : List Opd) : Ev := vTg .w as
abbrev vTupR (as : List Opd) : Ev := vTg .r as
abbrev vTupF (as : List Opd) : Ev := vTg .f as
theorem named_len {σ : L2.St} : ∀ {as : List Opd} {rs : List (Option Sl)} {vs : List V}, named σ as rs vs → vs.length = as.length
  | [], rs, vs, ⟨_, e⟩ => by rw [e]; rfl
  | .nm i :: as, rs, vs, ⟨v, r, q, _, e, _, nm⟩ => by rw [e, List.length_cons, List.length_cons, named_len nm]
  | .ex f :: as, rs, vs, ⟨v, r, x, q, _, e, nm⟩ => by rw [e, List.length_cons, List.length_cons, named_len nm]
theorem d_tgx {X : Cx} {T : List Addr} {W : XK} {es : List Expr} {as : List Opd} {k pos} {kd : TK} (hk : ∀ (H : Hp) p vs, TpK kd X.K (upd H p (.tup vs)) p vs) (ha : DA X T W es as) (hl : as.length ≤ sizeLine) : DE X T W (.Tuple es k pos) (vTg kd as) :=
  ⟨(pe_tup (PA.gh ha.pa)).mono fun σ H Q h => by
    obtain ⟨g, env, ts, len, R, h⟩ := h
    refine nest_of as env ts H _ len R ((Rs.Wp.bind h).imp (fun rs e _ h vs H1 len1 nm R1 => ?_) fun _ z => z)
    refine (frz_of as rs vs e H1 _ nm len1 R1 (Rs.Wp.bind h)).imp fun H2 ⟨ds, e2, h, len2, hr, R2⟩ => ⟨by rw [named_len nm]; exact hl, fun p hp => ?_⟩
    have R3 := R2.fresh (u := .tup vs) hp
    exact h _ _ len2 (R3.pushD ⟨p, vs, rfl, hk _ _ _, RepDs.stay (.ext (ext_upd hp)) ds vs hr⟩)⟩
theorem d_tup {X : Cx} {T : List Addr} {W : XK} {es : List Expr} {as : List Opd} {k pos} (ha : DA X T W es as) (hl : as.length ≤ sizeLine := by decide) : DE X T W (.Tuple es k pos) (vTup as) := d_tgx (fun _ _ _ => SqT.of upd_same) ha hl
theorem d_tupR {X : Cx} {T : List Addr} {W : XK} {es : List Expr} {as : List Opd} {k pos} (ha : DA X T W es as) (hl : as.length ≤ sizeLine := by decide) : DE X T W (.Tuple es k pos) (vTupR as) := d_tgx (fun _ _ _ => upd_same) ha hl
theorem d_tupF {X : Cx} {T : List Addr} {W : XK} {es : List Expr} {as : List Opd} {k pos} (ha : DA X T W es as) (hl : as.length ≤ sizeLine := by decide) : DE X T W (.Tuple es k pos) (vTupF as) :=
  ⟨(pe_tupP (PA.gh ha.pa)).mono fun σ H Q h => by
    obtain ⟨g, env, ts, len, R, h⟩ := h
    refine nest_of as env ts H _ len R ((Rs.Wp.bind h).imp (fun rs e _ h vs H1 len1 nm R1 => ?_) fun _ z => z)
    refine (frz_of as rs vs e H1 _ nm len1 R1 (Rs.Wp.bind h)).imp fun H2 ⟨ds, e2, h, len2, hr, R2⟩ => ⟨by rw [named_len nm]; exact hl, fun p ob hp hd => ?_⟩
    have R3 := R2.fresh (u := .frz ob (.tup vs)) hp
    exact h _ _ len2 (R3.pushD ⟨p, vs, rfl, .inl ⟨ob, upd_same, hd⟩, RepDs.stay (.ext (ext_upd hp)) ds vs hr⟩)⟩
/-- the arguments as they are: a name's things are frozen, others move -/
def movA : List Opd → List (Option Sl) → Env → Rs (List Sl)
  | .nm i :: as, _ :: rs, e => (Rs.of ((gt e i).bind toD) e).bind fun d e => (movA as rs (e.set i (.v d))).bind fun ds e2 => .ok (.v d :: ds) e2
  | .ex _ :: as, some r :: rs, e => (movA as rs e).bind fun ds e2 => .ok (r :: ds) e2
  | [], [], e => .ok [] e
  | _, _, _ => .bad
theorem mov_of {K : Frg} {T : List Addr} {g : G} {σ : L2.St} {ts : List (Sl × Option V)} {kE : Ex → Prop} : ∀ (as : List Opd) (rs : List (Option Sl)) (vs : List V) (env : Env) (H : Hp) (k : List Sl → Env → Prop), named σ as rs vs → Ln g env σ → Rel K T g (tmps rs vs ++ (pr env σ ++ ts)) H →
    (movA as rs env).Wp k kE → Gh H fun H' => ∃ ds env', k ds env' ∧ Ln g env' σ ∧ ds.length = vs.length ∧ Rel K T g ((ds.zip (vs.map some)) ++ (pr env' σ ++ ts)) H'
  | [], rs, vs, env, H, k, ⟨e1, e2⟩, len, R, h => by
    subst e1 e2
    exact .now ⟨[], env, h, len, rfl, R⟩
  | .nm i :: as, rs, vs, env, H, k, ⟨v, r, q, e1, e2, hv, nm⟩, len, R, h => by
    subst e1 e2
    obtain ⟨d, q1, h⟩ := Rs.Wp.of (Rs.Wp.bind h)
    obtain ⟨s, q1, q2⟩ := Option.bind_eq_some_iff.mp q1
    have R0 : Rel K T g (pr env σ ++ (tmps q r ++ ts)) H := R.perm (List.perm_append_comm_assoc _ _ _)
    obtain ⟨w, l, ew, R1, back, _⟩ := Rel.out len.1 R0 (gt_some q1).1
    rw [hv] at ew
    cases ew
    refine (R1.fz q2).bind fun H1 R2 => ?_
    have hd := R2.getD (d := d) (v := v) List.mem_cons_self
    have R3 := back H1 _ R2
    have len3 : Ln g (env.set i (.v d)) σ := len.set
    have R4 : Rel K T g (tmps q r ++ (pr (env.set i (.v d)) σ ++ ((.v d, some v) :: ts))) H1 := (R3.pushD hd).perm (by
      refine List.Perm.trans ?_ (List.perm_append_comm_assoc _ _ _)
      refine List.Perm.trans ?_ (List.Perm.append_left _ List.perm_middle.symm)
      exact List.perm_middle.symm)
    refine (mov_of as q r _ H1 _ nm len3 R4 (Rs.Wp.bind h)).imp fun H2 ⟨ds, e2, hk, len2, hl, R5⟩ => ?_
    refine ⟨.v d :: ds, e2, hk, len2, by rw [List.length_cons, List.length_cons, hl], R5.perm ?_⟩
    exact (List.Perm.append_left _ List.perm_middle).trans List.perm_middle
  | .ex f :: as, rs, vs, env, H, k, ⟨v, r, x, q, e1, e2, nm⟩, len, R, h => by
    subst e1 e2
    have R0 : Rel K T g ((x, some v) :: (tmps q r ++ (pr env σ ++ ts))) H := R
    have R4 : Rel K T g (tmps q r ++ (pr env σ ++ ((x, some v) :: ts))) H := R0.perm (by
      refine List.Perm.trans ?_ (List.Perm.append_left _ List.perm_middle.symm)
      exact List.perm_middle.symm)
    refine (mov_of as q r _ H _ nm len R4 (Rs.Wp.bind h)).imp fun H2 ⟨ds, e2, hk, len2, hl, R5⟩ => ?_
    refine ⟨x :: ds, e2, hk, len2, by rw [List.length_cons, List.length_cons, hl], R5.perm ?_⟩
    exact (List.Perm.append_left _ List.perm_middle).trans List.perm_middle
theorem rps_of {K : Frg} {H : Hp} : ∀ (ds : List Sl) (vs : List V) (fp : List Addr), ds.length = vs.length → (Rts K H (ds.zip (vs.map some)) fp ↔ Rps K H ds vs fp)
  | [], [], fp, _ => ⟨fun h => ⟨rfl, h⟩, fun h => h.2⟩
  | [], _ :: _, fp, h => by cases h
  | _ :: _, [], fp, h => by cases h
  | d :: ds, v :: vs, fp, h => by
    have ih := fun f => rps_of (K := K) (H := H) ds vs f (by simpa using h)
    constructor
    · rintro ⟨f1, f2, h1, h2, e⟩
      exact ⟨v, vs, f1, f2, rfl, h1, (ih f2).mp h2, e⟩
    · rintro ⟨v', r', f1, f2, e1, h1, h2, e⟩
      cases e1
      exact ⟨f1, f2, h1, (ih f2).mpr h2, e⟩
def vLst (as : List Opd) : Ev := fun env => (evA as env).bind fun rs e => (movA as rs e).bind fun ds e2 => .ok (.o ds) e2
theorem d_lst {X : Cx} {T : List Addr} {W : XK} {es : List Expr} {as : List Opd} {pos} (ha : DA X T W es as) (hl : as.length ≤ sizeLine := by decide) : DE X T W (.List es pos) (vLst as) :=
  ⟨(pe_lst (PA.gh ha.pa)).mono fun σ H Q h => by
    obtain ⟨g, env, ts, len, R, h⟩ := h
    refine nest_of as env ts H _ len R ((Rs.Wp.bind h).imp (fun rs e _ h vs H1 len1 nm R1 => ?_) fun _ z => z)
    refine (mov_of as rs vs e H1 _ nm len1 R1 (Rs.Wp.bind h)).imp fun H2 ⟨ds, e2, hk, len2, hl2, R2⟩ => ⟨by rw [named_len nm]; exact hl, fun p hp => ?_⟩
    refine hk _ _ len2 (R2.wrap hp fun fp hr => ?_)
    exact ⟨p, vs, fp, rfl, upd_same, (rps_of ds vs fp hl2).mp hr, rfl⟩⟩
end DL


set_option maxHeartbeats 1000000
namespace DL
open PySem PySem.Spec PyProof.Rows L2

/-! ### tests -/
abbrev Tv := Env → Rs Bool
def rdT (K : Frg) (T : List Addr) (W : XK) (c : Tv) : TT := fun σ H Q => ∃ g env ts, Ln g env σ ∧ Rel K T g (pr env σ ++ ts) H ∧
  (c env).Wp (fun b env' => ∀ H', Ln g env' σ → Rel K T g (pr env' σ ++ ts) H' → Q b H') (exW K T g W)
structure DT (X : Cx) (T : List Addr) (W : XK) (e : Expr) (c : Tv) : Prop where
  pt : PT X e (rdT X.K T W c)
def boolOf : Sl → Option Bool
  | .v (.bl b) => some b
  | _ => none
@[simp] theorem boolOf_bl (b : Bool) : boolOf (.v (.bl b)) = some b := rfl
def tstB (f : Ev) : Tv := fun env => (f env).bind fun r e => Rs.of (boolOf r) e
theorem tst_of {K : Frg} {T : List Addr} {W : XK} {f : Ev} {σ : L2.St} {H : Hp} {Q : Bool → Hp → Prop} (h : rdT K T W (tstB f) σ H Q) : rdE K T W f σ H fun x H' => ∃ k, x = .bl k ∧ Q k H' := by
  obtain ⟨g, env, ts, len, R, h⟩ := h
  refine ⟨g, env, ts, len, R, (Rs.Wp.bind h).imp (fun r e _ h v H' len' R' => ?_) fun _ z => z⟩
  obtain ⟨b, hb, k⟩ := Rs.Wp.of h
  have : r = .v (.bl b) := by
    unfold boolOf at hb
    split at hb
    · cases hb; rfl
    · cases hb
  subst this
  exact ⟨b, R'.getD List.mem_cons_self, k H' len' R'.tail⟩
theorem dt_val {X : Cx} {T : List Addr} {W : XK} {e : Expr} {f : Ev} (h : DE X T W e f) (he : ∀ whole, isTrue e X.env whole = (do let v ← whole; standAt e.pos; holding [v] (truthy v)) := by intro _; rfl) : DT X T W e (tstB f) :=
  ⟨(pt_val h.pe he).mono fun _ _ _ q => tst_of q⟩
theorem dt_cmp {X : Cx} {T : List Addr} {W : XK} {a b e : Expr} {A B : Opd} {r : R2} {op : List Sl → Option Sl} (pt : ∀ {ta tb : TE}, PE X a ta → PE X b tb → PT X e (tTest (tOp r ta tb))) (ro : RO X.K (r2L r) op) (ha : DO X T W a A) (hb : DO X T W b B) :
    DT X T W e (tstB (opS op [A, B])) := ⟨(pt ha.pe hb.pe).mono fun σ H Q q => op_nest2 ro A B σ H _ (tst_of q)⟩
/-- truth -/
def truS : Sl → Option Bool
  | .v .non => some false
  | .v (.bl b) => some b
  | .v (.int i) => some (i != 0)
  | .v (.str x) => if x.length ≤ sizeLine then some ((x.length : Int) != 0) else none
  | .v (.tg _ xs) => some (!xs.isEmpty)
  | .v (.lst xs) => some (!xs.isEmpty)
  | .o xs => some (!xs.isEmpty)
  | .k ks _ => some (!ks.isEmpty)
  | _ => none
theorem Rps.length {K : Frg} {H : Hp} : ∀ (ds : List Sl) (vs : List V) (fp : List Addr), Rps K H ds vs fp → ds.length = vs.length
  | [], vs, fp, h => by rw [h.1]; rfl
  | d :: ds, _, _, ⟨v, r, f1, f2, e, _, t, _⟩ => by rw [e, List.length_cons, List.length_cons, Rps.length ds r f2 t]
theorem empty_iff {α β : Type} {xs : List α} {ys : List β} (h : xs.length = ys.length) : xs.isEmpty = ys.isEmpty := by
  cases xs <;> cases ys <;> first | rfl | simp at h
theorem tru_of {K : Frg} {H : Hp} {s : Sl} {v : V} {f : List Addr} {b : Bool} (h : Rp K H s (some v) f) (e : truS s = some b) : TruV K v H b := by
  cases s with
  | u => cases e
  | v d =>
    obtain ⟨_, v', ev, hd⟩ := h
    cases ev
    cases d with
    | non => cases e; cases hd; rfl
    | bl b => cases e; cases hd; rfl
    | int i => cases e; cases hd; rfl
    | str x =>
      have e' : (if x.length ≤ sizeLine then some ((x.length : Int) != 0) else none) = some b := e
      split at e'
      · cases e'; cases hd; exact ⟨by assumption, rfl⟩
      · cases e'
    | tg _ xs =>
      obtain ⟨a, vs, rfl, ha, hr⟩ := hd
      cases e
      exact .inr (.inl ⟨vs, ha.sq, by rw [empty_iff (RepDs.length xs vs hr)]⟩)
    | lst xs =>
      obtain ⟨a, vs, rfl, ha, hr⟩ := hd
      cases e
      exact .inl ⟨vs, ha.sq, by rw [empty_iff (RepDs.length xs vs hr)]⟩
    | dk ks xs => cases e
    | dt ks xs => cases e
    | cls C => cases e
    | pin ob u => cases e
  | o xs =>
    obtain ⟨a, vs, fq, ew, ha, hr, _⟩ := h
    cases ew
    cases e
    exact .inl ⟨vs, SqL.of ha, by rw [empty_iff (Rps.length xs vs fq hr)]⟩
  | k ks xs =>
    obtain ⟨a, kvs, ew, ha, hk, hr, _⟩ := h
    cases ew
    cases e
    exact .inr (.inr ⟨kvs, ha, by rw [← hk, empty_iff (List.length_map ..)]⟩)
  | t ks xs => cases e
  | i C ns xs => cases e
def truA (A : Opd) : Tv := fun env => (evA [A] env).bind fun rs e => Rs.of ((cont [A] rs e).head?.bind truS) e
theorem dt_truth {X : Cx} {T : List Addr} {W : XK} {a : Expr} {A : Opd} (ha : DO X T W a A) (he : ∀ whole, isTrue a X.env whole = (do let v ← whole; standAt a.pos; holding [v] (truthy v)) := by intro _; rfl) : DT X T W a (truA A) :=
  ⟨(pt_truth ha.pe he).mono fun σ H Q h => by
    obtain ⟨g, env, ts, len, R, h⟩ := h
    have q : nestA ([A].map (rdO X.K T W)) σ H (fun vs H2 => ∃ x, vs = [x] ∧ ∃ k, TruV X.K x H2 k ∧ Q k H2) := nest_of [A] env ts H _ len R ((Rs.Wp.bind h).imp (fun rs e _ h vs H' len' nm R' => by
      obtain ⟨b, hb, k⟩ := Rs.Wp.of h
      have sn : Seen X.K H' (cont [A] rs e) vs := seen_of len'.1 [A] rs vs nm R'
      cases hc : cont [A] rs e with
      | nil => rw [hc] at hb; cases hb
      | cons s l =>
        rw [hc] at hb sn
        obtain ⟨v, r, e1, ⟨f, hf⟩, e2⟩ := sn
        have el : l = [] := by
          have h2 : vs.length = 1 := named_len nm
          rw [e1, List.length_cons] at h2
          have : r = [] := List.eq_nil_of_length_eq_zero (by omega)
          subst this
          cases l with
          | nil => rfl
          | cons _ _ => obtain ⟨_, _, z, _⟩ := e2; cases z
        subst el
        obtain rfl : r = [] := e2
        exact ⟨v, e1, b, tru_of hf hb, k H' len' R'.drop⟩) fun _ z => z)
    refine rdO_imp (fun v H' h1 => ?_) q
    obtain ⟨x, e, h⟩ := h1
    cases e
    exact h⟩
def andT (a b : Tv) : Tv := fun env => (a env).bind fun x e => if x = true then b e else .ok false e
def orT (a b : Tv) : Tv := fun env => (a env).bind fun x e => if x = true then .ok true e else b e
def notT (a : Tv) : Tv := fun env => (a env).bind fun x e => .ok (!x) e
theorem dt_not {X : Cx} {T : List Addr} {W : XK} {a : Expr} {c : Tv} {pos} (h : DT X T W a c) : DT X T W (.UnaryOp .Not a pos) (notT c) := ⟨(pt_not h.pt).mono fun σ H Q q => by
  obtain ⟨g, env, ts, len, R, h⟩ := q
  exact ⟨g, env, ts, len, R, (Rs.Wp.bind h).imp (fun b e _ k H' l r => k H' l r) fun _ z => z⟩⟩
structure DW (X : Cx) (T : List Addr) (W : XK) (e : Expr) (c : Tv) : Prop where
  pw : PW X e (rdT X.K T W c)
theorem _root_.L2.PW.mono {X : Cx} {e : Expr} {tt tt' : TT} (h : PW X e tt) (m : ∀ σ H Q, tt' σ H Q → tt σ H Q) : PW X e tt' := ⟨fun wh pins s σ H Q I q => h.run wh pins s σ H Q I (m σ H Q q)⟩
theorem DW.dt {X : Cx} {T : List Addr} {W : XK} {e : Expr} {c : Tv} (h : DW X T W e c) : DT X T W e c := ⟨h.pw.pt⟩
theorem dw_and1 {X : Cx} {T : List Addr} {W : XK} {a : Expr} {c : Tv} {pos} (h : DT X T W a c) : DW X T W (.BoolOp .And [a] pos) c := ⟨pw_and1 h.pt⟩
theorem dw_or1 {X : Cx} {T : List Addr} {W : XK} {a : Expr} {c : Tv} {pos} (h : DT X T W a c) : DW X T W (.BoolOp .Or [a] pos) c := ⟨pw_or1 h.pt⟩
theorem dw_and {X : Cx} {T : List Addr} {W : XK} {a b : Expr} {rest : List Expr} {c d : Tv} {pos} (h : DT X T W a c) (h2 : DW X T W (.BoolOp .And (b :: rest) pos) d) : DW X T W (.BoolOp .And (a :: b :: rest) pos) (andT c d) :=
  ⟨(pw_and h.pt h2.pw).mono fun σ H Q q => by
    obtain ⟨g, env, ts, len, R, h⟩ := q
    refine ⟨g, env, ts, len, R, (Rs.Wp.bind h).imp (fun b e _ k H' l r => ?_) fun _ z => z⟩
    cases b with
    | true => exact ⟨g, e, ts, l, r, k⟩
    | false => exact k H' l r⟩
theorem dw_or {X : Cx} {T : List Addr} {W : XK} {a b : Expr} {rest : List Expr} {c d : Tv} {pos} (h : DT X T W a c) (h2 : DW X T W (.BoolOp .Or (b :: rest) pos) d) : DW X T W (.BoolOp .Or (a :: b :: rest) pos) (orT c d) :=
  ⟨(pw_or h.pt h2.pw).mono fun σ H Q q => by
    obtain ⟨g, env, ts, len, R, h⟩ := q
    refine ⟨g, env, ts, len, R, (Rs.Wp.bind h).imp (fun b e _ k H' l r => ?_) fun _ z => z⟩
    cases b with
    | true => exact k H' l r
    | false => exact ⟨g, e, ts, l, r, k⟩⟩
/-! ### and, or, not as values; a if t else b -/
def andV (a b : Ev) : Ev := fun env => (a env).bind fun x e => (Rs.of (boolOf x) e).bind fun k e => if k = true then b e else .ok (.v (.bl false)) e
def orV (a b : Ev) : Ev := fun env => (a env).bind fun x e => (Rs.of (boolOf x) e).bind fun k e => if k = true then .ok (.v (.bl true)) e else b e
def notV (a : Ev) : Ev := fun env => (a env).bind fun x e => (Rs.of (boolOf x) e).bind fun k e => .ok (.v (.bl (!k))) e
def ifV (t : Tv) (a b : Ev) : Ev := fun env => (t env).bind fun k e => if k = true then a e else b e
theorem boolOf_eq {r : Sl} {b : Bool} (hb : boolOf r = some b) : r = .v (.bl b) := by
  unfold boolOf at hb
  split at hb
  · cases hb; rfl
  · cases hb
section
variable {X : Cx} {T : List Addr} {W : XK} {a b : Expr} {rest : List Expr} {f h : Ev} {pos : Pos}
theorem d_one {op} (d : DE X T W a f) : DE X T W (.BoolOp op [a] pos) f := ⟨pe_one d.pe⟩
theorem d_and (d1 : DE X T W a f) (d2 : DE X T W (.BoolOp .And (b :: rest) pos) h) : DE X T W (.BoolOp .And (a :: b :: rest) pos) (andV f h) := ⟨(pe_and d1.pe d2.pe).mono fun σ H Q q => by
  obtain ⟨g, env, ts, len, R, q⟩ := q
  refine ⟨g, env, ts, len, R, (Rs.Wp.bind q).imp (fun r e _ q v H' len' R' => ?_) fun _ z => z⟩
  obtain ⟨k, hb, q⟩ := Rs.Wp.of (Rs.Wp.bind q)
  rw [boolOf_eq hb] at R'
  refine ⟨k, R'.getD List.mem_cons_self, ?_⟩
  cases k with
  | true => exact ⟨g, e, ts, len', R'.tail, q⟩
  | false => exact q _ H' len' (R'.tail.pushD rfl)⟩
theorem d_or (d1 : DE X T W a f) (d2 : DE X T W (.BoolOp .Or (b :: rest) pos) h) : DE X T W (.BoolOp .Or (a :: b :: rest) pos) (orV f h) := ⟨(pe_or d1.pe d2.pe).mono fun σ H Q q => by
  obtain ⟨g, env, ts, len, R, q⟩ := q
  refine ⟨g, env, ts, len, R, (Rs.Wp.bind q).imp (fun r e _ q v H' len' R' => ?_) fun _ z => z⟩
  obtain ⟨k, hb, q⟩ := Rs.Wp.of (Rs.Wp.bind q)
  rw [boolOf_eq hb] at R'
  refine ⟨k, R'.getD List.mem_cons_self, ?_⟩
  cases k with
  | true => exact q _ H' len' (R'.tail.pushD rfl)
  | false => exact ⟨g, e, ts, len', R'.tail, q⟩⟩
theorem d_not (d : DE X T W a f) : DE X T W (.UnaryOp .Not a pos) (notV f) := ⟨(pe_not d.pe).mono fun σ H Q q => by
  obtain ⟨g, env, ts, len, R, q⟩ := q
  refine ⟨g, env, ts, len, R, (Rs.Wp.bind q).imp (fun r e _ q v H' len' R' => ?_) fun _ z => z⟩
  obtain ⟨k, hb, q⟩ := Rs.Wp.of (Rs.Wp.bind q)
  rw [boolOf_eq hb] at R'
  exact ⟨k, R'.getD List.mem_cons_self, q _ H' len' (R'.tail.pushD rfl)⟩⟩
theorem d_if {c : Expr} {t : Tv} (dc : DT X T W c t) (d1 : DE X T W a f) (d2 : DE X T W b h) : DE X T W (.IfExp c a b pos) (ifV t f h) := ⟨(pe_ifExp dc.pt d1.pe d2.pe).mono fun σ H Q q => by
  obtain ⟨g, env, ts, len, R, q⟩ := q
  refine ⟨g, env, ts, len, R, (Rs.Wp.bind q).imp (fun k e _ q H' len' R' => ?_) fun _ z => z⟩
  cases k with
  | true => exact ⟨g, e, ts, len', R', q⟩
  | false => exact ⟨g, e, ts, len', R', q⟩⟩
end

/-! ### statements -/
inductive Out where
  | nx | rt (r : Sl) | bk | ct
abbrev Sv := Env → Rs Out
/-- the slots of what is handed in to be changed, and where that stands -/
def Ports (σ : L2.St) : List Nat → List V → Prop
  | [], pv => pv = []
  | i :: P, pv => ∃ v r, pv = v :: r ∧ σ[i]? = some (some v) ∧ Ports σ P r
theorem Ports.of {σ σ' : L2.St} : ∀ {P : List Nat} {pv : List V}, Ports σ P pv → (∀ i ∈ P, σ'[i]? = σ[i]?) → Ports σ' P pv
  | [], _, h, _ => h
  | i :: P, _, ⟨v, r, e, h, t⟩, k => ⟨v, r, e, by rw [k i List.mem_cons_self]; exact h, t.of fun j hj => k j (List.mem_cons_of_mem _ hj)⟩
def outW (K : Frg) (T : List Addr) (P : List Nat) (g : G) (pv : List V) (ts : List (Sl × Option V)) (D : Ends) (o : Out) (env' : Env) : Prop := match o with
  | .nx => ∀ σ' H', Ln g env' σ' → Ports σ' P pv → Rel K T g (pr env' σ' ++ ts) H' → D.nx σ' H'
  | .bk => ∀ σ' H', Ln g env' σ' → Ports σ' P pv → Rel K T g (pr env' σ' ++ ts) H' → D.bk σ' H'
  | .ct => ∀ σ' H', Ln g env' σ' → Ports σ' P pv → Rel K T g (pr env' σ' ++ ts) H' → D.ct σ' H'
  | .rt r => ∀ v σ' H', Ln g env' σ' → Ports σ' P pv → Rel K T g ((r, some v) :: (pr env' σ' ++ ts)) H' → D.rt v H'
def rdS (K : Frg) (T : List Addr) (W : XK) (P : List Nat) (f : Sv) : TS := fun D σ H => ∃ g pv env ts, Ln g env σ ∧ Ports σ P pv ∧ Rel K T g (pr env σ ++ ts) H ∧ (f env).Wp (outW K T P g pv ts D) (exW K T g W)
structure DS (X : Cx) (T : List Addr) (W : XK) (P : List Nat) (st : Stmt) (f : Sv) : Prop where
  ps : PS X st (rdS X.K T W P f)
structure DB (X : Cx) (T : List Addr) (W : XK) (P : List Nat) (st : List Stmt) (f : Sv) : Prop where
  ps : PSs X st (rdS X.K T W P f)
def skipS : Sv := fun env => .ok .nx env
def seqS (f h : Sv) : Sv := fun env => (f env).bind fun o e => match o with
  | .nx => h e
  | o => .ok o e
theorem Rs.Wp.seq {f h : Sv} {env : Env} {k : Out → Env → Prop} {j : Ex → Prop} (w : (seqS f h env).Wp k j) : (f env).Wp (fun o e => match o with | .nx => (h e).Wp k j | o => k o e) j := by
  refine (Rs.Wp.bind w).imp (fun o e _ q => ?_) fun _ z => z
  cases o <;> exact q
section
variable {X : Cx} {T : List Addr} {W : XK} {P : List Nat} {st : Stmt} {sts : List Stmt} {f h : Sv} {pos : Pos}
theorem db_nil : DB X T W P [] skipS := ⟨pss_nil.mono fun D σ H q => by
  obtain ⟨g, pv, env, ts, len, po, R, k⟩ := q
  exact k σ H len po R⟩
theorem db_cons (d1 : DS X T W P st f) (d2 : DB X T W P sts h) : DB X T W P (st :: sts) (seqS f h) := ⟨(pss_cons d1.ps d2.ps).mono fun D σ H q => by
  obtain ⟨g, pv, env, ts, len, po, R, q⟩ := q
  refine ⟨g, pv, env, ts, len, po, R, q.seq.imp (fun o e eo k => ?_) fun _ z => z⟩
  cases o with
  | nx => exact fun σ' H' l p r => ⟨g, pv, e, ts, l, p, r, k⟩
  | rt r => exact k
  | bk => exact k
  | ct => exact k⟩
end
end DL


set_option maxHeartbeats 1000000
namespace DL
open PySem PySem.Spec PyProof.Rows L2
section
variable {K : Frg} {T : List Addr} {g : G} {H H' : Hp} {ts : List (Sl × Option V)} {env : Env} {σ : L2.St} {s r : Sl} {d : D} {v : V} {w : Option V} {i : Nat}
theorem Rel.store (len : Ln g env σ) (R : Rel K T g ((r, w) :: (pr env σ ++ ts)) H) : Rel K T g (pr (env.set i r) (σ.set i w) ++ ts) H := by
  cases h : env[i]? with
  | none =>
    have hi : env.length ≤ i := List.getElem?_eq_none_iff.mp h
    rw [List.set_eq_of_length_le hi, List.set_eq_of_length_le (by rw [← len.1]; exact hi)]
    exact R.tail
  | some s =>
    obtain ⟨w0, l1, l2, e1, e2, e3⟩ := pr_split len.1 h
    rw [e3, List.append_assoc, List.cons_append]
    rw [e2, List.append_assoc, List.cons_append] at R
    have R2 : Rel K T g ((s, w0) :: ((r, w) :: (l1 ++ (l2 ++ ts)))) H := R.perm ((List.perm_middle.cons _).trans (.swap ..))
    exact R2.tail.perm List.perm_middle.symm
/-- the slot is emptied, its root in front -/
theorem Rel.take (len : Ln g env σ) (R : Rel K T g (pr env σ ++ ts) H) (h : env[i]? = some s) (hw : σ[i]? = some w) : Rel K T g ((s, w) :: (pr (env.set i .u) σ ++ ts)) H := by
  obtain ⟨w0, l, e1, R1, back, _⟩ := R.out len.1 h
  rw [hw] at e1
  cases e1
  have R2 : Rel K T g ((.u, w) :: (l ++ ((s, w) :: ts))) H := (R1.pushU (w := w)).perm ((List.perm_middle.symm).cons _)
  have R3 : Rel K T g (pr (env.set i .u) σ ++ ((s, w) :: ts)) H := by
    obtain ⟨w1, l1, l2, e1, e2, e3⟩ := pr_split len.1 h
    obtain ⟨w2, l', e1', R1', back', _⟩ := R.out len.1 h
    rw [hw] at e1
    cases e1
    have es : σ.set i w = σ := by
      obtain ⟨hi, he⟩ := List.getElem?_eq_some_iff.mp hw
      rw [← he]; exact List.set_getElem_self hi
    have e4 := e3 .u w
    rw [es] at e4
    rw [e4, List.append_assoc, List.cons_append]
    rw [e2, List.append_assoc, List.cons_append] at R
    have R5 := (R.perm List.perm_middle).pushU (w := w)
    refine R5.perm ?_
    refine List.Perm.trans ?_ List.perm_middle.symm
    refine List.Perm.cons _ ?_
    refine List.Perm.trans ?_ (List.Perm.append_left _ List.perm_middle.symm)
    exact List.perm_middle.symm
  exact R3.perm List.perm_middle
/-- an empty slot says nothing of its value -/
theorem Rel.blank (len : Ln g env σ) (R : Rel K T g (pr env σ ++ ts) H) (h : env[i]? = some .u) : Rel K T g (pr env (σ.set i w) ++ ts) H := by
  obtain ⟨w0, l1, l2, e1, e2, e3⟩ := pr_split len.1 h
  have ee : env.set i .u = env := by
    obtain ⟨hi, he⟩ := List.getElem?_eq_some_iff.mp h
    rw [← he]; exact List.set_getElem_self hi
  have e4 := e3 .u w
  rw [ee] at e4
  rw [e4, List.append_assoc, List.cons_append]
  rw [e2, List.append_assoc, List.cons_append] at R
  exact ((R.perm List.perm_middle).tail.pushU (w := w)).perm List.perm_middle.symm
end

/-! ### if, return, expressions as statements -/
def ifS (c : Tv) (f h : Sv) : Sv := fun env => (c env).bind fun b e => if b = true then f e else h e
def retS (f : Ev) : Sv := fun env => (f env).bind fun r e => .ok (.rt r) e
def movS (i : Nat) : Sv := fun env => (Rs.of (gt env i) env).bind fun r e => .ok (.rt r) (e.set i .u)
def dropS (f : Ev) : Sv := fun env => (f env).bind fun _ e => .ok .nx e
def setS (i : Nat) (f : Ev) : Sv := fun env => (f env).bind fun r e => .ok .nx (e.set i r)
section
variable {X : Cx} {T : List Addr} {W : XK} {P : List Nat} {e c : Expr} {st : Stmt} {sts sts' : List Stmt} {t : Tv} {f h : Sv} {fe : Ev} {pos : Pos} {i : Nat}
theorem ds_if (dc : DT X T W c t) (d1 : DB X T W P sts f) (d2 : DB X T W P sts' h) : DS X T W P (.If c sts sts' pos) (ifS t f h) := ⟨(ps_if dc.pt d1.ps d2.ps).mono fun D σ H q => by
  obtain ⟨g, pv, env, ts, len, po, R, q⟩ := q
  refine ⟨g, env, ts, len, R, (Rs.Wp.bind q).imp (fun b e _ q H' len' R' => ?_) fun _ z => z⟩
  cases b with
  | true => exact ⟨g, pv, e, ts, len', po, R', q⟩
  | false => exact ⟨g, pv, e, ts, len', po, R', q⟩⟩
theorem ds_ret (d : DE X T W e fe) : DS X T W P (.Return (some e) pos) (retS fe) := ⟨(ps_ret d.pe).mono fun D σ H q => by
  obtain ⟨g, pv, env, ts, len, po, R, q⟩ := q
  refine ⟨g, env, ts, len, R, (Rs.Wp.bind q).imp (fun r e _ q v H' len' R' => ?_) fun _ z => z⟩
  exact q v σ H' len' po R'⟩
theorem ds_mov (h : PE X e (tVar i)) (hp : P.contains i = false := by rfl) : DS X T W P (.Return (some e) pos) (movS i) := ⟨(ps_ret h).mono fun D σ H q => by
  obtain ⟨g, pv, env, ts, len, po, R, q⟩ := q
  obtain ⟨s, q1, k⟩ := Rs.Wp.of (Rs.Wp.bind q)
  obtain ⟨v, f, hv, hr⟩ := Rel.slot len.1 R q1
  exact ⟨v, hv, k v σ H len.set po (Rel.take len R (gt_some q1).1 hv)⟩⟩
theorem ds_retN : DS X T W P (.Return none pos) (retS (vC .non)) := ⟨ps_retN.mono fun D σ H q => by
  obtain ⟨g, pv, env, ts, len, po, R, q⟩ := q
  exact q .non σ H len po (R.pushD rfl)⟩
theorem ds_expr (d : DE X T W e fe) (hs : swapsWith e none pos.line X.env = pure false := by rfl) : DS X T W P (.Expr e pos) (dropS fe) := ⟨(ps_expr d.pe hs).mono fun D σ H q => by
  obtain ⟨g, pv, env, ts, len, po, R, q⟩ := q
  refine ⟨g, env, ts, len, R, (Rs.Wp.bind q).imp (fun r e _ q v H' len' R' => ?_) fun _ z => z⟩
  exact q σ H' len' po R'.tail⟩
theorem ds_pass : DS X T W P (.Pass pos) skipS := ⟨ps_pass.mono fun D σ H q => by
  obtain ⟨g, pv, env, ts, len, po, R, k⟩ := q
  exact k σ H len po R⟩
theorem ds_brk : DS X T W P (.Break pos) (fun env => .ok .bk env) := ⟨ps_break.mono fun D σ H q => by
  obtain ⟨g, pv, env, ts, len, po, R, k⟩ := q
  exact k σ H len po R⟩
theorem ds_cont : DS X T W P (.Continue pos) (fun env => .ok .ct env) := ⟨ps_continue.mono fun D σ H q => by
  obtain ⟨g, pv, env, ts, len, po, R, k⟩ := q
  exact k σ H len po R⟩
theorem ports_set {σ : L2.St} {P : List Nat} {pv : List V} {w : Option V} (po : Ports σ P pv) (hp : P.contains i = false) : Ports (σ.set i w) P pv := po.of fun j hj => by
  refine List.getElem?_set_ne fun z => ?_
  subst z
  rw [List.contains_iff_mem.mpr hj] at hp
  cases hp
/-- name = e -/
theorem ds_set {x : Str} {pos' : Pos} (hN : X.N.Nodup) (hi : X.N[i]? = some x) (hx : Loc X.env.scope x) (d : DE X T W e fe) (hp : P.contains i = false := by rfl) (hs : swapsWith e (some (.Name x pos')) pos.line X.env = pure false := by rfl)
    (hf : X.fn x = true ∨ X.env.scope.names.lookup x = some .local := by first | exact .inl rfl | exact .inr rfl | assumption) : DS X T W P (.Assign [.Name x pos'] e pos) (setS i fe) := ⟨(ps_set hN hi hx d.pe hs hf).mono fun D σ H q => by
  obtain ⟨g, pv, env, ts, len, po, R, q⟩ := q
  refine ⟨g, env, ts, len, R, (Rs.Wp.bind q).imp (fun r e _ q v H' len' R' => ?_) fun _ z => z⟩
  exact q _ H' len'.set2 (ports_set po hp) (Rel.store len' R')⟩
end

/-! ### targets -/
abbrev Tg := Sl → Env → Option Env
def rdG (K : Frg) (T : List Addr) (Wd : List Nat) (tg : Tg) : TG := fun v σ H Q => ∃ g env ts r env', Ln g env σ ∧ Rel K T g ((r, some v) :: (pr env σ ++ ts)) H ∧ tg r env = some env' ∧
  ∀ σ', Ln g env' σ' → (∀ j, Wd.contains j = false → σ'[j]? = σ[j]?) → Rel K T g (pr env' σ' ++ ts) H → Q σ' H
structure DG (X : Cx) (T : List Addr) (Wd : List Nat) (e : Expr) (tg : Tg) : Prop where
  pg : PG X e (rdG X.K T Wd tg)
theorem _root_.L2.PG.mono {X : Cx} {e : Expr} {t t' : TG} (h : PG X e t) (m : ∀ v σ H Q, t' v σ H Q → t v σ H Q) : PG X e t' := ⟨fun pins s σ H v u Q I r q => h.run pins s σ H v u Q I r (m v σ H Q q)⟩
theorem _root_.L2.PGs.mono {X : Cx} {e : List Expr} {t t' : TGs} (h : PGs X e t) (m : ∀ v σ H Q, t' v σ H Q → t v σ H Q) : PGs X e t' := ⟨fun pins s σ H v u Q I r q => h.run pins s σ H v u Q I r (m v σ H Q q)⟩
def tgN (i : Nat) : Tg := fun r e => some (e.set i r)
theorem dg_name {X : Cx} {T : List Addr} {i : Nat} {x : Str} {pos : Pos} (hN : X.N.Nodup) (hi : X.N[i]? = some x) (hx : Loc X.env.scope x) (hf : X.fn x = true ∨ X.env.scope.names.lookup x = some .local := by first | exact .inl rfl | exact .inr rfl | assumption) :
    DG X T [i] (.Name x pos) (tgN i) := ⟨(pg_name hN hi hx hf).mono fun v σ H Q q => by
  obtain ⟨g, env, ts, r, env', len, R, e, k⟩ := q
  cases e
  refine k _ len.set2 (fun j hj => List.getElem?_set_ne fun z => ?_) (Rel.store len R)
  subst z
  simp at hj⟩
def rdGs (K : Frg) (T : List Addr) (Wd : List Nat) (tg : List D → Env → Option Env) : TGs := fun vs σ H Q => ∃ g env ts ds env', Ln g env σ ∧ RepDs K H ds vs ∧ Rel K T g (pr env σ ++ ts) H ∧ tg ds env = some env' ∧
  ∀ σ', Ln g env' σ' → (∀ j, Wd.contains j = false → σ'[j]? = σ[j]?) → Rel K T g (pr env' σ' ++ ts) H → Q σ' H
structure DGs (X : Cx) (T : List Addr) (Wd : List Nat) (e : List Expr) (tg : List D → Env → Option Env) : Prop where
  pg : PGs X e (rdGs X.K T Wd tg)
def tgNil : List D → Env → Option Env
  | [], e => some e
  | _, _ => none
def tgCons (t : Tg) (u : List D → Env → Option Env) : List D → Env → Option Env
  | d :: ds, e => (t (.v d) e).bind fun e => u ds e
  | _, _ => none
theorem dgs_nil {X : Cx} {T : List Addr} : DGs X T [] [] tgNil := ⟨pgs_nil.mono fun vs σ H Q q => by
  obtain ⟨g, env, ts, ds, env', len, hd, R, e, k⟩ := q
  cases ds with
  | nil =>
    cases e
    exact ⟨hd, k σ len (fun _ _ => rfl) R⟩
  | cons _ _ => cases e⟩
theorem dgs_cons {X : Cx} {T : List Addr} {W1 W2 : List Nat} {e : Expr} {es : List Expr} {t : Tg} {u : List D → Env → Option Env} (h1 : DG X T W1 e t) (h2 : DGs X T W2 es u)
    (hs : (assignEach (e :: es) X.env).map (·.2) = assign e X.env :: (assignEach es X.env).map (·.2) := by rfl) : DGs X T (W1 ++ W2) (e :: es) (tgCons t u) := ⟨(pgs_cons h1.pg h2.pg hs).mono fun vs σ H Q q => by
  obtain ⟨g, env, ts, ds, env', len, hd, R, e, k⟩ := q
  cases ds with
  | nil => cases e
  | cons d ds =>
    obtain ⟨v, r, ev, hv, hr⟩ := hd
    obtain ⟨e1, q1, q2⟩ := Option.bind_eq_some_iff.mp e
    refine ⟨v, r, ev, g, env, ts, .v d, e1, len, R.pushD hv, q1, fun σ1 len1 u1 R1 => ?_⟩
    refine ⟨g, e1, ts, ds, env', len1, hr, R1, q2, fun σ2 len2 u2 R2 => ?_⟩
    refine k σ2 len2 (fun j hj => ?_) R2
    have hj' : W1.contains j = false ∧ W2.contains j = false := by simpa using hj
    rw [u2 j hj'.2, u1 j hj'.1]⟩
def tgTup (u : List D → Env → Option Env) : Tg := fun r e => match r with
  | .v (.tg _ ds) => u ds e
  | _ => none
/-- the number of names is that of the items -/
theorem dg_tup {X : Cx} {T : List Addr} {Wd : List Nat} {es : List Expr} {u : List D → Env → Option Env} {k n : Nat} {pos : Pos} (hc : X.calm = true) (h : DGs X T Wd es u) (hn : (assignEach es X.env).length = n := by rfl) (hu : ∀ ds e e', u ds e = some e' → ds.length = n)
    (hst : (assignEach es X.env).findIdx? (·.1) = none := by rfl) : DG X T Wd (.Tuple es k pos) (tgTup u) := ⟨(pg_tup hc h.pg hn hst).mono fun v σ H Q q => by
  obtain ⟨g, env, ts, r, env', len, R, e, kk⟩ := q
  unfold tgTup at e
  split at e
  · rename_i ds
    obtain ⟨a, vs, rfl, ha, hr⟩ := R.getD List.mem_cons_self
    exact ⟨a, vs, rfl, ha.sq, by rw [← RepDs.length ds vs hr]; exact hu ds env env' e, g, env, ts, ds, env', len, hr, R.tail, e, kk⟩
  · cases e⟩
def tgLst (u : List D → Env → Option Env) : Tg := fun r e => match r with
  | .v (.lst ds) => u ds e
  | _ => none
theorem dg_lst {X : Cx} {T : List Addr} {Wd : List Nat} {es : List Expr} {u : List D → Env → Option Env} {k n : Nat} {pos : Pos} (hc : X.calm = true) (h : DGs X T Wd es u) (hn : (assignEach es X.env).length = n := by rfl) (hu : ∀ ds e e', u ds e = some e' → ds.length = n)
    (hst : (assignEach es X.env).findIdx? (·.1) = none := by rfl) : DG X T Wd (.Tuple es k pos) (tgLst u) := ⟨(pg_lst hc h.pg hn hst).mono fun v σ H Q q => by
  obtain ⟨g, env, ts, r, env', len, R, e, kk⟩ := q
  unfold tgLst at e
  split at e
  · rename_i ds
    obtain ⟨a, vs, rfl, ha, hr⟩ := R.getD List.mem_cons_self
    exact ⟨a, vs, rfl, ha.sq, by rw [← RepDs.length ds vs hr]; exact hu ds env env' e, g, env, ts, ds, env', len, hr, R.tail, e, kk⟩
  · cases e⟩
theorem tg_len0 : ∀ (ds : List D) (e e' : Env), tgNil ds e = some e' → ds.length = 0
  | [], _, _, _ => rfl
  | _ :: _, _, _, h => by cases h
theorem tg_lenS {t : Tg} {u : List D → Env → Option Env} {n : Nat} (h : ∀ ds e e', u ds e = some e' → ds.length = n) : ∀ (ds : List D) (e e' : Env), tgCons t u ds e = some e' → ds.length = n + 1
  | [], _, _, q => by cases q
  | d :: ds, e, e', q => by
    obtain ⟨e1, _, q2⟩ := Option.bind_eq_some_iff.mp q
    rw [List.length_cons, h ds e1 e' q2]
/-- target = e -/
def asgS (tg : Tg) (f : Ev) : Sv := fun env => (f env).bind fun r e => (Rs.of (tg r e) e).bind fun e2 _ => .ok .nx e2
theorem ds_asg {X : Cx} {T : List Addr} {W : XK} {P Wd : List Nat} {tge e : Expr} {tg : Tg} {f : Ev} {pos : Pos} (d : DE X T W e f) (dg : DG X T Wd tge tg) (hp : P.all (fun i => !Wd.contains i) = true := by rfl) (hs : swapsWithSole [tge] e pos.line X.env = pure false := by rfl) (hw : swappedStores [tge] e X.env = pure none := by rfl)
    (h1 : (assignEach [tge] X.env).map (·.2) = [assign tge X.env] := by rfl) : DS X T W P (.Assign [tge] e pos) (asgS tg f) := ⟨(ps_asg d.pe dg.pg hs hw h1).mono fun D σ H q => by
  obtain ⟨g, pv, env, ts, len, po, R, q⟩ := q
  refine ⟨g, env, ts, len, R, (Rs.Wp.bind q).imp (fun r e _ q v H' len' R' => ?_) fun _ z => z⟩
  obtain ⟨e2, he, k⟩ := Rs.Wp.of (Rs.Wp.bind q)
  refine ⟨g, e, ts, r, e2, len', R', he, fun σ2 len2 un R2 => ?_⟩
  refine k σ2 H' len2 (po.of fun i hi => un i ?_) R2
  have := List.all_eq_true.mp hp i hi
  simpa using this⟩

/-! ### what a loop walks -/
abbrev Iv := Env → Rs (List D)
def frozen (rs : List (Sl × Option V)) : Prop := ∀ x ∈ rs, ∃ d, x.1 = .v d
/-- the iterator J gives the items one by one while the roots hold stand -/
structure WalkD (K : Frg) (J : It) (hold : List (Sl × Option V)) (items : List D) : Prop where
  fz : frozen hold
  w : Walk J items.length (fun H => Rts K H hold []) (fun i H x H' => ∃ d, items[i]? = some d ∧ (∀ a u, H a = some u → H' a = some u) ∧ RepD K H' d x)
def rdI (K : Frg) (T : List Addr) (W : XK) (it : Iv) (wi : TI) : Prop := ∀ σ H R, (∃ g env ts, Ln g env σ ∧ Rel K T g (pr env σ ++ ts) H ∧ (it env).Wp (fun items env' => ∀ J hold H', Ln g env' σ → Rel K T g (hold ++ (pr env' σ ++ ts)) H' → WalkD K J hold items → R J H') (exW K T g W)) → wi σ H R
structure DI (X : Cx) (T : List Addr) (W : XK) (tg iter : Expr) (it : Iv) : Prop where
  pi : ∃ wi, PI X tg iter wi ∧ rdI X.K T W it wi
theorem frozen_nil {K : Frg} {H : Hp} : ∀ (rs : List (Sl × Option V)) (fp : List Addr), frozen rs → Rts K H rs fp → fp = []
  | [], fp, _, h => h
  | x :: rs, fp, z, ⟨f1, f2, h1, h2, e⟩ => by
    obtain ⟨d, ed⟩ := z x List.mem_cons_self
    rw [ed] at h1
    rw [e, h1.1, frozen_nil rs f2 (fun y hy => z y (List.mem_cons_of_mem _ hy)) h2]
    rfl
theorem Rel.hold {K : Frg} {T : List Addr} {g : G} {H : Hp} {hold rs : List (Sl × Option V)} (R : Rel K T g (hold ++ rs) H) (z : frozen hold) : Rts K H hold [] := by
  obtain ⟨fp, h, _⟩ := R
  obtain ⟨f1, f2, h1, h2, e⟩ := (Rts.append _ _ _).mp h
  have := frozen_nil hold f1 z h1
  rw [this] at h1
  exact h1
/-- a for's turns -/
def forS (tg : Tg) (body : Sv) : List D → Sv
  | [], e => .ok .nx e
  | d :: ds, e => (Rs.of (tg (.v d) e) e).bind fun e1 _ => (body e1).bind fun o e2 => match o with
    | .nx => forS tg body ds e2
    | .ct => forS tg body ds e2
    | .bk => .ok .nx e2
    | .rt r => .ok (.rt r) e2
def forE (it : Iv) (tg : Tg) (body : Sv) : Sv := fun env => (it env).bind fun ds e => forS tg body ds e
theorem ds_for {X : Cx} {T : List Addr} {W : XK} {P Wd : List Nat} {tge iter : Expr} {body : List Stmt} {it : Iv} {tg : Tg} {b : Sv} {pos : Pos} (hp : PassesOwn (model X.prog X.w) X.A X.env X.xe) (hc : X.calm = true) (di : DI X T W tge iter it) (dg : DG X T Wd tge tg) (db : DB X T W P body b)
    (hpw : P.all (fun i => !Wd.contains i) = true := by rfl) (hs : ∀ x, foldedSetIterable iter X.env x = pure x := by intro _; rfl) : DS X T W P (.For tge iter body [] pos) (forE it tg b) := by
  obtain ⟨wi, pi, hwi⟩ := di.pi
  refine ⟨(ps_for hp hc pi dg.pg db.ps hs).mono fun D σ H q => ?_⟩
  obtain ⟨g, pv, env, ts, len, po, R, q⟩ := q
  refine hwi σ H _ ⟨g, env, ts, len, R, (Rs.Wp.bind q).imp (fun items env' _ q J hold H1 len1 R1 wd => ?_) fun _ z => z⟩
  refine for_it wd.w (fun i σ' H' => ∃ e, Ln g e σ' ∧ Ports σ' P pv ∧ DL.Rel X.K T g (hold ++ (pr e σ' ++ ts)) H' ∧ (forS tg b (items.drop i) e).Wp (outW X.K T P g pv ts D) (exW X.K T g W)) ⟨env', len1, po, R1, q⟩ (fun i σ' H' _ ⟨e, _, _, R', _⟩ => R'.hold wd.fz) ?_ ?_
  · rintro i x σ' H' H2 hi ⟨e, len', po', R', q'⟩ ⟨d, hd, hx, hr⟩
    have ed : items.drop i = d :: items.drop (i + 1) := by
      obtain ⟨h1, h2⟩ := List.getElem?_eq_some_iff.mp hd
      rw [← h2, List.drop_eq_getElem_cons h1]
    rw [ed] at q'
    obtain ⟨e1, he, q'⟩ := Rs.Wp.of (Rs.Wp.bind q')
    have R2 : DL.Rel X.K T g ((.v d, some x) :: (pr e σ' ++ (hold ++ ts))) H2 := ((R'.ext hx).perm (List.perm_append_comm_assoc _ _ _)).pushD hr
    refine ⟨g, e, hold ++ ts, .v d, e1, len', R2, he, fun σ3 len3 un R3 => ?_⟩
    have po3 : Ports σ3 P pv := po'.of fun j hj => un j (by
      have := List.all_eq_true.mp hpw j hj
      simpa using this)
    refine ⟨g, pv, e1, hold ++ ts, len3, po3, R3, (Rs.Wp.bind q').imp (fun o e2 _ k => ?_) fun _ z => z⟩
    have back : ∀ {σ4 : L2.St} {H4 : Hp} {e4 : Env}, DL.Rel X.K T g (pr e4 σ4 ++ (hold ++ ts)) H4 → DL.Rel X.K T g (hold ++ (pr e4 σ4 ++ ts)) H4 := fun r => r.perm (List.perm_append_comm_assoc _ _ _)
    cases o with
    | nx => exact fun σ4 H4 l4 p4 r4 => ⟨e2, l4, p4, back r4, k⟩
    | ct => exact fun σ4 H4 l4 p4 r4 => ⟨e2, l4, p4, back r4, k⟩
    | bk => exact fun σ4 H4 l4 p4 r4 => k σ4 H4 l4 p4 (back r4).drop
    | rt r => exact fun v σ4 H4 l4 p4 r4 => k v σ4 H4 l4 p4 (Rel.drop (rs := hold) (r4.perm (by
        refine List.Perm.trans ?_ List.perm_middle.symm
        exact (List.perm_append_comm_assoc _ _ _).cons _)))
  · rintro σ' H' ⟨e, len', po', R', q'⟩
    rw [List.drop_length] at q'
    exact q' σ' H' len' po' R'.drop
/-- a while's turns; n bounds them -/
def whS (c : Tv) (body : Sv) : Nat → Sv
  | 0, _ => .bad
  | n + 1, e => (c e).bind fun b e1 => if b = true then (body e1).bind fun o e2 => match o with
      | .nx => whS c body n e2
      | .ct => whS c body n e2
      | .bk => .ok .nx e2
      | .rt r => .ok (.rt r) e2
    else .ok .nx e1
theorem ds_while {X : Cx} {T : List Addr} {W : XK} {P : List Nat} {c : Expr} {body : List Stmt} {t : Tv} {b : Sv} {pos : Pos} (n : Nat) (hp : PassesOwn (model X.prog X.w) X.A X.env X.xe) (dc : DT X T W c t) (db : DB X T W P body b) : DS X T W P (.While c body [] pos) (whS t b n) := by
  refine ⟨(ps_while hp dc.pt db.ps).mono fun D σ H q => ?_⟩
  obtain ⟨g, pv, env, ts, len, po, R, q⟩ := q
  refine ⟨fun m σ' H' => ∃ e, Ln g e σ' ∧ Ports σ' P pv ∧ DL.Rel X.K T g (pr e σ' ++ ts) H' ∧ (whS t b m e).Wp (outW X.K T P g pv ts D) (exW X.K T g W), ⟨n, env, len, po, R, q⟩, ?_⟩
  rintro m σ' H' ⟨e, len', po', R', q'⟩
  cases m with
  | zero => exact q'.elim
  | succ m =>
    refine ⟨g, e, ts, len', R', (Rs.Wp.bind q').imp (fun k e1 _ q2 H2 len2 R2 => ?_) fun _ z => z⟩
    cases k with
    | true =>
      rw [if_pos rfl]
      rw [if_pos rfl] at q2
      refine ⟨fun σ3 H3 => ∃ e3, Ln g e3 σ3 ∧ Ports σ3 P pv ∧ DL.Rel X.K T g (pr e3 σ3 ++ ts) H3 ∧ (whS t b m e3).Wp (outW X.K T P g pv ts D) (exW X.K T g W), fun σ3 H3 h => ⟨m, Nat.lt_succ_self m, h⟩, ?_⟩
      refine ⟨g, pv, e1, ts, len2, po', R2, (Rs.Wp.bind q2).imp (fun o e2 _ k => ?_) fun _ z => z⟩
      cases o with
      | nx => exact fun σ4 H4 l4 p4 r4 => ⟨e2, l4, p4, r4, k⟩
      | ct => exact fun σ4 H4 l4 p4 r4 => ⟨e2, l4, p4, r4, k⟩
      | bk => exact k
      | rt r => exact k
    | false =>
      rw [if_neg Bool.false_ne_true]
      rw [if_neg Bool.false_ne_true] at q2
      exact q2 σ' H2 len2 po' R2
end DL


set_option maxHeartbeats 1000000
namespace DL
open PySem PySem.Spec PyProof.Rows L2

/-! ### a list of its own is changed -/
theorem stf_lst {H : Hp} {a : Addr} {vs vs' : List V} (e : H a = some (.lst vs)) : Stf H (upd H a (.lst vs')) :=
  ⟨fun b xs h => by
    rw [upd_ne (fun z => by rw [z, e] at h; cases h)]; exact h,
   fun b o2 x h => by
    rw [upd_ne (fun z => by rw [z, e] at h; cases h)]; exact h,
   fun b ps h => ⟨ps, by rw [upd_ne (fun z => by rw [z, e] at h; cases h)]; exact h⟩⟩
theorem Rel.mutL {K : Frg} {T : List Addr} {g : G} {H : Hp} {rs : List (Sl × Option V)} {xs : List Sl} {a : Addr} (R : DL.Rel K T g ((.o xs, some (.ref a)) :: rs) H) :
    ∃ vs, H a = some (.lst vs) ∧ xs.length = vs.length ∧ (∃ fq, Rps K H xs vs fq) ∧ ∀ xs' vs' rs' rest, xs'.length = vs'.length → (xs.zip (vs.map some) ++ rs).Perm (xs'.zip (vs'.map some) ++ rs' ++ rest) → DL.Rel K T g ((.o xs', some (.ref a)) :: rs') (upd H a (.lst vs')) := by
  obtain ⟨fp, ⟨f1, f2, ⟨a', vs, fq, ew, ha, hr, e1⟩, h2, e⟩, nd, hf, kp, tb⟩ := R
  cases ew
  refine ⟨vs, ha, Rps.length xs vs fq hr, ⟨fq, hr⟩, fun xs' vs' rs' rest hl p => ?_⟩
  subst e1 e
  have q : Rts K H (xs.zip (vs.map some) ++ rs) (fq ++ f2) := (Rts.append _ _ _).mpr ⟨fq, f2, (rps_of xs vs fq (Rps.length xs vs fq hr)).mpr hr, h2, rfl⟩
  obtain ⟨fr, q2, pf⟩ := Rts.perm p q
  obtain ⟨f12, f3, q3, _, e3⟩ := (Rts.append _ _ _).mp q2
  obtain ⟨g1, g2, h1', h2', e4⟩ := (Rts.append _ _ _).mp q3
  subst e4 e3
  rw [List.cons_append] at nd hf
  obtain ⟨n1, n2⟩ := List.nodup_cons.mp nd
  have n3 := pf.nodup_iff.mp n2
  have na : a ∉ g1 ++ g2 ++ f3 := fun z => n1 (pf.mem_iff.mpr z)
  have st := stf_lst (vs' := vs') ha
  have k : ∀ b, b ∈ g1 ++ g2 → ∀ ob, H b = some ob → upd H a (.lst vs') b = some ob := fun b hb ob h => by
    rw [upd_ne (fun z => na (by rw [← z]; exact List.mem_append_left _ hb))]; exact h
  refine ⟨(a :: g1) ++ g2, ⟨a :: g1, g2, ⟨a, vs', g1, rfl, upd_same, (rps_of xs' vs' g1 hl).mp (Rts.stay st _ _ h1' fun b hb => k b (List.mem_append_left _ hb)), rfl⟩, Rts.stay st _ _ h2' (fun b hb => k b (List.mem_append_right _ hb)), rfl⟩, ?_, fun b hb => ?_, ⟨kp.f.trans st, fun b u eu nt hn => ?_⟩, fun p hp => ?_⟩
  · rw [List.cons_append]
    exact List.nodup_cons.mpr ⟨fun z => na (List.mem_append_left _ z), (List.nodup_append.mp n3).1⟩
  · rw [List.cons_append] at hb
    rcases List.mem_cons.mp hb with z | z
    · rw [z]; exact hf a List.mem_cons_self
    · exact hf b (List.mem_cons_of_mem _ (pf.mem_iff.mpr (List.mem_append_left _ z)))
  · rw [upd_ne (fun z => ?_)]
    · exact kp.r b u eu nt hn
    · subst z
      rcases hf b List.mem_cons_self with y | y
      · exact hn y
      · rw [y] at eu; cases eu
  · obtain ⟨ps, ep, ht⟩ := tb p hp
    exact ⟨ps, by rw [upd_ne (fun z => by rw [z, ha] at ep; cases ep)]; exact ep, ht⟩
theorem zip_append_one {xs : List Sl} {vs : List V} {r : Sl} {y : V} (h : xs.length = vs.length) : (xs ++ [r]).zip ((vs ++ [y]).map some) = xs.zip (vs.map some) ++ [(r, some y)] := by
  rw [List.map_append, List.zip_append (by rw [List.length_map]; exact h)]
  rfl
theorem Rel.append {K : Frg} {T : List Addr} {g : G} {H : Hp} {rs : List (Sl × Option V)} {xs : List Sl} {a : Addr} {r : Sl} {y : V} (R : DL.Rel K T g ((.o xs, some (.ref a)) :: (r, some y) :: rs) H) :
    ∃ vs, H a = some (.lst vs) ∧ xs.length = vs.length ∧ DL.Rel K T g ((.o (xs ++ [r]), some (.ref a)) :: rs) (upd H a (.lst (vs ++ [y]))) := by
  obtain ⟨vs, ha, hl, _, k⟩ := R.mutL
  refine ⟨vs, ha, hl, k (xs ++ [r]) (vs ++ [y]) rs [] (by simp [hl]) ?_⟩
  rw [zip_append_one hl, List.append_nil, List.append_assoc]
  exact .refl _

/-! ### a comprehension's own names -/
def wipeE : List Nat → Env → Env
  | [], e => e
  | v :: vs, e => (wipeE vs e).set v .u
def restE : List Nat → Env → Env → Env
  | [], _, e => e
  | v :: vs, o, e => (restE vs o e).set v (o.getD v .u)
def restV : List Nat → L2.St → L2.St → L2.St
  | [], _, s => s
  | v :: vs, o, s => (restV vs o s).set v (o.getD v none)
def sv (vs : List Nat) (env : Env) (σ : L2.St) : List (Sl × Option V) := vs.map fun v => (env.getD v .u, σ.getD v none)
theorem wipeE_len : ∀ (vs : List Nat) (e : Env), (wipeE vs e).length = e.length
  | [], e => rfl
  | v :: vs, e => by
    show ((wipeE vs e).set v .u).length = _
    rw [List.length_set, wipeE_len vs e]
theorem wipe_len : ∀ (vs : List Nat) (e : L2.St), (wipe e vs).length = e.length
  | [], e => rfl
  | v :: vs, e => by
    show ((wipe e vs).set v none).length = _
    rw [List.length_set, wipe_len vs e]
theorem restE_len : ∀ (vs : List Nat) (o e : Env), (restE vs o e).length = e.length
  | [], _, e => rfl
  | v :: vs, o, e => by
    show ((restE vs o e).set v _).length = _
    rw [List.length_set, restE_len vs o e]
theorem restV_len : ∀ (vs : List Nat) (o e : L2.St), (restV vs o e).length = e.length
  | [], _, e => rfl
  | v :: vs, o, e => by
    show ((restV vs o e).set v _).length = _
    rw [List.length_set, restV_len vs o e]
theorem wipeE_get : ∀ {vs : List Nat} {e : Env} {v : Nat}, v ∉ vs → (wipeE vs e)[v]? = e[v]?
  | [], e, v, _ => rfl
  | w :: vs, e, v, h => by
    show ((wipeE vs e).set w .u)[v]? = _
    rw [List.getElem?_set_ne (fun z => h (by rw [z]; exact List.mem_cons_self)), wipeE_get fun z => h (List.mem_cons_of_mem _ z)]
theorem wipe_get : ∀ {vs : List Nat} {e : L2.St} {v : Nat}, v ∉ vs → (wipe e vs)[v]? = e[v]?
  | [], e, v, _ => rfl
  | w :: vs, e, v, h => by
    show ((wipe e vs).set w none)[v]? = _
    rw [List.getElem?_set_ne (fun z => h (by rw [z]; exact List.mem_cons_self)), wipe_get fun z => h (List.mem_cons_of_mem _ z)]
theorem wipe_in : ∀ {vs : List Nat} {e : L2.St} {v : Nat}, v ∈ vs → v < e.length → (wipe e vs)[v]? = some none
  | w :: vs, e, v, h, hl => by
    show ((wipe e vs).set w none)[v]? = _
    by_cases z : w = v
    · subst z
      rw [List.getElem?_set_self (by rw [wipe_len]; exact hl)]
    · rw [List.getElem?_set_ne z]
      exact wipe_in ((List.mem_cons.mp h).resolve_left (Ne.symm z)) hl
theorem wipeE_in : ∀ {vs : List Nat} {e : Env} {v : Nat}, v ∈ vs → v < e.length → (wipeE vs e)[v]? = some .u
  | w :: vs, e, v, h, hl => by
    show ((wipeE vs e).set w .u)[v]? = _
    by_cases z : w = v
    · subst z
      rw [List.getElem?_set_self (by rw [wipeE_len]; exact hl)]
    · rw [List.getElem?_set_ne z]
      exact wipeE_in ((List.mem_cons.mp h).resolve_left (Ne.symm z)) hl
theorem wipe_same {vs : List Nat} {a b : L2.St} (hl : a.length = b.length) (h : ∀ j, vs.contains j = false → a[j]? = b[j]?) : wipe a vs = wipe b vs := by
  refine List.ext_getElem? fun j => ?_
  by_cases hj : j ∈ vs
  · by_cases hlt : j < a.length
    · rw [wipe_in hj hlt, wipe_in hj (by rw [← hl]; exact hlt)]
    · rw [List.getElem?_eq_none (by rw [wipe_len]; omega), List.getElem?_eq_none (by rw [wipe_len]; omega)]
  · rw [wipe_get hj, wipe_get hj]
    exact h j (by simpa using hj)
theorem wipe_wipe {vs : List Nat} {a : L2.St} : wipe (wipe a vs) vs = wipe a vs := wipe_same (wipe_len vs a) fun j hj => wipe_get (by simpa using hj)
section
variable {K : Frg} {T : List Addr} {g : G} {H : Hp} {ts : List (Sl × Option V)} {env e : Env} {σ τ : L2.St}
theorem Ln.wipe (l : Ln g env σ) (vs : List Nat) : Ln g (wipeE vs env) (wipe σ vs) := ⟨by rw [wipeE_len, wipe_len]; exact l.1, by rw [wipe_len]; exact l.2⟩
theorem getD_of {α : Type} {l : List α} {i : Nat} {x d : α} (h : l[i]? = some x) : l.getD i d = x := by rw [List.getD_eq_getElem?_getD, h]; rfl
theorem Rel.wipe (len : Ln g env σ) (R : DL.Rel K T g (pr env σ ++ ts) H) : ∀ vs : List Nat, vs.Nodup → DL.Rel K T g (pr (wipeE vs env) (L2.wipe σ vs) ++ (sv vs env σ ++ ts)) H
  | [], _ => R
  | v :: vs, nd => by
    obtain ⟨n1, n2⟩ := List.nodup_cons.mp nd
    have ih := Rel.wipe len R vs n2
    have l2 := len.wipe vs
    show DL.Rel K T g (pr ((wipeE vs env).set v .u) ((L2.wipe σ vs).set v none) ++ ((env.getD v .u, σ.getD v none) :: (sv vs env σ ++ ts))) H
    cases h : env[v]? with
    | none =>
      have hv : env.length ≤ v := List.getElem?_eq_none_iff.mp h
      have hs : σ[v]? = none := List.getElem?_eq_none_iff.mpr (by rw [← len.1]; exact hv)
      rw [List.set_eq_of_length_le (by rw [wipeE_len]; exact hv), List.set_eq_of_length_le (by rw [wipe_len, ← len.1]; exact hv), List.getD_eq_getElem?_getD, h]
      exact (ih.pushU (w := σ.getD v none)).perm List.perm_middle.symm
    | some s =>
      obtain ⟨w, hw⟩ : ∃ w, σ[v]? = some w := by
        have := (List.getElem?_eq_some_iff.mp h).1
        exact ⟨σ[v]'(by rw [← len.1]; exact this), List.getElem?_eq_getElem _⟩
      rw [getD_of h, getD_of hw]
      have t := Rel.take l2 ih ((wipeE_get n1).trans h) ((wipe_get n1).trans hw)
      have t2 : DL.Rel K T g (pr ((wipeE vs env).set v .u) (L2.wipe σ vs) ++ ((s, w) :: (sv vs env σ ++ ts))) H := t.perm List.perm_middle.symm
      refine Rel.blank l2.set t2 (List.getElem?_set_self ?_)
      rw [wipeE_len]
      exact (List.getElem?_eq_some_iff.mp h).1
theorem Rel.rest (len : Ln g env σ) : ∀ (vs : List Nat) (e : Env) (τ : L2.St) (ts : List (Sl × Option V)), Ln g e τ → DL.Rel K T g (pr e τ ++ (sv vs env σ ++ ts)) H → DL.Rel K T g (pr (restE vs env e) (restV vs σ τ) ++ ts) H
  | [], e, τ, ts, l, R => R
  | v :: vs, e, τ, ts, l, R => by
    have R1 : DL.Rel K T g (pr e τ ++ ((env.getD v .u, σ.getD v none) :: (sv vs env σ ++ ts))) H := R
    have R2 : DL.Rel K T g (pr e τ ++ (sv vs env σ ++ ((env.getD v .u, σ.getD v none) :: ts))) H := R1.perm (List.Perm.append_left _ List.perm_middle.symm)
    have ih := Rel.rest len vs e τ _ l R2
    have l2 : Ln g (restE vs env e) (restV vs σ τ) := ⟨by rw [restE_len, restV_len]; exact l.1, by rw [restV_len]; exact l.2⟩
    exact Rel.store l2 (ih.perm List.perm_middle)
theorem restV_wipe : ∀ (vs : List Nat) (τ : L2.St), vs.Nodup → τ.length = σ.length → (∀ j, j ∉ vs → τ[j]? = σ[j]?) → restV vs σ τ = σ
  | vs, τ, nd, hl, h => by
    have key : ∀ (us : List Nat) (j : Nat), (restV us σ τ)[j]? = if j ∈ us ∧ j < τ.length then some (σ.getD j none) else τ[j]? := by
      intro us
      induction us with
      | nil => intro j; simp [restV]
      | cons v us ih =>
        intro j
        show ((restV us σ τ).set v (σ.getD v none))[j]? = _
        by_cases z : v = j
        · subst z
          by_cases hj : v < τ.length
          · rw [List.getElem?_set_self (by rw [restV_len]; exact hj), if_pos ⟨List.mem_cons_self, hj⟩]
          · rw [List.getElem?_eq_none (by rw [List.length_set, restV_len]; omega), if_neg (fun q => hj q.2), List.getElem?_eq_none (by omega)]
        · rw [List.getElem?_set_ne z, ih j]
          by_cases m : j ∈ us ∧ j < τ.length
          · rw [if_pos m, if_pos ⟨List.mem_cons_of_mem _ m.1, m.2⟩]
          · rw [if_neg m, if_neg (fun q => m ⟨(List.mem_cons.mp q.1).resolve_left (Ne.symm z), q.2⟩)]
    refine List.ext_getElem? fun j => ?_
    rw [key vs j]
    by_cases hj : j ∈ vs ∧ j < τ.length
    · rw [if_pos hj, List.getD_eq_getElem?_getD]
      have : j < σ.length := by omega
      simp [this]
    · rw [if_neg hj]
      by_cases hv : j ∈ vs
      · have : ¬ j < τ.length := fun q => hj ⟨hv, q⟩
        rw [List.getElem?_eq_none (by omega), List.getElem?_eq_none (by omega)]
      · exact h j hv
end

/-! ### comprehensions -/
structure DTs (X : Cx) (T : List Addr) (W : XK) (ifs : List Expr) (c : Tv) : Prop where
  pt : PTs X ifs (rdT X.K T W c)
def yesT : Tv := fun e => .ok true e
theorem dts_nil {X : Cx} {T : List Addr} {W : XK} : DTs X T W [] yesT := ⟨⟨fun pins s σ H Q I h => by
  obtain ⟨g, env, ts, len, R, k⟩ := h
  exact pts_nil.run pins s σ H Q I (k H len R)⟩⟩
theorem dts_one {X : Cx} {T : List Addr} {W : XK} {c : Expr} {t : Tv} (h : DT X T W c t) : DTs X T W [c] t := ⟨pts_one h.pt⟩
/-- no error is served -/
def Rs.nox {α : Type} : Rs α → Rs α
  | .bad => .bad
  | .ok a e => .ok a e
  | .ex _ => .bad
@[simp] theorem Rs.nox_ok {α : Type} (a : α) (e : Env) : (Rs.ok a e).nox = .ok a e := rfl
@[simp] theorem Rs.nox_bad {α : Type} : (Rs.bad : Rs α).nox = .bad := rfl
theorem Rs.Wp.nox {α : Type} {r : Rs α} {k : α → Env → Prop} {h : Ex → Prop} (w : r.nox.Wp k h) : r.Wp k fun _ => False := by
  cases r with
  | bad => exact w
  | ok a e => exact w
  | ex x => exact w
/-- no error leaves -/
abbrev W0 : XK := fun _ _ _ => False
theorem Rs.Wp.nox0 {α : Type} {r : Rs α} {k : α → Env → Prop} {h : Ex → Prop} {h' : Ex → Prop} (w : r.nox.Wp k h) : r.Wp k h' := w.nox.imp (fun _ _ _ z => z) fun _ z => z.elim
def lcG (tg : Tg) (c : Tv) (f : Ev) (own : List Nat) : List D → List Sl → Ev
  | [], acc, e => .ok (.o acc) e
  | d :: ds, acc, e => (Rs.of (tg (.v d) e) e).bind fun e1 _ => (c e1).nox.bind fun b e2 => if b = true then (f e2).nox.bind fun r e3 => lcG tg c f own ds (acc ++ [r]) (wipeE own e3) else lcG tg c f own ds acc (wipeE own e2)
def lcS (it : Iv) (tg : Tg) (c : Tv) (f : Ev) (own : List Nat) : Ev := fun env => (it env).bind fun ds e => if ds.length ≤ sizeLine then (lcG tg c f own ds [] (wipeE own e)).bind fun r e2 => .ok r (restE own e e2) else .bad
theorem lcG_ex {tg : Tg} {c : Tv} {f : Ev} {own : List Nat} : ∀ (ds : List D) (acc : List Sl) (e : Env) (k : Sl → Env → Prop) (h h' : Ex → Prop), (lcG tg c f own ds acc e).Wp k h → (lcG tg c f own ds acc e).Wp k h'
  | [], acc, e, k, h, h', w => w
  | d :: ds, acc, e, k, h, h', w => by
    have w1 : ((Rs.of (tg (.v d) e) e).bind fun e1 _ => (c e1).nox.bind fun b e2 => if b = true then (f e2).nox.bind fun r e3 => lcG tg c f own ds (acc ++ [r]) (wipeE own e3) else lcG tg c f own ds acc (wipeE own e2)).Wp k h := w
    show ((Rs.of (tg (.v d) e) e).bind fun e1 _ => (c e1).nox.bind fun b e2 => if b = true then (f e2).nox.bind fun r e3 => lcG tg c f own ds (acc ++ [r]) (wipeE own e3) else lcG tg c f own ds acc (wipeE own e2)).Wp k h'
    cases q : tg (.v d) e with
    | none => rw [q] at w1; exact w1.elim
    | some e1 =>
      rw [q] at w1
      rw [Rs.of_some, Rs.bind_ok] at w1 ⊢
      cases q2 : c e1 with
      | bad => rw [q2] at w1; exact w1.elim
      | ex x => rw [q2] at w1; exact w1.elim
      | ok b e2 =>
        rw [q2] at w1
        rw [Rs.nox_ok, Rs.bind_ok] at w1 ⊢
        cases b with
        | false =>
          rw [if_neg Bool.false_ne_true] at w1 ⊢
          exact lcG_ex ds acc _ k h h' w1
        | true =>
          rw [if_pos rfl] at w1 ⊢
          cases q3 : f e2 with
          | bad => rw [q3] at w1; exact w1.elim
          | ex x => rw [q3] at w1; exact w1.elim
          | ok r e3 =>
            rw [q3] at w1
            rw [Rs.nox_ok, Rs.bind_ok] at w1 ⊢
            exact lcG_ex ds _ _ k h h' w1
/-- the turns of a comprehension: what its reading asks -/
theorem lc_turns {K : Frg} {T : List Addr} {W : XK} {it : Iv} {tg : Tg} {c : Tv} {f : Ev} {own Wd : List Nat} {wi : TI} {σ : L2.St} {H : Hp} {Q : VK} (hwi : rdI K T W it wi) (nd : own.Nodup) (hw : ∀ i, own.contains i = false → Wd.contains i = false)
    (h : rdE K T W (lcS it tg c f own) σ H Q) : tLc wi (rdG K T Wd tg) (rdT K T W0 c) (rdE K T W0 f) own σ H Q := by
  obtain ⟨g, env, ts, len, R, q⟩ := h
  refine hwi σ H _ ⟨g, env, ts, len, R, (Rs.Wp.bind q).imp (fun items env0 _ q J hold H1 len1 R1 wd => ?_) fun _ z => z⟩
  by_cases hsz : items.length ≤ sizeLine
  · rw [if_pos hsz] at q
    have q := Rs.Wp.bind q
    intro D hD
    have Rw := Rel.wipe len1 (R1.perm (List.perm_append_comm_assoc _ _ _)) own nd
    -- the new list's root
    have R2 : DL.Rel K T g ((.o [], some (.ref D)) :: (hold ++ (pr (wipeE own env0) (L2.wipe σ own) ++ (sv own env0 σ ++ ts)))) (upd H1 D (.lst [])) := by
      have Rw2 : DL.Rel K T g (hold ++ (pr (wipeE own env0) (L2.wipe σ own) ++ (sv own env0 σ ++ ts))) H1 := Rw.perm (by
        refine List.Perm.trans (List.Perm.append_left _ (List.perm_append_comm_assoc _ _ _)) ?_
        exact List.perm_append_comm_assoc _ _ _)
      refine Rel.wrap (ts := []) Rw2 hD fun fp hr => ?_
      exact ⟨D, [], fp, rfl, upd_same, ⟨rfl, hr⟩, rfl⟩
    refine lc_it wd.w (fun i H' => ∃ e acc, Ln g e (L2.wipe σ own) ∧ acc.length ≤ i ∧ DL.Rel K T g ((.o acc, some (.ref D)) :: (hold ++ (pr e (L2.wipe σ own) ++ (sv own env0 σ ++ ts)))) H' ∧
      (lcG tg c f own (items.drop i) acc e).Wp (fun r e2 => ∀ v H', Ln g (restE own env0 e2) σ → DL.Rel K T g ((r, some v) :: (pr (restE own env0 e2) σ ++ ts)) H' → Q v H') (exW K T g W)) ⟨wipeE own env0, [], len1.wipe own, Nat.le_refl _, R2, q⟩ (fun i H' _ ⟨e, acc, _, _, R', _⟩ => Rel.hold (rs := _) R'.tail wd.fz) ?_ ?_
    · rintro i x H' H2 hi ⟨e, acc, len', hacc, R', q'⟩ ⟨d, hd, hx, hr⟩
      have ed : items.drop i = d :: items.drop (i + 1) := by
        obtain ⟨h1, h2⟩ := List.getElem?_eq_some_iff.mp hd
        rw [← h2, List.drop_eq_getElem_cons h1]
      rw [ed] at q'
      obtain ⟨e1, he, q'⟩ := Rs.Wp.of (Rs.Wp.bind q')
      have R3 : DL.Rel K T g ((.v d, some x) :: (pr e (L2.wipe σ own) ++ ((.o acc, some (.ref D)) :: (hold ++ (sv own env0 σ ++ ts))))) H2 := ((R'.ext hx).perm (by
        refine List.Perm.trans ?_ List.perm_middle.symm
        exact List.Perm.cons _ (List.perm_append_comm_assoc _ _ _))).pushD hr
      refine ⟨g, e, _, .v d, e1, len', R3, he, fun σ3 len3 un R4 => ?_⟩
      have wsame : L2.wipe σ3 own = L2.wipe σ own := by
        rw [← wipe_wipe (vs := own) (a := σ)]
        refine wipe_same (by rw [len3.2, len'.2]) fun j hj => un j (hw j hj)
      refine ⟨wsame, ?_⟩
      have back : ∀ {e4 : Env} {σ4 : L2.St} {acc4 : List Sl} {H4 : Hp}, Ln g e4 σ3 → DL.Rel K T g (pr e4 σ3 ++ ((.o acc4, some (.ref D)) :: (hold ++ (sv own env0 σ ++ ts)))) H4 →
          Ln g (wipeE own e4) (L2.wipe σ own) ∧ DL.Rel K T g ((.o acc4, some (.ref D)) :: (hold ++ (pr (wipeE own e4) (L2.wipe σ own) ++ (sv own env0 σ ++ ts)))) H4 := fun {e4 σ4 acc4 H4} l4 r4 => by
        have l5 := l4.wipe own
        rw [wsame] at l5
        refine ⟨l5, ?_⟩
        have r5 := Rel.wipe l4 r4 own nd
        rw [wsame] at r5
        have r6 : DL.Rel K T g (sv own e4 σ3 ++ (pr (wipeE own e4) (L2.wipe σ own) ++ ((.o acc4, some (.ref D)) :: (hold ++ (sv own env0 σ ++ ts))))) H4 := r5.perm (List.perm_append_comm_assoc _ _ _)
        refine r6.drop.perm ?_
        refine List.Perm.trans List.perm_middle ?_
        exact List.Perm.cons _ (List.perm_append_comm_assoc _ _ _)
      refine ⟨g, e1, _, len3, R4, ((Rs.Wp.bind q').nox0).imp (fun b e2 _ q2 H3 len4 R5 => ?_) fun _ z => z⟩
      cases b with
      | false =>
        rw [if_neg Bool.false_ne_true]
        rw [if_neg Bool.false_ne_true] at q2
        obtain ⟨l5, r5⟩ := back (σ4 := σ3) len4 R5
        exact ⟨_, acc, l5, Nat.le_succ_of_le hacc, r5, q2⟩
      | true =>
        rw [if_pos rfl]
        rw [if_pos rfl] at q2
        refine ⟨g, e2, _, len4, R5, ((Rs.Wp.bind q2).nox0).imp (fun r e3 _ q3 y H5 len5 R6 => ?_) fun _ z => z⟩
        have R7 : DL.Rel K T g ((.o acc, some (.ref D)) :: (r, some y) :: (pr e3 σ3 ++ (hold ++ (sv own env0 σ ++ ts)))) H5 := R6.perm (by
          refine List.Perm.trans (List.Perm.cons _ List.perm_middle) ?_
          exact .swap ..)
        obtain ⟨vs, hv, hl, R8⟩ := Rel.append R7
        have R9 := R8.perm (List.perm_middle (l₁ := pr e3 σ3)).symm
        obtain ⟨l5, r5⟩ := back (σ4 := σ3) len5 R9
        exact ⟨vs, hv, by rw [← hl]; omega, _, acc ++ [r], l5, by rw [List.length_append, List.length_singleton]; omega, r5, q3⟩
    · rintro H' ⟨e, acc, len', hacc, R', q'⟩
      rw [List.drop_length] at q'
      have Rr : DL.Rel K T g (pr e (L2.wipe σ own) ++ (sv own env0 σ ++ ((.o acc, some (.ref D)) :: ts))) H' := by
        have r1 : DL.Rel K T g (hold ++ ((.o acc, some (.ref D)) :: (pr e (L2.wipe σ own) ++ (sv own env0 σ ++ ts)))) H' := R'.perm List.perm_middle.symm
        refine r1.drop.perm ?_
        refine List.Perm.trans List.perm_middle.symm ?_
        refine List.Perm.append_left _ ?_
        exact List.perm_middle.symm
      have lw : (L2.wipe σ own).length = σ.length := wipe_len own σ
      have Rz := Rel.rest len1 own e (L2.wipe σ own) _ len' Rr
      rw [restV_wipe own (L2.wipe σ own) nd lw (fun j hj => wipe_get hj)] at Rz
      exact q' (.ref D) H' ⟨by rw [restE_len]; exact len'.1.trans lw, len1.2⟩ (Rz.perm List.perm_middle)
  · rw [if_neg hsz] at q
    exact q.elim
/-- [elt for tg in iter if ..] -/
theorem d_lc {X : Cx} {T : List Addr} {W : XK} {elt tge iter : Expr} {ifs : List Expr} {scope : Scope} {own : List (Str × Nat)} {pos : Pos} {it : Iv} {tg : Tg} {c : Tv} {f : Ev} {Wd : List Nat} (hc : X.calm = true) (hN : X.N.Nodup) (di : DI X T W tge iter it) (ok : BlkOk X.N X.env.scope scope own)
    (dg : ∀ (s : Shared) (H : Hp) (C : Addr) (cl : List (Str × Addr)) (fp : List Addr), DG (X.blk s H scope (compEnvC scope cl C X.env) fp) T Wd tge tg) (dt : ∀ (s : Shared) (H : Hp) (C : Addr) (cl : List (Str × Addr)) (fp : List Addr), DTs (X.blk s H scope (compEnvC scope cl C X.env) fp) T W0 ifs c)
    (de : ∀ (s : Shared) (H : Hp) (C : Addr) (cl : List (Str × Addr)) (fp : List Addr), DE (X.blk s H scope (compEnvC scope cl C X.env) fp) T W0 elt f) (nd : (own.map (·.2)).Nodup := by decide) (hw : ∀ i, (own.map (·.2)).contains i = false → Wd.contains i = false := by exact fun _ h => h)
    (hs : ∀ x, foldedSetIterable iter X.env x = pure x := by intro _; rfl) : DE X T W (.ListComp elt [⟨tge, iter, ifs, 0⟩] scope pos) (lcS it tg c f (own.map (·.2))) := by
  obtain ⟨wi, pi, hwi⟩ := di.pi
  exact ⟨(pe_lc (g := rdG X.K T Wd tg) (tt := rdT X.K T W0 c) (te := rdE X.K T W0 f) hc hN pi ok (fun s H C cl fp => (dg s H C cl fp).pg) (fun s H C cl fp => (dt s H C cl fp).pt) (fun s H C cl fp => (de s H C cl fp).pe) hs).mono fun σ H Q h => lc_turns hwi nd hw h⟩
/-- name = [..] on one line -/
theorem ds_setLc {X : Cx} {T : List Addr} {W : XK} {P : List Nat} {i : Nat} {y : Str} {py spos : Pos} {elt tge iter : Expr} {ifs : List Expr} {scope : Scope} {own : List (Str × Nat)} {pos : Pos} {it : Iv} {tg : Tg} {c : Tv} {f : Ev} {Wd : List Nat} (hc : X.calm = true) (hN : X.N.Nodup) (hy : X.N[i]? = some y) (hyl : X.env.scope.names.lookup y = some .local)
    (hsw : swapsWith (.ListComp elt [⟨tge, iter, ifs, 0⟩] scope pos) (some (.Name y py)) spos.line X.env = pure true) (di : DI X T W tge iter it) (ok : BlkOk X.N X.env.scope scope own)
    (dg : ∀ (s : Shared) (H : Hp) (C : Addr) (cl : List (Str × Addr)) (fp : List Addr), DG (X.blk s H scope (compEnvC scope cl C X.env) fp) T Wd tge tg) (dt : ∀ (s : Shared) (H : Hp) (C : Addr) (cl : List (Str × Addr)) (fp : List Addr), DTs (X.blk s H scope (compEnvC scope cl C X.env) fp) T W0 ifs c)
    (de : ∀ (s : Shared) (H : Hp) (C : Addr) (cl : List (Str × Addr)) (fp : List Addr), DE (X.blk s H scope (compEnvC scope cl C X.env) fp) T W0 elt f) (hp : P.contains i = false := by rfl) (nd : (own.map (·.2)).Nodup := by decide) (hw : ∀ i, (own.map (·.2)).contains i = false → Wd.contains i = false := by exact fun _ h => h)
    (hs : ∀ x, foldedSetIterable iter X.env x = pure x := by intro _; rfl) : DS X T W P (.Assign [.Name y py] (.ListComp elt [⟨tge, iter, ifs, 0⟩] scope pos) spos) (setS i (lcS it tg c f (own.map (·.2)))) := by
  obtain ⟨wi, pi, hwi⟩ := di.pi
  refine ⟨(ps_setLc (g := rdG X.K T Wd tg) (tt := rdT X.K T W0 c) (te := rdE X.K T W0 f) hc hN hy hyl hsw pi ok (fun s H C cl fp => (dg s H C cl fp).pg) (fun s H C cl fp => (dt s H C cl fp).pt) (fun s H C cl fp => (de s H C cl fp).pe) hs).mono fun D σ H q => ?_⟩
  obtain ⟨g, pv, env, ts, len, po, R, q⟩ := q
  refine lc_turns hwi nd hw ⟨g, env, ts, len, R, (Rs.Wp.bind q).imp (fun r e _ q v H' len' R' => ?_) fun _ z => z⟩
  exact q _ H' len'.set2 (ports_set po hp) (Rel.store len' R')
end DL


set_option maxHeartbeats 1000000
namespace DL
open PySem PySem.Spec PyProof.Rows L2

/-! ### what a def promises -/
inductive FR where
  | bad
  | ret (r : Sl) (outs : List Sl)
  | ex (x : Ex)
abbrev Den := List Sl → FR
/-- of the parameters' values those that are handed in to be changed -/
def portV : List Bool → List V → List V
  | true :: fl, v :: vs => v :: portV fl vs
  | false :: fl, _ :: vs => portV fl vs
  | _, _ => []
def portI : List Bool → Nat → List Nat
  | true :: fl, n => n :: portI fl (n + 1)
  | false :: fl, n => portI fl (n + 1)
  | [], _ => []
def RetOk (K : Frg) (T : List Addr) (H H' : Hp) (fp : List Addr) (r : Sl) (v : V) (outs : List Sl) (pv : List V) : Prop :=
  outs.length = pv.length ∧ ∃ fq, Rts K H' ((r, some v) :: outs.zip (pv.map some)) fq ∧ fq.Nodup ∧ (∀ a ∈ fq, a ∈ fp ∨ H a = none) ∧ Kp H H' fp ∧ Tabs T H'
def spF (K : Frg) (T : List Addr) (fl : List Bool) (den : Den) : Sp := fun vs H Q E => vs.length = fl.length ∧ ∃ ss fp, Rps K H ss vs fp ∧ fp.Nodup ∧ Tabs T H ∧ match den ss with
  | .bad => False
  | .ret r outs => ∀ v H', RetOk K T H H' fp r v outs (portV fl vs) → Q v H'
  | .ex x => ∀ d H', Kp H H' fp → Tabs T H' → ExRep K H' x d → E (.ref x.C) (some d) H'
/-- a def's worth from its body's: n slots -/
def denOf (n : Nat) (fl : List Bool) (b : Sv) : Den := fun ss => match b (ss ++ List.replicate (n - ss.length) .u) with
  | .bad => .bad
  | .ok (.rt r) e => .ret r ((portI fl 0).map fun i => e.getD i .u)
  | .ok .nx e => .ret (.v .non) ((portI fl 0).map fun i => e.getD i .u)
  | .ok _ _ => .bad
  | .ex x => .ex x
theorem portI_ge : ∀ (fl : List Bool) (n i : Nat), i ∈ portI fl n → n ≤ i
  | true :: fl, n, i, h => by
    rcases List.mem_cons.mp h with z | z
    · omega
    · have := portI_ge fl (n + 1) i z
      omega
  | false :: fl, n, i, h => by
    have := portI_ge fl (n + 1) i h
    omega
theorem portI_nodup : ∀ (fl : List Bool) (n : Nat), (portI fl n).Nodup
  | true :: fl, n => List.nodup_cons.mpr ⟨fun z => by
      have := portI_ge fl (n + 1) n z
      omega, portI_nodup fl (n + 1)⟩
  | false :: fl, n => portI_nodup fl (n + 1)
  | [], _ => List.nodup_nil
theorem ports_start : ∀ (fl : List Bool) (vs : List V) (pre : L2.St) (post : L2.St), vs.length = fl.length → Ports (pre ++ vs.map some ++ post) (portI fl pre.length) (portV fl vs)
  | [], [], pre, post, h => rfl
  | true :: fl, v :: vs, pre, post, h => by
    refine ⟨v, portV fl vs, rfl, ?_, ?_⟩
    · rw [List.append_assoc, List.getElem?_append_right (Nat.le_refl _), Nat.sub_self]
      rfl
    · have := ports_start fl vs (pre ++ [some v]) post (by simpa using h)
      simpa using this
  | false :: fl, v :: vs, pre, post, h => by
    have := ports_start fl vs (pre ++ [some v]) post (by simpa using h)
    simpa [portI, portV] using this
  | [], _ :: _, _, _, h => by cases h
  | true :: _, [], _, _, h => by cases h
  | false :: _, [], _, _, h => by cases h
theorem ports_len {σ : L2.St} : ∀ {P : List Nat} {pv : List V}, Ports σ P pv → P.length = pv.length
  | [], pv, h => by
    obtain rfl : pv = [] := h
    rfl
  | i :: P, _, ⟨v, r, e, _, t⟩ => by rw [e, List.length_cons, List.length_cons, ports_len t]
theorem sv_ports {env : Env} {σ : L2.St} : ∀ {P : List Nat} {pv : List V}, Ports σ P pv → sv P env σ = (P.map fun i => env.getD i .u).zip (pv.map some)
  | [], _, h => by rw [show _ = [] from h]; rfl
  | i :: P, _, ⟨v, r, e, h, t⟩ => by
    rw [e]
    show (env.getD i .u, σ.getD i none) :: sv P env σ = (env.getD i .u, some v) :: _
    rw [getD_of h, sv_ports t]
    rfl
theorem rts_start {K : Frg} {H : Hp} : ∀ (ss : List Sl) (vs : List V) (fp : List Addr) (n : Nat), Rps K H ss vs fp → Rts K H (pr (ss ++ List.replicate n .u) (vs.map some ++ List.replicate n none)) fp := fun ss vs fp n h => by
  have hl := Rps.length ss vs fp h
  have e : pr (ss ++ List.replicate n .u) (vs.map some ++ List.replicate n none) = ss.zip (vs.map some) ++ (List.replicate n Sl.u).zip (List.replicate n (none : Option V)) := by
    unfold pr
    rw [List.zip_append (by rw [List.length_map]; exact hl)]
  rw [e]
  refine (Rts.append _ _ _).mpr ⟨fp, [], (rps_of ss vs fp hl).mpr h, ?_, by simp⟩
  induction n with
  | zero => rfl
  | succ n ih => exact ⟨[], [], rfl, ih (by
      unfold pr
      rw [List.zip_append (by rw [List.length_map]; exact hl)]), rfl⟩
section
variable {P : Program} {w : World} {K : Frg} {mg : Str → Option Value} {base : Heap} {x qual : Str} {params : Arguments} {body : List Stmt} {scope : Scope} {f : Addr} {fd : FuncData} {T : List Addr}
/-- a def's body, from its parameters' values -/
theorem body_of {N ps : List Str} {fl : List Bool} {b : Sv} {X : Cx} {vs : List V} {H : Hp} {Q : VK} {E : XK} (S : FnScope N ps scope) (hfl : fl.length = ps.length) (eK : X.K = K)
    (hbody : DB X T E (portI fl 0) body b) (h : spF K T fl (denOf N.length fl b) vs H Q E) :
    ∃ t, PSs X body t ∧ t { nx := fun _ H' => Q .non H', rt := Q } (L2.start N vs) H := by
  subst eK
  refine ⟨_, hbody.ps, ?_⟩
  obtain ⟨hl, ss, fp, hrp, nd, tb, hd⟩ := h
  have hs := Rps.length ss vs fp hrp
  have hle : vs.length ≤ N.length := by
    have := congrArg List.length S.pre
    rw [List.length_take] at this
    omega
  have eN : N.length - vs.length = N.length - ss.length := by rw [hs]
  have len : Ln ⟨H, fp, N.length⟩ (ss ++ List.replicate (N.length - ss.length) .u) (L2.start N vs) := by
    unfold L2.start
    refine ⟨?_, ?_⟩
    · simp [hs]
    · simp; omega
  refine ⟨⟨H, fp, N.length⟩, portV fl vs, ss ++ List.replicate (N.length - ss.length) .u, [], len, ?_, ?_, ?_⟩
  · unfold L2.start
    exact ports_start fl vs [] _ hl
  · rw [List.append_nil]
    unfold L2.start
    rw [eN]
    exact ⟨fp, rts_start ss vs fp _ hrp, nd, fun a ha => .inl ha, .refl H fp, tb⟩
  · have fin : ∀ (r : Sl) (v : V) (env' : Env) (σ' : L2.St) (H' : Hp), Ln ⟨H, fp, N.length⟩ env' σ' → Ports σ' (portI fl 0) (portV fl vs) → DL.Rel X.K T ⟨H, fp, N.length⟩ ((r, some v) :: (pr env' σ' ++ [])) H' →
        RetOk X.K T H H' fp r v ((portI fl 0).map fun i => env'.getD i .u) (portV fl vs) := fun r v env' σ' H' l po R => by
      refine ⟨by rw [List.length_map]; exact ports_len po, ?_⟩
      have R2 : DL.Rel X.K T ⟨H, fp, N.length⟩ (pr env' σ' ++ [(r, some v)]) H' := by
        rw [List.append_nil] at R
        exact R.perm (List.perm_append_comm (l₁ := [(r, some v)]))
      have R3 := Rel.wipe l R2 (portI fl 0) (portI_nodup fl 0)
      have R4 := R3.drop
      rw [sv_ports po] at R4
      obtain ⟨fq, h⟩ := R4.perm (List.perm_append_comm (l₂ := [(r, some v)]))
      exact ⟨fq, h⟩
    unfold denOf at hd
    cases q : b (ss ++ List.replicate (N.length - ss.length) .u) with
    | bad => rw [q] at hd; exact hd
    | ex y =>
      rw [q] at hd
      exact hd
    | ok o e =>
      rw [q] at hd
      cases o with
      | nx => exact fun σ' H' l po R => hd .non H' (fin _ _ e σ' H' l po (R.pushD rfl))
      | rt r => exact fun v σ' H' l po R => hd v H' (fin r v e σ' H' l po R)
      | bk => exact hd.elim
      | ct => exact hd.elim
/-- THE RULE for a def -/
theorem fn_ok {N ps : List Str} {k : Nat} {fl : List Bool} {b : Sv} (F : FunD K x qual params body scope [] [] f fd) (S : FnScope N ps scope) (hfl : fl.length = ps.length)
    (hbody : ∀ (cdv : Value) (A : Around) (outer : List PySem.Env) (s : Shared) (H : Hp) (E : XK), Room k (A.deeper (envOfC qual scope s.heap.objs.size f cdv)) →
      DB (cxOf (L2.CX P w) P w K mg base N qual scope f cdv A outer s H E) T E (portI fl 0) body b) :
    FnOk P w K mg base (L2.CX P w) (k + 1) f fd ps (spF K T fl (denOf N.length fl b)) :=
  F.ok S (fun vs H Q E h => by rw [h.1, hfl]) fun cdv A outer s H vs Q E hr h => body_of S hfl rfl (hbody cdv A outer s H E hr) h
/-- .. whose code object is told -/
theorem fn_okC {N ps : List Str} {k : Nat} {fl : List Bool} {b : Sv} {c : Addr} (F : FunD K x qual params body scope [] [] f fd) (S : FnScope N ps scope) (hfl : fl.length = ps.length)
    (hc : ∀ oc od osl cdv (fd' : FuncData), K.lookup f = some ⟨oc, od, .func fd', osl⟩ → fd'.code = cdv → PySem.W.codeIn K cdv qual = true → cdv = .ref c)
    (hbody : ∀ (A : Around) (outer : List PySem.Env) (s : Shared) (H : Hp) (E : XK), Room k (A.deeper (envOfC qual scope s.heap.objs.size f (.ref c))) →
      DB (cxOf (L2.CX P w) P w K mg base N qual scope f (.ref c) A outer s H E) T E (portI fl 0) body b) :
    FnOk P w K mg base (L2.CX P w) (k + 1) f fd ps (spF K T fl (denOf N.length fl b)) := by
  obtain ⟨oc, od, dV, kV, doc, pm, an, cdv, ct, osl, rfl, lk, hcd, _, _⟩ := F.ex
  have e := hc _ _ _ _ _ lk rfl hcd
  have e2 : cdv = .ref c := e
  subst e2
  exact fn_of lk hcd S (fun vs H Q E h => by rw [h.1, hfl]) fun A outer s H vs Q E hr h => body_of S hfl rfl (hbody A outer s H E hr) h
end

/-! ### calls -/
def prepA : List Bool → List Opd → List (Option Sl) → Env → Rs (List Sl)
  | false :: fl, .nm i :: as, _ :: rs, e => (Rs.of ((gt e i).bind toD) e).bind fun d e => (prepA fl as rs (e.set i (.v d))).bind fun ds e2 => .ok (.v d :: ds) e2
  | false :: fl, .ex _ :: as, some r :: rs, e => (Rs.of (toD r) e).bind fun d e => (prepA fl as rs e).bind fun ds e2 => .ok (.v d :: ds) e2
  | true :: fl, .nm i :: as, _ :: rs, e => (Rs.of (gt e i) e).bind fun s e => (prepA fl as rs (e.set i .u)).bind fun ds e2 => .ok (s :: ds) e2
  | true :: fl, .ex _ :: as, some r :: rs, e => (prepA fl as rs e).bind fun ds e2 => .ok (r :: ds) e2
  | [], [], [], e => .ok [] e
  | _, _, _, _ => .bad
def postA : List Bool → List Opd → List Sl → Env → Env
  | true :: fl, .nm i :: as, o :: outs, e => (postA fl as outs e).set i o
  | true :: fl, .ex _ :: as, _ :: outs, e => postA fl as outs e
  | false :: fl, _ :: as, outs, e => postA fl as outs e
  | _, _, _, e => e
theorem prep_of {K : Frg} {T : List Addr} {g : G} {σ : L2.St} {kE : Ex → Prop} : ∀ (fl : List Bool) (as : List Opd) (rs : List (Option Sl)) (vs : List V) (ts : List (Sl × Option V)) (env : Env) (H : Hp) (k : List Sl → Env → Prop), named σ as rs vs → Ln g env σ → DL.Rel K T g (tmps rs vs ++ (pr env σ ++ ts)) H →
    (prepA fl as rs env).Wp k kE → Gh H fun H' => ∃ ss env', k ss env' ∧ Ln g env' σ ∧ ss.length = vs.length ∧ vs.length = fl.length ∧ DL.Rel K T g (ss.zip (vs.map some) ++ (pr env' σ ++ ts)) H' ∧
      ∀ (outs : List Sl) (e : Env) (rs2 : List (Sl × Option V)) (H2 : Hp), outs.length = (portV fl vs).length → Ln g e σ → DL.Rel K T g (outs.zip ((portV fl vs).map some) ++ (pr e σ ++ rs2)) H2 → Ln g (postA fl as outs e) σ ∧ DL.Rel K T g (pr (postA fl as outs e) σ ++ rs2) H2 := by
  intro fl
  induction fl with
  | nil =>
    intro as rs vs ts env H k nm len R h
    cases as with
    | nil =>
      obtain ⟨e1, e2⟩ := nm
      subst e1 e2
      refine .now ⟨[], env, h, len, rfl, rfl, R, fun outs e rs2 H2 ho l R2 => ?_⟩
      cases outs with
      | nil => exact ⟨l, R2⟩
      | cons _ _ => cases ho
    | cons o as =>
      cases o with
      | nm i => obtain ⟨v, r, q, e1, e2, hv, nm⟩ := nm; subst e1; exact h.elim
      | ex f => obtain ⟨v, r, x, q, e1, e2, nm⟩ := nm; subst e1; exact h.elim
  | cons b fl ih =>
    intro as rs vs ts env H k nm len R h
    cases as with
    | nil =>
      obtain ⟨e1, e2⟩ := nm
      subst e1 e2
      cases b <;> exact h.elim
    | cons o as =>
      cases o with
      | nm i =>
        obtain ⟨v, r, q, e1, e2, hv, nm⟩ := nm
        subst e1 e2
        have R0 : DL.Rel K T g (pr env σ ++ (tmps q r ++ ts)) H := R.perm (List.perm_append_comm_assoc _ _ _)
        cases b with
        | false =>
          obtain ⟨d, q1, h⟩ := Rs.Wp.of (Rs.Wp.bind h)
          obtain ⟨s, q1, q2⟩ := Option.bind_eq_some_iff.mp q1
          obtain ⟨w, l, ew, R1, back, _⟩ := Rel.out len.1 R0 (gt_some q1).1
          rw [hv] at ew
          cases ew
          refine (R1.fz q2).bind fun H1 R2 => ?_
          have hd := R2.getD (d := d) (v := v) List.mem_cons_self
          have R3 := back H1 _ R2
          have R4 : DL.Rel K T g (tmps q r ++ (pr (env.set i (.v d)) σ ++ ((.v d, some v) :: ts))) H1 := (R3.pushD hd).perm (by
            refine List.Perm.trans ?_ (List.perm_append_comm_assoc _ _ _)
            refine List.Perm.trans ?_ (List.Perm.append_left _ List.perm_middle.symm)
            exact List.perm_middle.symm)
          refine (ih as q r _ _ H1 _ nm len.set R4 (Rs.Wp.bind h)).imp fun H2 ⟨ss, e2, hk, len2, hl, hl2, R5, post⟩ => ?_
          refine ⟨.v d :: ss, e2, hk, len2, by rw [List.length_cons, List.length_cons, hl], by rw [List.length_cons, List.length_cons, hl2], R5.perm ?_, fun outs e rs2 H2 ho l R6 => post outs e rs2 H2 ho l R6⟩
          exact (List.Perm.append_left _ List.perm_middle).trans List.perm_middle
        | true =>
          obtain ⟨s, q1, h⟩ := Rs.Wp.of (Rs.Wp.bind h)
          have R1 := Rel.take len R0 (gt_some q1).1 hv
          have R4 : DL.Rel K T g (tmps q r ++ (pr (env.set i .u) σ ++ ((s, some v) :: ts))) H := R1.perm (by
            refine List.Perm.trans ?_ (List.perm_append_comm_assoc _ _ _)
            refine List.Perm.trans ?_ (List.Perm.append_left _ List.perm_middle.symm)
            exact List.perm_middle.symm)
          refine (ih as q r _ _ H _ nm len.set R4 (Rs.Wp.bind h)).imp fun H2 ⟨ss, e2, hk, len2, hl, hl2, R5, post⟩ => ?_
          refine ⟨s :: ss, e2, hk, len2, by rw [List.length_cons, List.length_cons, hl], by rw [List.length_cons, List.length_cons, hl2], R5.perm ?_, fun outs e rs2 H2 ho l R6 => ?_⟩
          · exact (List.Perm.append_left _ List.perm_middle).trans List.perm_middle
          · cases outs with
            | nil => cases ho
            | cons o outs =>
              have R7 : DL.Rel K T g ((o, some v) :: (outs.zip ((portV fl r).map some) ++ (pr e σ ++ rs2))) H2 := R6
              have R8 : DL.Rel K T g (outs.zip ((portV fl r).map some) ++ (pr e σ ++ ((o, some v) :: rs2))) H2 := R7.perm (by
                refine List.Perm.trans ?_ (List.Perm.append_left _ List.perm_middle.symm)
                exact List.perm_middle.symm)
              obtain ⟨l2, R9⟩ := post outs e _ H2 (by simpa [portV] using ho) l R8
              have R10 := Rel.store (i := i) l2 (R9.perm List.perm_middle)
              have es : σ.set i (some v) = σ := by
                obtain ⟨hi, he⟩ := List.getElem?_eq_some_iff.mp hv
                rw [← he]; exact List.set_getElem_self hi
              rw [es] at R10
              exact ⟨l2.set, R10⟩
      | ex f =>
        obtain ⟨v, r, x, q, e1, e2, nm⟩ := nm
        subst e1 e2
        have R0 : DL.Rel K T g ((x, some v) :: (tmps q r ++ (pr env σ ++ ts))) H := R
        cases b with
        | false =>
          obtain ⟨d, q1, h⟩ := Rs.Wp.of (Rs.Wp.bind h)
          refine (R0.fz q1).bind fun H1 R1 => ?_
          have R4 : DL.Rel K T g (tmps q r ++ (pr env σ ++ ((.v d, some v) :: ts))) H1 := R1.perm (by
            refine List.Perm.trans ?_ (List.Perm.append_left _ List.perm_middle.symm)
            exact List.perm_middle.symm)
          refine (ih as q r _ _ H1 _ nm len R4 (Rs.Wp.bind h)).imp fun H2 ⟨ss, e2, hk, len2, hl, hl2, R5, post⟩ => ?_
          refine ⟨.v d :: ss, e2, hk, len2, by rw [List.length_cons, List.length_cons, hl], by rw [List.length_cons, List.length_cons, hl2], R5.perm ?_, fun outs e rs2 H2 ho l R6 => post outs e rs2 H2 ho l R6⟩
          exact (List.Perm.append_left _ List.perm_middle).trans List.perm_middle
        | true =>
          have R4 : DL.Rel K T g (tmps q r ++ (pr env σ ++ ((x, some v) :: ts))) H := R0.perm (by
            refine List.Perm.trans ?_ (List.Perm.append_left _ List.perm_middle.symm)
            exact List.perm_middle.symm)
          refine (ih as q r _ _ H _ nm len R4 (Rs.Wp.bind h)).imp fun H2 ⟨ss, e2, hk, len2, hl, hl2, R5, post⟩ => ?_
          refine ⟨x :: ss, e2, hk, len2, by rw [List.length_cons, List.length_cons, hl], by rw [List.length_cons, List.length_cons, hl2], R5.perm ?_, fun outs e rs2 H2 ho l R6 => ?_⟩
          · exact (List.Perm.append_left _ List.perm_middle).trans List.perm_middle
          · cases outs with
            | nil => cases ho
            | cons o outs =>
              have R7 : DL.Rel K T g ((o, some v) :: (outs.zip ((portV fl r).map some) ++ (pr e σ ++ rs2))) H2 := R6
              exact post outs e rs2 H2 (by simpa [portV] using ho) l R7.tail
def FR.to (o : FR) (fl : List Bool) (as : List Opd) (e : Env) : Rs Sl := match o with
  | .bad => .bad
  | .ret r outs => .ok r (postA fl as outs e)
  | .ex x => .ex x
@[simp] theorem FR.to_ret (r : Sl) (outs : List Sl) (fl : List Bool) (as : List Opd) (e : Env) : (FR.ret r outs).to fl as e = .ok r (postA fl as outs e) := rfl
def callS (fl : List Bool) (den : Den) (as : List Opd) : Ev := fun env => (evA as env).bind fun rs e1 => (prepA fl as rs e1).bind fun ss e2 => (den ss).to fl as e2
/-- what a call's reading asks -/
theorem call_nest {K : Frg} {T : List Addr} {W : XK} {fl : List Bool} {den : Den} (as : List Opd) (σ : L2.St) (H : Hp) (Q : VK) (h : rdE K T W (callS fl den as) σ H Q) :
    nestA (as.map (rdO K T W)) σ H fun vs H1 => Gh H1 fun H2 => spF K T fl den (vs ++ []) H2 Q W := by
  obtain ⟨g, env, ts, len, R, h⟩ := h
  refine nest_of as env ts H _ len R ((Rs.Wp.bind h).imp (fun rs e _ h vs H1 len1 nm R1 => ?_) fun _ z => z)
  refine (prep_of fl as rs vs ts e H1 _ nm len1 R1 (Rs.Wp.bind h)).imp fun H2 ⟨ss, e2, hk, len2, hl, hl2, R2, post⟩ => ?_
  rw [List.append_nil]
  obtain ⟨fp, hr, nd, hf, kp, tb⟩ := R2
  obtain ⟨f1, f2, h1, h2, e0⟩ := (Rts.append _ _ _).mp hr
  subst e0
  obtain ⟨n1, n2, n3⟩ := List.nodup_append.mp nd
  refine ⟨hl2, ss, f1, (rps_of ss vs f1 hl).mp h1, n1, tb, ?_⟩
  have own2 := Rts.own _ f2 h2
  have kpT : ∀ H', Kp H2 H' f1 → Kp g.H0 H' g.fp := fun H' k1 => ⟨kp.f.trans k1.f, fun a u eu nt hn => by
    have q := kp.r a u eu nt hn
    refine k1.r a u q nt fun z => ?_
    rcases hf a (List.mem_append_left _ z) with y | y
    · exact hn y
    · rw [y] at eu; cases eu⟩
  cases hden : den ss with
  | bad => rw [hden] at hk; exact hk
  | ex x =>
    rw [hden] at hk
    exact fun d H' k1 t1 ex => hk d H' (kpT H' k1) t1 ex
  | ret r outs =>
    rw [hden] at hk
    intro v H' ⟨ho, fq, hq, ndq, hfq, k1, t1⟩
    obtain ⟨q1, q2, hq1, hq2, eq⟩ := hq
    subst eq
    have st2 : Rts K H' (pr e2 σ ++ ts) f2 := Rts.stay k1.f _ f2 h2 fun a ha ob eo => k1.r a ob eo (fun ps z => (own2 a ha).ntbl (z ▸ eo)) fun z => n3 a z a ha rfl
    have R3 : DL.Rel K T g (outs.zip ((portV fl vs).map some) ++ (pr e2 σ ++ ((r, some v) :: ts))) H' := by
      obtain ⟨g1, g2, t2, t3, e3⟩ := (Rts.append _ _ _).mp st2
      have big : Rts K H' ((r, some v) :: (outs.zip ((portV fl vs).map some) ++ (pr e2 σ ++ ts))) (q1 ++ (q2 ++ f2)) := ⟨q1, q2 ++ f2, hq1, (Rts.append _ _ _).mpr ⟨q2, f2, hq2, st2, rfl⟩, rfl⟩
      have disj : ∀ a ∈ q1 ++ q2, ∀ b ∈ f2, a ≠ b := fun a ha b hb e4 => by
        subst e4
        rcases hfq a ha with z | z
        · exact n3 a z a hb rfl
        · exact (own2 a hb).nnone z
      have bigR : DL.Rel K T g ((r, some v) :: (outs.zip ((portV fl vs).map some) ++ (pr e2 σ ++ ts))) H' := ⟨_, big, by
          rw [← List.append_assoc]
          exact List.nodup_append.mpr ⟨ndq, n2, disj⟩, fun a ha => by
          rw [← List.append_assoc] at ha
          rcases List.mem_append.mp ha with z | z
          · rcases hfq a z with y | y
            · exact hf a (List.mem_append_left _ y)
            · cases hg : g.H0 a with
              | none => exact .inr rfl
              | some u =>
                by_cases hm : a ∈ g.fp
                · exact .inl hm
                · by_cases ht : ∃ ps, u = .tbl ps
                  · obtain ⟨ps, e5⟩ := ht
                    rw [e5] at hg
                    obtain ⟨qs, q5⟩ := kp.f.tbls a ps hg
                    rw [y] at q5; cases q5
                  · have := kp.r a u hg (fun ps e5 => ht ⟨ps, e5⟩) hm
                    rw [y] at this; cases this
          · exact hf a (List.mem_append_right _ z), kpT H' k1, t1⟩
      refine bigR.perm ?_
      refine List.Perm.trans ?_ (List.Perm.append_left _ List.perm_middle.symm)
      exact List.perm_middle.symm
    obtain ⟨l3, R4⟩ := post outs e2 _ H' ho len2 R3
    exact hk v H' l3 (R4.perm List.perm_middle)
section
variable {X : Cx} {T : List Addr} {W : XK} {k : Nat} {f : Addr} {fd : FuncData} {ps : List Str} {fl : List Bool} {den : Den} {x : Str} {p pos : Pos} {e : Expr} {es : List Expr} {as : List Opd}
theorem d_call (F : FnOk X.prog X.w X.K X.mg X.base (L2.CX X.prog X.w) k f fd ps (spF X.K T fl den)) (hr : Room k X.A) (hg : Gl X x) (hm : X.mg x = some (.ref f)) (hk : PySem.W.keepIn X.K (.ref f) = true) (hb : Binds X.K fd ps []) (hx : Passes (L2.CX X.prog X.w) X W)
    (da : DA X T W (e :: es) as) (hdb : (x == ("__debug__" : Str)) = false := by decide) (he : starEach (e :: es) X.env = (false, eval e X.env) :: starEach es X.env := by rfl) (hpl : (backTo pos (starEach es X.env)).any (·.1) = false := by rfl) :
    DE X T W (.Call (.Name x p) (e :: es) [] pos) (callS fl den as) := ⟨(pe_call F hr hg hm hk hb .nil hx (PA.gh da.pa) hdb he hpl).mono fun σ H Q h => call_nest as σ H Q h⟩
theorem d_call0 (F : FnOk X.prog X.w X.K X.mg X.base (L2.CX X.prog X.w) k f fd ps (spF X.K T fl den)) (hr : Room k X.A) (hg : Gl X x) (hm : X.mg x = some (.ref f)) (hk : PySem.W.keepIn X.K (.ref f) = true) (hb : Binds X.K fd ps []) (hx : Passes (L2.CX X.prog X.w) X W)
    (hdb : (x == ("__debug__" : Str)) = false := by decide) : DE X T W (.Call (.Name x p) [] [] pos) (callS fl den []) := ⟨(PE.pre (pe_call0 F hr hg hm hk hb .nil hx hdb)).mono fun σ H Q h => call_nest [] σ H Q h⟩
end
/-- a weaker worth -/
theorem FnOk_imp {P : Program} {w : World} {K : Frg} {mg : Str → Option Value} {base : Heap} {CX : CXT} {k : Nat} {f : Addr} {fd : FuncData} {ps : List Str} {T : List Addr} {fl : List Bool} {den den' : Den} (F : FnOk P w K mg base CX k f fd ps (spF K T fl den)) (h : ∀ ss, den' ss ≠ .bad → den ss = den' ss) : FnOk P w K mg base CX k f fd ps (spF K T fl den') := by
  refine F.imp fun vs H Q E ⟨hl, ss, fp, hr, nd, tb, hd⟩ => ⟨hl, ss, fp, hr, nd, tb, ?_⟩
  have hn : den' ss ≠ .bad := fun z => by rw [z] at hd; exact hd
  rw [h ss hn]
  exact hd
end DL


set_option maxHeartbeats 1000000
namespace DL
open PySem PySem.Spec PyProof.Rows L2

/-! ### views -/
def vsOf : List Sl → Option (List D)
  | [] => some []
  | .v d :: xs => (vsOf xs).map (d :: ·)
  | _ => none
@[simp] theorem vsOf_map (ds : List D) : vsOf (ds.map .v) = some ds := by
  induction ds with
  | nil => rfl
  | cons d ds ih =>
    show (vsOf (ds.map .v)).map (d :: ·) = _
    rw [ih]
    rfl
theorem vsOf_eq : ∀ {xs : List Sl} {ds : List D}, vsOf xs = some ds → xs = ds.map .v
  | [], ds, h => by cases h; rfl
  | .v d :: xs, ds, h => by
    obtain ⟨r, h1, h2⟩ := Option.map_eq_some_iff.mp (show (vsOf xs).map (d :: ·) = some ds from h)
    rw [← h2, vsOf_eq h1]
    rfl
  | .u :: _, _, h => by cases h
  | .o _ :: _, _, h => by cases h
  | .k _ _ :: _, _, h => by cases h
  | .t _ _ :: _, _, h => by cases h
  | .i _ _ _ :: _, _, h => by cases h
theorem repDs_of {K : Frg} {H : Hp} : ∀ (ds : List D) (vs : List V) (f : List Addr), Rps K H (ds.map .v) vs f → RepDs K H ds vs ∧ f = []
  | [], vs, f, h => h
  | d :: ds, _, _, ⟨v, r, f1, f2, e, ⟨e1, v', ev, hd⟩, t, ef⟩ => by
    cases ev
    obtain ⟨h2, e2⟩ := repDs_of ds r f2 t
    exact ⟨⟨v, r, e, hd, h2⟩, by rw [ef, e1, e2]; rfl⟩
theorem rps_map {K : Frg} {H : Hp} : ∀ (ds : List D) (vs : List V), RepDs K H ds vs → Rps K H (ds.map .v) vs []
  | [], vs, h => ⟨h, rfl⟩
  | d :: ds, _, ⟨v, r, e, hd, t⟩ => ⟨v, r, [], [], e, ⟨rfl, v, rfl, hd⟩, rps_map ds r t, rfl⟩
/-- a list that is read -/
def listV : Sl → Option (List D)
  | .v (.lst xs) => some xs
  | .o xs => vsOf xs
  | _ => none
@[simp] theorem listV_lst (xs : List D) : listV (.v (.lst xs)) = some xs := rfl
@[simp] theorem listV_o (xs : List D) : listV (.o (xs.map .v)) = some xs := vsOf_map xs
theorem listV_rd {K : Frg} {H : Hp} {s : Sl} {v : V} {f : List Addr} {ds : List D} (h : Rp K H s (some v) f) (e : listV s = some ds) : ∃ a vs, v = .ref a ∧ SqL K H a vs ∧ RepDs K H ds vs := by
  unfold listV at e
  split at e
  · cases e
    obtain ⟨_, v', ev, a, vs, ea, fz, hr⟩ := h
    cases ev
    exact ⟨a, vs, ea, fz.sq, hr⟩
  · obtain ⟨a, vs, fq, ew, ha, hr, _⟩ := h
    cases ew
    rw [vsOf_eq e] at hr
    exact ⟨a, vs, rfl, SqL.of ha, (repDs_of ds vs fq hr).1⟩
  · cases e
def tupV : Sl → Option (List D)
  | .v (.tg _ xs) => some xs
  | _ => none
@[simp] theorem tupV_tup (k : TK) (xs : List D) : tupV (.v (.tg k xs)) = some xs := rfl
theorem tupV_rd {K : Frg} {H : Hp} {s : Sl} {v : V} {f : List Addr} {ds : List D} (h : Rp K H s (some v) f) (e : tupV s = some ds) : ∃ a vs, v = .ref a ∧ SqT K H a vs ∧ RepDs K H ds vs := by
  unfold tupV at e
  split at e
  · cases e
    obtain ⟨_, v', ev, a, vs, ea, ht, hr⟩ := h
    cases ev
    exact ⟨a, vs, ea, ht.sq, hr⟩
  · cases e
theorem int_rd {K : Frg} {H : Hp} {v : V} {f : List Addr} {i : Int} (h : Rp K H (.v (.int i)) (some v) f) : v = .int i := by
  obtain ⟨_, v', ev, hd⟩ := h
  cases ev
  exact hd
theorem str_rd {K : Frg} {H : Hp} {v : V} {f : List Addr} {i : Str} (h : Rp K H (.v (.str i)) (some v) f) : v = .str i := by
  obtain ⟨_, v', ev, hd⟩ := h
  cases ev
  exact hd
theorem bl_rd {K : Frg} {H : Hp} {v : V} {f : List Addr} {i : Bool} (h : Rp K H (.v (.bl i)) (some v) f) : v = .bl i := by
  obtain ⟨_, v', ev, hd⟩ := h
  cases ev
  exact hd
theorem RepDs.get {K : Frg} {H : Hp} : ∀ {ds : List D} {vs : List V} {i : Nat} {d : D}, RepDs K H ds vs → ds[i]? = some d → ∃ v, vs[i]? = some v ∧ RepD K H d v
  | [], _, _, _, _, e => by simp at e
  | x :: ds, _, 0, d, ⟨v, r, e, h, t⟩, q => by
    simp at q
    subst q e
    exact ⟨v, rfl, h⟩
  | x :: ds, _, i + 1, d, ⟨v, r, e, h, t⟩, q => by
    subst e
    obtain ⟨w, h1, h2⟩ := RepDs.get (i := i) t (by simpa using q)
    exact ⟨w, by simpa using h1, h2⟩
theorem RepDs.append {K : Frg} {H : Hp} : ∀ {a b : List D} {va vb : List V}, RepDs K H a va → RepDs K H b vb → RepDs K H (a ++ b) (va ++ vb)
  | [], b, va, vb, h, k => by rw [show va = [] from h]; exact k
  | x :: a, b, _, vb, ⟨v, r, e, h, t⟩, k => ⟨v, r ++ vb, by rw [e]; rfl, h, RepDs.append t k⟩
theorem RepDs.drop {K : Frg} {H : Hp} : ∀ {a : List D} {va : List V} (n : Nat), RepDs K H a va → RepDs K H (a.drop n) (va.drop n)
  | _, _, 0, h => h
  | [], va, n + 1, h => by rw [show va = [] from h]; exact rfl
  | x :: a, _, n + 1, ⟨v, r, e, h, t⟩ => by
    subst e
    exact RepDs.drop n t
theorem RepDs.take {K : Frg} {H : Hp} : ∀ {a : List D} {va : List V} (n : Nat), RepDs K H a va → RepDs K H (a.take n) (va.take n)
  | _, _, 0, h => rfl
  | [], va, n + 1, h => by rw [show va = [] from h]; exact rfl
  | x :: a, _, n + 1, ⟨v, r, e, h, t⟩ => by
    subst e
    exact ⟨v, r.take n, rfl, h, RepDs.take n t⟩
theorem RepDs.ints {K : Frg} {H : Hp} : ∀ {ns : List Int} {vs : List V}, RepDs K H (ns.map .int) vs → vs = ns.map V.int
  | [], vs, h => h
  | n :: ns, _, ⟨v, r, e, h, t⟩ => by rw [e, show v = .int n from h, RepDs.ints t]; rfl
theorem RepDs.of_ints {K : Frg} {H : Hp} : ∀ (ns : List Int), RepDs K H (ns.map .int) (ns.map V.int)
  | [] => rfl
  | n :: ns => ⟨_, _, rfl, rfl, RepDs.of_ints ns⟩
def intsD : List D → Option (List Int)
  | [] => some []
  | .int i :: ds => (intsD ds).map (i :: ·)
  | _ => none
@[simp] theorem intsD_map (ns : List Int) : intsD (ns.map .int) = some ns := by
  induction ns with
  | nil => rfl
  | cons d ds ih =>
    show (intsD (ds.map .int)).map (d :: ·) = _
    rw [ih]
    rfl
theorem intsD_eq : ∀ {xs : List D} {ds : List Int}, intsD xs = some ds → xs = ds.map .int
  | [], ds, h => by cases h; rfl
  | .int d :: xs, ds, h => by
    obtain ⟨r, h1, h2⟩ := Option.map_eq_some_iff.mp (show (intsD xs).map (d :: ·) = some ds from h)
    rw [← h2, intsD_eq h1]
    rfl
  | .non :: _, _, h => by cases h
  | .bl _ :: _, _, h => by cases h
  | .str _ :: _, _, h => by cases h
  | .tg _ _ :: _, _, h => by cases h
  | .lst _ :: _, _, h => by cases h
  | .dk _ _ :: _, _, h => by cases h
  | .dt _ _ :: _, _, h => by cases h
  | .cls _ :: _, _, h => by cases h
  | .pin _ _ :: _, _, h => by cases h
theorem Res.newT {K : Frg} {H : Hp} {p : Addr} {ds : List D} {vs : List V} (hp : H p = none) (h : RepDs K H ds vs) : Res K H (upd H p (.tup vs)) (.v (.tup ds)) (.ref p) :=
  ⟨ext_upd hp, [], ⟨rfl, _, rfl, p, vs, rfl, SqT.of upd_same, RepDs.stay (.ext (ext_upd hp)) ds vs h⟩, List.nodup_nil, fun _ z => nomatch z⟩
theorem Res.newL {K : Frg} {H : Hp} {p : Addr} {ds : List D} {vs : List V} (hp : H p = none) (h : RepDs K H ds vs) : Res K H (upd H p (.lst vs)) (.o (ds.map .v)) (.ref p) :=
  ⟨ext_upd hp, [p], ⟨p, vs, [], rfl, upd_same, rps_map ds vs (RepDs.stay (.ext (ext_upd hp)) ds vs h), rfl⟩, by simp, fun a z => by rw [List.mem_singleton.mp z]; exact hp⟩
theorem seen1 {K : Frg} {H : Hp} {x : Sl} {vs : List V} (h : Seen K H [x] vs) : ∃ v f, vs = [v] ∧ Rp K H x (some v) f := by
  obtain ⟨v, r, e, ⟨f, hf⟩, e2⟩ := h
  obtain rfl : r = [] := e2
  exact ⟨v, f, e, hf⟩
theorem seen2 {K : Frg} {H : Hp} {x y : Sl} {vs : List V} (h : Seen K H [x, y] vs) : ∃ v w f g, vs = [v, w] ∧ Rp K H x (some v) f ∧ Rp K H y (some w) g := by
  obtain ⟨v, r, e, ⟨f, hf⟩, h2⟩ := h
  obtain ⟨w, g, e2, hg⟩ := seen1 h2
  subst e2
  exact ⟨v, w, f, g, e, hf, hg⟩

/-! ### arithmetic -/
/-- a two-place operation on ints -/
def i2 (c : Int → Int → Bool) (f : Int → Int → D) : List Sl → Option Sl
  | [.v (.int i), .v (.int j)] => if c i j = true then some (.v (f i j)) else none
  | _ => none
@[simp] theorem i2_int (c : Int → Int → Bool) (f : Int → Int → D) (i j : Int) : i2 c f [.v (.int i), .v (.int j)] = if c i j = true then some (.v (f i j)) else none := rfl
theorem i2_inv {c : Int → Int → Bool} {f : Int → Int → D} {xs : List Sl} {q : Sl} (h : i2 c f xs = some q) : ∃ i j, xs = [.v (.int i), .v (.int j)] ∧ c i j = true ∧ q = .v (f i j) := by
  unfold i2 at h
  split at h
  · split at h
    · cases h
      exact ⟨_, _, rfl, by assumption, rfl⟩
    · cases h
  · cases h
theorem ro_i2 {K : Frg} {C : Int → Int → Prop} {g : Int → Int → V} {c : Int → Int → Bool} {f : Int → Int → D} (hc : ∀ i j, c i j = true → C i j) (hf : ∀ i j H, RepD K H (f i j) (g i j)) : RO K (r2L (rI C g)) (i2 c f) := by
  intro H xs vs q Q sn e k
  obtain ⟨i, j, rfl, h1, rfl⟩ := i2_inv e
  obtain ⟨v, w, f1, g1, rfl, hv, hw⟩ := seen2 sn
  exact ⟨v, w, rfl, i, j, int_rd hv, int_rd hw, hc i j h1, k _ H (.same (hf i j H))⟩
theorem ro_i20 {K : Frg} {g : Int → Int → V} {f : Int → Int → D} (hf : ∀ i j H, RepD K H (f i j) (g i j)) : RO K (r2L (rI0 g)) (i2 (fun _ _ => true) f) := by
  intro H xs vs q Q sn e k
  obtain ⟨i, j, rfl, h1, rfl⟩ := i2_inv e
  obtain ⟨v, w, f1, g1, rfl, hv, hw⟩ := seen2 sn
  exact ⟨v, w, rfl, i, j, int_rd hv, int_rd hw, k _ H (.same (hf i j H))⟩
theorem RO.or {K : Frg} {r r' : R2} {op op' : List Sl → Option Sl} (a : RO K (r2L r) op) (b : RO K (r2L r') op') : RO K (r2L fun x y H Q => r x y H Q ∨ r' x y H Q) fun xs => (op xs).or (op' xs) := by
  intro H xs vs q Q sn e k
  have e : (op xs).or (op' xs) = some q := e
  cases h : op xs with
  | none =>
    rw [h] at e
    obtain ⟨x, y, e1, h1⟩ := b H xs vs q Q sn e k
    exact ⟨x, y, e1, .inr h1⟩
  | some q' =>
    rw [h] at e
    cases e
    obtain ⟨x, y, e1, h1⟩ := a H xs vs q Q sn h k
    exact ⟨x, y, e1, .inl h1⟩
theorem opr_or {X : Cx} {f : Value → Value → Sem Value} {r r' : R2} (h : OpR X f r) (h' : OpR X f r') : OpR X f (fun x y H Q => r x y H Q ∨ r' x y H Q) := by
  intro pins s σ H x y v u Q I rx ry q
  rcases q with q | q
  · exact h pins s σ H x y v u Q I rx ry q
  · exact h' pins s σ H x y v u Q I rx ry q
/-- a test that no run looks into -/
theorem hide {α : Type} (p : α) : ∃ f : α, f = p := ⟨p, rfl⟩
noncomputable def mulC : Int → Int → Bool := Classical.choose (hide fun i j : Int => decide ((Builtin.Int.intBits i : Int) + (Builtin.Int.intBits j : Int) ≤ 134217728))
theorem mulC_at (i j : Int) : mulC i j = decide ((Builtin.Int.intBits i : Int) + (Builtin.Int.intBits j : Int) ≤ 134217728) := congrFun (congrFun (Classical.choose_spec (hide fun i j : Int => decide ((Builtin.Int.intBits i : Int) + (Builtin.Int.intBits j : Int) ≤ 134217728))) i) j
def divC (_ j : Int) : Bool := decide (0 < j ∧ j < 1073741824)
def modC (_ j : Int) : Bool := decide (0 < j)
def powC (i j : Int) : Bool := decide (0 ≤ j ∧ j ≤ 1000000 ∧ i.natAbs < 2 ^ 64)
noncomputable def shlC : Int → Int → Bool := Classical.choose (hide fun i j : Int => decide (0 ≤ j ∧ (Builtin.Int.intBits i : Int) + j ≤ 2 ^ 27))
theorem shlC_at (i j : Int) : shlC i j = decide (0 ≤ j ∧ (Builtin.Int.intBits i : Int) + j ≤ 2 ^ 27) := congrFun (congrFun (Classical.choose_spec (hide fun i j : Int => decide (0 ≤ j ∧ (Builtin.Int.intBits i : Int) + j ≤ 2 ^ 27))) i) j
/-- the bounds of a size -/
noncomputable def rngB : Int → Bool := Classical.choose (hide fun i : Int => decide (-(2 ^ 62) ≤ i ∧ i < 2 ^ 62))
theorem rngB_at (i : Int) : rngB i = decide (-(2 ^ 62) ≤ i ∧ i < 2 ^ 62) := congrFun (Classical.choose_spec (hide fun i : Int => decide (-(2 ^ 62) ≤ i ∧ i < 2 ^ 62))) i
theorem rngB_of {i : Int} (h : rngB i = true) : -(2 ^ 62) ≤ i ∧ i < 2 ^ 62 := of_decide_eq_true ((rngB_at i).symm.trans h)
def shrC (_ j : Int) : Bool := decide (0 ≤ j)
def strAdd : List Sl → Option Sl
  | [.v (.str x), .v (.str y)] => if x.length + y.length ≤ sizeLine then some (.v (.str (x ++ y))) else none
  | _ => none
theorem ro_strAdd {K : Frg} : RO K (r2L fun x y H Q => ∃ i j, x = .str i ∧ y = .str j ∧ i.length + j.length ≤ sizeLine ∧ Q (.str (i ++ j)) H) strAdd := by
  intro H xs vs q Q sn e k
  unfold strAdd at e
  split at e
  · split at e
    · cases e
      obtain ⟨v, w, f1, g1, rfl, hv, hw⟩ := seen2 sn
      exact ⟨v, w, rfl, _, _, str_rd hv, str_rd hw, by assumption, k _ H (.same rfl)⟩
    · cases e
  · cases e
def tupAdd : List Sl → Option Sl
  | [x, y] => match tupV x, tupV y with
    | some a, some b => if a.length + b.length ≤ sizeLine then some (.v (.tup (a ++ b))) else none
    | _, _ => none
  | _ => none
theorem ro_tupAdd {K : Frg} : RO K (r2L (rCatA K)) tupAdd := by
  intro H xs vs q Q sn e k
  unfold tupAdd at e
  split at e
  · rename_i x y
    split at e
    · rename_i a b ha hb
      split at e
      · cases e
        obtain ⟨v, w, f1, g1, rfl, hv, hw⟩ := seen2 sn
        obtain ⟨p, va, rfl, hp, ra⟩ := tupV_rd hv ha
        obtain ⟨p2, vb, rfl, hp2, rb⟩ := tupV_rd hw hb
        have la := RepDs.length _ _ ra
        have lb := RepDs.length _ _ rb
        refine ⟨_, _, rfl, p, p2, va, vb, rfl, rfl, hp, hp2, by rw [← la, ← lb]; assumption, fun e => ?_, fun _ e => ?_, fun _ _ q hq => k _ _ (.newT hq (ra.append rb))⟩
        · subst e
          have : a = [] := List.eq_nil_of_length_eq_zero la
          subst this
          exact k _ H (.same ⟨p2, vb, rfl, hp2, rb⟩)
        · subst e
          have : b = [] := List.eq_nil_of_length_eq_zero lb
          subst this
          rw [List.append_nil] at k
          exact k _ H (.same ⟨p, va, rfl, hp, ra⟩)
      · cases e
    · cases e
  · cases e
/-- list + list, both read -/
def rCatR : R2 := fun x y H Q => ∃ l b xs zs, x = .ref l ∧ y = .ref b ∧ Rd H l (.lst xs) ∧ Rd H b (.lst zs) ∧ xs.length + zs.length ≤ sizeLine ∧ ∀ p, H p = none → Q (.ref p) (upd H p (.lst (xs ++ zs)))
theorem rd_lst {X : Cx} {pins : List (Addr × Obj)} {σ : L2.St} {H : Hp} {s : Shared} {l : Addr} {xs : List V} (I : Inv X pins σ H s) (h : Rd H l (.lst xs)) : xs.length ≤ sizeLine ∧ ∃ (its : List Value) (n : Nat), Vals xs its ∧ xs.length = its.length ∧ s.heap.get? l = some { cls := .type "list", data := .seq its.toArray n } := by
  obtain ⟨z, its, n, r, e⟩ := h.ok I.hok
  exact ⟨z, its, n, r, r.length, e⟩
theorem op_catR {X : Cx} : OpR X (binaryOp .Add) rCatR := by
  intro pins s σ H x y v u Q I rx ry h
  obtain ⟨l, b, xs, zs, rfl, rfl, hH, hB, hz, q⟩ := h
  cases rx
  cases ry
  obtain ⟨z, its, n, r, hl, e⟩ := rd_lst I hH
  obtain ⟨z2, its2, n2, r2, hl2, e2⟩ := rd_lst I hB
  refine PySem.P.add_list e e2 ?_ (by rw [List.size_toArray, List.size_toArray]; omega)
  have ea : its.toArray ++ its2.toArray = (its ++ its2).toArray := by simp
  rw [ea]
  exact ⟨.ref _, _, I.lnew (t' := s.toks) (r.append r2) (by rw [List.length_append]; omega), rfl, q _ I.fresh⟩
/-- a list of this run that is read -/
theorem listV_rd2 {K : Frg} {H : Hp} {s : Sl} {v : V} {f : List Addr} {ds : List D} (h : Rp K H s (some v) f) (e : listV s = some ds) (nk : ∀ a vs, v = .ref a → SqL K H a vs → Rd H a (.lst vs)) : ∃ a vs, v = .ref a ∧ Rd H a (.lst vs) ∧ RepDs K H ds vs := by
  obtain ⟨a, vs, e1, h1, h2⟩ := listV_rd h e
  exact ⟨a, vs, e1, nk a vs e1 h1, h2⟩
def addC := true
/-- int + int, text + text, tuple + tuple -/
def addS : List Sl → Option Sl := fun xs => (i2 (fun _ _ => true) (fun i j => .int (i + j)) xs).or ((tupAdd xs).or (strAdd xs))
theorem d_add {X : Cx} {T : List Addr} {W : XK} {a b : Expr} {A B : Opd} {pos : Pos} (ha : DO X T W a A) (hb : DO X T W b B) : DE X T W (.BinOp a .Add b pos) (opS addS [A, B]) :=
  d_bin (fun h1 h2 => pe_op (opr_or op_add (opr_or op_catA op_add_str)) h1 h2) ((ro_i20 (g := fun i j => V.int (i + j)) (f := fun i j => D.int (i + j)) fun _ _ _ => rfl).or (ro_tupAdd.or ro_strAdd)) ha hb
section
variable {X : Cx} {T : List Addr} {W : XK} {a b : Expr} {A B : Opd} {pos : Pos}
theorem d_sub (ha : DO X T W a A) (hb : DO X T W b B) : DE X T W (.BinOp a .Sub b pos) (opS (i2 (fun _ _ => true) fun i j => .int (i - j)) [A, B]) := d_bin (fun h1 h2 => pe_op op_sub h1 h2) (ro_i20 fun _ _ _ => rfl) ha hb
theorem d_fdiv (ha : DO X T W a A) (hb : DO X T W b B) : DE X T W (.BinOp a .FloorDiv b pos) (opS (i2 divC fun i j => .int (i / j)) [A, B]) := d_bin (fun h1 h2 => pe_op op_fdiv h1 h2) (ro_i2 (fun i j h => (of_decide_eq_true h : 0 < j ∧ j < 1073741824)) fun _ _ _ => rfl) ha hb
theorem d_mod (ha : DO X T W a A) (hb : DO X T W b B) : DE X T W (.BinOp a .Mod b pos) (opS (i2 modC fun i j => .int (i % j)) [A, B]) := d_bin (fun h1 h2 => pe_op op_mod h1 h2) (ro_i2 (fun i j h => of_decide_eq_true h) fun _ _ _ => rfl) ha hb
theorem d_pow (ha : DO X T W a A) (hb : DO X T W b B) : DE X T W (.BinOp a .Pow b pos) (opS (i2 powC fun i j => .int (i ^ j.toNat)) [A, B]) := d_bin (fun h1 h2 => pe_op op_pow h1 h2) (ro_i2 (fun i j h => (of_decide_eq_true h : 0 ≤ j ∧ j ≤ 1000000 ∧ i.natAbs < 2 ^ 64)) fun _ _ _ => rfl) ha hb
theorem d_shl (ha : DO X T W a A) (hb : DO X T W b B) : DE X T W (.BinOp a .LShift b pos) (opS (i2 shlC fun i j => .int (i * 2 ^ j.toNat)) [A, B]) := d_bin (fun h1 h2 => pe_op op_shlW h1 h2) (ro_i2 (fun i j h => (of_decide_eq_true ((shlC_at i j).symm.trans h) : 0 ≤ j ∧ (Builtin.Int.intBits i : Int) + j ≤ 2 ^ 27)) fun _ _ _ => rfl) ha hb
theorem d_shr (ha : DO X T W a A) (hb : DO X T W b B) : DE X T W (.BinOp a .RShift b pos) (opS (i2 shrC fun i j => .int (i / 2 ^ j.toNat)) [A, B]) := d_bin (fun h1 h2 => pe_op op_shr h1 h2) (ro_i2 (fun i j h => of_decide_eq_true h) fun _ _ _ => rfl) ha hb
theorem d_band (ha : DO X T W a A) (hb : DO X T W b B) : DE X T W (.BinOp a .BitAnd b pos) (opS (i2 (fun _ _ => true) fun i j => .int (Builtin.bitAnd i j)) [A, B]) := d_bin (fun h1 h2 => pe_op op_and h1 h2) (ro_i20 fun _ _ _ => rfl) ha hb
theorem d_bor (ha : DO X T W a A) (hb : DO X T W b B) : DE X T W (.BinOp a .BitOr b pos) (opS (i2 (fun _ _ => true) fun i j => .int (Builtin.bitOr i j)) [A, B]) := d_bin (fun h1 h2 => pe_op op_or h1 h2) (ro_i20 fun _ _ _ => rfl) ha hb
theorem d_bxor (ha : DO X T W a A) (hb : DO X T W b B) : DE X T W (.BinOp a .BitXor b pos) (opS (i2 (fun _ _ => true) fun i j => .int (Builtin.bitXor i j)) [A, B]) := d_bin (fun h1 h2 => pe_op op_xor h1 h2) (ro_i20 fun _ _ _ => rfl) ha hb
end
/-- list * int, of a list of its own -/
noncomputable def repS : List Sl → Option Sl
  | [.o xs, .v (.int k)] => (vsOf xs).bind fun ds => if rngB k = true ∧ ds.length * k.toNat ≤ sizeLine then some (.o ((List.replicate k.toNat ds).flatten.map .v)) else none
  | _ => none
theorem RepDs.rep {K : Frg} {H : Hp} {ds : List D} {vs : List V} (h : RepDs K H ds vs) : ∀ n : Nat, RepDs K H (List.replicate n ds).flatten (List.replicate n vs).flatten
  | 0 => rfl
  | n + 1 => by
    rw [List.replicate_succ, List.replicate_succ, List.flatten_cons, List.flatten_cons]
    exact h.append (RepDs.rep h n)
theorem ro_rep {K : Frg} : RO K (r2L rRep) repS := by
  intro H xs vs q Q sn e k
  unfold repS at e
  split at e
  · rename_i ys n
    obtain ⟨ds, h1, h2⟩ := Option.bind_eq_some_iff.mp e
    split at h2
    · rename_i hc
      cases h2
      obtain ⟨v, w, f1, g1, rfl, hv, hw⟩ := seen2 sn
      obtain ⟨a, va, fq, ew, ha, hr, _⟩ := hv
      cases ew
      rw [vsOf_eq h1] at hr
      have hr := (repDs_of ds va fq hr).1
      have hb := rngB_of hc.1
      refine ⟨_, w, rfl, a, n, va, rfl, int_rd hw, ha, by omega, by omega, by rw [← RepDs.length _ _ hr]; exact hc.2, fun p hp => k _ _ (.newL hp (hr.rep _))⟩
    · cases h2
  · cases e
noncomputable def mulS : List Sl → Option Sl := fun xs => (i2 mulC (fun i j => .int (i * j)) xs).or (repS xs)
theorem d_mul {X : Cx} {T : List Addr} {W : XK} {a b : Expr} {A B : Opd} {pos : Pos} (ha : DO X T W a A) (hb : DO X T W b B) : DE X T W (.BinOp a .Mult b pos) (opS mulS [A, B]) :=
  d_bin (fun h1 h2 => pe_op (opr_or op_mulX op_rep) h1 h2) ((ro_i2 (C := CMulX) (c := mulC) (g := fun i j => V.int (i * j)) (f := fun i j => D.int (i * j)) (fun i j h => (of_decide_eq_true ((mulC_at i j).symm.trans h) : (Builtin.Int.intBits i : Int) + (Builtin.Int.intBits j : Int) ≤ 134217728)) fun _ _ _ => rfl).or ro_rep) ha hb
def i1 (f : Int → D) : List Sl → Option Sl
  | [.v (.int i)] => some (.v (f i))
  | _ => none
@[simp] theorem i1_int (f : Int → D) (i : Int) : i1 f [.v (.int i)] = some (.v (f i)) := rfl
theorem ro_neg {K : Frg} : RO K (r1L (rU fun i => .int (-i))) (i1 fun i => .int (-i)) := by
  intro H xs vs q Q sn e k
  unfold i1 at e
  split at e
  · cases e
    obtain ⟨v, f, rfl, hv⟩ := seen1 sn
    exact ⟨v, rfl, _, int_rd hv, k _ H (.same rfl)⟩
  · cases e
theorem d_neg {X : Cx} {T : List Addr} {W : XK} {a : Expr} {A : Opd} {pos : Pos} (ha : DO X T W a A) : DE X T W (.UnaryOp .USub a pos) (opS (i1 fun i => .int (-i)) [A]) := d_un (fun h => pe_un un_neg h) ro_neg ha

/-! ### comparisons -/
section
variable {X : Cx} {T : List Addr} {W : XK} {a b : Expr} {A B : Opd} {pos : Pos}
abbrev ltS : List Sl → Option Sl := i2 (fun _ _ => true) fun i j => .bl (decide (i < j))
abbrev leS : List Sl → Option Sl := i2 (fun _ _ => true) fun i j => .bl (decide (i ≤ j))
abbrev gtS : List Sl → Option Sl := i2 (fun _ _ => true) fun i j => .bl (decide (j < i))
abbrev geS : List Sl → Option Sl := i2 (fun _ _ => true) fun i j => .bl (decide (j ≤ i))
theorem d_lt (ha : DO X T W a A) (hb : DO X T W b B) : DE X T W (.Compare a [.Lt] [b] pos) (opS ltS [A, B]) := d_bin (fun h1 h2 => pe_cmpR op_lt h1 h2 (nomark _)) (ro_i20 fun _ _ _ => rfl) ha hb
theorem d_le (ha : DO X T W a A) (hb : DO X T W b B) : DE X T W (.Compare a [.LtE] [b] pos) (opS leS [A, B]) := d_bin (fun h1 h2 => pe_cmpR op_le h1 h2 (nomark _)) (ro_i20 fun _ _ _ => rfl) ha hb
theorem d_gt (ha : DO X T W a A) (hb : DO X T W b B) : DE X T W (.Compare a [.Gt] [b] pos) (opS gtS [A, B]) := d_bin (fun h1 h2 => pe_cmpR op_gt h1 h2 (nomark _)) (ro_i20 fun _ _ _ => rfl) ha hb
theorem d_ge (ha : DO X T W a A) (hb : DO X T W b B) : DE X T W (.Compare a [.GtE] [b] pos) (opS geS [A, B]) := d_bin (fun h1 h2 => pe_cmpR op_ge h1 h2 (nomark _)) (ro_i20 fun _ _ _ => rfl) ha hb
theorem dt_lt (ha : DO X T W a A) (hb : DO X T W b B) : DT X T W (.Compare a [.Lt] [b] pos) (tstB (opS ltS [A, B])) := dt_cmp (fun h1 h2 => pt_cmpR op_lt h1 h2 (nomark _)) (ro_i20 fun _ _ _ => rfl) ha hb
theorem dt_le (ha : DO X T W a A) (hb : DO X T W b B) : DT X T W (.Compare a [.LtE] [b] pos) (tstB (opS leS [A, B])) := dt_cmp (fun h1 h2 => pt_cmpR op_le h1 h2 (nomark _)) (ro_i20 fun _ _ _ => rfl) ha hb
theorem dt_gt (ha : DO X T W a A) (hb : DO X T W b B) : DT X T W (.Compare a [.Gt] [b] pos) (tstB (opS gtS [A, B])) := dt_cmp (fun h1 h2 => pt_cmpR op_gt h1 h2 (nomark _)) (ro_i20 fun _ _ _ => rfl) ha hb
theorem dt_ge (ha : DO X T W a A) (hb : DO X T W b B) : DT X T W (.Compare a [.GtE] [b] pos) (tstB (opS geS [A, B])) := dt_cmp (fun h1 h2 => pt_cmpR op_ge h1 h2 (nomark _)) (ro_i20 fun _ _ _ => rfl) ha hb
end
/-! equality of data -/
mutual
def pD : D → Option PyData
  | .non => some .none
  | .bl b => some (.bool b)
  | .int i => some (.int i)
  | .str x => some (.str x)
  | .tg _ xs => (pDs xs).map .tuple
  | .lst xs => (pDs xs).map .list
  | .dk _ _ => none
  | .dt _ _ => none
  | .cls _ => none
  | .pin _ _ => none
def pDs : List D → Option (List PyData)
  | [] => some []
  | x :: xs => (pD x).bind fun a => (pDs xs).map (a :: ·)
end
mutual
def pS : Sl → Option PyData
  | .v d => pD d
  | .o xs => (pSs xs).map .list
  | .u => none
  | .k _ _ => none
  | .t _ _ => none
  | .i _ _ _ => none
def pSs : List Sl → Option (List PyData)
  | [] => some []
  | x :: xs => (pS x).bind fun a => (pSs xs).map (a :: ·)
end
mutual
theorem pD_ok {K : Frg} {H : Hp} : ∀ (d : D) (v : V) (p : PyData), RepD K H d v → pD d = some p → Dp K H v p
  | .non, v, p, h, e => by cases e; cases h; exact .non
  | .bl b, v, p, h, e => by cases e; cases h; exact .bl b
  | .int i, v, p, h, e => by cases e; cases h; exact .int i
  | .str x, v, p, h, e => by cases e; cases h; exact .str x
  | .tg _ xs, v, p, ⟨a, vs, ev, ha, hr⟩, e => by
    obtain ⟨q, h1, h2⟩ := Option.map_eq_some_iff.mp (show (pDs xs).map PyData.tuple = some p from e)
    subst h2 ev
    exact .tup ha.sq (pDs_ok xs vs q hr h1)
  | .lst xs, v, p, ⟨a, vs, ev, ha, hr⟩, e => by
    obtain ⟨q, h1, h2⟩ := Option.map_eq_some_iff.mp (show (pDs xs).map PyData.list = some p from e)
    subst h2 ev
    exact .lst ha.sq (pDs_ok xs vs q hr h1)
  | .dk _ _, _, _, _, e => by cases e
  | .dt _ _, _, _, _, e => by cases e
  | .cls _, _, _, _, e => by cases e
  | .pin _ _, _, _, _, e => by cases e
theorem pDs_ok {K : Frg} {H : Hp} : ∀ (ds : List D) (vs : List V) (ps : List PyData), RepDs K H ds vs → pDs ds = some ps → DpAll K H vs ps
  | [], vs, ps, h, e => by cases e; rw [show vs = [] from h]; exact .nil
  | d :: ds, _, ps, ⟨v, r, ev, h, t⟩, e => by
    obtain ⟨p, h1, h2⟩ := Option.bind_eq_some_iff.mp (show (pD d).bind (fun a => (pDs ds).map (a :: ·)) = some ps from e)
    obtain ⟨q, h3, h4⟩ := Option.map_eq_some_iff.mp h2
    subst h4 ev
    exact .cons (pD_ok d v p h h1) (pDs_ok ds r q t h3)
end
mutual
theorem pS_ok {K : Frg} {H : Hp} : ∀ (s : Sl) (v : V) (f : List Addr) (p : PyData), Rp K H s (some v) f → pS s = some p → Dp K H v p
  | .v d, v, f, p, ⟨_, v', ev, h⟩, e => by cases ev; exact pD_ok d v p h e
  | .o xs, v, f, p, ⟨a, vs, fq, ew, ha, hr, _⟩, e => by
    cases ew
    obtain ⟨q, h1, h2⟩ := Option.map_eq_some_iff.mp (show (pSs xs).map PyData.list = some p from e)
    subst h2
    exact .lst (SqL.of ha) (pSs_ok xs vs fq q hr h1)
  | .u, _, _, _, _, e => by cases e
  | .k _ _, _, _, _, _, e => by cases e
  | .t _ _, _, _, _, _, e => by cases e
  | .i _ _ _, _, _, _, _, e => by cases e
theorem pSs_ok {K : Frg} {H : Hp} : ∀ (ss : List Sl) (vs : List V) (f : List Addr) (ps : List PyData), Rps K H ss vs f → pSs ss = some ps → DpAll K H vs ps
  | [], vs, f, ps, h, e => by cases e; rw [h.1]; exact .nil
  | s :: ss, _, _, ps, ⟨v, r, f1, f2, ev, h, t, _⟩, e => by
    obtain ⟨p, h1, h2⟩ := Option.bind_eq_some_iff.mp (show (pS s).bind (fun a => (pSs ss).map (a :: ·)) = some ps from e)
    obtain ⟨q, h3, h4⟩ := Option.map_eq_some_iff.mp h2
    subst h4 ev
    exact .cons (pS_ok s v f1 p h h1) (pSs_ok ss r f2 q t h3)
end
def eqS (n : Bool) : List Sl → Option Sl
  | [x, y] => match pS x, pS y with
    | some a, some b => if SeqAt.shaped a = true ∧ SeqAt.shaped b = true then some (.v (.bl (if n = true then !PyData.eqv a b else PyData.eqv a b))) else none
    | _, _ => none
  | _ => none
theorem ro_eq {K : Frg} : RO K (r2L (rEqD K)) (eqS false) := by
  intro H xs vs q Q sn e k
  unfold eqS at e
  split at e
  · rename_i x y
    split at e
    · rename_i a b ha hb
      split at e
      · rename_i hs
        cases e
        obtain ⟨v, w, f1, g1, rfl, hv, hw⟩ := seen2 sn
        exact ⟨v, w, rfl, a, b, pS_ok x v f1 a hv ha, pS_ok y w g1 b hw hb, hs.1, hs.2, k _ H (.same rfl)⟩
      · cases e
    · cases e
  · cases e
theorem ro_ne {K : Frg} : RO K (r2L (rNeD K)) (eqS true) := by
  intro H xs vs q Q sn e k
  unfold eqS at e
  split at e
  · rename_i x y
    split at e
    · rename_i a b ha hb
      split at e
      · rename_i hs
        cases e
        obtain ⟨v, w, f1, g1, rfl, hv, hw⟩ := seen2 sn
        exact ⟨v, w, rfl, a, b, pS_ok x v f1 a hv ha, pS_ok y w g1 b hw hb, hs.1, hs.2, k _ H (.same rfl)⟩
      · cases e
    · cases e
  · cases e
/-- is None -/
def isN (n : Bool) : List Sl → Option Sl
  | [.v d, .v .non] => match d with
    | .non => some (.v (.bl (!n)))
    | _ => some (.v (.bl n))
  | [.o _, .v .non] => some (.v (.bl n))
  | [.k _ _, .v .non] => some (.v (.bl n))
  | [.t _ _, .v .non] => some (.v (.bl n))
  | _ => none
theorem non_iff {K : Frg} {H : Hp} {d : D} {v : V} (h : RepD K H d v) : v = .non ↔ d = .non := by
  cases d with
  | non => exact ⟨fun _ => rfl, fun _ => h⟩
  | tg _ xs => obtain ⟨a, vs, e, _⟩ := h; rw [e]; exact ⟨(fun z => nomatch z), (fun z => nomatch z)⟩
  | lst xs => obtain ⟨a, vs, e, _⟩ := h; rw [e]; exact ⟨(fun z => nomatch z), (fun z => nomatch z)⟩
  | dk ks xs => obtain ⟨a, kvs, ob, e, _⟩ := h; rw [e]; exact ⟨(fun z => nomatch z), (fun z => nomatch z)⟩
  | dt ks xs => obtain ⟨a, kvs, ob, e, _⟩ := h; rw [e]; exact ⟨(fun z => nomatch z), (fun z => nomatch z)⟩
  | pin ob u => obtain ⟨a, e, _⟩ := h; rw [e]; exact ⟨(fun z => nomatch z), (fun z => nomatch z)⟩
  | _ => rw [show v = _ from h]; exact ⟨(fun z => nomatch z), (fun z => nomatch z)⟩
theorem isN_ok {K : Frg} {H : Hp} {n : Bool} {xs : List Sl} {vs : List V} {q : Sl} (sn : Seen K H xs vs) (e : isN n xs = some q) : ∃ v, vs = [v, .non] ∧ q = .v (.bl (if n = true then !decide (v = .non) else decide (v = .non))) := by
  have dec : ∀ {v : V} {d : D}, RepD K H d v → d ≠ .non → decide (v = .non) = false := fun {v d} h hn => decide_eq_false fun z => hn ((non_iff h).mp z)
  have own : ∀ {v : V} {a : Addr}, some v = some (V.ref a) → decide (v = V.non) = false := fun {v a} h => by cases h; exact decide_eq_false (fun z => nomatch z)
  unfold isN at e
  split at e
  · rename_i d
    obtain ⟨v, w, f1, g1, rfl, hv, hw⟩ := seen2 sn
    obtain ⟨_, w', ew, hw⟩ := hw
    cases ew
    cases hw
    obtain ⟨_, v', ev, hv⟩ := hv
    cases ev
    refine ⟨v, rfl, ?_⟩
    split at e
    · cases e
      cases hv
      cases n <;> rfl
    · rename_i hn
      cases e
      rw [dec hv hn]
      cases n <;> rfl
  · obtain ⟨v, w, f1, g1, rfl, ⟨a, _, _, ew, _⟩, ⟨_, w', ew2, hw⟩⟩ := seen2 sn
    cases ew2
    cases hw
    cases e
    refine ⟨v, rfl, ?_⟩
    rw [own ew]
    cases n <;> rfl
  · obtain ⟨v, w, f1, g1, rfl, ⟨a, _, ew, _⟩, ⟨_, w', ew2, hw⟩⟩ := seen2 sn
    cases ew2
    cases hw
    cases e
    refine ⟨v, rfl, ?_⟩
    rw [own ew]
    cases n <;> rfl
  · obtain ⟨v, w, f1, g1, rfl, ⟨a, _, ew, _⟩, ⟨_, w', ew2, hw⟩⟩ := seen2 sn
    cases ew2
    cases hw
    cases e
    refine ⟨v, rfl, ?_⟩
    rw [own ew]
    cases n <;> rfl
  · cases e
theorem ro_isN {K : Frg} : RO K (r2L fun x y H Q => y = .non ∧ Q (.bl (decide (x = .non))) H) (isN false) := by
  intro H xs vs q Q sn e k
  obtain ⟨v, rfl, rfl⟩ := isN_ok sn e
  exact ⟨v, .non, rfl, rfl, k _ H (.same rfl)⟩
theorem ro_notN {K : Frg} : RO K (r2L fun x y H Q => y = .non ∧ Q (.bl (!decide (x = .non))) H) (isN true) := by
  intro H xs vs q Q sn e k
  obtain ⟨v, rfl, rfl⟩ := isN_ok sn e
  exact ⟨v, .non, rfl, rfl, k _ H (.same rfl)⟩
/-- in a list or tuple of flat things -/
def flatD : D → Bool
  | .non => true
  | .bl _ => true
  | .int _ => true
  | .str _ => true
  | _ => false
def eqF : D → D → Bool
  | .non, .non => true
  | .bl a, .bl b => a == b
  | .bl a, .int b => (if a then 1 else 0) == b
  | .int a, .bl b => a == (if b then 1 else 0)
  | .int a, .int b => a == b
  | .str a, .str b => a == b
  | _, _ => false
theorem flat_V {K : Frg} {H : Hp} {d : D} {v : V} (h : RepD K H d v) (f : flatD d = true) : flatV v = true := by
  cases d <;> first | (rw [show v = _ from h]; rfl) | cases f
theorem eqF_V {K : Frg} {H : Hp} {d e : D} {v w : V} (h : RepD K H d v) (h2 : RepD K H e w) (f : flatD d = true) (f2 : flatD e = true) : eqV v w = eqF d e := by
  cases d <;> first | (cases f; done) | (cases (show v = _ from h); cases e <;> first | (cases f2; done) | (cases (show w = _ from h2); rfl))
theorem flats_V {K : Frg} {H : Hp} : ∀ {ds : List D} {vs : List V}, RepDs K H ds vs → ds.all flatD = true → vs.all flatV = true
  | [], vs, h, _ => by rw [show vs = [] from h]; rfl
  | d :: ds, _, ⟨v, r, e, h, t⟩, f => by
    rw [List.all_cons, Bool.and_eq_true] at f
    rw [e, List.all_cons, flat_V h f.1, flats_V t f.2]; rfl
theorem inV_D {K : Frg} {H : Hp} {d : D} {v : V} (h : RepD K H d v) (f : flatD d = true) : ∀ {ds : List D} {vs : List V}, RepDs K H ds vs → ds.all flatD = true → inV v vs = ds.any fun y => eqF y d
  | [], vs, h, _ => by rw [show vs = [] from h]; rfl
  | e :: ds, _, ⟨w, r, ev, h2, t⟩, f2 => by
    rw [List.all_cons, Bool.and_eq_true] at f2
    subst ev
    have ih := inV_D h f t f2.2
    unfold inV at ih ⊢
    rw [List.any_cons, List.any_cons, eqF_V h2 h f2.1 f, ih]
def seqV (s : Sl) : Option (List D) := (listV s).or (tupV s)
@[simp] theorem seqV_lst (xs : List D) : seqV (.v (.lst xs)) = some xs := rfl
@[simp] theorem seqV_tup (k : TK) (xs : List D) : seqV (.v (.tg k xs)) = some xs := rfl
@[simp] theorem seqV_o (xs : List D) : seqV (.o (xs.map .v)) = some xs := by unfold seqV; rw [listV_o]; rfl
theorem seqV_rd {K : Frg} {H : Hp} {s : Sl} {v : V} {f : List Addr} {ds : List D} (h : Rp K H s (some v) f) (e : seqV s = some ds) : ∃ a vs, v = .ref a ∧ (SqL K H a vs ∨ SqT K H a vs) ∧ RepDs K H ds vs := by
  unfold seqV at e
  cases q : listV s with
  | some xs =>
    rw [q] at e
    cases e
    obtain ⟨a, vs, e1, h1, h2⟩ := listV_rd h q
    exact ⟨a, vs, e1, .inl h1, h2⟩
  | none =>
    rw [q] at e
    obtain ⟨a, vs, e1, h1, h2⟩ := tupV_rd h e
    exact ⟨a, vs, e1, .inr h1, h2⟩
def inS (n : Bool) : List Sl → Option Sl
  | [.v d, y] => (seqV y).bind fun ds => if flatD d = true ∧ ds.all flatD = true then some (.v (.bl (if n = true then !(ds.any fun y => eqF y d) else ds.any fun y => eqF y d))) else none
  | _ => none
theorem ro_in {K : Frg} {n : Bool} : RO K (r2L (rIn K n)) (inS n) := by
  intro H xs vs q Q sn e k
  unfold inS at e
  split at e
  · rename_i d y
    obtain ⟨ds, h1, h2⟩ := Option.bind_eq_some_iff.mp e
    split at h2
    · rename_i hf
      cases h2
      obtain ⟨v, w, f1, g1, rfl, ⟨_, v', ev, hv⟩, hw⟩ := seen2 sn
      cases ev
      obtain ⟨a, vs, rfl, hs, hr⟩ := seqV_rd hw h1
      refine ⟨v, _, rfl, a, vs, rfl, hs, flat_V hv hf.1, flats_V hr hf.2, ?_⟩
      rw [inV_D hv hf.1 hr hf.2]
      exact k _ H (.same rfl)
    · cases h2
  · cases e
section
variable {X : Cx} {T : List Addr} {W : XK} {a b : Expr} {A B : Opd} {pos : Pos}
theorem d_eq (hu : X.A.units + 64 < cLine) (ha : DO X T W a A) (hb : DO X T W b B) : DE X T W (.Compare a [.Eq] [b] pos) (opS (eqS false) [A, B]) := d_bin (fun h1 h2 => pe_cmpR (op_eqD hu) h1 h2 (nomark _)) ro_eq ha hb
theorem d_ne (hu : X.A.units + 64 < cLine) (ha : DO X T W a A) (hb : DO X T W b B) : DE X T W (.Compare a [.NotEq] [b] pos) (opS (eqS true) [A, B]) := d_bin (fun h1 h2 => pe_cmpR (op_neD hu) h1 h2 (nomark _)) ro_ne ha hb
theorem dt_eq (hu : X.A.units + 64 < cLine) (ha : DO X T W a A) (hb : DO X T W b B) : DT X T W (.Compare a [.Eq] [b] pos) (tstB (opS (eqS false) [A, B])) := dt_cmp (fun h1 h2 => pt_cmpR (op_eqD hu) h1 h2 (nomark _)) ro_eq ha hb
theorem dt_ne (hu : X.A.units + 64 < cLine) (ha : DO X T W a A) (hb : DO X T W b B) : DT X T W (.Compare a [.NotEq] [b] pos) (tstB (opS (eqS true) [A, B])) := dt_cmp (fun h1 h2 => pt_cmpR (op_neD hu) h1 h2 (nomark _)) ro_ne ha hb
theorem d_isN (ha : DO X T W a A) (hb : DO X T W b B) : DE X T W (.Compare a [.Is] [b] pos) (opS (isN false) [A, B]) := d_bin (fun h1 h2 => pe_cmpR op_isN h1 h2 (nomark _)) ro_isN ha hb
theorem d_notN (ha : DO X T W a A) (hb : DO X T W b B) : DE X T W (.Compare a [.IsNot] [b] pos) (opS (isN true) [A, B]) := d_bin (fun h1 h2 => pe_cmpR op_notN h1 h2 (nomark _)) ro_notN ha hb
theorem dt_isN (ha : DO X T W a A) (hb : DO X T W b B) : DT X T W (.Compare a [.Is] [b] pos) (tstB (opS (isN false) [A, B])) := dt_cmp (fun h1 h2 => pt_cmpR op_isN h1 h2 (nomark _)) ro_isN ha hb
theorem dt_notN (ha : DO X T W a A) (hb : DO X T W b B) : DT X T W (.Compare a [.IsNot] [b] pos) (tstB (opS (isN true) [A, B])) := dt_cmp (fun h1 h2 => pt_cmpR op_notN h1 h2 (nomark _)) ro_notN ha hb
theorem d_in (ha : DO X T W a A) (hb : DO X T W b B) (hm : behindInMarks .In b = false := by with_unfolding_all rfl) : DE X T W (.Compare a [.In] [b] pos) (opS (inS false) [A, B]) := d_bin (fun h1 h2 => pe_cmpR op_in_seq h1 h2 hm) ro_in ha hb
theorem d_nin (ha : DO X T W a A) (hb : DO X T W b B) (hm : behindInMarks .NotIn b = false := by with_unfolding_all rfl) : DE X T W (.Compare a [.NotIn] [b] pos) (opS (inS true) [A, B]) := d_bin (fun h1 h2 => pe_cmpR op_notIn_seq h1 h2 hm) ro_in ha hb
theorem dt_in (ha : DO X T W a A) (hb : DO X T W b B) (hm : behindInMarks .In b = false := by with_unfolding_all rfl) : DT X T W (.Compare a [.In] [b] pos) (tstB (opS (inS false) [A, B])) := dt_cmp (fun h1 h2 => pt_cmpR op_in_seq h1 h2 hm) ro_in ha hb
theorem dt_nin (ha : DO X T W a A) (hb : DO X T W b B) (hm : behindInMarks .NotIn b = false := by with_unfolding_all rfl) : DT X T W (.Compare a [.NotIn] [b] pos) (tstB (opS (inS true) [A, B])) := dt_cmp (fun h1 h2 => pt_cmpR op_notIn_seq h1 h2 hm) ro_in ha hb
end
end DL


set_option maxHeartbeats 1000000
namespace DL
open PySem PySem.Spec PyProof.Rows L2

/-! ### items, slices -/
theorem atI_rep {K : Frg} {H : Hp} {ds : List D} {vs : List V} {i : Int} {d : D} (h : RepDs K H ds vs) (e : atI ds i = some d) : ∃ v, atI vs i = some v ∧ RepD K H d v := by
  unfold atI at e ⊢
  rw [← RepDs.length ds vs h]
  obtain ⟨j, h1, h2⟩ := Option.bind_eq_some_iff.mp e
  obtain ⟨v, h3, h4⟩ := h.get h2
  exact ⟨v, by rw [h1]; exact h3, h4⟩
def ixSeq : List Sl → Option Sl
  | [x, .v (.int i)] => (seqV x).bind fun ds => (atI ds i).map .v
  | _ => none
def ixStr : List Sl → Option Sl
  | [.v (.str z), .v (.int i)] => if z.length ≤ sizeLine then (atI z.cps.toList i).map fun c => .v (.str ⟨#[c]⟩) else none
  | _ => none
def ixS : List Sl → Option Sl := fun xs => (ixSeq xs).or (ixStr xs)
theorem ro_ix {K : Frg} : RO K (r2L (rIx K)) ixS := by
  intro H xs vs q Q sn e k
  have e : (ixSeq xs).or (ixStr xs) = some q := e
  cases h : ixSeq xs with
  | some q' =>
    rw [h] at e
    cases e
    unfold ixSeq at h
    split at h
    · rename_i x i
      obtain ⟨ds, h1, h2⟩ := Option.bind_eq_some_iff.mp h
      obtain ⟨d, h3, h4⟩ := Option.map_eq_some_iff.mp h2
      subst h4
      obtain ⟨v, w, f1, g1, rfl, hv, hw⟩ := seen2 sn
      obtain ⟨a, us, rfl, hs, hr⟩ := seqV_rd hv h1
      obtain ⟨u, h5, h6⟩ := atI_rep hr h3
      refine ⟨_, w, rfl, ?_⟩
      rcases hs with hs | hs
      · exact .inl ⟨a, us, i, u, rfl, int_rd hw, hs, h5, k _ H (.same h6)⟩
      · exact .inr (.inl ⟨a, us, i, u, rfl, int_rd hw, hs, h5, k _ H (.same h6)⟩)
    · cases h
  | none =>
    rw [h] at e
    have e : ixStr xs = some q := e
    unfold ixStr at e
    split at e
    · split at e
      · obtain ⟨c, h3, h4⟩ := Option.map_eq_some_iff.mp e
        subst h4
        obtain ⟨v, w, f1, g1, rfl, hv, hw⟩ := seen2 sn
        exact ⟨v, w, rfl, .inr (.inr ⟨_, _, c, str_rd hv, int_rd hw, by assumption, h3, k _ H (.same rfl)⟩)⟩
      · cases e
    · cases e
section
variable {X : Cx} {T : List Addr} {W : XK} {a b : Expr} {A B : Opd} {pos : Pos}
theorem d_ix (ha : DO X T W a A) (hb : DO X T W b B) (hs : PlainIx b := by exact fun _ _ => rfl) : DE X T W (.Subscript a b pos) (opS ixS [A, B]) := d_bin (fun h1 h2 => pe_ix ix_seq h1 h2 hs) ro_ix ha hb
end
/-- an end of a slice -/
inductive Prt where
  | no
  | at_ (f : Ev)
def rdP (K : Frg) (T : List Addr) (W : XK) : Prt → TO
  | .no => tNoPart
  | .at_ f => tPart (rdE K T W f)
structure DP (X : Cx) (T : List Addr) (W : XK) (e : Option Expr) (p : Prt) : Prop where
  po : PO X e (rdP X.K T W p)
theorem dp_no {X : Cx} {T : List Addr} {W : XK} : DP X T W none .no := ⟨po_none⟩
theorem dp_at {X : Cx} {T : List Addr} {W : XK} {e : Expr} {f : Ev} (h : DE X T W e f) : DP X T W (some e) (.at_ f) := ⟨po_some h.pe⟩
def intOf : Sl → Option Int
  | .v (.int i) => some i
  | _ => none
@[simp] theorem intOf_int (i : Int) : intOf (.v (.int i)) = some i := rfl
theorem intOf_eq {s : Sl} {i : Int} (h : intOf s = some i) : s = .v (.int i) := by
  unfold intOf at h
  split at h
  · cases h; rfl
  · cases h
def evP : Prt → Env → Rs (Option Int)
  | .no, e => .ok none e
  | .at_ f, e => (f e).bind fun r e => (Rs.of (intOf r) e).bind fun i e => .ok (some i) e
theorem rdP_of {K : Frg} {T : List Addr} {W : XK} {p : Prt} {g : G} {env : Env} {ts : List (Sl × Option V)} {σ : L2.St} {H : Hp} {Q : Option Int → Hp → Prop} (len : Ln g env σ) (R : DL.Rel K T g (pr env σ ++ ts) H)
    (h : (evP p env).Wp (fun o e => ∀ H', Ln g e σ → DL.Rel K T g (pr e σ ++ ts) H' → Q o H') (exW K T g W)) : rdP K T W p σ H Q := by
  cases p with
  | no => exact h H len R
  | at_ f =>
    refine ⟨g, env, ts, len, R, (Rs.Wp.bind h).imp (fun r e _ h v H' l R' => ?_) fun _ z => z⟩
    obtain ⟨i, hi, h⟩ := Rs.Wp.of (Rs.Wp.bind h)
    rw [intOf_eq hi] at R'
    exact ⟨i, R'.getD List.mem_cons_self, h H' l R'.tail⟩
def cutD {α : Type} (xs : List α) (lo hi : Option Int) : List α := (xs.drop (HT.sIx xs.length 0 lo)).take (HT.sIx xs.length xs.length hi - HT.sIx xs.length 0 lo)
theorem cut_rep {K : Frg} {H : Hp} {ds : List D} {vs : List V} {lo hi : Option Int} (h : RepDs K H ds vs) : RepDs K H (cutD ds lo hi) (cutV vs lo hi) := by
  unfold cutD cutV
  rw [RepDs.length ds vs h]
  exact (h.drop _).take _
def slO2 (lo hi : Option Int) : Sl → Option Sl
  | .v (.tg _ ds) => some (.v (.tup (cutD ds lo hi)))
  | .v (.str z) => if z.length ≤ sizeLine then some (.v (.str (cutS z lo hi))) else none
  | _ => none
def slO (lo hi : Option Int) (x : Sl) : Option Sl := ((listV x).map fun ds => .o ((cutD ds lo hi).map .v)).or (slO2 lo hi x)
@[simp] theorem slO_tup (lo hi : Option Int) (k : TK) (ds : List D) : slO lo hi (.v (.tg k ds)) = some (.v (.tup (cutD ds lo hi))) := rfl
@[simp] theorem slO_lst (lo hi : Option Int) (ds : List D) : slO lo hi (.v (.lst ds)) = some (.o ((cutD ds lo hi).map .v)) := rfl
@[simp] theorem slO_o (lo hi : Option Int) (ds : List D) : slO lo hi (.o (ds.map .v)) = some (.o ((cutD ds lo hi).map .v)) := by unfold slO; rw [listV_o]; rfl
/-- what is sliced is seen when both ends are there -/
def slS (A : Opd) (lo hi : Prt) : Ev := fun env => (evA [A] env).bind fun rs e => (evP lo e).bind fun l e => (evP hi e).bind fun h e => Rs.of ((cont [A] rs e).head?.bind (slO l h)) e
abbrev rSlX (K : Frg) : V → Option Int → Option Int → Hp → VK → Prop := fun x lo hi H Q => rSlL K x lo hi H Q ∨ rSlA K x lo hi H Q ∨ rSlS x lo hi H Q
theorem slO2_ok {K : Frg} {H : Hp} {x q : Sl} {v : V} {f : List Addr} {lo hi : Option Int} {Q : VK} (h : Rp K H x (some v) f) (e : slO2 lo hi x = some q) (k : ∀ v H', Res K H H' q v → Q v H') : rSlX K v lo hi H Q := by
  unfold slO2 at e
  split at e
  · rename_i ds
    cases e
    obtain ⟨a, vs, rfl, hs, hr⟩ := tupV_rd h (tupV_tup _ ds)
    refine .inr (.inl ⟨a, vs, rfl, hs, fun hw => ?_, fun _ p hp => k _ _ (.newT hp (cut_rep hr))⟩)
    have : cutD ds lo hi = ds := by
      unfold cutD
      rw [RepDs.length ds vs hr, hw.1, hw.2, List.drop_zero, Nat.sub_zero, ← RepDs.length ds vs hr, List.take_length]
    rw [this] at k
    exact k _ H (.same ⟨a, vs, rfl, hs, hr⟩)
  · split at e
    · cases e
      exact .inr (.inr ⟨_, str_rd h, by assumption, k _ H (.same rfl)⟩)
    · cases e
  · cases e
theorem slO_ok {K : Frg} {H : Hp} {x q : Sl} {v : V} {f : List Addr} {lo hi : Option Int} {Q : VK} (h : Rp K H x (some v) f) (e : slO lo hi x = some q) (k : ∀ v H', Res K H H' q v → Q v H') : rSlX K v lo hi H Q := by
  unfold slO at e
  cases h1 : listV x with
  | some ds =>
    rw [h1] at e
    cases e
    obtain ⟨a, vs, rfl, hs, hr⟩ := listV_rd h h1
    exact .inl ⟨a, vs, rfl, hs, fun p hp => k _ _ (.newL hp (cut_rep hr))⟩
  | none =>
    rw [h1] at e
    exact slO2_ok h e k
theorem d_slice {X : Cx} {T : List Addr} {W : XK} {a : Expr} {lo hi : Option Expr} {A : Opd} {pl ph : Prt} {pos p2 : Pos} (ha : DO X T W a A) (hl : DP X T W lo pl) (hh : DP X T W hi ph) : DE X T W (.Subscript a (.Slice lo hi none p2) pos) (slS A pl ph) :=
  ⟨(pe_slice (sl_list.or (sl_tupA.or sl_str)) ha.pe hl.po hh.po).mono fun σ H Q h => by
    obtain ⟨g, env, ts, len, R, h⟩ := h
    have q : nestA ([A].map (rdO X.K T W)) σ H (fun vs H2 => ∃ x, vs = [x] ∧ rdP X.K T W pl σ H2 fun l H3 => rdP X.K T W ph σ H3 fun u H4 => rSlX X.K x l u H4 Q) := nest_of [A] env ts H _ len R ((Rs.Wp.bind h).imp (fun rs e _ h vs H' len' nm R' => by
      have hl2 := named_len nm
      obtain ⟨x, rfl⟩ : ∃ x, vs = [x] := by
        match vs, hl2 with
        | [x], _ => exact ⟨x, rfl⟩
      refine ⟨x, rfl, ?_⟩
      have R0 : DL.Rel X.K T g (pr e σ ++ (tmps rs [x] ++ ts)) H' := R'.perm (List.perm_append_comm_assoc _ _ _)
      refine rdP_of len' R0 ((Rs.Wp.bind h).imp (fun l e2 _ h H2 len2 R2 => ?_) fun _ z => z)
      refine rdP_of len2 R2 ((Rs.Wp.bind h).imp (fun u e3 _ h H3 len3 R3 => ?_) fun _ z => z)
      obtain ⟨z, hz, k⟩ := Rs.Wp.of h
      have R4 : DL.Rel X.K T g (tmps rs [x] ++ (pr e3 σ ++ ts)) H3 := R3.perm (List.perm_append_comm_assoc _ _ _)
      have sn : Seen X.K H3 (cont [A] rs e3) [x] := seen_of len3.1 [A] rs [x] nm R4
      cases hc : cont [A] rs e3 with
      | nil => rw [hc] at hz; cases hz
      | cons y l =>
        rw [hc] at hz sn
        obtain ⟨v, r, e1, ⟨f, hf⟩, e4⟩ := sn
        cases e1
        exact slO_ok hf hz fun v H4 rz => k v H4 len3 (R4.drop.res rz)) fun _ z => z)
    refine rdO_imp (fun v H' h1 => ?_) q
    obtain ⟨x, e, h⟩ := h1
    cases e
    exact h⟩

/-! ### built-ins by values -/
theorem ro_one {K : Frg} {r : List V → Hp → VK → Prop} {op : Sl → Option Sl} (h : ∀ H x v f q Q, Rp K H x (some v) f → op x = some q → (∀ v H', Res K H H' q v → Q v H') → r [v] H Q) : RO K r fun xs => match xs with | [x] => op x | _ => none := by
  intro H xs vs q Q sn e k
  match xs, sn, e with
  | [x], sn, e =>
    obtain ⟨v, f, rfl, hv⟩ := seen1 sn
    exact h H x v f q Q hv e k
  | [], _, e => cases e
  | _ :: _ :: _, _, e => cases e
def one (op : Sl → Option Sl) : List Sl → Option Sl := fun xs => match xs with
  | [x] => op x
  | _ => none
@[simp] theorem one_one (op : Sl → Option Sl) (x : Sl) : one op [x] = op x := rfl
theorem callr_or {X : Cx} {f : Value} {r r' : List V → Hp → VK → Prop} (h : CallR X f r) (h' : CallR X f r') : CallR X f (fun x H Q => r x H Q ∨ r' x H Q) := by
  intro pins s σ H x u Q I rx q
  rcases q with q | q
  · exact h pins s σ H x u Q I rx q
  · exact h' pins s σ H x u Q I rx q
theorem ro_or {K : Frg} {r r' : List V → Hp → VK → Prop} {op op' : List Sl → Option Sl} (a : RO K r op) (b : RO K r' op') : RO K (fun x H Q => r x H Q ∨ r' x H Q) fun xs => (op xs).or (op' xs) := by
  intro H xs vs q Q sn e k
  have e : (op xs).or (op' xs) = some q := e
  cases h : op xs with
  | none =>
    rw [h] at e
    exact .inr (b H xs vs q Q sn e k)
  | some q' =>
    rw [h] at e
    cases e
    exact .inl (a H xs vs q Q sn h k)
/-- len -/
def lenB : Sl → Option Sl
  | .v (.lst xs) => some (.v (.int (xs.length : Int)))
  | .v (.tg _ xs) => some (.v (.int (xs.length : Int)))
  | .v (.str z) => if z.length ≤ sizeLine then some (.v (.int (z.length : Int))) else none
  | .o xs => some (.v (.int (xs.length : Int)))
  | _ => none
def lenC : Sl → Option Sl
  | .k ks _ => some (.v (.int (ks.length : Int)))
  | _ => none
def lenO : List Sl → Option Sl := fun xs => (one lenB xs).or (one lenC xs)
@[simp] theorem lenO_lst (xs : List D) : lenO [.v (.lst xs)] = some (.v (.int (xs.length : Int))) := rfl
@[simp] theorem lenO_tup (k : TK) (xs : List D) : lenO [.v (.tg k xs)] = some (.v (.int (xs.length : Int))) := rfl
@[simp] theorem lenO_o (xs : List Sl) : lenO [.o xs] = some (.v (.int (xs.length : Int))) := rfl
theorem ro_len {K : Frg} : RO K (fun xs H Q => (∃ x n, xs = [x] ∧ LenV K x H n ∧ Q (.int n) H)) (one lenB) := by
  refine ro_one fun H x v f q Q hv e k => ?_
  unfold lenB at e
  split at e
  · rename_i ds
    cases e
    obtain ⟨a, us, rfl, hs, hr⟩ := listV_rd hv (listV_lst ds)
    rw [RepDs.length ds us hr] at k
    exact ⟨_, us.length, rfl, .inl ⟨us, hs, rfl⟩, k _ H (.same rfl)⟩
  · rename_i ds
    cases e
    obtain ⟨a, us, rfl, hs, hr⟩ := tupV_rd hv (tupV_tup _ ds)
    rw [RepDs.length ds us hr] at k
    exact ⟨_, us.length, rfl, .inr ⟨us, hs, rfl⟩, k _ H (.same rfl)⟩
  · split at e
    · cases e
      exact ⟨v, _, rfl, by rw [str_rd hv]; exact ⟨by assumption, rfl⟩, k _ H (.same rfl)⟩
    · cases e
  · cases e
    obtain ⟨a, us, fq, ew, ha, hr, _⟩ := hv
    cases ew
    rw [Rps.length _ us fq hr] at k
    exact ⟨_, us.length, rfl, .inl ⟨us, SqL.of ha, rfl⟩, k _ H (.same rfl)⟩
  · cases e
theorem ro_lenC {K : Frg} : RO K (fun xs H Q => ∃ a kvs, xs = [V.ref a] ∧ H a = some (.dK kvs) ∧ Q (.int kvs.length) H) (one lenC) := by
  refine ro_one fun H x v f q Q hv e k => ?_
  unfold lenC at e
  split at e
  · cases e
    obtain ⟨a, kvs, ew, ha, hk, hr, _⟩ := hv
    cases ew
    subst hk
    rw [List.length_map] at k
    exact ⟨a, kvs, rfl, ha, k _ H (.same rfl)⟩
  · cases e
theorem ro_lenX {K : Frg} : RO K (fun xs H Q => (∃ x n, xs = [x] ∧ LenV K x H n ∧ Q (.int n) H) ∨ ∃ a kvs, xs = [V.ref a] ∧ H a = some (.dK kvs) ∧ Q (.int kvs.length) H) lenO := ro_or ro_len ro_lenC
section
variable {X : Cx} {T : List Addr} {W : XK} {e : Expr} {es : List Expr} {as : List Opd} {p pos : Pos}
theorem d_len (hg : Gl X "len") (hm : X.mg "len" = none) (da : DA X T W [e] as) (he : starEach [e] X.env = (false, eval e X.env) :: starEach [] X.env := by rfl) : DE X T W (.Call (.Name "len" p) [e] [] pos) (opS lenO as) :=
  d_callB (fun h => pe_callB (callr_or call_len call_lenD) hg hm boot_len h (he := he)) ro_lenX da
/-- int(x) of an int or a bool -/
def intO : List Sl → Option Sl
  | [.v (.int i)] => some (.v (.int i))
  | [.v (.bl b)] => some (.v (.int (if b then 1 else 0)))
  | _ => none
theorem ro_int {K : Frg} : RO K (fun xs H Q => (∃ i, xs = [.int i] ∧ Q (.int i) H) ∨ ∃ k, xs = [.bl k] ∧ Q (.int (if k then 1 else 0)) H) intO := by
  intro H xs vs q Q sn e k
  unfold intO at e
  split at e
  · cases e
    obtain ⟨v, f, rfl, hv⟩ := seen1 sn
    exact .inl ⟨_, by rw [int_rd hv], k _ H (.same rfl)⟩
  · cases e
    obtain ⟨v, f, rfl, hv⟩ := seen1 sn
    exact .inr ⟨_, by rw [bl_rd hv], k _ H (.same rfl)⟩
  · cases e
theorem d_int1 (hg : Gl X "int") (hm : X.mg "int" = none) (da : DA X T W [e] as) (he : starEach [e] X.env = (false, eval e X.env) :: starEach [] X.env := by rfl) : DE X T W (.Call (.Name "int" p) [e] [] pos) (opS intO as) :=
  d_callB (fun h => pe_callTy call_int1 hg hm boot_int h (he := he)) ro_int da
theorem ro_ii {K : Frg} {g : Int → Int → V} {f : Int → Int → D} (hf : ∀ i j H, RepD K H (f i j) (g i j)) : RO K (fun xs H Q => ∃ i j, xs = [.int i, .int j] ∧ Q (g i j) H) (i2 (fun _ _ => true) f) := by
  intro H xs vs q Q sn e k
  obtain ⟨i, j, rfl, h1, rfl⟩ := i2_inv e
  obtain ⟨v, w, f1, g1, rfl, hv, hw⟩ := seen2 sn
  exact ⟨i, j, by rw [int_rd hv, int_rd hw], k _ H (.same (hf i j H))⟩
abbrev max2 : List Sl → Option Sl := i2 (fun _ _ => true) fun i j => .int (if j > i then j else i)
abbrev min2 : List Sl → Option Sl := i2 (fun _ _ => true) fun i j => .int (if j < i then j else i)
theorem d_max2 {e2 : Expr} (hc : X.calm = true) (hg : Gl X "max") (hm : X.mg "max" = none) (da : DA X T W [e, e2] as) (he : starEach [e, e2] X.env = (false, eval e X.env) :: starEach [e2] X.env := by rfl) (hpl : (backTo pos (starEach [e2] X.env)).any (·.1) = false := by rfl) : DE X T W (.Call (.Name "max" p) [e, e2] [] pos) (opS max2 as) :=
  d_callB (fun h => pe_callB (call_max2 hc) hg hm (by decide +kernel) h (he := he) (hpl := hpl)) (ro_ii fun _ _ _ => rfl) da
theorem d_min2 {e2 : Expr} (hc : X.calm = true) (hg : Gl X "min") (hm : X.mg "min" = none) (da : DA X T W [e, e2] as) (he : starEach [e, e2] X.env = (false, eval e X.env) :: starEach [e2] X.env := by rfl) (hpl : (backTo pos (starEach [e2] X.env)).any (·.1) = false := by rfl) : DE X T W (.Call (.Name "min" p) [e, e2] [] pos) (opS min2 as) :=
  d_callB (fun h => pe_callB (call_min2 hc) hg hm (by decide +kernel) h (he := he) (hpl := hpl)) (ro_ii fun _ _ _ => rfl) da
def absO : List Sl → Option Sl := i1 fun i => .int (if i < 0 then -i else i)
theorem ro_abs {K : Frg} : RO K (fun xs H Q => ∃ i, xs = [.int i] ∧ Q (.int (if i < 0 then -i else i)) H) absO := by
  intro H xs vs q Q sn e k
  unfold absO i1 at e
  split at e
  · cases e
    obtain ⟨v, f, rfl, hv⟩ := seen1 sn
    exact ⟨_, by rw [int_rd hv], k _ H (.same rfl)⟩
  · cases e
theorem d_abs (hg : Gl X "abs") (hm : X.mg "abs" = none) (da : DA X T W [e] as) (he : starEach [e] X.env = (false, eval e X.env) :: starEach [] X.env := by rfl) : DE X T W (.Call (.Name "abs" p) [e] [] pos) (opS absO as) :=
  d_callB (fun h => pe_callB call_abs hg hm (by decide +kernel) h (he := he)) ro_abs da
/-- list(x), tuple(x) -/
def listO : List Sl → Option Sl := one fun x => (seqV x).map fun ds => .o (ds.map .v)
def tupleO : List Sl → Option Sl := one fun x => (seqV x).map fun ds => .v (.tup ds)
@[simp] theorem listO_lst (ds : List D) : listO [.v (.lst ds)] = some (.o (ds.map .v)) := rfl
@[simp] theorem listO_tup (k : TK) (ds : List D) : listO [.v (.tg k ds)] = some (.o (ds.map .v)) := rfl
@[simp] theorem listO_o (ds : List D) : listO [.o (ds.map .v)] = some (.o (ds.map .v)) := by unfold listO; rw [one_one, seqV_o]; rfl
@[simp] theorem tupleO_lst (ds : List D) : tupleO [.v (.lst ds)] = some (.v (.tup ds)) := rfl
@[simp] theorem tupleO_tup (k : TK) (ds : List D) : tupleO [.v (.tg k ds)] = some (.v (.tup ds)) := rfl
@[simp] theorem tupleO_o (ds : List D) : tupleO [.o (ds.map .v)] = some (.v (.tup ds)) := by unfold tupleO; rw [one_one, seqV_o]; rfl
theorem ro_listO {K : Frg} : RO K (fun xs H Q => ∃ p ys, xs = [.ref p] ∧ (SqL K H p ys ∨ SqT K H p ys) ∧ ∀ l, H l = none → Q (.ref l) (upd H l (.lst ys))) listO := by
  refine ro_one fun H x v f q Q hv e k => ?_
  obtain ⟨ds, h1, h2⟩ := Option.map_eq_some_iff.mp e
  subst h2
  obtain ⟨a, us, rfl, hs, hr⟩ := seqV_rd hv h1
  exact ⟨a, us, rfl, hs, fun l hl => k _ _ (.newL hl hr)⟩
theorem ro_tupleO {K : Frg} : RO K (fun xs H Q => ∃ p ys, xs = [.ref p] ∧ ((SqL K H p ys ∧ ∀ l, H l = none → Q (.ref l) (upd H l (.tup ys))) ∨ (SqT K H p ys ∧ Q (.ref p) H))) tupleO := by
  refine ro_one fun H x v f q Q hv e k => ?_
  obtain ⟨ds, h1, h2⟩ := Option.map_eq_some_iff.mp e
  subst h2
  obtain ⟨a, us, rfl, hs, hr⟩ := seqV_rd hv h1
  refine ⟨a, us, rfl, ?_⟩
  rcases hs with hs | hs
  · exact .inl ⟨hs, fun l hl => k _ _ (.newT hl hr)⟩
  · exact .inr ⟨hs, k _ H (.same ⟨a, us, rfl, hs, hr⟩)⟩
theorem d_list (hg : Gl X "list") (hm : X.mg "list" = none) (da : DA X T W [e] as) (he : starEach [e] X.env = (false, eval e X.env) :: starEach [] X.env := by rfl) : DE X T W (.Call (.Name "list" p) [e] [] pos) (opS listO as) :=
  d_callB (fun h => pe_callTy call_list_of hg hm (by decide +kernel) h (he := he)) ro_listO da
theorem d_tuple (hg : Gl X "tuple") (hm : X.mg "tuple" = none) (da : DA X T W [e] as) (he : starEach [e] X.env = (false, eval e X.env) :: starEach [] X.env := by rfl) : DE X T W (.Call (.Name "tuple" p) [e] [] pos) (opS tupleO as) :=
  d_callB (fun h => pe_callTy call_tuple_of hg hm (by decide +kernel) h (he := he)) ro_tupleO da
/-- all, any of a list of truth values -/
def blsD : List D → Option (List Bool)
  | [] => some []
  | .bl i :: ds => (blsD ds).map (i :: ·)
  | _ => none
@[simp] theorem blsD_map (ns : List Bool) : blsD (ns.map .bl) = some ns := by
  induction ns with
  | nil => rfl
  | cons d ds ih =>
    show (blsD (ds.map .bl)).map (d :: ·) = _
    rw [ih]
    rfl
theorem blsD_rep {K : Frg} {H : Hp} : ∀ {xs : List D} {bs : List Bool} {vs : List V}, blsD xs = some bs → RepDs K H xs vs → vs = bs.map V.bl
  | [], bs, vs, h, r => by cases h; exact r
  | .bl d :: xs, bs, _, h, ⟨v, r, e, hv, t⟩ => by
    obtain ⟨bs', h1, h2⟩ := Option.map_eq_some_iff.mp (show (blsD xs).map (d :: ·) = some bs from h)
    rw [← h2, e, show v = .bl d from hv, blsD_rep h1 t]
    rfl
  | .non :: _, _, _, h, _ => by cases h
  | .int _ :: _, _, _, h, _ => by cases h
  | .str _ :: _, _, _, h, _ => by cases h
  | .tg _ _ :: _, _, _, h, _ => by cases h
  | .lst _ :: _, _, _, h, _ => by cases h
  | .dk _ _ :: _, _, _, h, _ => by cases h
  | .dt _ _ :: _, _, _, h, _ => by cases h
  | .cls _ :: _, _, _, h, _ => by cases h
  | .pin _ _ :: _, _, _, h, _ => by cases h
def allO : List Sl → Option Sl := one fun x => (listV x).bind fun ds => (blsD ds).map fun bs => .v (.bl (bs.all id))
def anyO : List Sl → Option Sl := one fun x => (listV x).bind fun ds => (blsD ds).map fun bs => .v (.bl (bs.any id))
theorem ro_all {K : Frg} : RO K (rAll K) allO := by
  refine ro_one fun H x v f q Q hv e k => ?_
  obtain ⟨ds, h1, h2⟩ := Option.bind_eq_some_iff.mp e
  obtain ⟨bs, h3, h4⟩ := Option.map_eq_some_iff.mp h2
  subst h4
  obtain ⟨a, us, rfl, hs, hr⟩ := listV_rd hv h1
  exact ⟨a, bs, rfl, by rw [← blsD_rep h3 hr]; exact hs, k _ H (.same rfl)⟩
theorem ro_any {K : Frg} : RO K (rAny K) anyO := by
  refine ro_one fun H x v f q Q hv e k => ?_
  obtain ⟨ds, h1, h2⟩ := Option.bind_eq_some_iff.mp e
  obtain ⟨bs, h3, h4⟩ := Option.map_eq_some_iff.mp h2
  subst h4
  obtain ⟨a, us, rfl, hs, hr⟩ := listV_rd hv h1
  exact ⟨a, bs, rfl, by rw [← blsD_rep h3 hr]; exact hs, k _ H (.same rfl)⟩
theorem d_all (hc : X.calm = true) (hg : Gl X "all") (hm : X.mg "all" = none) (da : DA X T W [e] as) (he : starEach [e] X.env = (false, eval e X.env) :: starEach [] X.env := by rfl) : DE X T W (.Call (.Name "all" p) [e] [] pos) (opS allO as) :=
  d_callB (fun h => pe_callB (cr_all hc) hg hm (by decide +kernel) h (he := he)) ro_all da
theorem d_any (hc : X.calm = true) (hg : Gl X "any") (hm : X.mg "any" = none) (da : DA X T W [e] as) (he : starEach [e] X.env = (false, eval e X.env) :: starEach [] X.env := by rfl) : DE X T W (.Call (.Name "any" p) [e] [] pos) (opS anyO as) :=
  d_callB (fun h => pe_callB (cr_any hc) hg hm (by decide +kernel) h (he := he)) ro_any da
/-- sum, sorted of ints -/
def sumO : List Sl → Option Sl := one fun x => (listV x).bind fun ds => (intsD ds).map fun ns => .v (.int ns.sum)
theorem ro_sum {K : Frg} : RO K (rSum K) sumO := by
  refine ro_one fun H x v f q Q hv e k => ?_
  obtain ⟨ds, h1, h2⟩ := Option.bind_eq_some_iff.mp e
  obtain ⟨ns, h3, h4⟩ := Option.map_eq_some_iff.mp h2
  subst h4
  obtain ⟨a, us, rfl, hs, hr⟩ := listV_rd hv h1
  rw [intsD_eq h3] at hr
  exact ⟨a, ns, rfl, by rw [← hr.ints]; exact hs, k _ H (.same rfl)⟩
theorem d_sum (hc : X.calm = true) (hg : Gl X "sum") (hm : X.mg "sum" = none) (da : DA X T W [e] as) (he : starEach [e] X.env = (false, eval e X.env) :: starEach [] X.env := by rfl) : DE X T W (.Call (.Name "sum" p) [e] [] pos) (opS sumO as) :=
  d_callB (fun h => pe_callB (cr_sum hc) hg hm (by decide +kernel) h (he := he)) ro_sum da

/-! ### isinstance -/
def tyNm : Sl → Option String
  | .v .non => some "NoneType"
  | .v (.bl _) => some "bool"
  | .v (.int _) => some "int"
  | .v (.str _) => some "str"
  | .v (.tg _ _) => some "tuple"
  | .v (.lst _) => some "list"
  | .o _ => some "list"
  | .v (.dk _ _) => some "dict"
  | .k _ _ => some "dict"
  | .t _ _ => some "dict"
  | _ => none
theorem tyX_of {K : Frg} {H : Hp} {s : Sl} {v : V} {f : List Addr} {n : String} (h : Rp K H s (some v) f) (e : tyNm s = some n) : TyX K H v (.type n) := by
  unfold tyNm at e
  split at e
  · cases e; obtain ⟨_, v', ev, hd⟩ := h; cases ev; cases hd; exact .base .non
  · cases e; rw [bl_rd h]; exact .base (.bl _)
  · cases e; rw [int_rd h]; exact .base (.int _)
  · cases e; rw [str_rd h]; exact .base (.str _)
  · cases e
    obtain ⟨_, v', ev, a, vs, rfl, hs, hr⟩ := h
    cases ev
    rcases hs.sq with (hs | ⟨ob, hs⟩) | ⟨ob, its, m, h1, h2, _⟩
    · exact .base (.tup hs)
    · exact .fTuple hs
    · exact .kTuple h1 h2
  · cases e
    obtain ⟨_, v', ev, a, vs, rfl, hs, hr⟩ := h
    cases ev
    rcases hs with ⟨ob, hs⟩ | ⟨ob, its, m, h1, h2, _⟩
    · exact .base (.frz hs)
    · exact .kList h1 h2
  · cases e
    obtain ⟨a, vs, fq, ew, ha, _⟩ := h
    cases ew
    exact .base (.lst ha)
  · cases e
    obtain ⟨_, v', ev, a, kvs, ob, rfl, hs, hr⟩ := h
    cases ev
    exact .fDict hs
  · cases e
    obtain ⟨a, kvs, ew, ha, _⟩ := h
    cases ew
    exact .base (.dK ha)
  · cases e
    obtain ⟨a, kvs, ew, ha, _⟩ := h
    cases ew
    exact .base (.dT ha)
  · cases e
def isiO (n : String) (x : Sl) : Option Sl := (tyNm x).bind fun a => (kitB a n).map fun b => .v (.bl b)
def isiS (n : String) (A : Opd) : Ev := opS (one (isiO n)) [A]
theorem seen_one {K : Frg} {T : List Addr} {W : XK} {A : Opd} {op : Sl → Option Sl} {σ : L2.St} {H : Hp} {Q Q' : VK} (h : rdE K T W (opS (one op) [A]) σ H Q) (k : ∀ x v f q H, Rp K H x (some v) f → op x = some q → (∀ v H', Res K H H' q v → Q v H') → Q' v H) : rdO K T W A σ H Q' := by
  have q := op_nest (r := fun vs H Q => ∃ v x f q, vs = [v] ∧ Rp K H x (some v) f ∧ op x = some q ∧ ∀ v H', Res K H H' q v → Q v H') (op := one op) (fun H xs vs q Q sn e k => by
    match xs, sn, e with
    | [x], sn, e =>
      obtain ⟨v, f, rfl, hv⟩ := seen1 sn
      exact ⟨v, x, f, q, rfl, hv, e, k⟩
    | [], _, e => cases e
    | _ :: _ :: _, _, e => cases e) [A] σ H Q h
  refine rdO_imp (fun v H' h1 => ?_) q
  obtain ⟨v', x, f, q', e, h2, h3, h4⟩ := h1
  cases e
  exact k x v f q' H' h2 h3 h4
theorem d_isi {n : String} {x : Str} {A : Opd} {px : Pos} (hg : Gl X "isinstance") (hm : X.mg "isinstance" = none) (ha : DO X T W e A) (hc : PE X (.Name x px) (tC (.ty n))) (he : starEach [e, .Name x px] X.env = (false, eval e X.env) :: starEach [.Name x px] X.env := by rfl)
    (he2 : starEach [.Name x px] X.env = (false, eval (.Name x px) X.env) :: starEach [] X.env := by rfl) (hpl : (backTo pos (starEach [.Name x px] X.env)).any (·.1) = false := by rfl) : DE X T W (.Call (.Name "isinstance" p) [e, .Name x px] [] pos) (isiS n A) :=
  ⟨(pe_callB call_isi hg hm (by decide +kernel) (pa_cons ha.pe (pa_cons hc pa_nil he2) he) (he := he) (hpl := hpl)).mono fun σ H Q h => seen_one h fun y v f q H' hv hq k => by
    obtain ⟨a, h1, h2⟩ := Option.bind_eq_some_iff.mp hq
    obtain ⟨b, h3, h4⟩ := Option.map_eq_some_iff.mp h2
    subst h4
    exact ⟨v, .ty n, .type a, .type n, b, rfl, .ty n, tyX_of hv h1, kit_ty h3, k _ _ (.same rfl)⟩⟩
def isiO2 (n m : String) (x : Sl) : Option Sl := (tyNm x).bind fun a => (kitB a n).bind fun b => (kitB a m).map fun c => .v (.bl (b || c))
def isiS2 (n m : String) (A : Opd) : Ev := opS (one (isiO2 n m)) [A]
theorem kitAny2 {K : Frg} {t a b : Value} {x y : Bool} (h1 : PySem.W.kitOne K t a = some x) (h2 : PySem.W.kitOne K t b = some y) : PySem.W.kitAny K t [a, b] = some (x || y) := by
  refine kitAny_cons h1 (fun e => ?_) (fun e => by rw [e]; rfl)
  refine kitAny_cons h2 (fun e2 => ?_) (fun e2 => by rw [e2]; cases x <;> rfl)
  rw [e, e2]
  rfl
theorem d_isi2 {n m : String} {x y : Str} {A : Opd} {px py pt : Pos} {kt : Nat} (hg : Gl X "isinstance") (hm : X.mg "isinstance" = none) (ha : DO X T W e A) (hc : PE X (.Name x px) (tC (.ty n))) (hc2 : PE X (.Name y py) (tC (.ty m)))
    (he : starEach [e, .Tuple [.Name x px, .Name y py] kt pt] X.env = (false, eval e X.env) :: starEach [.Tuple [.Name x px, .Name y py] kt pt] X.env := by rfl)
    (he2 : starEach [.Tuple [.Name x px, .Name y py] kt pt] X.env = (false, eval (.Tuple [.Name x px, .Name y py] kt pt) X.env) :: starEach [] X.env := by rfl)
    (he3 : starEach [.Name x px, .Name y py] X.env = (false, eval (.Name x px) X.env) :: starEach [.Name y py] X.env := by rfl) (he4 : starEach [.Name y py] X.env = (false, eval (.Name y py) X.env) :: starEach [] X.env := by rfl)
    (hpl : (backTo pos (starEach [.Tuple [.Name x px, .Name y py] kt pt] X.env)).any (·.1) = false := by rfl) : DE X T W (.Call (.Name "isinstance" p) [e, .Tuple [.Name x px, .Name y py] kt pt] [] pos) (isiS2 n m A) :=
  ⟨(pe_callB call_isiT hg hm (by decide +kernel) (pa_cons ha.pe (pa_cons (pe_tup (pa_cons hc (pa_cons hc2 pa_nil he4) he3)) pa_nil he2) he) (he := he) (hpl := hpl)).mono fun σ H Q h => seen_one h fun y v f q H' hv hq k => by
    obtain ⟨a, h1, h2⟩ := Option.bind_eq_some_iff.mp hq
    obtain ⟨b, h3, h4⟩ := Option.bind_eq_some_iff.mp h2
    obtain ⟨c, h5, h6⟩ := Option.map_eq_some_iff.mp h4
    subst h6
    refine ⟨by show 2 ≤ sizeLine; decide, fun tp htp => ?_⟩
    have st : Stf H' (upd H' tp (.tup [.ty n, .ty m])) := .ext (ext_upd htp)
    have hv2 : Rp X.K (upd H' tp (.tup [.ty n, .ty m])) y (some v) f := Rp.stay st y _ f hv fun a _ ob eo => ext_upd htp a ob eo
    exact ⟨v, tp, [.ty n, .ty m], .type a, [.type n, .type m], b || c, rfl, upd_same, .cons (.ty n) (.cons (.ty m) .nil), tyX_of hv2 h1, kitAny2 (kit_ty h3) (kit_ty h5), k _ _ ⟨ext_upd htp, [], ⟨rfl, _, rfl, rfl⟩, List.nodup_nil, fun _ z => nomatch z⟩⟩⟩
end
end DL


set_option maxHeartbeats 1000000
namespace DL
open PySem PySem.Spec PyProof.Rows L2

/-! ### a name's own list is changed -/
theorem Rel.mutSlot {K : Frg} {T : List Addr} {g : G} {H : Hp} {env : Env} {σ : L2.St} {ts ys : List (Sl × Option V)} {i : Nat} {xs : List Sl} (len : Ln g env σ) (R : DL.Rel K T g (ys ++ (pr env σ ++ ts)) H) (h : env[i]? = some (.o xs)) :
    ∃ a vs, σ[i]? = some (some (.ref a)) ∧ H a = some (.lst vs) ∧ xs.length = vs.length ∧ (∃ fq, Rps K H xs vs fq) ∧ ∀ xs' vs' ys' rest, xs'.length = vs'.length → (xs.zip (vs.map some) ++ ys).Perm (xs'.zip (vs'.map some) ++ ys' ++ rest) → DL.Rel K T g (ys' ++ (pr (env.set i (.o xs')) σ ++ ts)) (upd H a (.lst vs')) := by
  have R0 : DL.Rel K T g (pr env σ ++ (ys ++ ts)) H := R.perm (List.perm_append_comm_assoc _ _ _)
  obtain ⟨w, l, ew, R1, _, back⟩ := Rel.out len.1 R0 h
  obtain ⟨f, a, vs, fq, e1, _⟩ := R1.head
  cases e1
  obtain ⟨vs, ha, hl, hr, k⟩ := R1.mutL
  refine ⟨a, vs, ew, ha, hl, hr, fun xs' vs' ys' rest hl' p => ?_⟩
  have es : σ.set i (some (V.ref a)) = σ := by
    obtain ⟨hi, he⟩ := List.getElem?_eq_some_iff.mp ew
    rw [← he]; exact List.set_getElem_self hi
  have R2 := k xs' vs' (l ++ (ys' ++ ts)) rest hl' (by
    have p1 : (xs.zip (vs.map some) ++ (l ++ (ys ++ ts))).Perm ((xs.zip (vs.map some) ++ ys) ++ (l ++ ts)) := by
      rw [List.append_assoc]
      exact List.Perm.append_left _ (List.perm_append_comm_assoc _ _ _)
    refine p1.trans ((p.append_right _).trans ?_)
    have p2 : (xs'.zip (vs'.map some) ++ ys' ++ rest ++ (l ++ ts)).Perm (xs'.zip (vs'.map some) ++ ys' ++ ((l ++ ts) ++ rest)) := by
      rw [List.append_assoc]
      exact List.Perm.append_left _ List.perm_append_comm
    refine p2.trans ?_
    simp only [List.append_assoc]
    exact List.Perm.append_left _ (List.perm_append_comm_assoc _ _ _))
  have R3 := back _ (.o xs') (some (.ref a)) (ys' ++ ts) R2
  rw [es] at R3
  exact R3.perm (List.perm_append_comm_assoc _ _ _)
theorem set_perm {α : Type} : ∀ (l : List α) (n : Nat) (y : α), n < l.length → ∃ z, l[n]? = some z ∧ (l ++ [y]).Perm (l.set n y ++ [z])
  | [], n, y, h => by cases h
  | x :: l, 0, y, _ => ⟨x, rfl, by
      show (x :: (l ++ [y])).Perm (y :: (l ++ [x]))
      refine ((List.perm_append_comm (l₁ := l) (l₂ := [y])).cons x).trans ?_
      refine (List.Perm.swap y x l).trans ?_
      exact (List.perm_append_comm (l₁ := [x])).cons y⟩
  | x :: l, n + 1, y, h => by
    obtain ⟨z, h1, h2⟩ := set_perm l n y (by simpa using h)
    exact ⟨z, by simpa using h1, h2.cons x⟩
theorem zip_set : ∀ (xs : List Sl) (ws : List (Option V)) (n : Nat) (r : Sl) (w : Option V), (xs.set n r).zip (ws.set n w) = (xs.zip ws).set n (r, w)
  | [], ws, n, r, w => by cases n <;> rfl
  | x :: xs, [], n, r, w => by cases n <;> rfl
  | x :: xs, v :: ws, 0, r, w => rfl
  | x :: xs, v :: ws, n + 1, r, w => by
    show (x, v) :: (xs.set n r).zip (ws.set n w) = (x, v) :: (xs.zip ws).set n (r, w)
    rw [zip_set]
def listAt (e : Env) (i : Nat) : Option (List Sl) := (gt e i).bind fun s => match s with
  | .o xs => some xs
  | _ => none
theorem listAt_eq {e : Env} {i : Nat} {xs : List Sl} (h : listAt e i = some xs) : gt e i = some (.o xs) := by
  unfold listAt at h
  obtain ⟨s, h1, h2⟩ := Option.bind_eq_some_iff.mp h
  rw [h1]
  split at h2
  · cases h2; rfl
  · cases h2
/-- x[k] = e, x a name -/
def setI (i : Nat) (idx : Ev) (f : Ev) : Sv := fun env => (f env).bind fun r e1 => (Rs.of (gt e1 i) e1).bind fun _ e1 => (idx e1).bind fun k e2 => (Rs.of (intOf k) e2).bind fun j e2 => (Rs.of (listAt e2 i) e2).bind fun xs e2 => (Rs.of (ixN xs.length j) e2).bind fun n e2 => .ok .nx (e2.set i (.o (xs.set n r)))
theorem set_at {K : Frg} {T : List Addr} {g : G} {H : Hp} {env : Env} {σ : L2.St} {ts : List (Sl × Option V)} {i n : Nat} {xs : List Sl} {r : Sl} {x : V} (len : Ln g env σ) (R : DL.Rel K T g ((r, some x) :: (pr env σ ++ ts)) H) (h : env[i]? = some (.o xs)) (hn : n < xs.length) :
    ∃ a vs, σ[i]? = some (some (.ref a)) ∧ H a = some (.lst vs) ∧ xs.length = vs.length ∧ DL.Rel K T g (pr (env.set i (.o (xs.set n r))) σ ++ ts) (upd H a (.lst (vs.set n x))) := by
  obtain ⟨a, vs, e1, e2, hl, _, k⟩ := Rel.mutSlot (ys := [(r, some x)]) len R h
  refine ⟨a, vs, e1, e2, hl, ?_⟩
  obtain ⟨z, _, p⟩ := set_perm (xs.zip (vs.map some)) n (r, some x) (by rw [List.length_zip, List.length_map]; omega)
  refine k (xs.set n r) (vs.set n x) [] [z] (by rw [List.length_set, List.length_set]; exact hl) ?_
  rw [List.map_set, zip_set, List.append_nil]
  exact p
theorem ds_setI {X : Cx} {T : List Addr} {W : XK} {P : List Nat} {o ix e : Expr} {i : Nat} {idx f : Ev} {pos ps : Pos} (ho : PE X o (tVar i)) (hi : DE X T W ix idx) (d : DE X T W e f) (hs : swapsWithSole [.Subscript o ix ps] e pos.line X.env = pure false := by rfl) (hw : swappedStores [.Subscript o ix ps] e X.env = pure none := by rfl)
    (h1 : (assignEach [.Subscript o ix ps] X.env).map (·.2) = [assign (.Subscript o ix ps) X.env] := by rfl)
    (ha : ∀ v, assign (.Subscript o ix ps) X.env v = (do
      let ov ← holding [v] (eval o X.env)
      let iv ← holding [v, ov] (eval ix X.env)
      standAt ps
      holding [v, ov, iv] (setItem ov iv v)
      release [v, ov, iv] []) := by intro _; rfl) : DS X T W P (.Assign [.Subscript o ix ps] e pos) (setI i idx f) :=
  ⟨(ps_asg d.pe (pg_sub ho hi.pe set_list ha) hs hw h1).mono fun D σ H q => by
    obtain ⟨g, pv, env, ts, len, po, R, q⟩ := q
    refine ⟨g, env, ts, len, R, (Rs.Wp.bind q).imp (fun r e1 _ q x H1 len1 R1 => ?_) fun _ z => z⟩
    obtain ⟨s, hs, q⟩ := Rs.Wp.of (Rs.Wp.bind q)
    obtain ⟨v, f', hv, _⟩ := Rel.slot len1.1 R1.tail hs
    refine ⟨v, hv, g, e1, (r, some x) :: ts, len1, R1.perm List.perm_middle.symm, (Rs.Wp.bind q).imp (fun k e2 _ q y H2 len2 R2 => ?_) fun _ z => z⟩
    obtain ⟨j, hj, q⟩ := Rs.Wp.of (Rs.Wp.bind q)
    obtain ⟨xs, hx, q⟩ := Rs.Wp.of (Rs.Wp.bind q)
    obtain ⟨n, hn, q⟩ := Rs.Wp.of (Rs.Wp.bind q)
    have hy : y = .int j := by
      rw [intOf_eq hj] at R2
      exact R2.getD List.mem_cons_self
    have R3 : DL.Rel X.K T g ((r, some x) :: (pr e2 σ ++ ts)) H2 := R2.tail.perm List.perm_middle
    obtain ⟨a, vs, ea, hb, hl, R4⟩ := set_at len2 R3 (gt_some (listAt_eq hx)).1 (ixN_seq hn).2.1
    rw [ea] at hv
    cases hv
    exact ⟨a, vs, j, n, rfl, hy, hb, by rw [← hl]; exact hn, q σ _ len2.set po R4⟩⟩
/-- xs[i] by values, of a list -/
theorem get_list {X : Cx} : PGet X (fun o i H Q => ∃ p xs k v, o = .ref p ∧ i = .int k ∧ SqL X.K H p xs ∧ atI xs k = some v ∧ Q v H) := by
  intro pins s σ H x y v u Q I rx ry h
  obtain ⟨p, xs, i, z, rfl, rfl, hq, he, q⟩ := h
  cases rx
  obtain ⟨t, rfl⟩ := ry
  obtain ⟨its, r, pl, hz⟩ := I.list hq
  obtain ⟨j, h1, h2, h3, h4, h5⟩ := atI_get he
  obtain ⟨w, ew, rw'⟩ := r.get h2
  have hl := r.length
  have hn := line63
  have fin : EP X pins σ Q w s := ⟨z, H, I, rw', q⟩
  by_cases h0 : 0 ≤ i
  · have hj : i.toNat = j := by
      rw [seqIndex_of h0 h5] at h1
      exact Option.some.inj h1
    exact wpAny_getItem_list pl.isList h0 (by omega) (by rw [hj]; simpa using ew) fin
  · have hj : (i + (its.toArray.size : Int)).toNat = j := by
      rw [seqIndex_neg (by omega) h4] at h1
      rw [List.size_toArray, ← hl]
      exact Option.some.inj h1
    exact wpAny_getItem_list_neg pl.isList (by omega) (by rw [List.size_toArray] <;> omega) (by omega) (by rw [hj]; simpa using ew) fin
/-- x[k] += e, ints -/
def augI (op : Int → Int → Int) (i : Nat) (idx : Ev) (f : Ev) : Sv := fun env => (Rs.of (gt env i) env).bind fun _ e0 => (idx e0).bind fun k e1 => (Rs.of (intOf k) e1).bind fun j e1 => (Rs.of (listAt e1 i) e1).bind fun xs e1 => (Rs.of ((atI xs j).bind intOf) e1).bind fun old e1 =>
  (f e1).bind fun r e2 => (Rs.of (intOf r) e2).bind fun new e2 => (Rs.of (listAt e2 i) e2).bind fun ys e2 => (Rs.of (ixN ys.length j) e2).bind fun n e2 => .ok .nx (e2.set i (.o (ys.set n (.v (.int (op old new))))))
theorem ds_augI {X : Cx} {T : List Addr} {W : XK} {P : List Nat} {o ix e : Expr} {i : Nat} {idx f : Ev} {pos ps : Pos} {opr : Operator} {op : Int → Int → Int} (ip : PIp X opr (ipI op)) (ho : PE X o (tVar i)) (hi : DE X T W ix idx) (d : DE X T W e f)
    (ha : ∀ ov iv new, augStore ix ov iv new = (do holding [new, ov, iv] (setItem ov iv new); release [new, ov, iv] []; pure .next) := by intros; rfl) : DS X T W P (.AugAssign (.Subscript o ix ps) opr e pos) (augI op i idx f) :=
  ⟨(ps_augS ho hi.pe get_list d.pe ip set_list ha).mono fun D σ H q => by
    obtain ⟨g, pv, env, ts, len, po, R, q⟩ := q
    obtain ⟨s, hs, q⟩ := Rs.Wp.of (Rs.Wp.bind q)
    obtain ⟨v, f', hv, _⟩ := Rel.slot len.1 R hs
    refine ⟨v, hv, g, env, ts, len, R, (Rs.Wp.bind q).imp (fun k e1 _ q y H1 len1 R1 => ?_) fun _ z => z⟩
    obtain ⟨j, hj, q⟩ := Rs.Wp.of (Rs.Wp.bind q)
    obtain ⟨xs, hx, q⟩ := Rs.Wp.of (Rs.Wp.bind q)
    obtain ⟨old, hold, q⟩ := Rs.Wp.of (Rs.Wp.bind q)
    have hy : y = .int j := by
      rw [intOf_eq hj] at R1
      exact R1.getD List.mem_cons_self
    obtain ⟨v1, f1, hv1, a1, vs1, fq1, ew1, ha1, hr1, _⟩ := Rel.slot len1.1 R1.tail (listAt_eq hx)
    rw [hv] at hv1
    cases hv1
    cases ew1
    obtain ⟨z, hz, hzi⟩ := Option.bind_eq_some_iff.mp hold
    have hat : atI vs1 j = some (.int old) := by
      rw [intOf_eq hzi] at hz
      unfold atI at hz ⊢
      rw [← Rps.length _ _ _ hr1]
      obtain ⟨m, h1, h2⟩ := Option.bind_eq_some_iff.mp hz
      rw [h1]
      show vs1[m]? = _
      clear h1 hz q R1 R hold
      have key : ∀ (xs : List Sl) (vs : List V) (fq : List Addr) (m : Nat), Rps X.K H1 xs vs fq → xs[m]? = some (.v (.int old)) → vs[m]? = some (.int old) := by
        intro xs
        induction xs with
        | nil => intro vs fq m _ h; simp at h
        | cons x xs ih =>
          rintro vs fq m ⟨v, r, f1, f2, e, hv, t, _⟩ h
          subst e
          cases m with
          | zero =>
            simp at h
            subst h
            rw [int_rd hv]
            rfl
          | succ m => simpa using ih r f2 m t (by simpa using h)
      exact key xs vs1 fq1 m hr1 h2
    refine ⟨a1, vs1, j, .int old, rfl, hy, SqL.of ha1, hat, g, e1, ts, len1, R1.tail, (Rs.Wp.bind q).imp (fun r e2 _ q y2 H2 len2 R2 => ?_) fun _ z => z⟩
    obtain ⟨new, hnew, q⟩ := Rs.Wp.of (Rs.Wp.bind q)
    obtain ⟨ys, hys, q⟩ := Rs.Wp.of (Rs.Wp.bind q)
    obtain ⟨n, hn, q⟩ := Rs.Wp.of (Rs.Wp.bind q)
    have hy2 : y2 = .int new := by
      rw [intOf_eq hnew] at R2
      exact R2.getD List.mem_cons_self
    refine ⟨old, new, rfl, hy2, ?_⟩
    have R3 : DL.Rel X.K T g ((.v (.int (op old new)), some (.int (op old new))) :: (pr e2 σ ++ ts)) H2 := R2.tail.pushD rfl
    obtain ⟨a, vs, ea, hb, hl, R4⟩ := set_at len2 R3 (gt_some (listAt_eq hys)).1 (ixN_seq hn).2.1
    rw [ea] at hv
    cases hv
    exact ⟨a1, vs, j, n, rfl, hy, hb, by rw [← hl]; exact hn, q σ _ len2.set po R4⟩⟩
/-- x += e, ints -/
def augN (op : Int → Int → Int) (i : Nat) (f : Ev) : Sv := fun env => (Rs.of ((gt env i).bind intOf) env).bind fun old e0 => (f e0).bind fun r e1 => (Rs.of (intOf r) e1).bind fun new e1 => .ok .nx (e1.set i (.v (.int (op old new))))
theorem ds_augN {X : Cx} {T : List Addr} {W : XK} {P : List Nat} {x : Str} {e : Expr} {i : Nat} {f : Ev} {pos ps : Pos} {opr : Operator} {op : Int → Int → Int} (ip : PIp X opr (ipI op)) (hN : X.N.Nodup) (hi : X.N[i]? = some x) (hx : Loc X.env.scope x) (d : DE X T W e f) (hp : P.contains i = false := by rfl)
    (hf : X.fn x = true ∨ X.env.scope.names.lookup x = some .local := by first | exact .inl rfl | exact .inr rfl | assumption) : DS X T W P (.AugAssign (.Name x ps) opr e pos) (augN op i f) :=
  ⟨(ps_aug hN hi hx d.pe ip hf).mono fun D σ H q => by
    obtain ⟨g, pv, env, ts, len, po, R, q⟩ := q
    obtain ⟨old, hold, q⟩ := Rs.Wp.of (Rs.Wp.bind q)
    obtain ⟨s, hs, ho⟩ := Option.bind_eq_some_iff.mp hold
    obtain ⟨v, f', hv, hr⟩ := Rel.slot len.1 R hs
    rw [intOf_eq ho] at hr
    have ev := int_rd hr
    subst ev
    refine ⟨_, hv, g, env, ts, len, R, (Rs.Wp.bind q).imp (fun r e1 _ q y H1 len1 R1 => ?_) fun _ z => z⟩
    obtain ⟨new, hnew, q⟩ := Rs.Wp.of (Rs.Wp.bind q)
    have hy : y = .int new := by
      rw [intOf_eq hnew] at R1
      exact R1.getD List.mem_cons_self
    exact ⟨old, new, rfl, hy, q _ H1 len1.set2 (ports_set po hp) (Rel.store len1 (R1.tail.pushD (d := .int (op old new)) rfl))⟩⟩

/-! ### methods of a name's own list -/
/-- op: the list's items, the arguments; the result, the items behind -/
def mutS (i : Nat) (op : List Sl → List Sl → Option (Sl × List Sl)) (as : List Opd) : Ev := fun env => (Rs.of (listAt env i) env).bind fun _ e0 => (evA as e0).bind fun rs e1 => (movA as rs e1).bind fun ys e2 => (Rs.of (listAt e2 i) e2).bind fun xs e2 => (Rs.of (op xs ys) e2).bind fun p e2 => .ok p.1 (e2.set i (.o p.2))
/-- the rule by values does what op says: roots move -/
def MO (K : Frg) (r : V → List V → Hp → VK → Prop) (op : List Sl → List Sl → Option (Sl × List Sl)) : Prop :=
  ∀ (H : Hp) (a : Addr) (vs ws : List V) (xs ys xs' : List Sl) (q : Sl) (Q : VK) (fx : List Addr) (fy : List Addr), H a = some (.lst vs) → Rps K H xs vs fx → Rps K H ys ws fy → op xs ys = some (q, xs') →
    (∀ v vs' rest rs, xs'.length = vs'.length → (rs = [(q, some v)] ∨ (rs = [] ∧ ∃ d, q = .v d ∧ ∀ H, RepD K H d v)) → (xs.zip (vs.map some) ++ ys.zip (ws.map some)).Perm (xs'.zip (vs'.map some) ++ rs ++ rest) → Q v (upd H a (.lst vs'))) → r (.ref a) ws H Q
theorem rts_rps {K : Frg} {H : Hp} {T : List Addr} {g : G} {xs : List Sl} {ws : List V} {rs : List (Sl × Option V)} (hl : xs.length = ws.length) (R : DL.Rel K T g (xs.zip (ws.map some) ++ rs) H) : ∃ f, Rps K H xs ws f := by
  obtain ⟨fp, h, _⟩ := R
  obtain ⟨f1, f2, h1, h2, e⟩ := (Rts.append _ _ _).mp h
  exact ⟨f1, (rps_of xs ws f1 hl).mp h1⟩
theorem mut_nest {K : Frg} {T : List Addr} {W : XK} {r : V → List V → Hp → VK → Prop} {op : List Sl → List Sl → Option (Sl × List Sl)} (mo : MO K r op) {i : Nat} (as : List Opd) (σ : L2.St) (H : Hp) (Q : VK) (h : rdE K T W (mutS i op as) σ H Q) :
    ∃ v, σ[i]? = some (some v) ∧ tyV K "list" v H ∧ nestA (as.map (rdO K T W)) σ H fun vs H1 => Gh H1 fun H2 => r v vs H2 Q := by
  obtain ⟨g, env, ts, len, R, h⟩ := h
  obtain ⟨x0, hs, h⟩ := Rs.Wp.of (Rs.Wp.bind h)
  obtain ⟨v, f', hv, a, vs, fq, ew, ha, hr, _⟩ := Rel.slot len.1 R (listAt_eq hs)
  cases ew
  refine ⟨.ref a, hv, .inl ⟨rfl, vs, SqL.of ha⟩, nest_of as env ts H _ len R ((Rs.Wp.bind h).imp (fun rs e1 _ h ws H1 len1 nm R1 => ?_) fun _ z => z)⟩
  refine (mov_of as rs ws e1 H1 _ nm len1 R1 (Rs.Wp.bind h)).imp fun H2 ⟨ys, e2, h, len2, hl2, R2⟩ => ?_
  obtain ⟨xs, hx, h⟩ := Rs.Wp.of (Rs.Wp.bind h)
  obtain ⟨p, hp, h⟩ := Rs.Wp.of (Rs.Wp.bind h)
  obtain ⟨fy, hy⟩ := rts_rps hl2 R2
  obtain ⟨a2, us, e4, e5, hl3, ⟨fx, hxr⟩, k⟩ := Rel.mutSlot (ys := ys.zip (ws.map some)) len2 R2 (gt_some (listAt_eq hx)).1
  rw [hv] at e4
  cases e4
  refine mo H2 a us ws xs ys p.2 p.1 Q fx fy e5 hxr hy hp fun v vs' rest rs hl4 hrs pm => ?_
  have R3 := k p.2 vs' rs rest hl4 pm
  refine h v _ len2.set ?_
  rcases hrs with e6 | ⟨e6, d, e7, hd⟩
  · subst e6
    exact R3
  · subst e6
    rw [e7]
    exact R3.pushD (hd _)
section
variable {X : Cx} {T : List Addr} {W : XK} {o e : Expr} {es : List Expr} {name : Str} {i : Nat} {as : List Opd} {apos cpos : Pos} {id : String} {r : V → List V → Hp → VK → Prop} {op : List Sl → List Sl → Option (Sl × List Sl)}
theorem d_mut (pa : PlainAttrs "list") (slot : Slot "list" name id) (hty : typeOf (.builtin id) = pure (.type "method_descriptor")) (hm : MtR X id r) (mo : MO X.K r op) (ho : PE X o (tVar i)) (da : DA X T W (e :: es) as)
    (hbase : attributeBase o name X.env (eval o X.env) = eval o X.env := by rfl)
    (hfew : ((backTo cpos (starEach (e :: es) X.env)).all (fun x => !x.1) && (backToKw cpos (keywordEach [] X.env)).all (fun x => x.1.isSome)
      && decide ((e :: es).length + ([] : List Keyword).length + (if ([] : List Keyword).isEmpty then 0 else 1) < 30)) = true := by rfl)
    (hline : (apos.endLine == cpos.line) = true := by rfl) (hs : starEach (e :: es) X.env = (false, eval e X.env) :: starEach es X.env := by rfl) (hplain : (backTo cpos (starEach es X.env)).any (·.1) = false := by rfl) : DE X T W (.Call (.Attribute o name apos) (e :: es) [] cpos) (mutS i op as) :=
  ⟨(pe_bm pa slot hty hm ho (PA.gh da.pa) hbase hfew hline hs hplain).mono fun σ H Q h => by
    obtain ⟨v, h1, h2, h3⟩ := mut_nest mo as σ H Q h
    exact ⟨v, h1, h2, h3⟩⟩
theorem d_mut0 (pa : PlainAttrs "list") (slot : Slot "list" name id) (hty : typeOf (.builtin id) = pure (.type "method_descriptor")) (hm : MtR X id r) (mo : MO X.K r op) (ho : PE X o (tVar i))
    (hbase : attributeBase o name X.env (eval o X.env) = eval o X.env := by rfl) (hline : (apos.endLine == cpos.line) = true := by rfl) : DE X T W (.Call (.Attribute o name apos) [] [] cpos) (mutS i op []) :=
  ⟨(pe_bm0 pa slot hty hm ho hbase hline).mono fun σ H Q h => by
    obtain ⟨g, env, ts, len, R, h⟩ := h
    obtain ⟨x0, hs, h⟩ := Rs.Wp.of (Rs.Wp.bind h)
    obtain ⟨v, f', hv, _⟩ := Rel.slot len.1 R (listAt_eq hs)
    have h : ((Rs.of (listAt env i) env).bind fun xs e2 => (Rs.of (op xs []) e2).bind fun p e2 => .ok p.1 (e2.set i (.o p.2))).Wp (fun r env' => ∀ v H', Ln g env' σ → DL.Rel X.K T g ((r, some v) :: (pr env' σ ++ ts)) H' → Q v H') (exW X.K T g W) := h
    obtain ⟨xs, hx, h⟩ := Rs.Wp.of (Rs.Wp.bind h)
    obtain ⟨p, hp, h⟩ := Rs.Wp.of (Rs.Wp.bind h)
    obtain ⟨a2, us, e4, e5, hl3, ⟨fx, hxr⟩, k⟩ := Rel.mutSlot (ys := []) len R (gt_some (listAt_eq hx)).1
    rw [hv] at e4
    cases e4
    refine ⟨.ref a2, hv, .inl ⟨rfl, us, SqL.of e5⟩, mo H a2 us [] xs [] p.2 p.1 Q fx [] e5 hxr ⟨rfl, rfl⟩ hp fun v vs' rest rs hl4 hrs pm => ?_⟩
    have R3 := k p.2 vs' rs rest hl4 pm
    refine h v _ len.set ?_
    rcases hrs with e6 | ⟨e6, d, e7, hd⟩
    · subst e6
      exact R3
    · subst e6
      rw [e7]
      exact R3.pushD (hd _)⟩
end
/-- append -/
def appO : List Sl → List Sl → Option (Sl × List Sl)
  | xs, [y] => if xs.length < sizeLine then some (.v .non, xs ++ [y]) else none
  | _, _ => none
theorem mo_append {K : Frg} : MO K rAppend appO := by
  intro H a vs ws xs ys xs' q Q fx fy ha hx hy e k
  unfold appO at e
  split at e
  · rename_i y
    split at e
    · cases e
      obtain ⟨w, r, f1, f2, e1, hw, ⟨e2, _⟩, _⟩ := hy
      subst e2 e1
      have hl := Rps.length xs vs fx hx
      refine ⟨a, vs, w, rfl, rfl, ha, by rw [← hl]; assumption, ?_⟩
      refine k .non (vs ++ [w]) [] [] (by simp [hl]) (.inr ⟨rfl, .non, rfl, fun _ => rfl⟩) ?_
      rw [zip_append_one hl, List.append_nil, List.append_nil]
      exact .refl _
    · cases e
  · cases e
theorem d_append {X : Cx} {T : List Addr} {W : XK} {o e : Expr} {i : Nat} {as : List Opd} {apos cpos : Pos} (ho : PE X o (tVar i)) (da : DA X T W [e] as) (hbase : attributeBase o "append" X.env (eval o X.env) = eval o X.env := by rfl)
    (hfew : ((backTo cpos (starEach [e] X.env)).all (fun x => !x.1) && (backToKw cpos (keywordEach [] X.env)).all (fun x => x.1.isSome)
      && decide ([e].length + ([] : List Keyword).length + (if ([] : List Keyword).isEmpty then 0 else 1) < 30)) = true := by rfl)
    (hline : (apos.endLine == cpos.line) = true := by rfl) (hs : starEach [e] X.env = (false, eval e X.env) :: starEach [] X.env := by rfl) (hplain : (backTo cpos (starEach [] X.env)).any (·.1) = false := by rfl) : DE X T W (.Call (.Attribute o "append" apos) [e] [] cpos) (mutS i appO as) :=
  d_mut PySem.F.plainAttrs_list PySem.F.slot_list_append PySem.F.type_list_append mt_append mo_append ho da hbase hfew hline hs hplain
/-- pop(k) -/
noncomputable def popO : List Sl → List Sl → Option (Sl × List Sl)
  | xs, [.v (.int i)] => if rngB i = true then (seqIndex? i xs.length).bind fun k => (xs[k]?).map fun y => (y, xs.eraseIdx k) else none
  | _, _ => none
theorem erase_perm {α : Type} : ∀ (l : List α) (k : Nat) (y : α), l[k]? = some y → l.Perm (l.eraseIdx k ++ [y])
  | [], k, y, h => by simp at h
  | x :: l, 0, y, h => by
    simp at h
    subst h
    exact List.perm_append_comm (l₁ := [x])
  | x :: l, k + 1, y, h => (erase_perm l k y (by simpa using h)).cons x
theorem zip_erase : ∀ (xs : List Sl) (ws : List (Option V)) (k : Nat), xs.length = ws.length → (xs.eraseIdx k).zip (ws.eraseIdx k) = (xs.zip ws).eraseIdx k
  | [], [], k, _ => rfl
  | [], _ :: _, _, h => by cases h
  | _ :: _, [], _, h => by cases h
  | x :: xs, w :: ws, 0, h => rfl
  | x :: xs, w :: ws, k + 1, h => by
    show (x, w) :: (xs.eraseIdx k).zip (ws.eraseIdx k) = (x, w) :: (xs.zip ws).eraseIdx k
    rw [zip_erase xs ws k (by simpa using h)]
theorem map_erase {α β : Type} (f : α → β) : ∀ (l : List α) (k : Nat), (l.eraseIdx k).map f = (l.map f).eraseIdx k
  | [], k => by simp
  | x :: l, 0 => rfl
  | x :: l, k + 1 => by
    show f x :: (l.eraseIdx k).map f = f x :: (l.map f).eraseIdx k
    rw [map_erase f l k]
theorem rps_get {K : Frg} {H : Hp} : ∀ {xs : List Sl} {vs : List V} {fq : List Addr} {m : Nat} {x : Sl}, Rps K H xs vs fq → xs[m]? = some x → ∃ v f, vs[m]? = some v ∧ Rp K H x (some v) f
  | [], _, _, m, x, _, h => by simp at h
  | y :: xs, _, _, 0, x, ⟨v, r, f1, f2, e, hv, t, _⟩, h => by
    simp at h
    subst h e
    exact ⟨v, f1, rfl, hv⟩
  | y :: xs, _, _, m + 1, x, ⟨v, r, f1, f2, e, hv, t, _⟩, h => by
    subst e
    obtain ⟨w, f, h1, h2⟩ := rps_get (m := m) t (by simpa using h)
    exact ⟨w, f, by simpa using h1, h2⟩
theorem mo_popAt {K : Frg} : MO K rPopAt popO := by
  intro H a vs ws xs ys xs' q Q fx fy ha hx hy e k
  unfold popO at e
  split at e
  · rename_i i
    split at e
    · rename_i hb
      obtain ⟨n, h1, h2⟩ := Option.bind_eq_some_iff.mp e
      obtain ⟨y, h3, h4⟩ := Option.map_eq_some_iff.mp h2
      cases h4
      obtain ⟨w, r, f1, f2, e1, hw, ⟨e2, _⟩, _⟩ := hy
      subst e2 e1
      have hl := Rps.length xs vs fx hx
      obtain ⟨v, f, h5, h6⟩ := rps_get hx h3
      refine ⟨a, vs, i, n, v, rfl, by rw [int_rd hw], ha, by have := rngB_of hb; omega, by have := rngB_of hb; omega, by rw [← hl]; exact h1, h5, ?_⟩
      refine k v (vs.eraseIdx n) [(.v (.int i), some w)] [(q, some v)] (by rw [List.length_eraseIdx, List.length_eraseIdx, hl]) (.inl rfl) ?_
      rw [map_erase, zip_erase _ _ _ (by rw [List.length_map]; exact hl)]
      refine List.Perm.append_right _ (erase_perm _ n (q, some v) ?_)
      rw [List.getElem?_zip_eq_some]
      exact ⟨h3, by rw [List.getElem?_map, h5]; rfl⟩
    · cases e
  · cases e
theorem d_pop {X : Cx} {T : List Addr} {W : XK} {o e : Expr} {i : Nat} {as : List Opd} {apos cpos : Pos} (ho : PE X o (tVar i)) (da : DA X T W [e] as) (hbase : attributeBase o "pop" X.env (eval o X.env) = eval o X.env := by rfl)
    (hfew : ((backTo cpos (starEach [e] X.env)).all (fun x => !x.1) && (backToKw cpos (keywordEach [] X.env)).all (fun x => x.1.isSome)
      && decide ([e].length + ([] : List Keyword).length + (if ([] : List Keyword).isEmpty then 0 else 1) < 30)) = true := by rfl)
    (hline : (apos.endLine == cpos.line) = true := by rfl) (hs : starEach [e] X.env = (false, eval e X.env) :: starEach [] X.env := by rfl) (hplain : (backTo cpos (starEach [] X.env)).any (·.1) = false := by rfl) : DE X T W (.Call (.Attribute o "pop" apos) [e] [] cpos) (mutS i popO as) :=
  d_mut PySem.F.plainAttrs_list PySem.F.slot_list_pop PySem.F.type_list_pop mt_popAt mo_popAt ho da hbase hfew hline hs hplain

/-! ### a, b = x, y with plain names -/
def par2 (i j : Nat) (as : List Opd) : Sv := fun env => (evA as env).bind fun rs e1 => (movA as rs e1).bind fun ys e2 => match ys with
  | [a, b] => .ok .nx ((e2.set i a).set j b)
  | _ => .bad
def par3 (i j l : Nat) (as : List Opd) : Sv := fun env => (evA as env).bind fun rs e1 => (movA as rs e1).bind fun ys e2 => match ys with
  | [a, b, c] => .ok .nx (((e2.set i a).set j b).set l c)
  | _ => .bad
theorem ds_par2 {X : Cx} {T : List Addr} {W : XK} {P : List Nat} {i j : Nat} {x y : Str} {a b : Expr} {as : List Opd} {px py pt pos : Pos} {kt k2 pt2} (hc : X.calm = true) (hN : X.N.Nodup) (hi : X.N[i]? = some x) (hj : X.N[j]? = some y) (hij : i ≠ j)
    (hx : X.env.scope.names.lookup x = some .local) (hy : X.env.scope.names.lookup y = some .local) (da : DA X T W [a, b] as) (hp : P.contains i = false := by rfl) (hp2 : P.contains j = false := by rfl)
    (hw : swappedStores [.Tuple [.Name x px, .Name y py] kt pt] (.Tuple [a, b] k2 pt2) X.env = pure (some [x, y]) := by rfl)
    (hs : swapsWithSole [.Tuple [.Name x px, .Name y py] kt pt] (.Tuple [a, b] k2 pt2) pos.line X.env = pure false := by rfl) :
    DS X T W P (.Assign [.Tuple [.Name x px, .Name y py] kt pt] (.Tuple [a, b] k2 pt2) pos) (par2 i j as) :=
  ⟨(PS.mono (ps_par hc hN hi hj hij hx hy (PA.gh da.pa) hw hs) fun D σ H q => by
    obtain ⟨g, pv, env, ts, len, po, R, q⟩ := q
    refine nest_of as env ts H _ len R ((Rs.Wp.bind q).imp (fun rs e1 _ q ws H1 len1 nm R1 => ?_) fun _ z => z)
    refine (mov_of as rs ws e1 H1 _ nm len1 R1 (Rs.Wp.bind q)).imp fun H2 ⟨ys, e2, h, len2, hl2, R2⟩ => ?_
    match ys, ws, hl2, h, R2 with
    | [s1, s2], [w1, w2], _, h, R2 =>
      refine ⟨w1, w2, rfl, ?_⟩
      have R3 : DL.Rel X.K T g ((s1, some w1) :: (pr e2 σ ++ ((s2, some w2) :: ts))) H2 := R2.perm (List.Perm.cons _ List.perm_middle.symm)
      have R4 := Rel.store (i := i) len2 R3
      have R5 := Rel.store (i := j) len2.set2 (R4.perm List.perm_middle)
      exact h _ H2 len2.set2.set2 (ports_set (ports_set po hp) hp2) R5
    | [], _, _, h, _ => exact h.elim
    | [_], _, _, h, _ => exact h.elim
    | _ :: _ :: _ :: _, _, _, h, _ => exact h.elim)⟩
theorem ds_par3 {X : Cx} {T : List Addr} {W : XK} {P : List Nat} {i j l : Nat} {x y z : Str} {a b c : Expr} {as : List Opd} {px py pz pt pos : Pos} {kt k2 pt2} (hc : X.calm = true) (hN : X.N.Nodup) (hi : X.N[i]? = some x) (hj : X.N[j]? = some y) (hl : X.N[l]? = some z) (hij : i ≠ j) (hil : i ≠ l) (hjl : j ≠ l)
    (hx : X.env.scope.names.lookup x = some .local) (hy : X.env.scope.names.lookup y = some .local) (hz : X.env.scope.names.lookup z = some .local) (da : DA X T W [a, b, c] as) (hp : P.contains i = false := by rfl) (hp2 : P.contains j = false := by rfl) (hp3 : P.contains l = false := by rfl)
    (hw : swappedStores [.Tuple [.Name x px, .Name y py, .Name z pz] kt pt] (.Tuple [a, b, c] k2 pt2) X.env = pure (some [x, y, z]) := by rfl)
    (hs : swapsWithSole [.Tuple [.Name x px, .Name y py, .Name z pz] kt pt] (.Tuple [a, b, c] k2 pt2) pos.line X.env = pure false := by rfl) :
    DS X T W P (.Assign [.Tuple [.Name x px, .Name y py, .Name z pz] kt pt] (.Tuple [a, b, c] k2 pt2) pos) (par3 i j l as) :=
  ⟨(PS.mono (ps_par3 hc hN hi hj hl hij hil hjl hx hy hz (PA.gh da.pa) hw hs) fun D σ H q => by
    obtain ⟨g, pv, env, ts, len, po, R, q⟩ := q
    refine nest_of as env ts H _ len R ((Rs.Wp.bind q).imp (fun rs e1 _ q ws H1 len1 nm R1 => ?_) fun _ z => z)
    refine (mov_of as rs ws e1 H1 _ nm len1 R1 (Rs.Wp.bind q)).imp fun H2 ⟨ys, e2, h, len2, hl2, R2⟩ => ?_
    match ys, ws, hl2, h, R2 with
    | [s1, s2, s3], [w1, w2, w3], _, h, R2 =>
      refine ⟨w1, w2, w3, rfl, ?_⟩
      have R2 : DL.Rel X.K T g ((s1, some w1) :: ([(s2, some w2), (s3, some w3)] ++ (pr e2 σ ++ ts))) H2 := R2
      have R3 : DL.Rel X.K T g ((s1, some w1) :: (pr e2 σ ++ ((s2, some w2) :: (s3, some w3) :: ts))) H2 := R2.perm (List.Perm.cons _ (List.perm_append_comm_assoc _ _ _))
      have R4 := Rel.store (i := i) len2 R3
      have R5 := Rel.store (i := j) len2.set2 (R4.perm List.perm_middle)
      have R6 := Rel.store (i := l) len2.set2.set2 (R5.perm List.perm_middle)
      exact h _ H2 len2.set2.set2.set2 (ports_set (ports_set (ports_set po hp) hp2) hp3) R6
    | [], _, _, h, _ => exact h.elim
    | [_], _, _, h, _ => exact h.elim
    | [_, _], _, _, h, _ => exact h.elim
    | _ :: _ :: _ :: _ :: _, _, _, h, _ => exact h.elim)⟩
end DL


set_option maxHeartbeats 1000000
namespace DL
open PySem PySem.Spec PyProof.Rows L2

/-! ### ranges -/
def rangeD (lo : Int) (n : Nat) : List D := (List.range n).map fun (i : Nat) => D.int (lo + (i : Int))
noncomputable def rng1 (f : Ev) : Iv := fun env => (f env).bind fun r e => (Rs.of (intOf r) e).bind fun j e => if rngB j = true then .ok (rangeD 0 j.toNat) e else .bad
theorem walk_rng {K : Frg} {lo : Int} {n : Nat} : WalkD K (Itr lo n) [] (rangeD lo n) := by
  refine ⟨fun x h => (by cases h), ?_⟩
  have e : (rangeD lo n).length = n := by simp [rangeD]
  rw [e]
  exact walk_range.mono (fun _ _ => trivial) fun i H x H' hi _ ⟨h1, h2⟩ => ⟨.int (lo + i), by simp [rangeD, hi], fun a u h => by rw [h1]; exact h, by rw [h2]; rfl⟩
theorem di_rng1 {X : Cx} {T : List Addr} {W : XK} {tg a : Expr} {f : Ev} {p pos : Pos} (hg : Gl X "range") (hm : X.mg "range" = none) (d : DE X T W a f) (hs : starEach [a] X.env = (false, eval a X.env) :: starEach [] X.env := by rfl) (hs2 : starEach [a] X.env = [(false, eval a X.env)] := by rfl) :
    DI X T W tg (.Call (.Name "range" p) [a] [] pos) (rng1 f) := ⟨_, pi_range1 hg hm (pa_cons d.pe pa_nil hs) hs2, fun σ H R h => by
  obtain ⟨g, env, ts, len, Rl, h⟩ := h
  refine ⟨g, env, ts, len, Rl, (Rs.Wp.bind h).imp (fun r e _ h v H' l R' => ?_) fun _ z => z⟩
  obtain ⟨j, hj, h⟩ := Rs.Wp.of (Rs.Wp.bind h)
  rw [intOf_eq hj] at R'
  have hv : v = .int j := R'.getD List.mem_cons_self
  split at h
  · rename_i hb
    exact ⟨j, by rw [hv], (rngB_of hb).1, (rngB_of hb).2, h _ [] H' l R'.tail walk_rng⟩
  · exact h.elim⟩
noncomputable def rng2 (A B : Opd) : Iv := fun env => (evA [A, B] env).bind fun rs e => match cont [A, B] rs e with
  | [.v (.int i), .v (.int j)] => if rngB i = true ∧ rngB j = true then .ok (rangeD i (j - i).toNat) e else .bad
  | _ => .bad
theorem di_rng2 {X : Cx} {T : List Addr} {W : XK} {tg a b : Expr} {A B : Opd} {p pos : Pos} (hg : Gl X "range") (hm : X.mg "range" = none) (da : DA X T W [a, b] [A, B]) (hs : starEach [a, b] X.env = [(false, eval a X.env), (false, eval b X.env)] := by rfl) (hs2 : starEach [b] X.env = [(false, eval b X.env)] := by rfl) :
    DI X T W tg (.Call (.Name "range" p) [a, b] [] pos) (rng2 A B) := ⟨_, pi_range2 hg hm da.pa hs hs2, fun σ H R h => by
  obtain ⟨g, env, ts, len, Rl, h⟩ := h
  refine nest_of [A, B] env ts H _ len Rl ((Rs.Wp.bind h).imp (fun rs e _ h vs H' l nm R' => ?_) fun _ z => z)
  have sn := seen_of l.1 [A, B] rs vs nm R'
  split at h
  · rename_i i j hc
    rw [hc] at sn
    obtain ⟨v, w, f, g2, rfl, hv, hw⟩ := seen2 sn
    split at h
    · rename_i hb
      exact ⟨i, j, by rw [int_rd hv, int_rd hw], ⟨(rngB_of hb.1).1, (rngB_of hb.1).2, (rngB_of hb.2).1, (rngB_of hb.2).2⟩, h _ [] H' l R'.drop walk_rng⟩
    · exact h.elim
  · exact h.elim⟩

/-! ### lists and tuples -/
theorem pi_or {X : Cx} {tg e : Expr} {w1 w2 : TI} (h1 : PI X tg e w1) (h2 : PI X tg e w2) : PI X tg e (fun σ H R => w1 σ H R ∨ w2 σ H R) := ⟨fun pins s σ H R I h => by
  rcases h with h | h
  · exact h1.run pins s σ H R I h
  · exact h2.run pins s σ H R I h⟩
def itemsD : D → Option (List D)
  | .tg _ xs => some xs
  | .lst xs => some xs
  | _ => none
def seqI (f : Ev) : Iv := fun env => (f env).bind fun r e => (Rs.of ((toD r).bind itemsD) e).bind fun ds e => .ok ds e
theorem rts_one {K : Frg} {H : Hp} {x : Sl × Option V} : Rts K H [x] [] → Rp K H x.1 x.2 [] := fun ⟨f1, f2, h, t, e⟩ => by
  have : f1 = [] := by
    obtain rfl : f2 = [] := t
    rw [List.append_nil] at e
    exact e.symm
  rw [this] at h
  exact h
theorem walk_l {K : Frg} {a : Addr} {ds : List D} : WalkD K (Itl K a) [(.v (.lst ds), some (.ref a))] ds := by
  have get : ∀ H, Rts K H [(.v (.lst ds), some (.ref a))] [] → ∃ vs, SqL K H a vs ∧ RepDs K H ds vs := fun H h => by
    obtain ⟨_, v, ev, b, vs, eb, fz, hr⟩ := rts_one h
    cases ev
    cases eb
    exact ⟨vs, fz.sq, hr⟩
  refine ⟨fun x h => by rw [List.mem_singleton.mp h]; exact ⟨_, rfl⟩, ⟨fun i H hi h => ?_, fun H h => ?_, fun i H x H' hi h y => ?_⟩⟩
  · obtain ⟨vs, h1, h2⟩ := get H h
    have := RepDs.length ds vs h2
    exact ⟨vs, vs[i]'(by omega), h1, List.getElem?_eq_getElem _⟩
  · obtain ⟨vs, h1, h2⟩ := get H h
    exact ⟨vs, h1, by rw [RepDs.length ds vs h2]; exact Nat.le_refl _⟩
  · obtain ⟨vs, h1, h2⟩ := get H h
    obtain ⟨e, y⟩ := y
    subst e
    have hd : ds[i]? = some ds[i] := List.getElem?_eq_getElem hi
    obtain ⟨v, h3, h4⟩ := h2.get hd
    have := y vs h1
    rw [h3] at this
    cases this
    exact ⟨_, hd, fun _ _ h => h, h4⟩
theorem walk_t {K : Frg} {a : Addr} {k : TK} {ds : List D} : WalkD K (Itt K a) [(.v (.tg k ds), some (.ref a))] ds := by
  have get : ∀ H, Rts K H [(.v (.tg k ds), some (.ref a))] [] → ∃ vs, SqT K H a vs ∧ RepDs K H ds vs := fun H h => by
    obtain ⟨_, v, ev, b, vs, eb, fz, hr⟩ := rts_one h
    cases ev
    cases eb
    exact ⟨vs, fz.sq, hr⟩
  refine ⟨fun x h => by rw [List.mem_singleton.mp h]; exact ⟨_, rfl⟩, ⟨fun i H hi h => ?_, fun H h => ?_, fun i H x H' hi h y => ?_⟩⟩
  · obtain ⟨vs, h1, h2⟩ := get H h
    have := RepDs.length ds vs h2
    exact ⟨vs, vs[i]'(by omega), h1, List.getElem?_eq_getElem _⟩
  · obtain ⟨vs, h1, h2⟩ := get H h
    exact ⟨vs, h1, by rw [RepDs.length ds vs h2]; exact Nat.le_refl _⟩
  · obtain ⟨vs, h1, h2⟩ := get H h
    obtain ⟨e, y⟩ := y
    subst e
    have hd : ds[i]? = some ds[i] := List.getElem?_eq_getElem hi
    obtain ⟨v, h3, h4⟩ := h2.get hd
    have := y vs h1
    rw [h3] at this
    cases this
    exact ⟨_, hd, fun _ _ h => h, h4⟩
theorem items_cases {d : D} {ds : List D} (h : itemsD d = some ds) : (∃ k, d = .tg k ds) ∨ d = .lst ds := by
  unfold itemsD at h
  split at h
  · cases h; exact .inl ⟨_, rfl⟩
  · cases h; exact .inr rfl
  · cases h
theorem di_seq {X : Cx} {T : List Addr} {W : XK} {tg e : Expr} {f : Ev} (d : DE X T W e f) : DI X T W tg e (seqI f) := ⟨_, pi_or (pi_list (PE.gh d.pe)) (pi_tup (PE.gh d.pe)), fun σ H R h => by
  obtain ⟨g, env, ts, len, Rl, h⟩ := h
  have h := Rs.Wp.bind h
  cases q : f env with
  | bad => rw [q] at h; exact h.elim
  | ex x =>
    rw [q] at h
    exact .inl ⟨g, env, ts, len, Rl, by rw [q]; exact h⟩
  | ok r e =>
    rw [q] at h
    obtain ⟨ds, hd, h⟩ := Rs.Wp.of (Rs.Wp.bind h)
    obtain ⟨d, h1, h2⟩ := Option.bind_eq_some_iff.mp hd
    rcases items_cases h2 with ⟨tk, e1⟩ | e1
    · refine .inr ⟨g, env, ts, len, Rl, ?_⟩
      rw [q]
      intro v H' l R'
      refine (R'.fz h1).imp fun H2 R2 => ?_
      subst e1
      obtain ⟨a, vs, rfl, ht, hr⟩ := R2.getD List.mem_cons_self
      exact ⟨a, rfl, ⟨vs, ht.sq⟩, h _ [_] H2 l R2 walk_t⟩
    · refine .inl ⟨g, env, ts, len, Rl, ?_⟩
      rw [q]
      intro v H' l R'
      refine (R'.fz h1).imp fun H2 R2 => ?_
      subst e1
      obtain ⟨a, vs, rfl, ht, hr⟩ := R2.getD List.mem_cons_self
      exact ⟨a, rfl, ⟨vs, ht.sq⟩, h _ [_] H2 l R2 walk_l⟩⟩

/-! ### a list or a tuple, by a flag -/
def SqB : Bool → Frg → Hp → Addr → List V → Prop
  | false => SqL
  | true => SqT
def IsB (b : Bool) (h : Heap) (a : Addr) (its : Array Value) : Prop := match b with
  | false => h.IsList a its
  | true => h.IsTuple a its
def ItB (b : Bool) (h : Heap) (it a : Addr) (i : Nat) : Prop := match b with
  | false => h.IsListIter it a i
  | true => h.IsTupleIter it a i
def oB (b : Bool) (a : Addr) : Obj := match b with
  | false => { cls := .type "list_iterator", data := .fields #[.ref a, .int 0 0] }
  | true => { cls := .type "tuple_iterator", data := .fields #[.ref a, .int 0 0] }
theorem oB_it {b : Bool} {h : Heap} {it a : Addr} (e : h.get? it = some (oB b a)) : ItB b h it a 0 := by
  cases b
  · exact ⟨_, e, rfl, rfl⟩
  · exact ⟨_, e, rfl, rfl⟩
theorem itB_obj {b : Bool} {h : Heap} {it a : Addr} {i : Nat} (x : ItB b h it a i) : ∃ o, h.get? it = some o ∧ ∀ v, o.data ≠ .cell v := by
  cases b
  · obtain ⟨o, e, _, d⟩ := x
    exact ⟨o, e, fun v z => by rw [d] at z; cases z⟩
  · obtain ⟨o, e, _, d⟩ := x
    exact ⟨o, e, fun v z => by rw [d] at z; cases z⟩
theorem itB_at {b : Bool} {h h' : Heap} {it a : Addr} {i : Nat} (x : ItB b h it a i) (k : ∀ o, h.get? it = some o → h'.get? it = some o) : ItB b h' it a i := by
  cases b
  · exact Heap.IsListIter.at x k
  · exact Heap.IsTupleIter.at x k
theorem itB_ne {b : Bool} {h : Heap} {it a : Addr} {i : Nat} {its : Array Value} (x : ItB b h it a i) (y : IsB b h a its) : a ≠ it := fun z => by
  subst z
  cases b
  · obtain ⟨o, e, c, _⟩ := x
    obtain ⟨o', e', c', _⟩ := y
    rw [e] at e'; cases e'; rw [c] at c'; injection c' with z; exact absurd z (by decide)
  · obtain ⟨o, e, c, _⟩ := x
    obtain ⟨o', e', c', _⟩ := y
    rw [e] at e'; cases e'; rw [c] at c'; injection c' with z; exact absurd z (by decide)
theorem isB_cls {b : Bool} {h : Heap} {a : Addr} {its : Array Value} (y : IsB b h a its) : ∃ o, h.get? a = some o ∧ o.cls = .type (if b = true then "tuple" else "list") := by
  cases b
  · obtain ⟨o', e', c', _⟩ := y
    exact ⟨o', e', c'⟩
  · obtain ⟨o', e', c', _⟩ := y
    exact ⟨o', e', c'⟩
theorem drawsB {prog : Program} {w : World} {A : Around} {b : Bool} (hh : A.handled = none) (it l : Addr) (hne : l ≠ it) (items : Array Value) : Draws prog w A it [it, l] items.size (fun i v => items[i]? = some v) (fun i h => ItB b h it l i ∧ IsB b h l items) := by
  cases b
  · exact Draws.list hh it l hne items
  · exact Draws.tuple hh it l hne items
theorem beginsB {b : Bool} (l : Addr) (items : Array Value) : Begins (.ref l) (oB b l) fun h => IsB b h l items := by
  cases b
  · exact begins_list l items
  · exact begins_tuple l items
section
variable {X : Cx} {pins : List (Addr × Obj)} {σ : L2.St} {H : Hp} {s : Shared} {a : Addr} {xs ys : List V} {b : Bool}
theorem inv_sqB (I : Inv X pins σ H s) (h : SqB b X.K H a xs) : ∃ its : List Value, Vals xs its ∧ IsB b s.heap a its.toArray ∧ xs.length ≤ sizeLine := by
  cases b
  · obtain ⟨its, r, p, z⟩ := I.list h
    exact ⟨its, r, p.isList, z⟩
  · obtain ⟨its, r, p, z⟩ := I.tuple h
    exact ⟨its, r, p, z⟩
theorem inv_sqB_inj (I : Inv X pins σ H s) (h : SqB b X.K H a xs) (h' : SqB b X.K H a ys) : xs = ys := by
  cases b
  · exact I.list_inj h h'
  · exact I.tuple_inj h h'
end
theorem meets_enum1 {v : Value} {o : Obj} {H : Heap → Prop} (B : Begins v o H) :
    Meets (Builtin.«enumerate.__new__» ⟨[.type "enumerate", v], []⟩) (fun _ R s => H s.heap ∧
      R (.ok (.ret (.ref (s.heap.push o).objs.size))) { s with heap := (s.heap.push o).push { cls := .type "enumerate", data := .fields #[.none, .bool false, .ref s.heap.objs.size, rawInt 0, .none, .none] } }) :=
  .of_wp fun prog w A R s h => by
    obtain ⟨hp, gs, dr, tk, os⟩ := s
    obtain ⟨h1, h⟩ := h
    have hsub := sub_enumerate
    have it1 : ∀ {A' : Around} {E : Value → Shared → Prop} {Q : Value → Shared → Prop}, Q (.ref hp.objs.size) ⟨hp.push o, gs, dr, tk, os⟩ → wpAny (model prog w) A' (pyIter v) Q E ⟨hp, gs, dr, tk, os⟩ :=
      fun q => B.iter prog w _ _ ⟨hp, gs, dr, tk, os⟩ _ h1 q
    wp_walk using it1
    refine wpAny_stack_any fun st => wpAny_pure ?_
    split
    · rename_i c _ _ _ _ _
      cases (c == Value.type "enumerate")
      · wp_walk using it1
        exact ⟨_, rfl, h⟩
      · wp_walk using it1
        exact ⟨_, rfl, h⟩
    · wp_walk using it1
      exact ⟨_, rfl, h⟩
theorem call_enum1 {prog : Program} {w : World} {A : Around} {E : Value → Shared → Prop} {s : Shared} {v : Value} {o : Obj} {H : Heap → Prop} {Q : Value → Shared → Prop} (B : Begins v o H) (h1 : H s.heap)
    (h : ∀ h', IsEnum h' (s.heap.objs.size + 1) s.heap.objs.size 0 .none → h'.get? s.heap.objs.size = some o → h'.objs.size = s.heap.objs.size + 2 → (∀ b o, s.heap.get? b = some o → h'.get? b = some o) → Q (.ref (s.heap.objs.size + 1)) { s with heap := h' }) :
    wpAny (model prog w) A (call (.type "enumerate") [v]) Q E s := by
  refine callType_new F.called_enumerate (by decide) (F.typeCall_enumerate_1 _) (F.newCall_enumerate_1 _) (fun obj => F.args_object_init_2 obj _) F.entry_enumerate_new (meets_enum1 B) ⟨h1, ?_⟩
  have hz : (s.heap.push o).objs.size = s.heap.objs.size + 1 := Heap.size_push ..
  have he := Heap.get?_push_size (s.heap.push o) (o := { cls := .type "enumerate", data := .fields #[.none, .bool false, .ref s.heap.objs.size, rawInt 0, .none, .none] }) rfl
  show _ ∧ _
  rw [hz] at he ⊢
  exact ⟨⟨_, he, rfl⟩, h _ he (Heap.get?_push_of_some _ (Heap.get?_push_size _ B.free)) (by rw [Heap.size_push, hz]) fun c u x => Heap.get?_push_of_some _ (Heap.get?_push_of_some _ x)⟩
/-- enumerate of the list or tuple at a: each item in a new pair -/
def IteB (b : Bool) (K : Frg) (a : Addr) : It :=
  ⟨fun i H => ∃ (xs : List V) (x : V), SqB b K H a xs ∧ xs[i]? = some x, fun i H v H' => ∃ T x, v = .ref T ∧ H T = none ∧ H' = upd H T (.tup [.int ((i : Nat) : Int), x]) ∧ ∀ xs, SqB b K H a xs → xs[i]? = some x, fun i H => ∃ xs : List V, SqB b K H a xs ∧ xs.length = i⟩
theorem turn_enumB {P : Program} {w : World} {K : Frg} {elts : List Expr} {kk : Nat} {tpos : Pos} {b : Bool} (a e it : Addr) :
    Turn P w K (.Tuple elts kk tpos) (IteB b K a) [e, it] e (fun i h => (∃ old, IsEnum h e it (0 + (i : Int)) old) ∧ ItB b h it a i ∧ e ≠ it) where
  mem := by simp
  obj := fun i h st c hc => by
    obtain ⟨⟨old, he⟩, hi, _⟩ := st
    rcases (show c = e ∨ c = it by simpa using hc) with z | z
    · rw [z]; exact ⟨_, he, fun v q => nomatch q⟩
    · rw [z]; exact itB_obj hi
  keep := fun i h h' st k => by
    obtain ⟨⟨old, he⟩, hi, hne⟩ := st
    exact ⟨⟨old, k e (by simp) _ he⟩, itB_at hi fun o q => k it (by simp) o q, hne⟩
  item := by
    intro X hP hw hK hc i pins s σ H E I hf st hg
    subst hP hw hK
    obtain ⟨⟨old, he⟩, hit, hne⟩ := st
    obtain ⟨xs, x, hq, hx⟩ := hg
    obtain ⟨its, rv, p, hz⟩ := inv_sqB I hq
    obtain ⟨u, hu, ru⟩ := rv.get hx
    have hli := itB_ne hit p
    have hle : a ≠ e := fun z => by
      obtain ⟨o1, e1, c1⟩ := isB_cls p
      rw [z, he] at e1
      cases e1
      cases b <;> (injection c1 with z; exact absurd z (by decide))
    have D := drawsB (prog := X.prog) (w := X.w) (A := X.A.in1) (b := b) (I.ok.hd hc) it a hli its.toArray
    have W := WalksT.enumFrom 0 D e hne (by simp only [List.mem_cons, List.not_mem_nil, or_false]; exact fun z => z.elim hne fun y => hle y.symm) (by simp)
    have hil : i < its.toArray.size := by
      have := (List.getElem?_eq_some_iff.mp hu).1
      simpa using this
    refine W.item i s _ _ hil ⟨⟨old, he⟩, hit, p⟩ fun T vals h' tk hPt hT hTup hMid hk => ?_
    obtain ⟨t, y, hy, hvals⟩ := hPt
    have hy2 : y = u := by
      have : its[i]? = some y := by simpa using hy
      rw [hu] at this
      exact (Option.some.inj this).symm
    subst hy2 hvals
    refine ⟨_, rfl, W.go elts kk tpos i T _ _ _ hMid fun h'' hst hk2 => ?_⟩
    obtain ⟨⟨old2, he2⟩, hit2, p2⟩ := hst
    have hap := W.apart i T h' hMid
    have hT2 : h''.IsTuple T #[.int (0 + (i : Int)) t, y] := by
      obtain ⟨o, h1, h2⟩ := hTup
      exact ⟨o, hk2 T o hap h1, h2⟩
    have new : ObjOk X.prog X.w (upd H T (.tup [.int ((i : Nat) : Int), x])) h'' T (.tup [.int ((i : Nat) : Int), x]) :=
      ⟨by show 2 ≤ sizeLine; decide, [.int (0 + (i : Int)) t, y], .cons ⟨t, by rw [Int.zero_add]⟩ (.cons ru .nil), hT2⟩
    have I1 : Inv X pins σ (upd H T (.tup [.int ((i : Nat) : Int), x])) { s with heap := h'', toks := tk } :=
      I.turnedNew (ch := [e, it]) (fun c ob hb q => hk2 c ob hb (hk c ob hb q)) hf hT new
    refine ⟨.ref T, _, I1, rfl, ⟨T, x, rfl, I.hok.fresh hT, rfl, fun ys hy3 => by rw [inv_sqB_inj I hy3 hq]; exact hx⟩, ⟨⟨old2, he2⟩, hit2, hne⟩, fun c hb => ?_⟩
    have hc2 : c < s.heap.objs.size := by
      rcases (show c = e ∨ c = it by simpa using hb) with z | z
      · rw [z]; exact Heap.lt_size he
      · rw [z]
        obtain ⟨o, q, _⟩ := itB_obj hit
        exact Heap.lt_size q
    rw [upd_ne (Nat.ne_of_lt (Nat.lt_of_lt_of_le hc2 hT))]
    exact (hf c hb).1
  done := by
    intro X hP hw hK hc i pins s σ H E I hf st hg
    subst hP hw hK
    obtain ⟨⟨old, he⟩, hit, hne⟩ := st
    obtain ⟨xs, hq, hx⟩ := hg
    obtain ⟨its, rv, p, hz⟩ := inv_sqB I hq
    have hli := itB_ne hit p
    have hle : a ≠ e := fun z => by
      obtain ⟨o1, e1, c1⟩ := isB_cls p
      rw [z, he] at e1
      cases e1
      cases b <;> (injection c1 with z; exact absurd z (by decide))
    have D := drawsB (prog := X.prog) (w := X.w) (A := X.A.in1) (b := b) (I.ok.hd hc) it a hli its.toArray
    have W := WalksT.enumFrom 0 D e hne (by simp only [List.mem_cons, List.not_mem_nil, or_false]; exact fun z => z.elim hne fun y => hle y.symm) (by simp)
    have hi : its.toArray.size = i := by rw [List.size_toArray, ← rv.length, hx]
    rw [hi] at W
    exact W.done s _ _ ⟨⟨old, he⟩, hit, p⟩ fun h' tk hk => ⟨rfl, I.turnedL (ch := [e, it]) hk hf⟩
  self := fun A i s Q E st h => by
    obtain ⟨⟨_, he⟩, _⟩ := st
    exact wpAny_pyIter_enum he h
def iEnumB (b : Bool) (K : Frg) (ta : TA) : TI := fun σ H R => ta σ H fun vs H1 => ∃ a xs, vs = [.ref a] ∧ SqB b K H1 a xs ∧ R (IteB b K a) H1
theorem pi_enumB {X : Cx} {b : Bool} {e : Expr} {ta : TA} {p pos tpos : Pos} {elts : List Expr} {kk : Nat} (hg : Gl X "enumerate") (hm : X.mg "enumerate" = none) (ha : PA X [e] ta) (hs : starEach [e] X.env = [(false, eval e X.env)] := by rfl) :
    PI X (.Tuple elts kk tpos) (.Call (.Name "enumerate" p) [e] [] pos) (iEnumB b X.K ta) := by
  refine ⟨fun pins s σ H R I h => ?_⟩
  refine Call_ (ld_blt I hg hm boot_enumerate (PyProof.Rows.callWith_type1 (thn (ha.run pos pins s σ H _ I h) fun us s1 ⟨vs, H1, I1, r1, q1⟩ => ?_) hs rfl))
  obtain ⟨a, xs, ex, hq, q⟩ := q1
  subst ex
  obtain ⟨u, rfl, ru⟩ := r1.one
  cases ru
  obtain ⟨its, rv, p', hz⟩ := inv_sqB I1 hq
  refine call_enum1 (beginsB (b := b) a its.toArray) p' fun h' he hit hsz hk => wpAny_pyIter_enum he ?_
  have I2 : Inv X pins σ H1 { s1 with heap := h' } := I1.kept (t' := s1.toks) hk
  refine ⟨s1.heap.objs.size + 1, [s1.heap.objs.size + 1, s1.heap.objs.size], _, _, H1, rfl, I2, turn_enumB a (s1.heap.objs.size + 1) s1.heap.objs.size, ⟨⟨.none, he⟩, oB_it hit, Nat.succ_ne_self _⟩, fun c hc => ?_, q⟩
  have hle : s1.heap.objs.size ≤ c := by
    rcases (show c = s1.heap.objs.size + 1 ∨ c = s1.heap.objs.size by simpa using hc) with z | z
    · rw [z]; exact Nat.le_add_right _ _
    · rw [z]; exact Nat.le_refl _
  exact I1.fpOk hle (I1.hok.fresh hle)
/-- the items with their places -/
def enumD (ds : List D) : List D := (ds.zipIdx).map fun p => .tup [.int ((p.2 : Nat) : Int), p.1]
theorem enumD_get {ds : List D} {i : Nat} {d : D} (h : ds[i]? = some d) : (enumD ds)[i]? = some (.tup [.int (i : Int), d]) := by
  unfold enumD
  rw [List.getElem?_map, List.getElem?_zipIdx, h]
  simp
theorem enumD_len (ds : List D) : (enumD ds).length = ds.length := by simp [enumD]
def holdB (k : TK) : Bool → List D → D
  | false, ds => .lst ds
  | true, ds => .tg k ds
theorem hold_sq {K : Frg} {b : Bool} {tk : TK} {a : Addr} {ds : List D} {H : Hp} {f : List Addr} (h : Rp K H (.v (holdB tk b ds)) (some (.ref a)) f) : ∃ vs, SqB b K H a vs ∧ RepDs K H ds vs := by
  cases b
  · obtain ⟨_, v, ev, c, vs, eb, fz, hr⟩ := h
    cases ev
    cases eb
    exact ⟨vs, fz.sq, hr⟩
  · obtain ⟨_, v, ev, c, vs, eb, fz, hr⟩ := h
    cases ev
    cases eb
    exact ⟨vs, fz.sq, hr⟩
theorem walk_e {K : Frg} {b : Bool} {tk : TK} {a : Addr} {ds : List D} : WalkD K (IteB b K a) [(.v (holdB tk b ds), some (.ref a))] (enumD ds) := by
  refine ⟨fun x h => by rw [List.mem_singleton.mp h]; exact ⟨_, rfl⟩, ?_⟩
  rw [enumD_len]
  refine ⟨fun i H hi h => ?_, fun H h => ?_, fun i H x H' hi h y => ?_⟩
  · obtain ⟨vs, h1, h2⟩ := hold_sq (rts_one h)
    have := RepDs.length ds vs h2
    exact ⟨vs, vs[i]'(by omega), h1, List.getElem?_eq_getElem _⟩
  · obtain ⟨vs, h1, h2⟩ := hold_sq (rts_one h)
    exact ⟨vs, h1, (RepDs.length ds vs h2).symm⟩
  · obtain ⟨vs, h1, h2⟩ := hold_sq (rts_one h)
    obtain ⟨T, z, rfl, hT, rfl, y⟩ := y
    have hd : ds[i]? = some ds[i] := List.getElem?_eq_getElem hi
    obtain ⟨v, h3, h4⟩ := h2.get hd
    have := y vs h1
    rw [h3] at this
    cases this
    exact ⟨_, enumD_get hd, ext_upd hT, T, _, rfl, SqT.of upd_same, _, _, rfl, rfl, z, [], rfl, RepD.stay (.ext (ext_upd hT)) _ z h4, rfl⟩
def enumI (f : Ev) : Iv := fun env => (f env).bind fun r e => (Rs.of ((toD r).bind itemsD) e).bind fun ds e => .ok (enumD ds) e
theorem di_enum {X : Cx} {T : List Addr} {W : XK} {e : Expr} {f : Ev} {p pos tpos : Pos} {elts : List Expr} {kk : Nat} (hg : Gl X "enumerate") (hm : X.mg "enumerate" = none) (d : DE X T W e f) (hs : starEach [e] X.env = (false, eval e X.env) :: starEach [] X.env := by rfl) (hs2 : starEach [e] X.env = [(false, eval e X.env)] := by rfl) :
    DI X T W (.Tuple elts kk tpos) (.Call (.Name "enumerate" p) [e] [] pos) (enumI f) := ⟨_, pi_or (pi_enumB (b := false) hg hm (pa_cons (PE.gh d.pe) pa_nil hs) hs2) (pi_enumB (b := true) hg hm (pa_cons (PE.gh d.pe) pa_nil hs) hs2), fun σ H R h => by
  obtain ⟨g, env, ts, len, Rl, h⟩ := h
  have h := Rs.Wp.bind h
  cases q : f env with
  | bad => rw [q] at h; exact h.elim
  | ex x =>
    rw [q] at h
    exact .inl ⟨g, env, ts, len, Rl, by rw [q]; exact h⟩
  | ok r e =>
    rw [q] at h
    obtain ⟨ds, hd, h⟩ := Rs.Wp.of (Rs.Wp.bind h)
    obtain ⟨d, h1, h2⟩ := Option.bind_eq_some_iff.mp hd
    rcases items_cases h2 with ⟨tk, e1⟩ | e1
    · refine .inr ⟨g, env, ts, len, Rl, ?_⟩
      rw [q]
      intro v H' l R'
      refine (R'.fz h1).imp fun H2 R2 => ?_
      subst e1
      obtain ⟨a, vs, rfl, ht, hr⟩ := R2.getD List.mem_cons_self
      exact ⟨a, vs, rfl, ht.sq, h _ [_] H2 l R2 (walk_e (b := true) (tk := tk))⟩
    · refine .inl ⟨g, env, ts, len, Rl, ?_⟩
      rw [q]
      intro v H' l R'
      refine (R'.fz h1).imp fun H2 R2 => ?_
      subst e1
      obtain ⟨a, vs, rfl, ht, hr⟩ := R2.getD List.mem_cons_self
      exact ⟨a, vs, rfl, ht.sq, h _ [_] H2 l R2 (walk_e (b := false) (tk := .w))⟩⟩
/-! ### zip of two, lists or tuples -/
def ItzB (b c : Bool) (K : Frg) (a1 a2 : Addr) : It :=
  ⟨fun i H => ∃ (xs ys : List V) (x y : V), SqB b K H a1 xs ∧ SqB c K H a2 ys ∧ xs[i]? = some x ∧ ys[i]? = some y,
    fun i H v H' => ∃ T x y, v = .ref T ∧ H T = none ∧ H' = upd H T (.tup [x, y]) ∧ (∀ xs, SqB b K H a1 xs → xs[i]? = some x) ∧ ∀ ys, SqB c K H a2 ys → ys[i]? = some y,
    fun i H => ∃ xs ys : List V, SqB b K H a1 xs ∧ SqB c K H a2 ys ∧ min xs.length ys.length = i⟩
theorem isB_ne {b : Bool} {h : Heap} {a z : Addr} {its : Array Value} {o : Obj} {n : String} (y : IsB b h a its) (e : h.get? z = some o) (c : o.cls = .type n) (hn : n ≠ "list" ∧ n ≠ "tuple") : z ≠ a := fun q => by
  subst q
  obtain ⟨o1, e1, c1⟩ := isB_cls y
  rw [e] at e1
  cases e1
  rw [c] at c1
  cases b <;> (injection c1 with q; first | exact hn.1 q | exact hn.2 q)
theorem turn_zipB {P : Program} {w : World} {K : Frg} {elts : List Expr} {kk : Nat} {tpos : Pos} {b c : Bool} (a1 a2 N : Addr) :
    Turn P w K (.Tuple elts kk tpos) (ItzB b c K a1 a2) [N + 4, N + 2, N + 3, N, N + 1] (N + 4) (fun i h => a1 < N ∧ a2 < N ∧ IsZip h (N + 4) (N + 2) (N + 3) .none ∧ IsTupOf2 h (N + 2) (.ref N) (.ref (N + 1)) ∧ (∃ x y, IsTupOf2 h (N + 3) x y) ∧ ItB b h N a1 i ∧ ItB c h (N + 1) a2 i) where
  mem := by simp
  obj := fun i h st d hd => by
    obtain ⟨_, _, hz, hTI, ⟨x, y, hTO⟩, h1, h2⟩ := st
    rcases (show d = N + 4 ∨ d = N + 2 ∨ d = N + 3 ∨ d = N ∨ d = N + 1 by simpa using hd) with q | q | q | q | q
    · rw [q]; exact ⟨_, hz, fun v q => nomatch q⟩
    · rw [q]; exact ⟨_, hTI, fun v q => nomatch q⟩
    · rw [q]; exact ⟨_, hTO, fun v q => nomatch q⟩
    · rw [q]; exact itB_obj h1
    · rw [q]; exact itB_obj h2
  keep := fun i h h' st k => by
    obtain ⟨l1, l2, hz, hTI, ⟨x, y, hTO⟩, h1, h2⟩ := st
    exact ⟨l1, l2, k _ (by simp) _ hz, k _ (by simp) _ hTI, ⟨x, y, k _ (by simp) _ hTO⟩, itB_at h1 fun o q => k _ (by simp) o q, itB_at h2 fun o q => k _ (by simp) o q⟩
  item := by
    intro X hP hw hK hc i pins s σ H E I hf st hg
    subst hP hw hK
    obtain ⟨l1, l2, hz, hTI, hTO, h1, h2⟩ := st
    obtain ⟨xs, ys, x, y, hqx, hqy, hx, hy⟩ := hg
    obtain ⟨its, rv, p, _⟩ := inv_sqB I hqx
    obtain ⟨its2, rv2, p2, _⟩ := inv_sqB I hqy
    obtain ⟨u, hu, ru⟩ := rv.get hx
    obtain ⟨u2, hu2, ru2⟩ := rv2.get hy
    have D1 := drawsB (prog := X.prog) (w := X.w) (A := X.A.in1) (b := b) (I.ok.hd hc) N a1 (Nat.ne_of_lt l1) its.toArray
    have D2 := drawsB (prog := X.prog) (w := X.w) (A := X.A.in1) (b := c) (I.ok.hd hc) (N + 1) a2 (Nat.ne_of_lt (Nat.lt_succ_of_lt l2)) its2.toArray
    have S := zip_sep2 (N := N) (fp1 := [a1]) (fp2 := [a2]) (fun d hd => by rw [List.mem_singleton.mp hd]; exact l1) (fun d hd => by rw [List.mem_singleton.mp hd]; exact l2)
    have W := WalksT.zipD2 (prog := X.prog) (w := X.w) (A := X.A) S D1 D2
    have hil : i < its.toArray.size := by
      have := (List.getElem?_eq_some_iff.mp hu).1
      simpa using this
    have hil2 : i < its2.toArray.size := by
      have := (List.getElem?_eq_some_iff.mp hu2).1
      simpa using this
    refine W.item i s _ _ (by omega) ⟨hz, hTI, hTO, ⟨h1, p⟩, ⟨h2, p2⟩⟩ fun T vals h' tk hPt hT hTup hMid hk => ?_
    obtain ⟨y1, y2, hy1, hy2, hvals⟩ := hPt
    have e1 : y1 = u := by
      have : its[i]? = some y1 := by simpa using hy1
      rw [hu] at this
      exact (Option.some.inj this).symm
    have e2 : y2 = u2 := by
      have : its2[i]? = some y2 := by simpa using hy2
      rw [hu2] at this
      exact (Option.some.inj this).symm
    subst e1 e2 hvals
    refine ⟨_, rfl, W.go elts kk tpos i T _ _ _ hMid fun h'' hst hk2 => ?_⟩
    obtain ⟨hz2, hTI2, hTO2, ⟨h12, _⟩, ⟨h22, _⟩⟩ := hst
    have hap := W.apart i T h' hMid
    have hT2 : h''.IsTuple T #[y1, y2] := by
      obtain ⟨o, h1, h2⟩ := hTup
      exact ⟨o, hk2 T o hap h1, h2⟩
    have new : ObjOk X.prog X.w (upd H T (.tup [x, y])) h'' T (.tup [x, y]) :=
      ⟨by show 2 ≤ sizeLine; decide, [y1, y2], .cons ru (.cons ru2 .nil), hT2⟩
    have sub : ∀ d, d ∉ [N + 4, N + 2, N + 3, N, N + 1] → d ∉ [N + 4, N + 3, N, N + 1] := fun d hd z => hd (by
      simp only [List.mem_cons, List.not_mem_nil, or_false] at z ⊢
      rcases z with z | z | z | z
      · exact .inl z
      · exact .inr (.inr (.inl z))
      · exact .inr (.inr (.inr (.inl z)))
      · exact .inr (.inr (.inr (.inr z))))
    have I1 : Inv X pins σ (upd H T (.tup [x, y])) { s with heap := h'', toks := tk } :=
      I.turnedNew (ch := [N + 4, N + 2, N + 3, N, N + 1]) (fun d ob hb q => hk2 d ob (sub d hb) (hk d ob (sub d hb) q)) hf hT new
    refine ⟨.ref T, _, I1, rfl, ⟨T, x, y, rfl, I.hok.fresh hT, rfl, fun l hl => by rw [inv_sqB_inj I hl hqx]; exact hx, fun l hl => by rw [inv_sqB_inj I hl hqy]; exact hy⟩, ⟨l1, l2, hz2, hTI2, hTO2, h12, h22⟩, fun d hd => ?_⟩
    have hc2 : d < s.heap.objs.size := by
      have hN1 : N + 4 < s.heap.objs.size := Heap.lt_size hz
      rcases (show d = N + 4 ∨ d = N + 2 ∨ d = N + 3 ∨ d = N ∨ d = N + 1 by simpa using hd) with q | q | q | q | q
      · rw [q]; exact hN1
      · rw [q]; exact Nat.lt_of_le_of_lt (Nat.add_le_add_left (by decide : 2 ≤ 4) N) hN1
      · rw [q]; exact Nat.lt_of_le_of_lt (Nat.add_le_add_left (by decide : 3 ≤ 4) N) hN1
      · rw [q]; exact Nat.lt_of_le_of_lt (Nat.le_add_right N 4) hN1
      · rw [q]; exact Nat.lt_of_le_of_lt (Nat.add_le_add_left (by decide : 1 ≤ 4) N) hN1
    rw [upd_ne (Nat.ne_of_lt (Nat.lt_of_lt_of_le hc2 hT))]
    exact (hf d hd).1
  done := by
    intro X hP hw hK hc i pins s σ H E I hf st hg
    subst hP hw hK
    obtain ⟨l1, l2, hz, hTI, hTO, h1, h2⟩ := st
    obtain ⟨xs, ys, hqx, hqy, hend⟩ := hg
    obtain ⟨its, rv, p, _⟩ := inv_sqB I hqx
    obtain ⟨its2, rv2, p2, _⟩ := inv_sqB I hqy
    have D1 := drawsB (prog := X.prog) (w := X.w) (A := X.A.in1) (b := b) (I.ok.hd hc) N a1 (Nat.ne_of_lt l1) its.toArray
    have D2 := drawsB (prog := X.prog) (w := X.w) (A := X.A.in1) (b := c) (I.ok.hd hc) (N + 1) a2 (Nat.ne_of_lt (Nat.lt_succ_of_lt l2)) its2.toArray
    have S := zip_sep2 (N := N) (fp1 := [a1]) (fp2 := [a2]) (fun d hd => by rw [List.mem_singleton.mp hd]; exact l1) (fun d hd => by rw [List.mem_singleton.mp hd]; exact l2)
    have W := WalksT.zipD2 (prog := X.prog) (w := X.w) (A := X.A) S D1 D2
    have hi : min its.toArray.size its2.toArray.size = i := by rw [List.size_toArray, List.size_toArray, ← rv.length, ← rv2.length, hend]
    rw [hi] at W
    have sub : ∀ d, d ∉ [N + 4, N + 2, N + 3, N, N + 1] → d ∉ [N + 4, N + 3, N, N + 1] := fun d hd z => hd (by
      simp only [List.mem_cons, List.not_mem_nil, or_false] at z ⊢
      rcases z with z | z | z | z
      · exact .inl z
      · exact .inr (.inr (.inl z))
      · exact .inr (.inr (.inr (.inl z)))
      · exact .inr (.inr (.inr (.inr z))))
    exact W.done s _ _ ⟨hz, hTI, hTO, ⟨h1, p⟩, ⟨h2, p2⟩⟩ fun h' tk hk => ⟨rfl, I.turnedL (ch := [N + 4, N + 2, N + 3, N, N + 1]) (fun d ob hb q => hk d ob (sub d hb) q) hf⟩
  self := fun A i s Q E st h => by
    obtain ⟨_, _, hz, _⟩ := st
    exact wpAny_pyIter_zip hz h
def iZipB (b c : Bool) (K : Frg) (ta : TA) : TI := fun σ H R => ta σ H fun vs H1 => ∃ a1 a2 xs ys, vs = [.ref a1, .ref a2] ∧ SqB b K H1 a1 xs ∧ SqB c K H1 a2 ys ∧ R (ItzB b c K a1 a2) H1
theorem pi_zipB {X : Cx} {b c : Bool} {e e2 : Expr} {ta : TA} {p pos tpos : Pos} {elts : List Expr} {kk : Nat} (hg : Gl X "zip") (hm : X.mg "zip" = none) (ha : PA X [e, e2] ta)
    (hs : starEach [e, e2] X.env = (false, eval e X.env) :: starEach [e2] X.env := by rfl) (hpl : (backTo pos (starEach [e2] X.env)).any (·.1) = false := by rfl) :
    PI X (.Tuple elts kk tpos) (.Call (.Name "zip" p) [e, e2] [] pos) (iZipB b c X.K ta) := by
  refine ⟨fun pins s σ H R I h => ?_⟩
  refine Call_ (ld_blt I hg hm PyProof.Rows.boot_zip (PyProof.Rows.callWith_type1 (thn (ha.run pos pins s σ H _ I h) fun us s1 ⟨vs, H1, I1, r1, q1⟩ => ?_) hs hpl))
  obtain ⟨a1, a2, xs, ys, ex, hqx, hqy, q⟩ := q1
  subst ex
  obtain ⟨u1, u2, rfl, ru, ru2⟩ := r1.two
  cases ru
  cases ru2
  obtain ⟨its, rv, p1, _⟩ := inv_sqB I1 hqx
  obtain ⟨its2, rv2, p2, _⟩ := inv_sqB I1 hqy
  refine zip_begins2 (beginsB (b := b) a1 its.toArray) (beginsB (b := c) a2 its2.toArray) p1 p2 fun h' hz hTI hTO g1 g2 hsz hk => wpAny_pyIter_zip hz ?_
  have I2 : Inv X pins σ H1 { s1 with heap := h' } := I1.kept (t' := s1.toks) hk
  have la1 : a1 < s1.heap.objs.size := by
    obtain ⟨o, e, _⟩ := isB_cls p1
    exact Heap.lt_size e
  have la2 : a2 < s1.heap.objs.size := by
    obtain ⟨o, e, _⟩ := isB_cls p2
    exact Heap.lt_size e
  refine ⟨s1.heap.objs.size + 4, _, _, _, H1, rfl, I2, turn_zipB a1 a2 s1.heap.objs.size, ⟨la1, la2, hz, hTI, ⟨_, _, hTO⟩, oB_it g1, oB_it g2⟩, fun d hd => ?_, q⟩
  have hle : s1.heap.objs.size ≤ d := by
    rcases (show d = s1.heap.objs.size + 4 ∨ d = s1.heap.objs.size + 2 ∨ d = s1.heap.objs.size + 3 ∨ d = s1.heap.objs.size ∨ d = s1.heap.objs.size + 1 by simpa using hd) with q | q | q | q | q
    · rw [q]; exact Nat.le_add_right _ _
    · rw [q]; exact Nat.le_add_right _ _
    · rw [q]; exact Nat.le_add_right _ _
    · rw [q]; exact Nat.le_refl _
    · rw [q]; exact Nat.le_add_right _ _
  exact I1.fpOk hle (I1.hok.fresh hle)
def zipD (xs ys : List D) : List D := (xs.zip ys).map fun p => .tup [p.1, p.2]
theorem zipD_get {xs ys : List D} {i : Nat} {x y : D} (h : xs[i]? = some x) (h2 : ys[i]? = some y) : (zipD xs ys)[i]? = some (.tup [x, y]) := by
  unfold zipD
  rw [List.getElem?_map, (show (xs.zip ys)[i]? = some (x, y) from List.getElem?_zip_eq_some.mpr ⟨h, h2⟩)]
  rfl
theorem zipD_len (xs ys : List D) : (zipD xs ys).length = min xs.length ys.length := by simp [zipD]
theorem rts_two {K : Frg} {H : Hp} {x y : Sl × Option V} : Rts K H [x, y] [] → Rp K H x.1 x.2 [] ∧ Rp K H y.1 y.2 [] := fun ⟨f1, f2, h, t, e⟩ => by
  have e2 := List.append_eq_nil_iff.mp e.symm
  rw [e2.1] at h
  rw [e2.2] at t
  exact ⟨h, rts_one t⟩
theorem walk_z {K : Frg} {b c : Bool} {t1 t2 : TK} {a1 a2 : Addr} {xs ys : List D} : WalkD K (ItzB b c K a1 a2) [(.v (holdB t1 b xs), some (.ref a1)), (.v (holdB t2 c ys), some (.ref a2))] (zipD xs ys) := by
  refine ⟨fun x h => ?_, ?_⟩
  · rcases (show x = _ ∨ x = _ by simpa using h) with e | e
    · rw [e]; exact ⟨_, rfl⟩
    · rw [e]; exact ⟨_, rfl⟩
  rw [zipD_len]
  refine ⟨fun i H hi h => ?_, fun H h => ?_, fun i H x H' hi h y => ?_⟩
  · obtain ⟨vs, h1, h2⟩ := hold_sq (rts_two h).1
    obtain ⟨ws, h3, h4⟩ := hold_sq (rts_two h).2
    have e1 := RepDs.length xs vs h2
    have e2 := RepDs.length ys ws h4
    exact ⟨vs, ws, vs[i]'(by omega), ws[i]'(by omega), h1, h3, List.getElem?_eq_getElem _, List.getElem?_eq_getElem _⟩
  · obtain ⟨vs, h1, h2⟩ := hold_sq (rts_two h).1
    obtain ⟨ws, h3, h4⟩ := hold_sq (rts_two h).2
    exact ⟨vs, ws, h1, h3, by rw [RepDs.length xs vs h2, RepDs.length ys ws h4]⟩
  · obtain ⟨vs, h1, h2⟩ := hold_sq (rts_two h).1
    obtain ⟨ws, h3, h4⟩ := hold_sq (rts_two h).2
    obtain ⟨T, z, z2, rfl, hT, rfl, y1, y2⟩ := y
    have hd : xs[i]? = some (xs[i]'(by omega)) := List.getElem?_eq_getElem _
    have hd2 : ys[i]? = some (ys[i]'(by omega)) := List.getElem?_eq_getElem _
    obtain ⟨v, h5, h6⟩ := h2.get hd
    obtain ⟨v2, h7, h8⟩ := h4.get hd2
    have t1 := y1 vs h1
    have t2 := y2 ws h3
    rw [h5] at t1
    rw [h7] at t2
    cases t1
    cases t2
    exact ⟨_, zipD_get hd hd2, ext_upd hT, T, _, rfl, SqT.of upd_same, _, _, rfl, RepD.stay (.ext (ext_upd hT)) _ _ h6, _, [], rfl, RepD.stay (.ext (ext_upd hT)) _ _ h8, rfl⟩
/-- both walked things are frozen -/
def zipI (A B : Opd) : Iv := fun env => (evA [A, B] env).bind fun rs e => (frzA [A, B] rs e).bind fun ds e => match ds with
  | [x, y] => (Rs.of (itemsD x) e).bind fun xs e => (Rs.of (itemsD y) e).bind fun ys e => .ok (zipD xs ys) e
  | _ => .bad
theorem frzA_ex : ∀ (as : List Opd) (rs : List (Option Sl)) (e : Env) (x : Ex), frzA as rs e ≠ .ex x
  | [], [], e, x, h => by cases h
  | [], _ :: _, e, x, h => by cases h
  | .nm i :: as, [], e, x, h => by cases h
  | .ex f :: as, [], e, x, h => by cases h
  | .ex f :: as, none :: rs, e, x, h => by cases h
  | .nm i :: as, r :: rs, e, x, h => by
    have h : ((Rs.of ((gt e i).bind toD) e).bind fun d e => (frzA as rs (e.set i (.v d))).bind fun ds e2 => .ok (d :: ds) e2) = .ex x := h
    cases q : (gt e i).bind toD with
    | none => rw [q] at h; cases h
    | some d =>
      rw [q, Rs.of_some, Rs.bind_ok] at h
      cases q2 : frzA as rs (e.set i (.v d)) with
      | bad => rw [q2] at h; cases h
      | ok a e2 => rw [q2] at h; cases h
      | ex y => exact frzA_ex as rs _ y q2
  | .ex f :: as, some r :: rs, e, x, h => by
    have h : ((Rs.of (toD r) e).bind fun d e => (frzA as rs e).bind fun ds e2 => .ok (d :: ds) e2) = .ex x := h
    cases q : toD r with
    | none => rw [q] at h; cases h
    | some d =>
      rw [q, Rs.of_some, Rs.bind_ok] at h
      cases q2 : frzA as rs e with
      | bad => rw [q2] at h; cases h
      | ok a e2 => rw [q2] at h; cases h
      | ex y => exact frzA_ex as rs _ y q2
theorem Wp_run {α : Type} {r : Rs α} {k : α → Env → Prop} {h : Ex → Prop} (w : r.Wp k h) : (∃ x, r = .ex x ∧ h x) ∨ ∃ a e, r = .ok a e ∧ k a e := by
  cases r with
  | bad => exact w.elim
  | ex x => exact .inl ⟨x, rfl, w⟩
  | ok a e => exact .inr ⟨a, e, rfl, w⟩
theorem di_zip {X : Cx} {T : List Addr} {W : XK} {e e2 : Expr} {A B : Opd} {p pos tpos : Pos} {elts : List Expr} {kk : Nat} (hg : Gl X "zip") (hm : X.mg "zip" = none) (da : DA X T W [e, e2] [A, B]) (hs : starEach [e, e2] X.env = (false, eval e X.env) :: starEach [e2] X.env := by rfl) (hpl : (backTo pos (starEach [e2] X.env)).any (·.1) = false := by rfl) :
    DI X T W (.Tuple elts kk tpos) (.Call (.Name "zip" p) [e, e2] [] pos) (zipI A B) :=
  ⟨_, pi_or (pi_or (pi_zipB (b := false) (c := false) hg hm (PA.gh da.pa) hs hpl) (pi_zipB (b := false) (c := true) hg hm (PA.gh da.pa) hs hpl)) (pi_or (pi_zipB (b := true) (c := false) hg hm (PA.gh da.pa) hs hpl) (pi_zipB (b := true) (c := true) hg hm (PA.gh da.pa) hs hpl)), fun σ H R h => by
  obtain ⟨g, env, ts, len, Rl, h⟩ := h
  have h := Rs.Wp.bind h
  rcases Wp_run h with ⟨x, q, hx⟩ | ⟨rs, e1, q, h⟩
  · refine .inl (.inl (nest_of [A, B] env ts H _ len Rl ?_))
    rw [q]
    exact hx
  · rcases Wp_run (Rs.Wp.bind h) with ⟨x, q2, hx⟩ | ⟨ds, e2, q2, h2⟩
    · exact absurd q2 (frzA_ex _ _ _ x)
    · split at h2
      · rename_i x y
        obtain ⟨xs, hx, h3⟩ := Rs.Wp.of (Rs.Wp.bind h2)
        obtain ⟨ys, hy, h4⟩ := Rs.Wp.of (Rs.Wp.bind h3)
        have main : ∀ (b c : Bool) (t1 t2 : TK), x = holdB t1 b xs → y = holdB t2 c ys → iZipB b c X.K (fun σ H Q => nestA ([A, B].map (rdO X.K T W)) σ H fun v H1 => Gh H1 (Q v)) σ H R := fun b c t1 t2 ex ey => by
          refine nest_of [A, B] env ts H _ len Rl ?_
          rw [q]
          intro vs H1 l nm R1
          refine (frz_of (kE := fun _ => False) [A, B] rs vs e1 H1 (fun ds e => ds = [x, y] ∧ e = e2) nm l R1 (by rw [q2]; exact ⟨rfl, rfl⟩)).imp fun H2 ⟨ds, e3, ⟨k1, k2⟩, l3, hr, R3⟩ => ?_
          subst k1 k2
          obtain ⟨v, r, ev, hv, v2, r2, er, hv2, er2⟩ := hr
          have er2 : r2 = [] := er2
          subst er2 er ev ex ey
          have R4 := (R3.pushD hv2).pushD hv
          obtain ⟨a1, rfl, s1, h1⟩ : ∃ a1, v = .ref a1 ∧ ∃ us, SqB b X.K H2 a1 us := by
            cases b
            · obtain ⟨a, us, e, f, _⟩ := hv; exact ⟨a, e, us, f.sq⟩
            · obtain ⟨a, us, e, f, _⟩ := hv; exact ⟨a, e, us, f.sq⟩
          obtain ⟨a2, rfl, s2, h2'⟩ : ∃ a2, v2 = .ref a2 ∧ ∃ us, SqB c X.K H2 a2 us := by
            cases c
            · obtain ⟨a, us, e, f, _⟩ := hv2; exact ⟨a, e, us, f.sq⟩
            · obtain ⟨a, us, e, f, _⟩ := hv2; exact ⟨a, e, us, f.sq⟩
          exact ⟨a1, a2, s1, s2, rfl, h1, h2', h4 _ [_, _] H2 l3 R4 walk_z⟩
        rcases items_cases hx with ⟨t1, ex⟩ | ex <;> rcases items_cases hy with ⟨t2, ey⟩ | ey
        · exact .inr (.inr (main true true t1 t2 ex ey))
        · exact .inr (.inl (main true false t1 .w ex ey))
        · exact .inl (.inr (main false true .w t2 ex ey))
        · exact .inl (.inl (main false false .w .w ex ey))
      · exact h2.elim⟩
end DL


set_option maxHeartbeats 1000000
namespace DL
open PySem PySem.Spec PyProof.Rows L2 GxR

/-! ### a table grows -/
theorem Rel.tab {K : Frg} {T : List Addr} {g : G} {H H2 : Hp} {rs : List (Sl × Option V)} {P : Addr} (R : DL.Rel K T g rs H) (hP : P ∈ T) (tb : Tabbed P H H2) : DL.Rel K T g rs H2 := by
  obtain ⟨fp, h, nd, hf, kp, tt⟩ := R
  obtain ⟨⟨qs, hq, ht⟩, same⟩ := tb
  obtain ⟨ps, hp, _⟩ := tt P hP
  have ne : ∀ b ob, H b = some ob → (∀ ps, ob ≠ .tbl ps) → b ≠ P := fun b ob e n z => by
    subst z
    rw [hp] at e
    exact n ps (Option.some.inj e).symm
  have st : Stf H H2 := ⟨fun b xs e => by
      rw [same b (ne b _ e fun _ z => nomatch z)]; exact e,
    fun b o2 x e => by
      rw [same b (ne b _ e fun _ z => nomatch z)]; exact e,
    fun b rs e => by
      by_cases z : b = P
      · subst z; exact ⟨qs, hq⟩
      · exact ⟨rs, by rw [same b z]; exact e⟩⟩
  refine ⟨fp, Rts.stay st rs fp h fun a ha ob e => ?_, nd, hf, ⟨kp.f.trans st, fun a u e nt hn => ?_⟩, fun p hp2 => ?_⟩
  · rw [same a (ne a ob e fun ps z => (Rts.own rs fp h a ha).ntbl (z ▸ e))]; exact e
  · have := kp.r a u e nt hn
    rw [same a (ne a u this nt)]; exact this
  · by_cases z : p = P
    · subst z; exact ⟨qs, hq, ht⟩
    · obtain ⟨xs, e1, e2⟩ := tt p hp2
      exact ⟨xs, by rw [same p z]; exact e1, e2⟩

/-! ### all, any over a list or a tuple of plain items -/
/-- the element, a quiet test of the plain item y -/
def EltV (prog : Program) (w : World) (scope : Scope) (x : Str) (elt : Expr) (pb : V → Option Bool) : Prop :=
  ∀ (cenv : PySem.Env) (A' : Around) (E' : Value → Shared → Prop) (y : V) (v : Value) (c : Bool) (s2 : Shared) (m2 : Str → Option Value), cenv.scope = scope → s2.heap.Ns cenv.locals m2 → m2 x = some v → RelV y v → pb y = some c →
    wpAny (model prog w) A' (eval elt cenv) (fun r s3 => r = .bool c ∧ Keeps s2 s3) E' s2
def trB (l : List Bool) (j : Nat) : Bool := l.getD j false
theorem all_trB (l : List Bool) : (List.range l.length).all (trB l) = l.all fun b => b := by
  rw [Bool.eq_iff_iff, List.all_eq_true, List.all_eq_true]
  refine ⟨fun h b hb => ?_, fun h j hj => ?_⟩
  · obtain ⟨j, hj, e⟩ := List.getElem_of_mem hb
    have := h j (List.mem_range.mpr hj)
    unfold trB at this
    rw [List.getD_eq_getElem?_getD, List.getElem?_eq_getElem hj] at this
    rw [← e]; exact this
  · have hj := List.mem_range.mp hj
    unfold trB
    rw [List.getD_eq_getElem?_getD, List.getElem?_eq_getElem hj]
    exact h _ (List.getElem_mem hj)
theorem any_trB (l : List Bool) : (List.range l.length).any (trB l) = l.any fun b => b := by
  rw [Bool.eq_iff_iff, List.any_eq_true, List.any_eq_true]
  refine ⟨fun ⟨j, hj, h⟩ => ?_, fun ⟨b, hb, h⟩ => ?_⟩
  · have hj := List.mem_range.mp hj
    unfold trB at h
    rw [List.getD_eq_getElem?_getD, List.getElem?_eq_getElem hj] at h
    exact ⟨_, List.getElem_mem hj, h⟩
  · obtain ⟨j, hj, e⟩ := List.getElem_of_mem hb
    refine ⟨j, List.mem_range.mpr hj, ?_⟩
    unfold trB
    rw [List.getD_eq_getElem?_getD, List.getElem?_eq_getElem hj]
    show l[j] = true
    rw [e]; exact h
/-- all items are served: what each tells -/
def Each (pb : V → Option Bool) (vs : List V) (bs : List Bool) : Prop := bs.length = vs.length ∧ ∀ (j : Nat) (y : V), vs[j]? = some y → ∃ q, bs[j]? = some q ∧ pb y = some q
theorem vals_back : ∀ {vs : List V} {us : List Value} {j : Nat} {u : Value}, Vals vs us → us[j]? = some u → ∃ y, vs[j]? = some y ∧ RelV y u
  | [], [], j, u, _, h => by simp at h
  | y :: vs, z :: us, 0, u, r, h => by
    cases r with
    | cons r1 r2 => exact ⟨y, rfl, by simp at h; subst h; exact r1⟩
  | y :: vs, z :: us, j + 1, u, r, h => by
    cases r with
    | cons r1 r2 =>
      obtain ⟨y2, e, q⟩ := vals_back (j := j) r2 (by simpa using h)
      exact ⟨y2, by simpa using e, q⟩
section
variable {X : Cx} {pins : List (Addr × Obj)} {σ : L2.St} {H : Hp} {s : Shared}
/-- the walk of a list or a tuple, begun -/
theorem iterB {prog : Program} {w : World} {A : Around} {E : Value → Shared → Prop} {b : Bool} {a : Addr} {its : Array Value} {Q : Value → Shared → Prop} (h : IsB b s.heap a its) (q : Q (.ref s.heap.objs.size) { s with heap := s.heap.push (oB b a) }) :
    wpAny (model prog w) A (pyIter (.ref a)) Q E s := by
  cases b
  · exact wpAny_pyIter_list h q
  · exact wpAny_pyIter_tuple h q
theorem walksB {prog : Program} {w : World} {A : Around} {b : Bool} (hh : A.handled = none) (it l : Addr) (hne : l ≠ it) (items : Array Value) : Walks prog w A it [it, l] [it] items.size (fun i v => items[i]? = some v) (fun i h => ItB b h it l i ∧ IsB b h l items) := by
  cases b
  · exact Walks.list hh it l hne items
  · exact Walks.tuple hh it l hne items
theorem isB_push {b : Bool} {h : Heap} {a : Addr} {its : Array Value} (x : IsB b h a its) (o : Obj) : IsB b (h.push o) a its := by
  cases b
  · exact Heap.IsList.push x o
  · exact Heap.IsTuple.push x o
/-- the generator at g walks all the bs -/
def ReadyB (X : Cx) (pins : List (Addr × Obj)) (σ : L2.St) (H1 : Hp) (P : Addr) (bs : List Bool) (g : Addr) (s5 : Shared) : Prop :=
  ∃ (fp wr : List Addr) (G : Array GenState → Array GenState → Prop) (F : Nat → Value → Prop) (St : Nat → Shared → Prop),
    WalksS X.prog X.w X.A.in1 g fp wr G bs.length F St ∧ St 0 s5 ∧ TruthOf X.prog X.w X.A.in1 F (trB bs) ∧
    ∀ s', Moved wr G s5 s' → ∃ H2, Tabbed P H1 H2 ∧ Inv X pins σ H2 s'
theorem gen_seq {c P : Addr} {elt iter : Expr} {x : Str} {px gpos : Pos} {scope : Scope} {pb : V → Option Bool} {te : TE} {k : Nat} {Q' : Value → Shared → Prop} {R : List Bool → Hp → Prop}
    (hr : Room k X.A) (TB : LamX.TabB X.base X.mg c P) (hcode : X.env.code = .ref c) (S : GenS X.env scope x) (hi : PE X iter te) (hel : EltV X.prog X.w scope x elt pb)
    (hs : ∀ v, genFold iter X.env v = pure v) (I : Inv X pins σ H s)
    (h : te σ H fun v H1 => ∃ (b : Bool) (a : Addr) (vs : List V) (bs : List Bool), v = .ref a ∧ SqB b X.K H1 a vs ∧ Each pb vs bs ∧ TabG H1 P ∧ R bs H1)
    (hQ : ∀ bs H1 g s5, R bs H1 → ReadyB X pins σ H1 P bs g s5 → Q' (.ref g) s5) :
    wpAny (model X.prog X.w) X.A (eval (.GeneratorExp elt [⟨.Name x px, iter, [], 0⟩] scope gpos) X.env) Q' X.xe s := by
  refine wpAny_GeneratorExp_walksQ hr.hd S.co (closure_ok S.free) S.cell S.dot S.loc S.kind (by have := hr.dp; omega) ?_ hs
  refine thn (hi.run pins s σ H _ I h) fun xv s1 ⟨v, H1, I1, r1, q1⟩ => ?_
  obtain ⟨b, a, vs, bs, e0, sq, hmp, ⟨ps, hP, ht⟩, hR⟩ := q1
  subst e0
  obtain rfl : xv = .ref a := r1
  obtain ⟨its, rv, isb, hle⟩ := inv_sqB I1 sq
  have lenI : its.length = vs.length := (Vals.length rv).symm
  have lenB : bs.length = vs.length := hmp.1
  refine iterB isb ?_
  have hPs := I1.hok P _ hP
  have hPs : s1.heap.get? P = some { cls := .none, data := .fields ps } := hPs
  have hPlt : P < s1.heap.objs.size := Heap.lt_size hPs
  generalize ho : oB b a = o
  have hP2 : (s1.heap.push o).get? P = some { cls := .none, data := .fields ps } := Heap.get?_push_of_some _ hPs
  have cd : PySem.W.CodeHd (s1.heap.push o) c P := TB.code.keeps fun z u e => Heap.get?_push_of_some _ (I1.bk z u e)
  have lim2 := I1.nolimit.push o
  obtain ⟨oa, hoa, _⟩ := isB_cls isb
  have alt : a < s1.heap.objs.size := Heap.lt_size hoa
  have nea : a ≠ s1.heap.objs.size := Nat.ne_of_lt alt
  have naP : a ≠ P := fun z => by
    rw [z, hPs] at hoa
    cases hoa
    obtain ⟨o', e1, e2⟩ := isB_cls isb
    rw [z, hPs] at e1
    cases e1
    cases e2
  have cont : ∀ (code : Value) (h3 : Heap) (tk : Nat) (ps' : Array Value), Heap.ExtBut P (s1.heap.push o) h3 → (s1.heap.push o).objs.size ≤ h3.objs.size → h3.get? P = some { cls := .none, data := .fields ps' } → (∃ more, ps' = ps ++ more) → TriplesOk ps'.toList →
      wpAny (model X.prog X.w) X.A (builtinsFor X.env.globals X.env.builtins) (fun bi s4 =>
        ∃ Ia fp wr n0 Pf St0 pz F, Value.ref s1.heap.objs.size = .ref Ia ∧ (∀ A' : Around, A'.handled = none → Walks X.prog X.w A' Ia fp wr n0 Pf St0) ∧ St0 0 s4.heap ∧ (∀ z ∈ fp, z < s4.heap.objs.size) ∧ s4.heap.NoLimit ∧ cStatics ∉ wr ∧
          (∀ href : Heap, (∀ z o, s4.heap.get? z = some o → href.get? z = some o) →
            QuietGen X.prog X.w (genEnv scope (cloFrom X.env.cells scope.names []) s4.heap.objs.size code bi X.env) x [] elt (List.range s4.heap.objs.size) wr Pf pz F href) ∧
          (∀ g h5 tk gs, gs.bare = true → s4.heap.objs.size < g → h5.objs.size = g + 1 → (∀ z o, s4.heap.get? z = some o → h5.get? z = some o) →
            WalksS X.prog X.w X.A.in4 g (g :: s4.heap.objs.size :: List.range s4.heap.objs.size) (s4.heap.objs.size :: wr) (GenOnlyQ s4.gens.size) (passing pz n0 0).length
              (fun j y => ∃ i, (passing pz n0 0)[j]? = some i ∧ F i y) (GenAt X.prog X.w X.A.in4 g s4.gens.size s4.heap.objs.size (List.range s4.heap.objs.size) wr pz n0 F) →
            GenAt X.prog X.w X.A.in4 g s4.gens.size s4.heap.objs.size (List.range s4.heap.objs.size) wr pz n0 F 0 { s4 with gens := s4.gens.push gs, toks := tk, heap := h5 } →
            Q' (.ref g) { s4 with gens := s4.gens.push gs, toks := tk, heap := h5 })) X.xe { s1 with heap := h3, toks := tk } := by
    intro code h3 tk ps' hx hsz hP3 hmore ht3
    obtain ⟨bm, ob, e1, e2, e3, e4, e5, e6, e7, e8⟩ := TB.bm
    obtain ⟨_, hns, _⟩ := id I1.nolimit
    have hcl : cStatics < s1.heap.objs.size := hns.lt
    have hcP : cStatics ≠ P := fun z => by
      obtain ⟨o', es, ep, ho, hd, _⟩ := hns
      rw [z, hPs] at ho
      cases ho
      cases hd
    have sz2 : (s1.heap.push o).objs.size = s1.heap.objs.size + 1 := Heap.size_push ..
    have keep3 : ∀ z u, z ≠ P → s1.heap.get? z = some u → h3.get? z = some u := fun z u hz e => hx z u hz (Heap.get?_push_of_some _ e)
    have glo : h3.Ns X.env.globals X.mg := by rw [I1.ok.glob]; exact ((I1.mod.glob.keeps I1.bk).push o).extBut hx TB.gP
    refine wpAny_builtinsFor (m := X.mg) glo e1 e2 (keep3 _ _ e4 (I1.bk _ _ e5)) e6 e7 e8 ?_
    have st0 : ItB b h3 s1.heap.objs.size a 0 ∧ IsB b h3 a its.toArray := by
      have i0 : ItB b (s1.heap.push o) s1.heap.objs.size a 0 := oB_it (by
        subst ho
        cases b
        · exact Heap.get?_push_size _ rfl
        · exact Heap.get?_push_size _ rfl)
      have i1 := isB_push isb o
      refine ⟨itB_at i0 fun o' e => hx _ o' (Nat.ne_of_gt hPlt) e, ?_⟩
      cases b
      · exact Heap.IsList.at i1 fun o' e => hx _ o' naP e
      · exact Heap.IsTuple.at i1 fun o' e => hx _ o' naP e
    refine ⟨s1.heap.objs.size, [s1.heap.objs.size, a], [s1.heap.objs.size], its.toArray.size, _, _, (fun _ => true), (fun i y => ∃ q, bs[i]? = some q ∧ y = .bool q), rfl, fun A' hA => walksB (b := b) hA _ a nea its.toArray, st0, ?_, lim2.extBut hx hcP, ?_, ?_, ?_⟩
    · intro z hz
      show z < h3.objs.size
      rcases List.mem_cons.mp hz with y | y
      · rw [y]
        exact Nat.lt_of_lt_of_le (by rw [sz2]; exact Nat.lt_succ_self _) hsz
      · rw [List.mem_singleton.mp y]
        exact Nat.lt_of_lt_of_le (by rw [sz2]; exact Nat.lt_succ_of_lt alt) hsz
    · exact fun z => Nat.ne_of_lt hcl (List.mem_singleton.mp z)
    · intro href hhref
      refine ⟨fun A' E' i v s2 m2 hA hPv hn hm hk => ?_, fun A' E' i v s2 m2 hA hPv hp hn hm hk => ?_⟩
      · simp only [List.forIn_nil]
        exact wpAny_pure ⟨rfl, keeps_refl _⟩
      · have hPv : its.toArray[i]? = some v := hPv
        rw [List.getElem?_toArray] at hPv
        obtain ⟨y, hy, ry⟩ := vals_back rv hPv
        obtain ⟨q, hq1, hq2⟩ := hmp.2 i y hy
        exact wpAny_mono (hel _ A' E' y v q s2 m2 rfl hn hm ry hq2) (fun r s3 hr => ⟨⟨q, hq1, hr.1⟩, hr.2⟩) fun _ _ e => e
    · intro g h5 tk5 gs hgb hag hsz5 hk5 W5 hat
      simp only [GxR.passing_true, List.length_range] at W5
      have en : its.toArray.size = bs.length := by simp [lenI, lenB]
      rw [en] at W5
      refine hQ bs H1 g _ hR ⟨_, _, _, _, _, W5.in4_1, by rw [en] at hat; exact hat, ?_, fun s' hm => ?_⟩
      · intro j y sj Qj Ej hy hQj
        obtain ⟨i, hij, q, hq, rfl⟩ := hy
        obtain ⟨hj, ej⟩ := List.getElem?_eq_some_iff.mp hij
        rw [List.getElem_range] at ej
        subst ej
        have hQ2 : Qj (trB bs j) sj := hQj
        have : trB bs j = q := by
          unfold trB
          rw [List.getD_eq_getElem?_getD, hq]
          rfl
        rw [this] at hQ2
        exact wpAny_truthy_bool hQ2
      · obtain ⟨more, em⟩ := hmore
        have nwr : ∀ z u, s1.heap.get? z = some u → z ∉ h3.objs.size :: [s1.heap.objs.size] := fun z u e hb => by
          have hl := Heap.lt_size e
          have h9 : s1.heap.objs.size < h3.objs.size := by omega
          rcases List.mem_cons.mp hb with y | y
          · rw [y] at hl
            exact Nat.lt_asymm hl h9
          · rw [List.mem_singleton.mp y] at hl
            exact Nat.lt_irrefl _ hl
        have J := inv_tab (more := more) (h' := s'.heap) (g' := s'.gens) (d' := s'.drawn) (t' := s'.toks) I1 hP (fun z u hz e => hm.heap z u (nwr z u e) (hk5 z u (keep3 z u hz e)))
          (by rw [← em]; exact hm.heap P _ (nwr P _ hPs) (hk5 P _ hP3)) (AllBare.movedS (I1.bare.push hgb) hm)
        rw [sh_eta s1 s' hm.os] at J
        exact ⟨_, ⟨⟨ps ++ more, upd_same, by rw [← em]; exact ht3⟩, fun z hz => upd_ne hz⟩, J⟩
  refine ⟨lim2, ?_⟩
  cases hf : codeAmong gpos ps.toList with
  | none =>
    refine wpAny_genexprCodeX hcode (cd.code hP2 ht) (cd.tab hP2) hf fun c' h' tk hx hge hlt hco' _ htab' _ => ?_
    obtain ⟨o1, zs, f1, tf, fl, tg, inF, tx, tt, op, _, _, _, _, _, _, _, _, _, htr, _⟩ := hco'
    exact cont _ h' tk _ hx (Nat.le_trans hge (Nat.le_of_lt hlt)) htab'.2 ⟨_, rfl⟩ htr
  | some cv =>
    refine wpAny_genexprCode_hit hcode (cd.code hP2 ht) hf ?_
    exact cont cv (s1.heap.push o) s1.toks ps (Heap.ExtBut.refl _ _) (Nat.le_refl _) hP2 ⟨#[], by simp⟩ ht
/-- all(..), any(..) -/
def tGen (K : Frg) (P : Addr) (pb : V → Option Bool) (fold : List Bool → Bool) (te : TE) : TE := fun σ H Q => te σ H fun v H1 =>
  ∃ (b : Bool) (a : Addr) (vs : List V) (bs : List Bool), v = .ref a ∧ SqB b K H1 a vs ∧ Each pb vs bs ∧ TabG H1 P ∧ ∀ H2, Tabbed P H1 H2 → Q (.bl (fold bs)) H2
theorem pe_allG {c P : Addr} {elt iter : Expr} {x : Str} {px p pos gpos : Pos} {scope : Scope} {pb : V → Option Bool} {te : TE} {k : Nat}
    (hr : Room k X.A) (hg : Gl X "all") (hm : X.mg "all" = none) (TB : LamX.TabB X.base X.mg c P) (hcode : X.env.code = .ref c) (S : GenS X.env scope x) (hi : PE X iter te) (hel : EltV X.prog X.w scope x elt pb)
    (hs : ∀ v, genFold iter X.env v = pure v) (hb : bootBuiltins "all" = some (.builtin "all") := by rfl)
    (he : starEach [.GeneratorExp elt [⟨.Name x px, iter, [], 0⟩] scope gpos] X.env = (false, eval (.GeneratorExp elt [⟨.Name x px, iter, [], 0⟩] scope gpos) X.env) :: starEach [] X.env := by rfl) :
    PE X (.Call (.Name "all" p) [.GeneratorExp elt [⟨.Name x px, iter, [], 0⟩] scope gpos] [] pos) (tGen X.K P pb (fun l => l.all fun b => b) te) := by
  refine ⟨fun pins s σ H Q I h => ?_⟩
  refine wpAny_Call_Name_kw (ld_blt I hg hm hb ?_)
  refine PyProof.Rows.callWith_builtin1 ?_ he rfl
  rw [he]
  refine Calls.spliced_cons (gen_seq (R := fun bs H1 => ∀ H2, Tabbed P H1 H2 → Q (.bl (bs.all fun b => b)) H2) hr TB hcode S hi hel hs I h fun bs H1 g s5 hR hG => ?_)
  obtain ⟨fp, wr, G, F, St, W, hst, htr, hI⟩ := hG
  refine Calls.spliced_nil (call_all_walkS (W.self 0 _ _ _ hst ⟨g, fp, wr, G, _, F, St, _, rfl, W, hst, htr, fun s' hmv => ?_⟩))
  obtain ⟨H2, hT, J⟩ := hI s' hmv
  refine ⟨.bl _, H2, J, rfl, ?_⟩
  rw [all_trB]
  exact hR H2 hT
theorem pe_anyG {c P : Addr} {elt iter : Expr} {x : Str} {px p pos gpos : Pos} {scope : Scope} {pb : V → Option Bool} {te : TE} {k : Nat}
    (hr : Room k X.A) (hg : Gl X "any") (hm : X.mg "any" = none) (TB : LamX.TabB X.base X.mg c P) (hcode : X.env.code = .ref c) (S : GenS X.env scope x) (hi : PE X iter te) (hel : EltV X.prog X.w scope x elt pb)
    (hs : ∀ v, genFold iter X.env v = pure v)
    (he : starEach [.GeneratorExp elt [⟨.Name x px, iter, [], 0⟩] scope gpos] X.env = (false, eval (.GeneratorExp elt [⟨.Name x px, iter, [], 0⟩] scope gpos) X.env) :: starEach [] X.env := by rfl) :
    PE X (.Call (.Name "any" p) [.GeneratorExp elt [⟨.Name x px, iter, [], 0⟩] scope gpos] [] pos) (tGen X.K P pb (fun l => l.any fun b => b) te) := by
  refine ⟨fun pins s σ H Q I h => ?_⟩
  refine wpAny_Call_Name_kw (ld_blt I hg hm boot_any ?_)
  refine PyProof.Rows.callWith_builtin1 ?_ he rfl
  rw [he]
  refine Calls.spliced_cons (gen_seq (R := fun bs H1 => ∀ H2, Tabbed P H1 H2 → Q (.bl (bs.any fun b => b)) H2) hr TB hcode S hi hel hs I h fun bs H1 g s5 hR hG => ?_)
  obtain ⟨fp, wr, G, F, St, W, hst, htr, hI⟩ := hG
  refine Calls.spliced_nil (call_any_walkS (W.self 0 _ _ _ hst ⟨g, fp, wr, G, _, F, St, _, rfl, W, hst, htr, fun s' hmv => ?_⟩))
  obtain ⟨H2, hT, J⟩ := hI s' hmv
  refine ⟨.bl _, H2, J, rfl, ?_⟩
  rw [any_trB]
  exact hR H2 hT
end
/-! ### by trees -/
def unV : V → Option D
  | .non => some .non
  | .bl b => some (.bl b)
  | .int i => some (.int i)
  | .str s => some (.str s)
  | _ => none
def plainD : D → Bool
  | .non | .bl _ | .int _ | .str _ => true
  | _ => false
theorem unV_of {K : Frg} {H : Hp} {d : D} {v : V} (h : RepD K H d v) (p : plainD d = true) : unV v = some d := by
  cases d <;> first | (cases p; done) | (obtain rfl : v = _ := h; rfl)
def eachD (pb : D → Option Bool) : List D → Option (List Bool)
  | [] => some []
  | d :: ds => if plainD d = true then (pb d).bind fun b => (eachD pb ds).bind fun bs => some (b :: bs) else none
theorem each_of {K : Frg} {H : Hp} {pb : D → Option Bool} : ∀ {ds : List D} {vs : List V} {bs : List Bool}, RepDs K H ds vs → eachD pb ds = some bs → Each (fun y => (unV y).bind pb) vs bs
  | [], vs, bs, h, e => by
    obtain rfl : vs = [] := h
    cases e
    exact ⟨rfl, fun j y h => by simp at h⟩
  | d :: ds, vs, bs, h, e => by
    obtain ⟨v, r, e1, h1, h2⟩ := h
    subst e1
    unfold eachD at e
    split at e
    · rename_i hp
      obtain ⟨b, hb, e⟩ := Option.bind_eq_some_iff.mp e
      obtain ⟨bs2, hb2, e⟩ := Option.bind_eq_some_iff.mp e
      cases e
      obtain ⟨l, k⟩ := each_of h2 hb2
      refine ⟨by simp [l], fun j y hj => ?_⟩
      cases j with
      | zero =>
        simp at hj
        subst hj
        exact ⟨b, rfl, by show (unV v).bind pb = _; rw [unV_of h1 hp]; exact hb⟩
      | succ j =>
        obtain ⟨q, q1, q2⟩ := k j y (by simpa using hj)
        exact ⟨q, by simpa using q1, q2⟩
    · cases e
def genS (f : Ev) (pb : D → Option Bool) (fold : List Bool → Bool) : Ev := fun env => (f env).bind fun r e => (Rs.of ((toD r).bind itemsD) e).bind fun ds e => (Rs.of (eachD pb ds) e).bind fun bs e => .ok (.v (.bl (fold bs))) e
theorem gen_de {X : Cx} {T : List Addr} {W : XK} {e0 : Expr} {f : Ev} {pb : D → Option Bool} {fold : List Bool → Bool} {P : Addr} {te : TE} (hP : P ∈ T) (pe : PE X e0 (tGen X.K P (fun y => (unV y).bind pb) fold te)) (ht : te = fun σ H Q => rdE X.K T W f σ H fun v H1 => Gh H1 fun H2 => Q v H2) : DE X T W e0 (genS f pb fold) := by
  subst ht
  refine ⟨pe.mono fun σ H Q h => ?_⟩
  obtain ⟨g, env, ts, len, R, h⟩ := h
  refine ⟨g, env, ts, len, R, (Rs.Wp.bind h).imp (fun r e _ h v H1 l R1 => ?_) fun _ z => z⟩
  obtain ⟨ds, hd, h⟩ := Rs.Wp.of (Rs.Wp.bind h)
  obtain ⟨d, h1, h2⟩ := Option.bind_eq_some_iff.mp hd
  obtain ⟨bs, hb, h⟩ := Rs.Wp.of (Rs.Wp.bind h)
  refine (R1.fz h1).imp fun H2 R2 => ?_
  have fin : ∀ (b : Bool) (a : Addr) (vs : List V), v = .ref a → SqB b X.K H2 a vs → RepDs X.K H2 ds vs → ∃ (b : Bool) (a : Addr) (vs : List V) (bs : List Bool), v = .ref a ∧ SqB b X.K H2 a vs ∧ Each (fun y => (unV y).bind pb) vs bs ∧ TabG H2 P ∧ ∀ H3, Tabbed P H2 H3 → Q (.bl (fold bs)) H3 := fun b a vs ev sq rp => by
    obtain ⟨fp, hh, nd, hf, kp, tt⟩ := id R2
    obtain ⟨ps, ep, ht⟩ := tt P hP
    refine ⟨b, a, vs, bs, ev, sq, each_of rp hb, ⟨ps, ep, ht⟩, fun H3 tb => h _ H3 l ?_⟩
    exact (R2.tail.tab hP tb).pushD rfl
  rcases items_cases h2 with ⟨tk, e1⟩ | e1
  · subst e1
    obtain ⟨a, vs, ev, ht, hr⟩ := R2.getD List.mem_cons_self
    exact fin true a vs ev ht.sq hr
  · subst e1
    obtain ⟨a, vs, ev, ht, hr⟩ := R2.getD List.mem_cons_self
    exact fin false a vs ev ht.sq hr
section
variable {X : Cx} {T : List Addr} {W : XK} {c P : Addr} {elt iter : Expr} {x : Str} {px p pos gpos : Pos} {scope : Scope} {pb : D → Option Bool} {f : Ev} {k : Nat}
theorem d_allG (hr : Room k X.A) (hg : Gl X "all") (hm : X.mg "all" = none) (TB : LamX.TabB X.base X.mg c P) (hP : P ∈ T) (hcode : X.env.code = .ref c) (S : GenS X.env scope x) (d : DE X T W iter f) (hel : EltV X.prog X.w scope x elt (fun y => (unV y).bind pb))
    (hs : ∀ v, genFold iter X.env v = pure v) (hb : bootBuiltins "all" = some (.builtin "all") := by rfl)
    (he : starEach [.GeneratorExp elt [⟨.Name x px, iter, [], 0⟩] scope gpos] X.env = (false, eval (.GeneratorExp elt [⟨.Name x px, iter, [], 0⟩] scope gpos) X.env) :: starEach [] X.env := by rfl) :
    DE X T W (.Call (.Name "all" p) [.GeneratorExp elt [⟨.Name x px, iter, [], 0⟩] scope gpos] [] pos) (genS f pb fun l => l.all fun b => b) := gen_de hP (pe_allG hr hg hm TB hcode S (PE.gh d.pe) hel hs hb he) rfl
theorem d_anyG (hr : Room k X.A) (hg : Gl X "any") (hm : X.mg "any" = none) (TB : LamX.TabB X.base X.mg c P) (hP : P ∈ T) (hcode : X.env.code = .ref c) (S : GenS X.env scope x) (d : DE X T W iter f) (hel : EltV X.prog X.w scope x elt (fun y => (unV y).bind pb))
    (hs : ∀ v, genFold iter X.env v = pure v)
    (he : starEach [.GeneratorExp elt [⟨.Name x px, iter, [], 0⟩] scope gpos] X.env = (false, eval (.GeneratorExp elt [⟨.Name x px, iter, [], 0⟩] scope gpos) X.env) :: starEach [] X.env := by rfl) :
    DE X T W (.Call (.Name "any" p) [.GeneratorExp elt [⟨.Name x px, iter, [], 0⟩] scope gpos] [] pos) (genS f pb fun l => l.any fun b => b) := gen_de hP (pe_anyG hr hg hm TB hcode S (PE.gh d.pe) hel hs he) rfl
end
/-- x % m == n -/
def modEq (m n : Int) : D → Option Bool
  | .int i => some (i % m == n)
  | _ => none
theorem elt_modEq {prog : Program} {w : World} {scope : Scope} {x : Str} {m n : Int} {j1 j2 : Nat} {p1 p2 p3 p4 p5 : Pos} (hm : 0 < m) (hk : scope.kind = .function) (hl : scope.names.lookup x = some .local) (hd : (x == ("__debug__" : Str)) = false := by decide) :
    EltV prog w scope x (.Compare (.BinOp (.Name x p1) .Mod (.Constant (.int m) j1 p2) p3) [.Eq] [.Constant (.int n) j2 p4] p5) (fun y => (unV y).bind (modEq m n)) := by
  intro cenv A' E' y v c s2 m2 hs hn hm2 hr hc
  cases y with
  | int i =>
    obtain ⟨t, rfl⟩ := hr
    obtain rfl : (i % m == n) = c := Option.some.inj hc
    refine wpAny_Compare1 (wpAny_BinOp ?_)
    refine wpAny_Name (wpAny_loadName_local (by rw [hs]; exact hk) (show cenv.scope.names.lookup x = some .local by rw [hs]; exact hl) hn hm2 ?_) hd
    refine wpAny_Constant_int (mod_int' (by omega) ?_)
    rw [Int.fmod_eq_emod_of_nonneg i (by omega)]
    refine wpAny_Constant_int (PyProof.Rows.eq_int ?_)
    exact ⟨rfl, s2.heap, _, rfl, fun _ _ e => e⟩
  | _ => cases hc
end DL


set_option maxHeartbeats 1000000
namespace DL
open PySem PySem.Spec PyProof.Rows L2

/-! ### defs by name -/
/-- the module's name x is a def that keeps the worth den -/
structure Fn (P : Program) (w : World) (K : Frg) (mg : Str → Option Value) (base : Heap) (T : List Addr) (k : Nat) (x : Str) (fl : List Bool) (den : Den) : Prop where
  ex : ∃ f fd ps, FnOk P w K mg base (L2.CX P w) k f fd ps (spF K T fl den) ∧ mg x = some (.ref f) ∧ PySem.W.keepIn K (.ref f) = true ∧ Binds K fd ps []
/-- .. is the def st -/
structure FD (K : Frg) (mg : Str → Option Value) (x : Str) (st : Stmt) : Prop where
  ex : ∃ fd, FunD K x x (defArgs st) (defBody st) (defScope st) [] [] (He.fAd K (x, none)) fd
  mg : mg x = some (.ref (He.fAd K (x, none)))
def BindOk (x : Str) (st : Stmt) (ps : List Str) : Prop := ∀ (kV doc pm : Value) (an : Option Addr) (cdv ct : Value) (us : List Value), us.length = ps.length → bindArgs (PySem.W.fnOf x x (defArgs st) (defBody st) (defScope st) .none kV doc pm an cdv ct) ⟨us, []⟩ = pure (ps.zip us)
section
variable {P : Program} {w : World} {K : Frg} {mg : Str → Option Value} {base : Heap} {T : List Addr} {k : Nat} {x : Str} {st : Stmt} {N ps : List Str} {fl : List Bool} {b : Sv}
abbrev Bx (P : Program) (w : World) (K : Frg) (mg : Str → Option Value) (base : Heap) (N : List Str) (x : Str) (st : Stmt) (cdv : Value) (A : Around) (outer : List PySem.Env) (s : Shared) (H : Hp) (E : XK) : Cx :=
  cxOf (L2.CX P w) P w K mg base N x (defScope st) (He.fAd K (x, none)) cdv A outer s H E
theorem fn_mk (D : FD K mg x st) (S : FnScope N ps (defScope st)) (hfl : fl.length = ps.length) (hb : BindOk x st ps)
    (hbody : ∀ (cdv : Value) (A : Around) (outer : List PySem.Env) (s : Shared) (H : Hp) (E : XK), Room k (Bx P w K mg base N x st cdv A outer s H E).A → DB (Bx P w K mg base N x st cdv A outer s H E) T E (portI fl 0) (defBody st) b) :
    Fn P w K mg base T (k + 1) x fl (denOf N.length fl b) := by
  obtain ⟨fd, F⟩ := D.ex
  exact ⟨_, fd, ps, fn_ok F S hfl fun cdv A outer s H E hr => hbody cdv A outer s H E hr, D.mg, F.kp, F.bindsN hb⟩
theorem fn_mkC {c : Addr} (hc : c = He.codeOf K (x, none)) (D : FD K mg x st) (S : FnScope N ps (defScope st)) (hfl : fl.length = ps.length) (hb : BindOk x st ps)
    (hbody : ∀ (A : Around) (outer : List PySem.Env) (s : Shared) (H : Hp) (E : XK), Room k (Bx P w K mg base N x st (.ref c) A outer s H E).A → DB (Bx P w K mg base N x st (.ref c) A outer s H E) T E (portI fl 0) (defBody st) b) :
    Fn P w K mg base T (k + 1) x fl (denOf N.length fl b) := by
  obtain ⟨fd, F⟩ := D.ex
  refine ⟨_, fd, ps, fn_okC F S hfl (fun oc od osl cdv fd' lk e q => ?_) fun A outer s H E hr => hbody A outer s H E hr, D.mg, F.kp, F.bindsN hb⟩
  obtain ⟨c', e2⟩ := He.codeIn_ref q
  rw [hc, He.codeOf_eq lk (e.trans e2)]
  exact e2
/-- nothing is promised yet -/
theorem fn_bad (D : FD K mg x st) (hfl : fl.length = ps.length) (hb : BindOk x st ps) : Fn P w K mg base T k x fl fun _ => .bad := by
  obtain ⟨fd, F⟩ := D.ex
  refine ⟨_, fd, ps, ⟨fun vs H Q E h => by rw [h.1, hfl], fun A outer s H args us vs Q E hr e0 hb r h => ?_⟩, D.mg, F.kp, F.bindsN hb⟩
  obtain ⟨_, ss, fp, _, _, _, z⟩ := h
  exact z.elim
theorem Fn.up {j : Nat} {den : Den} (F : Fn P w K mg base T j x fl den) (h : j ≤ k) : Fn P w K mg base T k x fl den := by
  obtain ⟨f, fd, ps, h1, h2, h3, h4⟩ := F
  exact ⟨f, fd, ps, ⟨h1.len, fun A outer s H args us vs Q E hr => h1.run A outer s H args us vs Q E (hr.mono h)⟩, h2, h3, h4⟩
theorem pass_fn {cdv : Value} {A : Around} {outer : List PySem.Env} {s : Shared} {H : Hp} {E : XK} : Passes (L2.CX P w) (Bx P w K mg base N x st cdv A outer s H E) E :=
  passes_call (W := fun cls d _ H' => E cls d H') (takes_of (X := Bx P w K mg base N x st cdv A outer s H E) (E := E) rfl rfl rfl rfl) fun _ _ _ _ h => h
theorem own_fn {cdv : Value} {A : Around} {outer : List PySem.Env} {s : Shared} {H : Hp} {E : XK} : PassesOwn (model P w) (Bx P w K mg base N x st cdv A outer s H E).A (Bx P w K mg base N x st cdv A outer s H E).env (Bx P w K mg base N x st cdv A outer s H E).xe :=
  passes_of (X := Bx P w K mg base N x st cdv A outer s H E) rfl
end
section
variable {X : Cx} {T : List Addr} {W : XK} {k j : Nat} {fl : List Bool} {den : Den} {x : Str} {p pos : Pos} {e : Expr} {es : List Expr} {as : List Opd} {d : D}
theorem d_cal (C : Fn X.prog X.w X.K X.mg X.base T k x fl den) (hx : Passes (L2.CX X.prog X.w) X W) (hr : Room j X.A) (da : DA X T W (e :: es) as) (hk : k ≤ j := by decide) (hg : Gl X x := by rfl)
    (hdb : (x == ("__debug__" : Str)) = false := by decide) (he : starEach (e :: es) X.env = (false, eval e X.env) :: starEach es X.env := by rfl) (hpl : (backTo pos (starEach es X.env)).any (·.1) = false := by rfl) :
    DE X T W (.Call (.Name x p) (e :: es) [] pos) (callS fl den as) := by
  obtain ⟨f, fd, ps, h1, h2, h3, h4⟩ := C
  exact d_call h1 (hr.mono hk) hg h2 h3 h4 hx da hdb he hpl
theorem d_cal0 (C : Fn X.prog X.w X.K X.mg X.base T k x fl den) (hx : Passes (L2.CX X.prog X.w) X W) (hr : Room j X.A) (hk : k ≤ j := by decide) (hg : Gl X x := by rfl)
    (hdb : (x == ("__debug__" : Str)) = false := by decide) : DE X T W (.Call (.Name x p) [] [] pos) (callS fl den []) := by
  obtain ⟨f, fd, ps, h1, h2, h3, h4⟩ := C
  exact d_call0 h1 (hr.mono hk) hg h2 h3 h4 hx hdb
/-- the module's name x is the frozen value d -/
structure Kc (K : Frg) (mg : Str → Option Value) (x : Str) (d : D) : Prop where
  ex : ∃ u v, mg x = some u ∧ RelV v u ∧ ∀ H, RepD K H d v
theorem d_glo (C : Kc X.K X.mg x d) (hg : Gl X x := by rfl) (hdb : (x == ("__debug__" : Str)) = false := by decide) : DE X T W (.Name x p) (vC d) := by
  obtain ⟨u, v, h1, h2, h3⟩ := C
  exact d_const (pe_glob hg h1 h2 hdb) h3
end
theorem gen_scope {env : PySem.Env} {scope : Scope} {x : Str} (h : (scope.kind == .function && !scope.isCoroutine && scope.names.all fun y => y.2 == .local || y.2 == .globalImplicit) = true) (h2 : scope.names.lookup (".0" : Str) = some NameKind.local) (h3 : scope.names.lookup x = some .local) : GxR.GenS env scope x := by
  simp only [Bool.and_eq_true, Bool.not_eq_true', List.all_eq_true, Bool.or_eq_true, beq_iff_eq] at h
  obtain ⟨⟨k1, k2⟩, k3⟩ := h
  refine ⟨k1, k2, fun y hy z => ?_, h2, h3, fun y hy z => ?_⟩
  · rcases k3 y hy with q | q <;> rw [q] at z <;> cases z
  · rcases k3 y hy with q | q <;> rw [q] at z <;> cases z
/-- a comprehension's block, by a run -/
def blkB (N : List Str) (sc scope : Scope) (own : List (Str × Nat)) : Bool :=
  scope.kind == .function && (scope.names.all fun y => scope.names.lookup y.1 == some y.2) && (own.all fun p => N[p.2]? == some p.1) &&
  (scope.names.all fun y => y.2 != .free || sc.names.lookup y.1 == some .cell || sc.names.lookup y.1 == some .free) &&
  (scope.names.all fun y => !(y.2 == .local || y.2 == .cell) || (own.map (·.1)).contains y.1 || !N.contains y.1)
theorem blk_of {N : List Str} {sc scope : Scope} {own : List (Str × Nat)} (h : blkB N sc scope own = true) : BlkOk N sc scope own := by
  unfold blkB at h
  simp only [Bool.and_eq_true, List.all_eq_true, Bool.or_eq_true, beq_iff_eq, bne_iff_ne, Bool.not_eq_true', List.contains_eq_mem, decide_eq_true_eq, decide_eq_false_iff_not] at h
  obtain ⟨⟨⟨⟨k1, k2⟩, k3⟩, k4⟩, k5⟩ := h
  refine ⟨k1, k2, k3, fun y hy z => ?_, fun y hy z => ?_⟩
  · rcases k4 y hy with (q | q) | q
    · exact absurd z q
    · exact .inl q
    · exact .inr q
  · rcases k5 y hy with (q | q) | q
    · rcases z with z | z <;> rw [z] at q <;> exact absurd q (by decide)
    · exact .inl q
    · exact .inr q
section
variable {X : Cx} {T : List Addr} {W : XK} {P : List Nat} {i : Nat} {y : Str} {py spos : Pos} {elt tge iter : Expr} {ifs : List Expr} {scope : Scope} {own : List (Str × Nat)} {pos : Pos} {it : Iv} {tg : Tg} {c : Tv} {f : Ev} {Wd ow : List Nat}
theorem d_lcx (hc : X.calm = true) (hN : X.N.Nodup) (di : DI X T W tge iter it) (ok : BlkOk X.N X.env.scope scope own)
    (dg : ∀ (s : Shared) (H : Hp) (C : Addr) (cl : List (Str × Addr)) (fp : List Addr), DG (X.blk s H scope (compEnvC scope cl C X.env) fp) T Wd tge tg) (dt : ∀ (s : Shared) (H : Hp) (C : Addr) (cl : List (Str × Addr)) (fp : List Addr), DTs (X.blk s H scope (compEnvC scope cl C X.env) fp) T W0 ifs c)
    (de : ∀ (s : Shared) (H : Hp) (C : Addr) (cl : List (Str × Addr)) (fp : List Addr), DE (X.blk s H scope (compEnvC scope cl C X.env) fp) T W0 elt f) (how : own.map (·.2) = ow := by rfl) (how2 : Wd = ow := by rfl) (nd : ow.Nodup := by decide)
    (hs : ∀ x, foldedSetIterable iter X.env x = pure x := by intro _; rfl) : DE X T W (.ListComp elt [⟨tge, iter, ifs, 0⟩] scope pos) (lcS it tg c f ow) := by
  subst how
  subst how2
  exact d_lc hc hN di ok dg dt de nd (fun _ h => h) hs
theorem ds_setLcx (hc : X.calm = true) (hN : X.N.Nodup) (hy : X.N[i]? = some y) (hyl : X.env.scope.names.lookup y = some .local)
    (hsw : swapsWith (.ListComp elt [⟨tge, iter, ifs, 0⟩] scope pos) (some (.Name y py)) spos.line X.env = pure true) (di : DI X T W tge iter it) (ok : BlkOk X.N X.env.scope scope own)
    (dg : ∀ (s : Shared) (H : Hp) (C : Addr) (cl : List (Str × Addr)) (fp : List Addr), DG (X.blk s H scope (compEnvC scope cl C X.env) fp) T Wd tge tg) (dt : ∀ (s : Shared) (H : Hp) (C : Addr) (cl : List (Str × Addr)) (fp : List Addr), DTs (X.blk s H scope (compEnvC scope cl C X.env) fp) T W0 ifs c)
    (de : ∀ (s : Shared) (H : Hp) (C : Addr) (cl : List (Str × Addr)) (fp : List Addr), DE (X.blk s H scope (compEnvC scope cl C X.env) fp) T W0 elt f) (hp : P.contains i = false := by rfl) (how : own.map (·.2) = ow := by rfl) (how2 : Wd = ow := by rfl) (nd : ow.Nodup := by decide)
    (hs : ∀ x, foldedSetIterable iter X.env x = pure x := by intro _; rfl) : DS X T W P (.Assign [.Name y py] (.ListComp elt [⟨tge, iter, ifs, 0⟩] scope pos) spos) (setS i (lcS it tg c f ow)) := by
  subst how
  subst how2
  exact ds_setLc hc hN hy hyl hsw di ok dg dt de hp nd (fun _ h => h) hs
end
/-- a target of several names, from a tuple or a list -/
def tgSeq (u : List D → Env → Option Env) : Tg := fun r e => match r with
  | .v (.tg _ ds) => u ds e
  | .v (.lst ds) => u ds e
  | _ => none
theorem dg_seq {X : Cx} {T : List Addr} {Wd : List Nat} {es : List Expr} {u : List D → Env → Option Env} {k n : Nat} {pos : Pos} (hc : X.calm = true) (h : DGs X T Wd es u) (hn : (assignEach es X.env).length = n := by rfl) (hu : ∀ ds e e', u ds e = some e' → ds.length = n)
    (hst : (assignEach es X.env).findIdx? (·.1) = none := by rfl) : DG X T Wd (.Tuple es k pos) (tgSeq u) := ⟨⟨fun pins s σ H v w Q I r q => by
  obtain ⟨g, env, ts, x, env', len, R, e, kk⟩ := q
  unfold tgSeq at e
  split at e
  · exact (dg_tup (T := T) (k := k) (pos := pos) hc h hn hu hst).pg.run pins s σ H v w Q I r ⟨g, env, ts, _, env', len, R, e, kk⟩
  · exact (dg_lst (T := T) (k := k) (pos := pos) hc h hn hu hst).pg.run pins s σ H v w Q I r ⟨g, env, ts, _, env', len, R, e, kk⟩
  · cases e⟩⟩
/-! ### short names -/
abbrev addO : List Sl → Option Sl := addS
noncomputable abbrev mulO : List Sl → Option Sl := mulS
abbrev subO : List Sl → Option Sl := i2 (fun _ _ => true) fun i j => .int (i - j)
abbrev fdivO : List Sl → Option Sl := i2 divC fun i j => .int (i / j)
abbrev modO : List Sl → Option Sl := i2 modC fun i j => .int (i % j)
abbrev powO : List Sl → Option Sl := i2 powC fun i j => .int (i ^ j.toNat)
noncomputable abbrev shlO : List Sl → Option Sl := i2 shlC fun i j => .int (i * 2 ^ j.toNat)
abbrev shrO : List Sl → Option Sl := i2 shrC fun i j => .int (i / 2 ^ j.toNat)
abbrev bandO : List Sl → Option Sl := i2 (fun _ _ => true) fun i j => .int (Builtin.bitAnd i j)
abbrev borO : List Sl → Option Sl := i2 (fun _ _ => true) fun i j => .int (Builtin.bitOr i j)
abbrev bxorO : List Sl → Option Sl := i2 (fun _ _ => true) fun i j => .int (Builtin.bitXor i j)
abbrev negO : List Sl → Option Sl := i1 fun i => .int (-i)
/-- a while's bound -/
noncomputable def FU : Nat := Classical.choose (hide (2 ^ 30 : Nat))
theorem FU_eq : FU = 2 ^ 30 := Classical.choose_spec (hide (2 ^ 30 : Nat))
end DL


set_option maxHeartbeats 1000000
namespace DL
open PySem PySem.Spec PyProof.Rows L2
section
variable {P : Program} {w : World} {K : Frg} {mg : Str → Option Value} {base : Heap} {T : List Addr} {k : Nat} {x : Str} {st : Stmt} {N ps : List Str} {fl : List Bool} {b : Sv} {fd : FuncData}
theorem fn_at (F : FunD K x x (defArgs st) (defBody st) (defScope st) [] [] (He.fAd K (x, none)) fd) (S : FnScope N ps (defScope st)) (hfl : fl.length = ps.length)
    (hbody : ∀ (cdv : Value) (A : Around) (outer : List PySem.Env) (s : Shared) (H : Hp) (E : XK), Room k (Bx P w K mg base N x st cdv A outer s H E).A → DB (Bx P w K mg base N x st cdv A outer s H E) T E (portI fl 0) (defBody st) b) :
    FnOk P w K mg base (L2.CX P w) (k + 1) (He.fAd K (x, none)) fd ps (spF K T fl (denOf N.length fl b)) := fn_ok F S hfl fun cdv A outer s H E hr => hbody cdv A outer s H E hr
end
/-- a script as the law's def takes it -/
def IsScript (ns : List Int) (s : Sl) : Prop := s = .v (.lst (ns.map .int)) ∨ s = .o (ns.map fun i => .v (.int i))
theorem repDs_ints {K : Frg} {H : Hp} : ∀ ns : List Int, RepDs K H (ns.map .int) (ns.map V.int)
  | [] => rfl
  | n :: ns => ⟨_, _, rfl, rfl, repDs_ints ns⟩
theorem rps_ints {K : Frg} {H : Hp} : ∀ ns : List Int, Rps K H (ns.map fun i => .v (.int i)) (ns.map V.int) []
  | [] => ⟨rfl, rfl⟩
  | n :: ns => ⟨_, _, [], [], rfl, ⟨rfl, _, rfl, rfl⟩, rps_ints ns, rfl⟩
theorem law_at {l : PySem.W.OpenLaw} {w : World} {K : Frg} {mg : Str → Option Value} {h : Heap} {a : Addr} {fas : List He.Fa} {fn : List He.DefD} {ts : List He.Tab} {tf : List He.Defn} {ex : Frg → Bool} {params : Arguments} {body : List Stmt} {scope : Scope} {fd : FuncData} {k n : Nat} {x : Str} {den : Den}
    (KX : K.In h) (c : He.SaysX fas fn ts tf ex w h K) (F : FunD K "law" "law" params body scope [] [] a fd)
    (hb : ∀ (kV doc pm : Value) (an : Option Addr) (cdv ct : Value) (us : List Value), us.length = [x].length → bindArgs (PySem.W.fnOf "law" "law" params body scope .none kV doc pm an cdv ct) ⟨us, []⟩ = pure ([x].zip us))
    (hden : ∀ (ns : List Int) (s : Sl), ns.length ≤ n → (∀ z ∈ ns, Builtin.Int.intBits z ≤ 1048576) → IsScript ns s → den [s] = .ret (.v (.bl true)) [])
    (hF : ∀ base : Heap, K.In base → base.Ns mainGlobals mg → (∀ p ∈ tf, LamX.TabB base mg (He.cT K p).1 (He.cT K p).2) → FnOk l.prog w K mg base (L2.CX l.prog w) k a fd [x] (spF K (tf.map fun p => (He.cT K p).2) [false] den)) :
    LamX.LawAtS l w K (L2.CX l.prog w) k n x mg a h := by
  refine ⟨fd, tf.map (He.cT K), spF K (tf.map fun p => (He.cT K p).2) [false] den, fun p hp => ?_, fun p hp => ?_, fun p hp => ?_, fun s u => ?_, fun H b ns hl hbits hT hS => ?_, fun base h1 h2 h3 => ?_⟩
  · obtain ⟨q, hq, e⟩ := List.mem_map.mp hp
    rw [← e]
    exact c.empty q hq
  · obtain ⟨q, hq, e⟩ := List.mem_map.mp hp
    rw [← e]
    exact c.out q hq
  · obtain ⟨q, hq, e⟩ := List.mem_map.mp hp
    rw [← e]
    exact PySem.W.codeHd_of_K KX (c.hd q hq)
  · exact F.bindsA hb s [u] rfl
  · have tb : Tabs (tf.map fun p => (He.cT K p).2) H := fun p hp => by
      obtain ⟨q, hq, e⟩ := List.mem_map.mp hp
      rw [← e]
      exact ⟨#[], hT _ (List.mem_map.mpr ⟨q, hq, rfl⟩), by first | trivial | (intro z hz; simp at hz) | simp [TriplesOk]⟩
    have fin : ∀ (s : Sl) (fp : List Addr), Rps K H [s] [.ref b] fp → fp.Nodup → IsScript ns s → spF K (tf.map fun p => (He.cT K p).2) [false] den [.ref b] H (fun v _ => v = .bl true) fun _ _ _ => False := fun s fp hr nd hs => by
      refine ⟨rfl, [s], fp, hr, nd, tb, ?_⟩
      rw [hden ns s hl hbits hs]
      rintro v H' ⟨_, fq, hq, _⟩
      obtain ⟨f1, f2, ⟨_, v', e, hv⟩, _⟩ := hq
      cases e
      exact hv
    rcases hS with (h1 | ⟨ob, h1⟩) | h1
    · refine fin (.o (ns.map fun i => .v (.int i))) [b] ⟨.ref b, [], [b], [], rfl, ⟨b, ns.map V.int, [], rfl, h1, rps_ints ns, rfl⟩, ⟨rfl, rfl⟩, rfl⟩ (by simp) (.inr rfl)
    · exact fin (.v (.lst (ns.map .int))) [] ⟨.ref b, [], [], [], rfl, ⟨rfl, _, rfl, b, _, rfl, .inl ⟨ob, h1⟩, repDs_ints ns⟩, ⟨rfl, rfl⟩, rfl⟩ List.nodup_nil (.inl rfl)
    · exact fin (.v (.lst (ns.map .int))) [] ⟨.ref b, [], [], [], rfl, ⟨rfl, _, rfl, b, _, rfl, .inr h1, repDs_ints ns⟩, ⟨rfl, rfl⟩, rfl⟩ List.nodup_nil (.inl rfl)
  · exact hF base h1 h2 fun p hp => h3 _ (List.mem_map.mpr ⟨p, hp, rfl⟩)
theorem law_cx {P : Program} (w : World) (H : Hp) (s : Shared) (e : Value) (s' : Shared) (h : L2.CX P w [] H s (fun _ _ _ => False) e s') : False := by
  obtain ⟨_, _, _, _, _, _, _, _, _, _, _, _, z⟩ := h
  exact z
/-- a tuple of the module -/
theorem kc_tup {K : Frg} {mg : Str → Option Value} {x : Str} {vs : List He.Dv} {ds : List D} (hg : mg x = some (.ref (He.ga K x))) (h : He.tupB K x vs = true) (hd : ∀ H, RepDs K H ds (vs.map (He.Dv.v K))) : Kc K mg x (.tup ds) :=
  ⟨_, .ref (He.ga K x), hg, rfl, fun H => ⟨_, _, rfl, He.tupB_ok h H, hd H⟩⟩
end DL


set_option maxHeartbeats 1000000
namespace DL
open PySem PySem.Spec PyProof.Rows L2
/-! rows for simp: each combinator at an environment -/
section
variable {env e : Env} {d : D} {ds : List D} {xs ys : List Sl} {s r : Sl} {i j : Int} {n m : Nat} {as : List Opd} {rs : List (Option Sl)} {f g : Ev} {c c2 : Tv} {b b2 : Sv}
@[simp] theorem gt_v : gt (.v d :: env) 0 = some (.v d) := rfl
@[simp] theorem gt_o : gt (.o xs :: env) 0 = some (.o xs) := rfl
@[simp] theorem gt_u : gt (.u :: env) 0 = none := rfl
@[simp] theorem gt_k {ks : List Key} : gt (.k ks ds :: env) 0 = some (.k ks ds) := rfl
@[simp] theorem gt_t {ks : List (List Key)} : gt (.t ks ds :: env) 0 = some (.t ks ds) := rfl
@[simp] theorem gt_i {C : Addr} {ns : List Str} : gt (.i C ns xs :: env) 0 = some (.i C ns xs) := rfl
@[simp] theorem gt_S : gt (s :: env) (n + 1) = gt env n := rfl
@[simp] theorem evA_nil : evA [] env = .ok [] env := rfl
@[simp] theorem evA_nm : evA (.nm n :: as) env = (Rs.of (gt env n) env).bind fun _ _ => (evA as env).bind fun rs e1 => .ok (none :: rs) e1 := rfl
@[simp] theorem evA_ex : evA (.ex f :: as) env = (f env).bind fun r e1 => (evA as e1).bind fun rs e2 => .ok (some r :: rs) e2 := rfl
@[simp] theorem cont_nil : cont [] [] env = [] := rfl
@[simp] theorem cont_nm : cont (.nm n :: as) (none :: rs) env = env.getD n .u :: cont as rs env := rfl
@[simp] theorem cont_ex : cont (.ex f :: as) (some r :: rs) env = r :: cont as rs env := rfl
@[simp] theorem opS_at {op : List Sl → Option Sl} : opS op as env = (evA as env).bind fun rs e => Rs.of (op (cont as rs e)) e := rfl
@[simp] theorem vC_at : vC d env = .ok (.v d) env := rfl
@[simp] theorem vVar_at : vVar n env = (Rs.of ((gt env n).bind toD) env).bind fun d e => .ok (.v d) (e.set n (.v d)) := rfl
@[simp] theorem toD_v : toD (.v d) = some d := rfl
@[simp] theorem toD_o : toD (.o xs) = (toDs xs).map .lst := by
  unfold toD
  cases toDs xs <;> rfl
@[simp] theorem toDs_nil : toDs [] = some [] := rfl
@[simp] theorem toDs_cons : toDs (s :: xs) = (toD s).bind fun d => (toDs xs).map (d :: ·) := by
  show (match toD s with
    | some d => match toDs xs with
      | some ds => some (d :: ds)
      | none => none
    | none => none) = _
  cases toD s <;> cases toDs xs <;> rfl
@[simp] theorem frzA_nil : frzA [] [] env = .ok [] env := rfl
@[simp] theorem frzA_nm {o : Option Sl} : frzA (.nm n :: as) (o :: rs) env = (Rs.of ((gt env n).bind toD) env).bind fun d e => (frzA as rs (e.set n (.v d))).bind fun ds e2 => .ok (d :: ds) e2 := rfl
@[simp] theorem frzA_xx : frzA (.ex f :: as) (some r :: rs) env = (Rs.of (toD r) env).bind fun d e => (frzA as rs e).bind fun ds e2 => .ok (d :: ds) e2 := rfl
@[simp] theorem movA_nil : movA [] [] env = .ok [] env := rfl
@[simp] theorem movA_nm {o : Option Sl} : movA (.nm n :: as) (o :: rs) env = (Rs.of ((gt env n).bind toD) env).bind fun d e => (movA as rs (e.set n (.v d))).bind fun ds e2 => .ok (.v d :: ds) e2 := rfl
@[simp] theorem movA_ex : movA (.ex f :: as) (some r :: rs) env = (movA as rs env).bind fun ds e2 => .ok (r :: ds) e2 := rfl
@[simp] theorem vTup_at {k : TK} : vTg k as env = (evA as env).bind fun rs e => (frzA as rs e).bind fun ds e2 => .ok (.v (.tg k ds)) e2 := rfl
@[simp] theorem vLst_at : vLst as env = (evA as env).bind fun rs e => (movA as rs e).bind fun ds e2 => .ok (.o ds) e2 := rfl
@[simp] theorem prepA_nil : prepA [] [] [] env = .ok [] env := rfl
@[simp] theorem prepA_fnm {fl : List Bool} {o : Option Sl} : prepA (false :: fl) (.nm n :: as) (o :: rs) env = (Rs.of ((gt env n).bind toD) env).bind fun d e => (prepA fl as rs (e.set n (.v d))).bind fun ds e2 => .ok (.v d :: ds) e2 := rfl
@[simp] theorem prepA_fex {fl : List Bool} : prepA (false :: fl) (.ex f :: as) (some r :: rs) env = (Rs.of (toD r) env).bind fun d e => (prepA fl as rs e).bind fun ds e2 => .ok (.v d :: ds) e2 := rfl
@[simp] theorem prepA_tnm {fl : List Bool} {o : Option Sl} : prepA (true :: fl) (.nm n :: as) (o :: rs) env = (Rs.of (gt env n) env).bind fun s e => (prepA fl as rs (e.set n .u)).bind fun ds e2 => .ok (s :: ds) e2 := rfl
@[simp] theorem prepA_tex {fl : List Bool} : prepA (true :: fl) (.ex f :: as) (some r :: rs) env = (prepA fl as rs env).bind fun ds e2 => .ok (r :: ds) e2 := rfl
@[simp] theorem postA_nil : postA [] as xs env = env := by
  unfold postA; rfl
@[simp] theorem postA_f {fl : List Bool} {a : Opd} : postA (false :: fl) (a :: as) xs env = postA fl as xs env := rfl
@[simp] theorem postA_tnm {fl : List Bool} : postA (true :: fl) (.nm n :: as) (s :: xs) env = (postA fl as xs env).set n s := rfl
@[simp] theorem postA_tex {fl : List Bool} : postA (true :: fl) (.ex f :: as) (s :: xs) env = postA fl as xs env := rfl
@[simp] theorem callS_at {fl : List Bool} {den : Den} : callS fl den as env = (evA as env).bind fun rs e1 => (prepA fl as rs e1).bind fun ss e2 => (den ss).to fl as e2 := rfl
/-! statements -/
@[simp] theorem skipS_at : skipS env = .ok .nx env := rfl
/-- what comes behind an outcome -/
def Rs.goOn (r : Rs Out) (b : Sv) : Rs Out := r.bind fun o e => match o with
  | .nx => b e
  | o => .ok o e
@[simp] theorem goOn_nx : (Rs.ok Out.nx e).goOn b = b e := rfl
@[simp] theorem goOn_rt : (Rs.ok (Out.rt s) e).goOn b = .ok (.rt s) e := rfl
@[simp] theorem goOn_bk : (Rs.ok Out.bk e).goOn b = .ok .bk e := rfl
@[simp] theorem goOn_ct : (Rs.ok Out.ct e).goOn b = .ok .ct e := rfl
@[simp] theorem goOn_ex {x : Ex} : (Rs.ex x).goOn b = .ex x := rfl
@[simp] theorem goOn_ite {p : Prop} [Decidable p] {x y : Rs Out} : (if p then x else y).goOn b = if p then x.goOn b else y.goOn b := by split <;> rfl
@[simp] theorem seqS_at : seqS b b2 env = (b env).goOn b2 := rfl
@[simp] theorem setS_at : setS n f env = (f env).bind fun r e => .ok .nx (e.set n r) := rfl
@[simp] theorem retS_at : retS f env = (f env).bind fun r e => .ok (.rt r) e := rfl
@[simp] theorem movS_at : movS n env = (Rs.of (gt env n) env).bind fun r e => .ok (.rt r) (e.set n .u) := rfl
@[simp] theorem dropS_at : dropS f env = (f env).bind fun _ e => .ok .nx e := rfl
@[simp] theorem ifS_at : ifS c b b2 env = (c env).bind fun k e => if k = true then b e else b2 e := rfl
@[simp] theorem asgS_at {tg : Tg} : asgS tg f env = (f env).bind fun r e => (Rs.of (tg r e) e).bind fun e2 _ => .ok .nx e2 := rfl
@[simp] theorem augN_at {op : Int → Int → Int} : augN op n f env = (Rs.of ((gt env n).bind intOf) env).bind fun old e0 => (f e0).bind fun r e1 => (Rs.of (intOf r) e1).bind fun new e1 => .ok .nx (e1.set n (.v (.int (op old new)))) := rfl
@[simp] theorem augI_at {op : Int → Int → Int} : augI op n g f env = (Rs.of (gt env n) env).bind fun _ e0 => (g e0).bind fun k e1 => (Rs.of (intOf k) e1).bind fun j e1 => (Rs.of (DL.listAt e1 n) e1).bind fun xs e1 => (Rs.of ((atI xs j).bind intOf) e1).bind fun old e1 =>
  (f e1).bind fun r e2 => (Rs.of (intOf r) e2).bind fun new e2 => (Rs.of (DL.listAt e2 n) e2).bind fun ys e2 => (Rs.of (ixN ys.length j) e2).bind fun m e2 => .ok .nx (e2.set n (.o (ys.set m (.v (.int (op old new)))))) := rfl
@[simp] theorem setI_at : setI n g f env = (f env).bind fun r e1 => (Rs.of (gt e1 n) e1).bind fun _ e1 => (g e1).bind fun k e2 => (Rs.of (intOf k) e2).bind fun j e2 => (Rs.of (DL.listAt e2 n) e2).bind fun xs e2 => (Rs.of (ixN xs.length j) e2).bind fun m e2 => .ok .nx (e2.set n (.o (xs.set m r))) := rfl
@[simp] theorem listAt_o : DL.listAt (.o xs :: env) 0 = some xs := rfl
@[simp] theorem listAt_S : DL.listAt (s :: env) (n + 1) = DL.listAt env n := rfl
@[simp] theorem mutS_at {op : List Sl → List Sl → Option (Sl × List Sl)} : mutS n op as env = (Rs.of (DL.listAt env n) env).bind fun _ e0 => (evA as e0).bind fun rs e1 => (movA as rs e1).bind fun ys e2 => (Rs.of (DL.listAt e2 n) e2).bind fun xs e2 => (Rs.of (op xs ys) e2).bind fun p e2 => .ok p.1 (e2.set n (.o p.2)) := rfl
def fin2 (i j : Nat) : List Sl → Env → Rs Out
  | [a, b], e2 => .ok .nx ((e2.set i a).set j b)
  | _, _ => .bad
def fin3 (i j l : Nat) : List Sl → Env → Rs Out
  | [a, b, c], e2 => .ok .nx (((e2.set i a).set j b).set l c)
  | _, _ => .bad
@[simp] theorem fin2_at {i j : Nat} : fin2 i j [s, r] e = .ok .nx ((e.set i s).set j r) := rfl
@[simp] theorem fin3_at {i j l : Nat} {t : Sl} : fin3 i j l [s, r, t] e = .ok .nx (((e.set i s).set j r).set l t) := rfl
@[simp] theorem par2_at {i j : Nat} : par2 i j as env = (evA as env).bind fun rs e1 => (movA as rs e1).bind fun ys e2 => fin2 i j ys e2 := by
  unfold par2
  congr
  funext rs e1
  congr
  funext ys e2
  match ys with
  | [] => rfl
  | [_] => rfl
  | [_, _] => rfl
  | _ :: _ :: _ :: _ => rfl
@[simp] theorem par3_at {i j l : Nat} : par3 i j l as env = (evA as env).bind fun rs e1 => (movA as rs e1).bind fun ys e2 => fin3 i j l ys e2 := by
  unfold par3
  congr
  funext rs e1
  congr
  funext ys e2
  match ys with
  | [] => rfl
  | [_] => rfl
  | [_, _] => rfl
  | [_, _, _] => rfl
  | _ :: _ :: _ :: _ :: _ => rfl
/-! tests, values -/
@[simp] theorem tstB_at : tstB f env = (f env).bind fun r e => Rs.of (boolOf r) e := rfl
@[simp] theorem truA_at {A : Opd} : truA A env = (evA [A] env).bind fun rs e => Rs.of ((cont [A] rs e).head?.bind truS) e := rfl
@[simp] theorem andT_at : andT c c2 env = (c env).bind fun x e => if x = true then c2 e else .ok false e := rfl
@[simp] theorem orT_at : orT c c2 env = (c env).bind fun x e => if x = true then .ok true e else c2 e := rfl
@[simp] theorem notT_at : notT c env = (c env).bind fun x e => .ok (!x) e := rfl
@[simp] theorem andV_at : andV f g env = (f env).bind fun x e => (Rs.of (boolOf x) e).bind fun k e => if k = true then g e else .ok (.v (.bl false)) e := rfl
@[simp] theorem orV_at : orV f g env = (f env).bind fun x e => (Rs.of (boolOf x) e).bind fun k e => if k = true then .ok (.v (.bl true)) e else g e := rfl
@[simp] theorem notV_at : notV f env = (f env).bind fun x e => (Rs.of (boolOf x) e).bind fun k e => .ok (.v (.bl (!k))) e := rfl
@[simp] theorem ifV_at : ifV c f g env = (c env).bind fun k e => if k = true then f e else g e := rfl
@[simp] theorem yesT_at : yesT env = .ok true env := rfl
@[simp] theorem truS_bl {k : Bool} : truS (.v (.bl k)) = some k := rfl
@[simp] theorem truS_int : truS (.v (.int i)) = some (i != 0) := rfl
@[simp] theorem truS_o : truS (.o xs) = some (!xs.isEmpty) := rfl
@[simp] theorem truS_lst : truS (.v (.lst ds)) = some (!ds.isEmpty) := rfl
@[simp] theorem truS_tup {k : TK} : truS (.v (.tg k ds)) = some (!ds.isEmpty) := rfl
/-! targets, walks -/
@[simp] theorem tgN_at : tgN n s env = some (env.set n s) := rfl
@[simp] theorem tgTup_at {k : TK} {u : List D → Env → Option Env} : tgTup u (.v (.tg k ds)) env = u ds env := rfl
@[simp] theorem tgSeq_tup {k : TK} {u : List D → Env → Option Env} : tgSeq u (.v (.tg k ds)) env = u ds env := rfl
@[simp] theorem tgSeq_lst {u : List D → Env → Option Env} : tgSeq u (.v (.lst ds)) env = u ds env := rfl
@[simp] theorem tgNil_at : tgNil [] env = some env := rfl
@[simp] theorem tgCons_at {t : Tg} {u : List D → Env → Option Env} : tgCons t u (d :: ds) env = (t (.v d) env).bind (u ds) := rfl
@[simp] theorem rng1_at : rng1 f env = (f env).bind fun r e => (Rs.of (intOf r) e).bind fun j e => if rngB j = true then .ok (rangeD 0 j.toNat) e else .bad := rfl
@[simp] theorem seqI_at : seqI f env = (f env).bind fun r e => (Rs.of ((toD r).bind itemsD) e).bind fun ds e => .ok ds e := rfl
@[simp] theorem itemsD_tup {k : TK} : itemsD (.tg k ds) = some ds := rfl
@[simp] theorem itemsD_lst : itemsD (.lst ds) = some ds := rfl
@[simp] theorem enumI_at : enumI f env = (f env).bind fun r e => (Rs.of ((toD r).bind itemsD) e).bind fun ds e => .ok (enumD ds) e := rfl
def zipF : List D → Env → Rs (List D)
  | [a, b], e => (Rs.of ((itemsD a).bind fun xs => (itemsD b).map fun ys => zipD xs ys) e).bind fun ds e => .ok ds e
  | _, _ => .bad
@[simp] theorem forE_at {it : Iv} {tg : Tg} : forE it tg b env = (it env).bind fun ds e => forS tg b ds e := rfl
/-- behind a turn -/
def Rs.turn (r : Rs Out) (k : Sv) : Rs Out := r.bind fun o e2 => match o with
    | .nx => k e2
    | .ct => k e2
    | .bk => .ok .nx e2
    | .rt r => .ok (.rt r) e2
@[simp] theorem turn_nx : (Rs.ok Out.nx e).turn b = b e := rfl
@[simp] theorem turn_ct : (Rs.ok Out.ct e).turn b = b e := rfl
@[simp] theorem turn_bk : (Rs.ok Out.bk e).turn b = .ok .nx e := rfl
@[simp] theorem turn_rt : (Rs.ok (Out.rt s) e).turn b = .ok (.rt s) e := rfl
@[simp] theorem turn_ex {x : Ex} : (Rs.ex x).turn b = .ex x := rfl
@[simp] theorem forS_nil {tg : Tg} : forS tg b [] env = .ok .nx env := rfl
@[simp] theorem forS_cons {tg : Tg} : forS tg b (d :: ds) env = (Rs.of (tg (.v d) env) env).bind fun e1 _ => (b e1).turn (forS tg b ds) := rfl
@[simp] theorem lcS_at {it : Iv} {tg : Tg} {own : List Nat} : lcS it tg c f own env = (it env).bind fun ds e => if ds.length ≤ sizeLine then (lcG tg c f own ds [] (wipeE own e)).bind fun r e2 => .ok r (restE own e e2) else .bad := rfl
@[simp] theorem lcG_nil {tg : Tg} {own : List Nat} : lcG tg c f own [] xs env = .ok (.o xs) env := rfl
@[simp] theorem lcG_cons {tg : Tg} {own : List Nat} : lcG tg c f own (d :: ds) xs env = (Rs.of (tg (.v d) env) env).bind fun e1 _ => (c e1).nox.bind fun b e2 => if b = true then (f e2).nox.bind fun r e3 => lcG tg c f own ds (xs ++ [r]) (wipeE own e3) else lcG tg c f own ds xs (wipeE own e2) := rfl
@[simp] theorem wipe_nil : wipeE [] env = env := rfl
@[simp] theorem wipe_cons {v : Nat} {vs : List Nat} : wipeE (v :: vs) env = (wipeE vs env).set v .u := rfl
@[simp] theorem rest_nil : restE [] e env = env := rfl
@[simp] theorem rest_cons {v : Nat} {vs : List Nat} : restE (v :: vs) e env = (restE vs e env).set v (e.getD v .u) := rfl
theorem rngB_nat {n : Nat} (h : n < 1000000000000) : rngB (n : Int) = true := by
  rw [rngB_at]
  exact decide_eq_true (by omega)
theorem rngB_lit {i : Int} (h : decide (-1000000000000 < i ∧ i < 1000000000000) = true) : rngB i = true := by
  have := of_decide_eq_true h
  rw [rngB_at]
  exact decide_eq_true (by omega)
@[simp] theorem rngB_ofNat {n : Nat} : rngB (no_index (OfNat.ofNat n) : Int) = decide (n < 4611686018427387904) := by
  rw [rngB_at]
  have e : (OfNat.ofNat n : Int) = (n : Int) := rfl
  rw [e]
  simp only [decide_eq_decide]
  omega
@[simp] theorem rngB_zero : rngB 0 = true := rngB_lit (by decide)
@[simp] theorem rngB_one : rngB 1 = true := rngB_lit (by decide)
/-! operations -/
@[simp] theorem addS_int : addS [.v (.int i), .v (.int j)] = some (.v (.int (i + j))) := rfl
@[simp] theorem addS_tup {k k2 : TK} {ds2 : List D} : addS [.v (.tg k ds), .v (.tg k2 ds2)] = if ds.length + ds2.length ≤ sizeLine then some (.v (.tup (ds ++ ds2))) else none := by
  show Option.or (if ds.length + ds2.length ≤ sizeLine then some (Sl.v (.tup (ds ++ ds2))) else none) none = _
  split <;> rfl
theorem mulS_int (h : mulC i j = true) : mulS [.v (.int i), .v (.int j)] = some (.v (.int (i * j))) := by
  unfold mulS
  rw [i2_int, if_pos h]
  rfl
@[simp] theorem ixS_tup {k : TK} : ixS [.v (.tg k ds), .v (.int i)] = (atI ds i).map .v := by
  show Option.or ((atI ds i).map Sl.v) none = _
  cases atI ds i <;> rfl
@[simp] theorem ixS_lst : ixS [.v (.lst ds), .v (.int i)] = (atI ds i).map .v := by
  show Option.or ((atI ds i).map Sl.v) none = _
  cases atI ds i <;> rfl
@[simp] theorem listV_nil : listV (.o []) = some [] := rfl
theorem listV_o' : listV (.o xs) = vsOf xs := rfl
@[simp] theorem vsOf_nil : vsOf [] = some [] := rfl
@[simp] theorem vsOf_cons : vsOf (.v d :: xs) = (vsOf xs).map (d :: ·) := rfl
theorem ixS_o : ixS [.o xs, .v (.int i)] = (vsOf xs).bind fun ds => (atI ds i).map .v := by
  show Option.or ((seqV (.o xs)).bind fun ds => (atI ds i).map Sl.v) none = _
  have : seqV (.o xs) = vsOf xs := by
    show (vsOf xs).or none = _
    cases vsOf xs <;> rfl
  rw [this]
  cases (vsOf xs).bind fun ds => (atI ds i).map Sl.v <;> rfl
@[simp] theorem slS_at {A : Opd} {lo hi : Prt} : slS A lo hi env = (evA [A] env).bind fun rs e => (evP lo e).bind fun l e => (evP hi e).bind fun h e => Rs.of ((cont [A] rs e).head?.bind (slO l h)) e := rfl
@[simp] theorem evP_no : evP .no env = .ok none env := rfl
@[simp] theorem evP_at : evP (.at_ f) env = (f env).bind fun r e => (Rs.of (intOf r) e).bind fun i e => .ok (some i) e := rfl
@[simp] theorem eq_int {k : Bool} : eqS k [.v (.int i), .v (.int j)] = some (.v (.bl (if k = true then !(i == j) else i == j))) := by
  have h1 : SeqAt.shaped (.int i) = true := by rfl
  have h2 : SeqAt.shaped (.int j) = true := by rfl
  have h3 : PyData.eqv (.int i) (.int j) = (i == j) := by simp [PyData.eqv]
  show (if SeqAt.shaped (.int i) = true ∧ SeqAt.shaped (.int j) = true then some (Sl.v (.bl (if k = true then !PyData.eqv (.int i) (.int j) else PyData.eqv (.int i) (.int j)))) else none) = _
  rw [if_pos ⟨h1, h2⟩, h3]
@[simp] theorem eq_bl {k x y : Bool} : eqS k [.v (.bl x), .v (.bl y)] = some (.v (.bl (if k = true then !(x == y) else x == y))) := by
  have h1 : SeqAt.shaped (.bool x) = true := by rfl
  have h2 : SeqAt.shaped (.bool y) = true := by rfl
  have h3 : PyData.eqv (.bool x) (.bool y) = (x == y) := by simp [PyData.eqv]
  show (if SeqAt.shaped (.bool x) = true ∧ SeqAt.shaped (.bool y) = true then some (Sl.v (.bl (if k = true then !PyData.eqv (.bool x) (.bool y) else PyData.eqv (.bool x) (.bool y)))) else none) = _
  rw [if_pos ⟨h1, h2⟩, h3]
end
/-! a def's worth -/
def FR.fin (fl : List Bool) : Rs Out → FR
  | .bad => .bad
  | .ok (.rt r) e => .ret r ((portI fl 0).map fun i => e.getD i .u)
  | .ok .nx e => .ret (.v .non) ((portI fl 0).map fun i => e.getD i .u)
  | .ok _ _ => .bad
  | .ex x => .ex x
theorem den_at {n : Nat} {fl : List Bool} {b : Sv} {ss : List Sl} : denOf n fl b ss = FR.fin fl (b (ss ++ List.replicate (n - ss.length) .u)) := by
  unfold denOf FR.fin
  rfl
@[simp] theorem fin_rt {fl : List Bool} {r : Sl} {e : Env} : FR.fin fl (.ok (.rt r) e) = .ret r ((portI fl 0).map fun i => e.getD i .u) := rfl
@[simp] theorem fin_nx {fl : List Bool} {e : Env} : FR.fin fl (.ok .nx e) = .ret (.v .non) ((portI fl 0).map fun i => e.getD i .u) := rfl
@[simp] theorem fin_ex {fl : List Bool} {x : Ex} : FR.fin fl (.ex x) = .ex x := rfl
@[simp] theorem portI_t {fl : List Bool} {n : Nat} : portI (true :: fl) n = n :: portI fl (n + 1) := rfl
@[simp] theorem portI_f {fl : List Bool} {n : Nat} : portI (false :: fl) n = portI fl (n + 1) := rfl
@[simp] theorem portI_n {n : Nat} : portI [] n = [] := rfl
end DL


set_option maxHeartbeats 1000000
namespace DL
open PySem PySem.Spec PyProof.Rows L2

/-! ### keys -/
def keyD : D → Option Key
  | .int i => some (.inl i)
  | .str x => some (.inr x)
  | _ => none
def kD : Key → D
  | .inl i => .int i
  | .inr x => .str x
@[simp] theorem keyD_int (i : Int) : keyD (.int i) = some (.inl i) := rfl
@[simp] theorem keyD_str (i : Str) : keyD (.str i) = some (.inr i) := rfl
@[simp] theorem kD_inl (i : Int) : kD (.inl i) = .int i := rfl
@[simp] theorem kD_inr (i : Str) : kD (.inr i) = .str i := rfl
def keysD : List D → Option (List Key)
  | [] => some []
  | d :: ds => (keyD d).bind fun k => (keysD ds).map (k :: ·)
theorem keyD_rep {K : Frg} {H : Hp} {d : D} {v : V} {k : Key} (h : RepD K H d v) (e : keyD d = some k) : v = kV k := by
  cases d with
  | int i => cases e; exact h
  | str i => cases e; exact h
  | _ => cases e
theorem keysD_rep {K : Frg} {H : Hp} : ∀ {ds : List D} {vs : List V} {ks : List Key}, RepDs K H ds vs → keysD ds = some ks → vs = ks.map kV
  | [], vs, ks, h, e => by cases e; exact h
  | d :: ds, _, ks, ⟨v, r, ev, h, t⟩, e => by
    obtain ⟨k, h1, h2⟩ := Option.bind_eq_some_iff.mp (show (keyD d).bind (fun k => (keysD ds).map (k :: ·)) = some ks from e)
    obtain ⟨q, h3, h4⟩ := Option.map_eq_some_iff.mp h2
    subst h4 ev
    rw [List.map_cons, keyD_rep h h1, keysD_rep t h3]
theorem kD_rep {K : Frg} {H : Hp} (k : Key) : RepD K H (kD k) (kV k) := by
  cases k <;> rfl
theorem kDs_rep {K : Frg} {H : Hp} : ∀ ks : List Key, RepDs K H (ks.map kD) (ks.map kV)
  | [] => rfl
  | k :: ks => ⟨_, _, rfl, kD_rep k, kDs_rep ks⟩
theorem keysD_kD : ∀ ks : List Key, keysD (ks.map kD) = some ks
  | [] => rfl
  | k :: ks => by
    show (keyD (kD k)).bind (fun k => (keysD (ks.map kD)).map (k :: ·)) = _
    rw [keysD_kD ks]
    cases k <;> rfl
def kGet {κ α : Type} [DecidableEq κ] : List κ → List α → κ → Option α
  | k :: ks, x :: xs, q => if k = q then some x else kGet ks xs q
  | _, _, _ => none
/-- in its place, or at the end -/
def kPut {κ α : Type} [DecidableEq κ] (ks : List κ) (xs : List α) (q : κ) (y : α) : List κ × List α :=
  if q ∈ ks then (ks, (ks.zip xs).map fun p => if p.1 = q then y else p.2) else (ks ++ [q], xs ++ [y])
section
variable {κ : Type} [DecidableEq κ] {K : Frg} {H : Hp}
theorem kGet_rep : ∀ {kvs : List (κ × V)} {xs : List D} {k : κ} {d : D}, RepDs K H xs (kvs.map (·.2)) → kGet (kvs.map (·.1)) xs k = some d → ∃ v, valV kvs k = some v ∧ RepD K H d v
  | [], [], _, _, _, e => by cases e
  | [], _ :: _, _, _, _, e => by cases e
  | _ :: _, [], _, _, _, e => by cases e
  | p :: kvs, x :: xs, k, d, ⟨v, r, ev, h, t⟩, e => by
    have e : (if p.1 = k then some x else kGet (kvs.map (·.1)) xs k) = some d := e
    injection (show p.2 :: kvs.map (·.2) = v :: r from ev) with e1 e2
    subst e1 e2
    by_cases hk : p.1 = k
    · rw [if_pos hk] at e
      cases e
      exact ⟨_, valV_pos hk, h⟩
    · rw [if_neg hk] at e
      rw [valV_neg hk]
      exact kGet_rep t e
theorem kGet_rep0 : ∀ {kvs : List (κ × V)} {xs : List D} {k : κ}, RepDs K H xs (kvs.map (·.2)) → kGet (kvs.map (·.1)) xs k = none → valV kvs k = none
  | [], xs, k, h, e => rfl
  | p :: kvs, [], k, h, e => by cases (show p.2 :: kvs.map (·.2) = [] from h)
  | p :: kvs, x :: xs, k, ⟨v, r, ev, h, t⟩, e => by
    have e : (if p.1 = k then some x else kGet (kvs.map (·.1)) xs k) = none := e
    injection (show p.2 :: kvs.map (·.2) = v :: r from ev) with e1 e2
    subst e1 e2
    by_cases hk : p.1 = k
    · rw [if_pos hk] at e; cases e
    · rw [if_neg hk] at e
      rw [valV_neg hk]
      exact kGet_rep0 t e
theorem repl_rep {k : κ} {d : D} {v : V} (hd : RepD K H d v) : ∀ {kvs : List (κ × V)} {xs : List D}, RepDs K H xs (kvs.map (·.2)) → (kvs.map fun kv => if kv.1 = k then (kv.1, v) else kv).map (·.1) = kvs.map (·.1) ∧ RepDs K H (((kvs.map (·.1)).zip xs).map fun p => if p.1 = k then d else p.2) ((kvs.map fun kv => if kv.1 = k then (kv.1, v) else kv).map (·.2))
  | [], xs, h => ⟨rfl, rfl⟩
  | p :: kvs, [], h => by cases (show p.2 :: kvs.map (·.2) = [] from h)
  | p :: kvs, x :: xs, ⟨u, r, ev, h, t⟩ => by
    injection (show p.2 :: kvs.map (·.2) = u :: r from ev) with e1 e2
    subst e1 e2
    obtain ⟨h1, h2⟩ := repl_rep (k := k) hd t
    by_cases hk : p.1 = k
    · refine ⟨?_, v, _, ?_, ?_, h2⟩
      · simp only [List.map_cons, h1, if_pos hk]
      · simp only [List.map_cons, if_pos hk]
      · simp only [if_pos hk]; exact hd
    · refine ⟨?_, p.2, _, ?_, ?_, h2⟩
      · simp only [List.map_cons, h1, if_neg hk]
      · simp only [List.map_cons, if_neg hk]
      · simp only [if_neg hk]; exact h
theorem kPut_rep {k : κ} {d : D} {v : V} {kvs : List (κ × V)} {xs : List D} (hd : RepD K H d v) (h : RepDs K H xs (kvs.map (·.2))) :
    (putK kvs k v).map (·.1) = (kPut (kvs.map (·.1)) xs k d).1 ∧ RepDs K H (kPut (kvs.map (·.1)) xs k d).2 ((putK kvs k v).map (·.2)) := by
  unfold putK kPut
  have e : (kvs.any fun kv => decide (kv.1 = k)) = decide (k ∈ kvs.map (·.1)) := by
    rw [Bool.eq_iff_iff, List.any_eq_true, decide_eq_true_eq, List.mem_map]
    exact ⟨fun ⟨p, h1, h2⟩ => ⟨p, h1, of_decide_eq_true h2⟩, fun ⟨p, h1, h2⟩ => ⟨p, h1, decide_eq_true h2⟩⟩
  rw [e]
  by_cases hk : k ∈ kvs.map (·.1)
  · rw [if_pos (decide_eq_true hk), if_pos hk]
    exact repl_rep hd h
  · rw [if_neg (by simpa using hk), if_neg hk]
    refine ⟨by simp, ?_⟩
    rw [List.map_append]
    exact h.append ⟨v, [], rfl, hd, rfl⟩
end

/-! ### views -/
def dictT : Sl → Option (List (List Key) × List D)
  | .t ks xs => some (ks, xs)
  | .v (.dt ks xs) => some (ks, xs)
  | _ => none
def dictK : Sl → Option (List Key × List D)
  | .k ks xs => some (ks, xs)
  | .v (.dk ks xs) => some (ks, xs)
  | _ => none
@[simp] theorem dictT_t (ks xs) : dictT (.t ks xs) = some (ks, xs) := rfl
@[simp] theorem dictT_v (ks xs) : dictT (.v (.dt ks xs)) = some (ks, xs) := rfl
@[simp] theorem dictK_k (ks xs) : dictK (.k ks xs) = some (ks, xs) := rfl
@[simp] theorem dictK_v (ks xs) : dictK (.v (.dk ks xs)) = some (ks, xs) := rfl
theorem dictT_rd {K : Frg} {H : Hp} {s : Sl} {v : V} {f : List Addr} {p : List (List Key) × List D} (h : Rp K H s (some v) f) (e : dictT s = some p) : ∃ a kvs, v = .ref a ∧ Rd H a (.dT kvs) ∧ kvs.map (·.1) = p.1 ∧ RepDs K H p.2 (kvs.map (·.2)) := by
  unfold dictT at e
  split at e
  · cases e
    obtain ⟨a, kvs, ew, ha, hk, hr, _⟩ := h
    cases ew
    exact ⟨a, kvs, rfl, .inl ha, hk, hr⟩
  · cases e
    obtain ⟨_, v', ev, a, kvs, ob, ea, ha, hk, hr⟩ := h
    cases ev
    exact ⟨a, kvs, ea, .inr ⟨ob, ha⟩, hk, hr⟩
  · cases e
theorem dictK_rd {K : Frg} {H : Hp} {s : Sl} {v : V} {f : List Addr} {p : List Key × List D} (h : Rp K H s (some v) f) (e : dictK s = some p) : ∃ a kvs, v = .ref a ∧ Rd H a (.dK kvs) ∧ kvs.map (·.1) = p.1 ∧ RepDs K H p.2 (kvs.map (·.2)) := by
  unfold dictK at e
  split at e
  · cases e
    obtain ⟨a, kvs, ew, ha, hk, hr, _⟩ := h
    cases ew
    exact ⟨a, kvs, rfl, .inl ha, hk, hr⟩
  · cases e
    obtain ⟨_, v', ev, a, kvs, ob, ea, ha, hk, hr⟩ := h
    cases ev
    exact ⟨a, kvs, ea, .inr ⟨ob, ha⟩, hk, hr⟩
  · cases e
/-! ### d[k] -/
def rDG (K : Frg) : R2 := fun x y H Q => ∃ a v, x = .ref a ∧ ((∃ kvs k, Rd H a (.dK kvs) ∧ y = kV k ∧ valV kvs k = some v) ∨ ∃ kvs k b, Rd H a (.dT kvs) ∧ y = .ref b ∧ SqT K H b (k.map kV) ∧ valV kvs k = some v) ∧ Q v H
theorem d_getAny {X : Cx} {pins : List (Addr × Obj)} {σ : L2.St} {H : Hp} {s : Shared} {a b : Addr} {kvs : List (List Key × V)} {k : List Key} {v : V} {A : Around} {E : Value → Shared → Prop} {Q : Value → Shared → Prop} (hu : A.units + 1 < cLine) (I : Inv X pins σ H s)
    (e : Rd H a (.dT kvs)) (eb : SqT X.K H b (k.map kV)) (l : valV kvs k = some v) (h : ∀ w' s', Inv X pins σ H s' → RelV v w' → Q w' s') : wpAny (model X.prog X.w) A (getItem (.ref a) (.ref b)) Q E s := by
  obtain ⟨its, r, ⟨o, h1, h2, n, h3⟩, _⟩ := I.tuple eb
  obtain ⟨z, hd, xs, rel, dd⟩ := dt_rd I.hok e
  obtain ⟨w', hw, rw'⟩ := RelO.some_of (v := v) (o := (atKey xs k).map (·.2)) (by rw [← l]; exact rel.val k)
  obtain ⟨p, hp, hp2⟩ := Option.map_eq_some_iff.mp hw
  refine wpAny_getItem_heap (tupleKind_room_in1 hu) ⟨o, its.toArray, n, h1, h2, h3, by simpa using items_are r⟩ dd hp ?_
  rw [hp2]
  exact h w' _ (I.tok _) rw'
section
variable {X : Cx} {a b : Expr} {ta tb : TE} {pos : Pos}
theorem pe_dgetX (hu : X.A.units + 1 < cLine) (ha : PE X a ta) (hb : PE X b tb) (hs : NoSl b) : PE X (.Subscript a b pos) (tOp (rDG X.K) ta tb) := by
  refine ⟨fun pins s σ H Q I h => ?_⟩
  refine subD_of PySem.F.slot_dict_getitem.lookup hs (thn (ha.run pins s σ H _ I h) fun u s1 ⟨x, H1, I1, rx, q1⟩ => thn (hb.run pins s1 σ H1 _ I1 q1) fun iv s2 ⟨y, H2, I2, ry, c, v, ex, g, q2⟩ => ?_)
  subst ex
  obtain rfl : u = Value.ref c := rx
  rcases g with ⟨kvs, k, e, ey, l⟩ | ⟨kvs, k, b', e, ey, eb, l⟩
  · have g : DGet H2 c y (some v) := .inl ⟨kvs, k, e, ey, l.symm⟩
    exact ⟨dict_typeIs I2 g, d_getItem hu I2 g ry fun w' s3 I3 rw' => ⟨v, H2, I3, rw', q2⟩⟩
  · subst ey
    cases (show iv = Value.ref b' from ry)
    obtain ⟨_, _, xs, _, dd⟩ := dt_rd I2.hok e
    exact ⟨dd.typeIs, d_getAny hu I2 e eb l fun w' s3 I3 rw' => ⟨v, H2, I3, rw', q2⟩⟩
end
def dgetT : List Sl → Option Sl
  | [x, .v (.tg _ kd)] => (dictT x).bind fun p => (keysD kd).bind fun k => (kGet p.1 p.2 k).map .v
  | _ => none
def dgetK : List Sl → Option Sl
  | [x, .v d] => (dictK x).bind fun p => (keyD d).bind fun k => (kGet p.1 p.2 k).map .v
  | _ => none
def dgetO : List Sl → Option Sl := fun xs => (dgetT xs).or (dgetK xs)
theorem ro_dget {K : Frg} : RO K (r2L (rDG K)) dgetO := by
  intro H xs vs q Q sn e k
  have e : (dgetT xs).or (dgetK xs) = some q := e
  cases h : dgetT xs with
  | some q' =>
    rw [h] at e
    cases e
    unfold dgetT at h
    split at h
    · rename_i x tk kd
      obtain ⟨p, h1, h2⟩ := Option.bind_eq_some_iff.mp h
      obtain ⟨ks, h3, h4⟩ := Option.bind_eq_some_iff.mp h2
      obtain ⟨d, h5, h6⟩ := Option.map_eq_some_iff.mp h4
      subst h6
      obtain ⟨v, w, f1, g1, rfl, hv, ⟨_, w', ew, b, us, eb, hb, hr⟩⟩ := seen2 sn
      cases ew
      obtain ⟨a, kvs, rfl, ha, hk, hrep⟩ := dictT_rd hv h1
      rw [← hk] at h5
      obtain ⟨z, hz, hd⟩ := kGet_rep hrep h5
      have := keysD_rep hr h3
      subst this
      exact ⟨_, w, rfl, a, z, rfl, .inr ⟨kvs, ks, b, ha, eb, hb.sq, hz⟩, k _ H (.same hd)⟩
    · cases h
  | none =>
    rw [h] at e
    have e : dgetK xs = some q := e
    unfold dgetK at e
    split at e
    · rename_i x d0
      obtain ⟨p, h1, h2⟩ := Option.bind_eq_some_iff.mp e
      obtain ⟨ks, h3, h4⟩ := Option.bind_eq_some_iff.mp h2
      obtain ⟨d, h5, h6⟩ := Option.map_eq_some_iff.mp h4
      subst h6
      obtain ⟨v, w, f1, g1, rfl, hv, ⟨_, w', ew, hw⟩⟩ := seen2 sn
      cases ew
      obtain ⟨a, kvs, rfl, ha, hk, hrep⟩ := dictK_rd hv h1
      rw [← hk] at h5
      obtain ⟨z, hz, hd⟩ := kGet_rep hrep h5
      exact ⟨_, w, rfl, a, z, rfl, .inl ⟨kvs, ks, ha, keyD_rep hw h3, hz⟩, k _ H (.same hd)⟩
    · cases e
theorem d_dget {X : Cx} {T : List Addr} {W : XK} {a b : Expr} {A B : Opd} {pos : Pos} (hu : X.A.units + 64 < cLine) (ha : DO X T W a A) (hb : DO X T W b B) (hs : NoSl b := by exact fun _ _ => rfl) : DE X T W (.Subscript a b pos) (opS dgetO [A, B]) :=
  d_bin (fun h1 h2 => pe_dgetX (by omega) h1 h2 hs) ro_dget ha hb
/-! ### {} -/
def vNewT : Ev := fun env => .ok (.t [] []) env
def vNewK : Ev := fun env => .ok (.k [] []) env
theorem d_newT {X : Cx} {T : List Addr} {W : XK} {pos : Pos} : DE X T W (.Dict [] [] pos) vNewT := ⟨pe_dnewT.mono fun σ H Q q => by
  obtain ⟨g, env, ts, len, R, k⟩ := q
  exact fun p hp => k _ _ len (R.res ⟨ext_upd hp, [p], ⟨p, [], rfl, upd_same, rfl, rfl, rfl⟩, by simp, fun a z => by rw [List.mem_singleton.mp z]; exact hp⟩)⟩
theorem d_newK {X : Cx} {T : List Addr} {W : XK} {pos : Pos} : DE X T W (.Dict [] [] pos) vNewK := ⟨pe_dnewK.mono fun σ H Q q => by
  obtain ⟨g, env, ts, len, R, k⟩ := q
  exact fun p hp => k _ _ len (R.res ⟨ext_upd hp, [p], ⟨p, [], rfl, upd_same, rfl, rfl, rfl⟩, by simp, fun a z => by rw [List.mem_singleton.mp z]; exact hp⟩)⟩
/-! ### x[k] = e, x a name's own dict -/
theorem stf_mut {H : Hp} {a : Addr} {u u' : HO} (e : H a = some u) (f : Fzb u) : Stf H (upd H a u') :=
  ⟨fun b xs h => by
    rw [upd_ne (fun z => by rw [z, e] at h; cases h; exact f)]; exact h,
   fun b o2 x h => by
    rw [upd_ne (fun z => by rw [z, e] at h; cases h; exact f)]; exact h,
   fun b ps h => ⟨ps, by rw [upd_ne (fun z => by rw [z, e] at h; cases h; exact f)]; exact h⟩⟩
/-- the thing owned at a alone is changed -/
theorem Rel.mut1 {K : Frg} {T : List Addr} {g : G} {H : Hp} {rs : List (Sl × Option V)} {s s' : Sl} {a : Addr} {u u' : HO} (R : DL.Rel K T g ((s, some (.ref a)) :: rs) H) (hs : ∀ f, Rp K H s (some (.ref a)) f → f = [a]) (e : H a = some u) (f : Fzb u)
    (h : Rp K (upd H a u') s' (some (.ref a)) [a]) : DL.Rel K T g ((s', some (.ref a)) :: rs) (upd H a u') := by
  obtain ⟨fp, ⟨f1, f2, h1, h2, e1⟩, nd, hf, kp, tb⟩ := R
  have := hs f1 h1
  subst this e1
  have st := stf_mut (u' := u') e f
  obtain ⟨n1, n2⟩ := List.nodup_cons.mp nd
  refine ⟨[a] ++ f2, ⟨[a], f2, h, Rts.stay st _ _ h2 (fun b hb ob q => ?_), rfl⟩, nd, hf, ⟨kp.f.trans st, fun b v ev nt hn => ?_⟩, fun p hp => ?_⟩
  · rw [upd_ne (fun z => n1 (by rw [← z]; exact hb))]; exact q
  · rw [upd_ne (fun z => ?_)]
    · exact kp.r b v ev nt hn
    · subst z
      rcases hf b List.mem_cons_self with y | y
      · exact hn y
      · rw [y] at ev; cases ev
  · obtain ⟨ps, ep, ht⟩ := tb p hp
    exact ⟨ps, by rw [upd_ne (fun z => by rw [z, e] at ep; cases ep; exact f)]; exact ep, ht⟩
def dtAt (e : Env) (i : Nat) : Option (List (List Key) × List D) := match gt e i with
  | some (.t ks xs) => some (ks, xs)
  | _ => none
def dkAt (e : Env) (i : Nat) : Option (List Key × List D) := match gt e i with
  | some (.k ks xs) => some (ks, xs)
  | _ => none
theorem dtAt_eq {e : Env} {i : Nat} {p : List (List Key) × List D} (h : dtAt e i = some p) : gt e i = some (.t p.1 p.2) := by
  unfold dtAt at h
  split at h
  · rename_i q; cases h; exact q
  · cases h
theorem dkAt_eq {e : Env} {i : Nat} {p : List Key × List D} (h : dkAt e i = some p) : gt e i = some (.k p.1 p.2) := by
  unfold dkAt at h
  split at h
  · rename_i q; cases h; exact q
  · cases h
def keyT : Sl → Option (List Key)
  | .v (.tg .r kd) => keysD kd
  | _ => none
@[simp] theorem keyT_at (kd : List D) : keyT (.v (.tg .r kd)) = keysD kd := rfl
def keyO : Sl → Option Key
  | .v d => keyD d
  | _ => none
@[simp] theorem keyO_at (d : D) : keyO (.v d) = keyD d := rfl
def putT (i : Nat) (idx f : Ev) : Sv := fun env => (f env).bind fun r e1 => (Rs.of (toD r) e1).bind fun d e1 => (Rs.of (gt e1 i) e1).bind fun _ e1 => (idx e1).bind fun k e2 => (Rs.of (keyT k) e2).bind fun q e2 => (Rs.of (dtAt e2 i) e2).bind fun p e2 =>
  if p.1.length < sizeLine then .ok .nx (e2.set i (.t (kPut p.1 p.2 q d).1 (kPut p.1 p.2 q d).2)) else .bad
def putK' (i : Nat) (idx f : Ev) : Sv := fun env => (f env).bind fun r e1 => (Rs.of (toD r) e1).bind fun d e1 => (Rs.of (gt e1 i) e1).bind fun _ e1 => (idx e1).bind fun k e2 => (Rs.of (keyO k) e2).bind fun q e2 => (Rs.of (dkAt e2 i) e2).bind fun p e2 =>
  if p.1.length < sizeLine then .ok .nx (e2.set i (.k (kPut p.1 p.2 q d).1 (kPut p.1 p.2 q d).2)) else .bad
section
variable {X : Cx} {T : List Addr} {W : XK} {P : List Nat} {o ix e : Expr} {i : Nat} {idx f : Ev} {pos ps : Pos}
theorem ds_putT (hu : X.A.units + 64 < cLine) (ho : PE X o (tVar i)) (hi : DE X T W ix idx) (d : DE X T W e f) (hs : swapsWith e (some (.Subscript o ix ps)) pos.line X.env = pure false := by rfl) : DS X T W P (.Assign [.Subscript o ix ps] e pos) (putT i idx f) :=
  ⟨(ps_dput (by omega) ho hi.pe (PE.gh d.pe) hs).mono fun D σ H q => by
    obtain ⟨g, pv, env, ts, len, po, R, q⟩ := q
    refine ⟨g, env, ts, len, R, (Rs.Wp.bind q).imp (fun r e1 _ q x H1 len1 R1 => ?_) fun _ z => z⟩
    obtain ⟨dv, hd, q⟩ := Rs.Wp.of (Rs.Wp.bind q)
    refine (R1.fz hd).imp fun H1 R1 => ?_
    obtain ⟨s, hs, q⟩ := Rs.Wp.of (Rs.Wp.bind q)
    obtain ⟨v, f', hv, _⟩ := Rel.slot len1.1 R1.tail hs
    refine ⟨v, hv, g, e1, (.v dv, some x) :: ts, len1, R1.perm List.perm_middle.symm, (Rs.Wp.bind q).imp (fun k e2 _ q y H2 len2 R2 => ?_) fun _ z => z⟩
    obtain ⟨kq, hk, q⟩ := Rs.Wp.of (Rs.Wp.bind q)
    obtain ⟨p, hp, q⟩ := Rs.Wp.of (Rs.Wp.bind q)
    split at q
    · rename_i hlt
      have hy : ∃ b, y = .ref b ∧ H2 b = some (.tup (kq.map kV)) := by
        unfold keyT at hk
        split at hk
        · rename_i kd
          obtain ⟨b, us, eb, hb, hr⟩ := R2.getD List.mem_cons_self
          have := keysD_rep hr hk
          subst this
          exact ⟨b, eb, hb⟩
        · cases hk
      obtain ⟨b, ey, hb⟩ := hy
      have hx : RepD X.K H2 dv x := R2.getD (List.mem_cons_of_mem _ (List.mem_append_right _ List.mem_cons_self))
      have R3 : DL.Rel X.K T g (pr e2 σ ++ ts) H2 := (R2.tail.perm List.perm_middle).tail
      obtain ⟨w, l, ew, R4, back, _⟩ := Rel.out len2.1 R3 (gt_some (dtAt_eq hp)).1
      rw [hv] at ew
      cases ew
      obtain ⟨f4, a, kvs, ea, ha, hks, hrep, _⟩ := R4.head
      cases ea
      rw [← hks] at q
      obtain ⟨k1, k2⟩ := kPut_rep (k := kq) hx hrep
      have hlen : kvs.length < sizeLine := by
        rw [← hks, List.length_map] at hlt
        exact hlt
      refine ⟨a, _, rfl, .inr ⟨kvs, kq, b, ha, ey, hb, hlen, rfl⟩, q σ _ len2.set po (back _ _ (Rel.mut1 R4 (fun f h => ?_) ha trivial ?_))⟩
      · obtain ⟨_, _, e1, _, _, _, e2⟩ := h
        cases e1
        exact e2
      · exact ⟨a, _, rfl, upd_same, k1, RepDs.stay (stf_mut ha trivial) _ _ k2, rfl⟩
    · exact q.elim⟩
theorem ds_putK (hu : X.A.units + 64 < cLine) (ho : PE X o (tVar i)) (hi : DE X T W ix idx) (d : DE X T W e f) (hs : swapsWith e (some (.Subscript o ix ps)) pos.line X.env = pure false := by rfl) : DS X T W P (.Assign [.Subscript o ix ps] e pos) (putK' i idx f) :=
  ⟨(ps_dput (by omega) ho hi.pe (PE.gh d.pe) hs).mono fun D σ H q => by
    obtain ⟨g, pv, env, ts, len, po, R, q⟩ := q
    refine ⟨g, env, ts, len, R, (Rs.Wp.bind q).imp (fun r e1 _ q x H1 len1 R1 => ?_) fun _ z => z⟩
    obtain ⟨dv, hd, q⟩ := Rs.Wp.of (Rs.Wp.bind q)
    refine (R1.fz hd).imp fun H1 R1 => ?_
    obtain ⟨s, hs, q⟩ := Rs.Wp.of (Rs.Wp.bind q)
    obtain ⟨v, f', hv, _⟩ := Rel.slot len1.1 R1.tail hs
    refine ⟨v, hv, g, e1, (.v dv, some x) :: ts, len1, R1.perm List.perm_middle.symm, (Rs.Wp.bind q).imp (fun k e2 _ q y H2 len2 R2 => ?_) fun _ z => z⟩
    obtain ⟨kq, hk, q⟩ := Rs.Wp.of (Rs.Wp.bind q)
    obtain ⟨p, hp, q⟩ := Rs.Wp.of (Rs.Wp.bind q)
    split at q
    · rename_i hlt
      have hy : y = kV kq := by
        unfold keyO at hk
        split at hk
        · exact keyD_rep (R2.getD List.mem_cons_self) hk
        · cases hk
      have hx : RepD X.K H2 dv x := R2.getD (List.mem_cons_of_mem _ (List.mem_append_right _ List.mem_cons_self))
      have R3 : DL.Rel X.K T g (pr e2 σ ++ ts) H2 := (R2.tail.perm List.perm_middle).tail
      obtain ⟨w, l, ew, R4, back, _⟩ := Rel.out len2.1 R3 (gt_some (dkAt_eq hp)).1
      rw [hv] at ew
      cases ew
      obtain ⟨f4, a, kvs, ea, ha, hks, hrep, _⟩ := R4.head
      cases ea
      rw [← hks] at q
      obtain ⟨k1, k2⟩ := kPut_rep (k := kq) hx hrep
      have hlen : kvs.length < sizeLine := by
        rw [← hks, List.length_map] at hlt
        exact hlt
      refine ⟨a, _, rfl, .inl ⟨kvs, kq, ha, hy, hlen, rfl⟩, q σ _ len2.set po (back _ _ (Rel.mut1 R4 (fun f h => ?_) ha trivial ?_))⟩
      · obtain ⟨_, _, e1, _, _, _, e2⟩ := h
        cases e1
        exact e2
      · exact ⟨a, _, rfl, upd_same, k1, RepDs.stay (stf_mut ha trivial) _ _ k2, rfl⟩
    · exact q.elim⟩
end
/-! ### for k in d -/
def keysOf : D → Option (List D)
  | .dt ks _ => some (ks.map fun k => .tg .r (k.map kD))
  | .dk ks _ => some (ks.map kD)
  | _ => none
@[simp] theorem keysOf_t (ks xs) : keysOf (.dt ks xs) = some (ks.map fun k => .tg .r (k.map kD)) := rfl
@[simp] theorem keysOf_k (ks xs) : keysOf (.dk ks xs) = some (ks.map kD) := rfl
def dctI (f : Ev) : Iv := fun env => (f env).bind fun r e => (Rs.of ((toD r).bind keysOf) e).bind fun ds e => .ok ds e
theorem getElem_key {κ : Type} {kvs : List (κ × V)} {ks : List κ} {i : Nat} {k : κ} {v : V} (hk : kvs.map (·.1) = ks) (h : kvs[i]? = some (k, v)) : ks[i]? = some k := by
  rw [← hk, List.getElem?_map, h]; rfl
theorem walk_dt {K : Frg} {a : Addr} {ob : Obj} {kvs : List (List Key × V)} : WalkD K (Itkt a ob kvs) [(.v (.pin ob (.dT kvs)), some (.ref a))] ((kvs.map (·.1)).map fun k => .tg .r (k.map kD)) := by
  have get : ∀ H, Rts K H [(.v (.pin ob (.dT kvs)), some (.ref a))] [] → H a = some (.frz ob (.dT kvs)) := fun H h => by
    obtain ⟨_, v, ev, b, eb, fz⟩ := rts_one h
    cases ev
    cases eb
    exact fz
  refine ⟨fun x h => by rw [List.mem_singleton.mp h]; exact ⟨_, rfl⟩, ⟨fun i H hi h => ?_, fun H h => ?_, fun i H x H' hi h y => ?_⟩⟩
  · exact ⟨get H h, by simpa using hi⟩
  · exact ⟨get H h, by simp⟩
  · obtain ⟨e, k, v, q, hkv, ex, hq⟩ := y
    subst e ex
    refine ⟨.tg .r (k.map kD), ?_, fun _ _ h => h, q, _, rfl, hq, kDs_rep k⟩
    rw [List.getElem?_map, List.getElem?_map, hkv]
    rfl
theorem walk_dk {K : Frg} {a : Addr} {ob : Obj} {kvs : List (Key × V)} : WalkD K (Itk a ob kvs) [(.v (.pin ob (.dK kvs)), some (.ref a))] ((kvs.map (·.1)).map kD) := by
  have get : ∀ H, Rts K H [(.v (.pin ob (.dK kvs)), some (.ref a))] [] → H a = some (.frz ob (.dK kvs)) := fun H h => by
    obtain ⟨_, v, ev, b, eb, fz⟩ := rts_one h
    cases ev
    cases eb
    exact fz
  refine ⟨fun x h => by rw [List.mem_singleton.mp h]; exact ⟨_, rfl⟩, ⟨fun i H hi h => ?_, fun H h => ?_, fun i H x H' hi h y => ?_⟩⟩
  · exact ⟨get H h, by simpa using hi⟩
  · exact ⟨get H h, by simp⟩
  · obtain ⟨e, k, v, hkv, ex⟩ := y
    subst e ex
    refine ⟨kD k, ?_, fun _ _ h => h, kD_rep k⟩
    rw [List.getElem?_map, List.getElem?_map, hkv]
    rfl
theorem di_dct {X : Cx} {T : List Addr} {W : XK} {tg e : Expr} {f : Ev} (d : DE X T W e f) : DI X T W tg e (dctI f) := ⟨_, pi_keys (PE.gh d.pe), fun σ H R h => by
  obtain ⟨g, env, ts, len, Rl, h⟩ := h
  refine ⟨g, env, ts, len, Rl, (Rs.Wp.bind h).imp (fun r e _ h v H1 l R1 => ?_) fun _ z => z⟩
  obtain ⟨ds, hd, h⟩ := Rs.Wp.of (Rs.Wp.bind h)
  obtain ⟨d, h1, h2⟩ := Option.bind_eq_some_iff.mp hd
  refine (R1.fz h1).imp fun H2 R2 => ?_
  unfold keysOf at h2
  split at h2
  · cases h2
    obtain ⟨a, kvs, ob, rfl, ha, hk, hr⟩ := R2.getD List.mem_cons_self
    subst hk
    have R3 : DL.Rel X.K T g ((.v (.pin ob (.dT kvs)), some (.ref a)) :: (pr e σ ++ ts)) H2 := R2.tail.pushD ⟨a, rfl, ha⟩
    exact ⟨a, ob, rfl, .inr ⟨kvs, ha, h _ [_] H2 l R3 walk_dt⟩⟩
  · cases h2
    obtain ⟨a, kvs, ob, rfl, ha, hk, hr⟩ := R2.getD List.mem_cons_self
    subst hk
    have R3 : DL.Rel X.K T g ((.v (.pin ob (.dK kvs)), some (.ref a)) :: (pr e σ ++ ts)) H2 := R2.tail.pushD ⟨a, rfl, ha⟩
    exact ⟨a, ob, rfl, .inl ⟨kvs, ha, h _ [_] H2 l R3 walk_dk⟩⟩
  · cases h2⟩
end DL


set_option maxHeartbeats 1000000
namespace DL
open PySem PySem.Spec PyProof.Rows L2

/-! ### a name's list is handed on -/
def vMov (i : Nat) : Ev := fun e => (Rs.of (gt e i) e).bind fun s e => .ok s (e.set i .u)
theorem d_mov {X : Cx} {T : List Addr} {W : XK} {e : Expr} {i : Nat} (h : PE X e (tVar i)) : DE X T W e (vMov i) := ⟨h.mono fun σ H Q q => by
  obtain ⟨g, env, ts, len, R, he⟩ := q
  obtain ⟨s, q1, k⟩ := Rs.Wp.of (Rs.Wp.bind he)
  obtain ⟨v, f, hv, hr⟩ := Rel.slot len.1 R q1
  exact ⟨v, hv, k v H len.set (Rel.take len R (gt_some q1).1 hv)⟩⟩
/-! ### list + list -/
def catO : List Sl → Option Sl
  | [.o xs, .o ys] => (vsOf xs).bind fun a => (vsOf ys).bind fun b => if a.length + b.length ≤ sizeLine then some (.o ((a ++ b).map .v)) else none
  | _ => none
theorem ro_cat {K : Frg} : RO K (r2L rCatR) catO := by
  intro H xs vs q Q sn e k
  unfold catO at e
  split at e
  · rename_i xs ys
    obtain ⟨a, h1, e⟩ := Option.bind_eq_some_iff.mp e
    obtain ⟨b, h2, e⟩ := Option.bind_eq_some_iff.mp e
    split at e
    · cases e
      obtain ⟨v, w, f1, g1, rfl, ⟨p, va, fa, ea, ha, ra, _⟩, ⟨p2, vb, fb, eb, hb, rb, _⟩⟩ := seen2 sn
      cases ea
      cases eb
      rw [vsOf_eq h1] at ra
      rw [vsOf_eq h2] at rb
      have ra := (repDs_of a va fa ra).1
      have rb := (repDs_of b vb fb rb).1
      exact ⟨_, _, rfl, p, p2, va, vb, rfl, rfl, .inl ha, .inl hb, by rw [← RepDs.length _ _ ra, ← RepDs.length _ _ rb]; assumption, fun l hl => k _ _ (.newL hl (ra.append rb))⟩
    · cases e
  · cases e
/-! ### tuple + tuple, to be a dict's key: one that is tracked as it is -/
instance : DecidableEq TK := fun a b => by
  cases a <;> cases b <;> first | exact isTrue rfl | exact isFalse (fun z => nomatch z)
theorem ro_addR {K : Frg} : RO K (r2L (rCatA K)) fun xs => (match xs with
  | [.v (.tg k1 a), .v (.tg k2 b)] => if a.length + b.length ≤ sizeLine ∧ (a.isEmpty = true → k2 = .r) ∧ (a.isEmpty = false → b.isEmpty = true → k1 = .r) then some (.v (.tg .r (a ++ b))) else none
  | _ => none) := by
  intro H xs vs q Q sn e k
  dsimp only at e
  split at e
  · rename_i k1 a k2 b
    split at e
    · rename_i hc
      cases e
      obtain ⟨v, w, f1, g1, rfl, ⟨_, v1, ev, p, va, rfl, hp, ra⟩, ⟨_, v2, ew, p2, vb, rfl, hp2, rb⟩⟩ := seen2 sn
      cases ev
      cases ew
      have la := RepDs.length _ _ ra
      have lb := RepDs.length _ _ rb
      refine ⟨_, _, rfl, p, p2, va, vb, rfl, rfl, hp.sq, hp2.sq, by rw [← la, ← lb]; exact hc.1, fun e => ?_, fun hn e => ?_, fun _ _ q hq => k _ _ ⟨ext_upd hq, [], ⟨rfl, _, rfl, q, _, rfl, upd_same, RepDs.stay (.ext (ext_upd hq)) _ _ (ra.append rb)⟩, List.nodup_nil, fun _ z => nomatch z⟩⟩
      · subst e
        have e0 : a = [] := List.eq_nil_of_length_eq_zero la
        subst e0
        have := hc.2.1 rfl
        subst this
        exact k _ H (.same ⟨p2, vb, rfl, hp2, rb⟩)
      · subst e
        have e0 : b = [] := List.eq_nil_of_length_eq_zero lb
        subst e0
        have hne : a.isEmpty = false := by
          cases a with
          | nil => exact absurd (List.eq_nil_of_length_eq_zero la.symm) hn
          | cons _ _ => rfl
        have := hc.2.2 hne rfl
        subst this
        rw [List.append_nil] at k
        exact k _ H (.same ⟨p, va, rfl, hp, ra⟩)
    · cases e
  · cases e
def addRO : List Sl → Option Sl := fun xs => (match xs with
  | [.v (.tg k1 a), .v (.tg k2 b)] => if a.length + b.length ≤ sizeLine ∧ (a.isEmpty = true → k2 = .r) ∧ (a.isEmpty = false → b.isEmpty = true → k1 = .r) then some (.v (.tg .r (a ++ b))) else none
  | _ => none)
section
variable {X : Cx} {T : List Addr} {W : XK} {a b : Expr} {A B : Opd} {pos : Pos}
theorem d_addR (ha : DO X T W a A) (hb : DO X T W b B) : DE X T W (.BinOp a .Add b pos) (opS addRO [A, B]) := d_bin (fun h1 h2 => pe_op op_catA h1 h2) ro_addR ha hb
theorem d_cat (ha : DO X T W a A) (hb : DO X T W b B) : DE X T W (.BinOp a .Add b pos) (opS catO [A, B]) := d_bin (fun h1 h2 => pe_op op_catR h1 h2) ro_cat ha hb
end
/-! ### sorted of ints -/
def srt (ns : List Int) : List Int := ns.mergeSort fun a b => decide (a ≤ b)
theorem srt_perm (ns : List Int) : (srt ns).Perm ns := List.mergeSort_perm _ _
theorem srt_ord (ns : List Int) : (srt ns).Pairwise (· ≤ ·) := by
  have := List.pairwise_mergeSort (le := fun a b : Int => decide (a ≤ b)) (fun a b c h1 h2 => by simp at *; omega) (fun a b => by simp; omega) ns
  exact this.imp fun h => by simpa using h
theorem ord_uniq : ∀ {a b : List Int}, a.Perm b → a.Pairwise (· ≤ ·) → b.Pairwise (· ≤ ·) → a = b
  | [], b, p, _, _ => (List.nil_perm.mp p).symm
  | x :: a, [], p, _, _ => by have := p.length_eq; simp at this
  | x :: a, y :: b, p, h1, h2 => by
    obtain ⟨k1, k2⟩ := List.pairwise_cons.mp h1
    obtain ⟨k3, k4⟩ := List.pairwise_cons.mp h2
    have e : x = y := by
      have m1 : x ∈ y :: b := p.mem_iff.mp List.mem_cons_self
      have m2 : y ∈ x :: a := p.mem_iff.mpr List.mem_cons_self
      rcases List.mem_cons.mp m1 with z | z
      · exact z
      · rcases List.mem_cons.mp m2 with w | w
        · exact w.symm
        · have a1 := k1 y w
          have a2 := k3 x z
          omega
    subst e
    rw [ord_uniq ((List.perm_cons x).mp p) k2 k4]
theorem srt_eq {a ns : List Int} (p : a.Perm ns) (h : a.Pairwise (· ≤ ·)) : a = srt ns := ord_uniq (p.trans (srt_perm ns).symm) h (srt_ord ns)
section
variable {prog : Program} {w : World} {A : Around} {E : Value → Shared → Prop} {s : Shared}
/-- sorted of a list or a tuple of ints -/
theorem sorted_seq {l : Addr} {T : String} {o : Obj} {vs : List Value} {ns : List Int} {n : Nat} {Q : Value → Shared → Prop} (hT : T = "list" ∨ T = "tuple") (ho : s.heap.get? l = some o) (hc : o.cls = .type T) (hd : o.data = .seq vs.toArray n)
    (hI : IntsAre vs ns) (hz : vs.length ≤ sizeLine) (h : ∀ (h1 h' : Heap) (out : List Value) (c : Nat), (∀ b o, s.heap.get? b = some o → h1.get? b = some o) → (∀ b o, h1.get? b = some o → h'.get? b = some o) → h'.get? h1.objs.size = some (seqObj "list" out.toArray c) → IntsAre out (srt ns) → Q (.ref h1.objs.size) { s with heap := h' }) :
    wpAny (model prog w) A (call (.builtin "sorted") [.ref l]) Q E s := by
  refine Calls.call_function_entry kind_sorted plain_sorted entry_sorted (args_sorted1 _) ?_
  unfold Builtin.«sorted»
  refine wpAny_bind (m := checkCount "sorted" 1 1 _) (wpAny_pure ?_)
  refine wpAny_bind (wpAny_collect_seq l hT ho hc hd (fun h1 k1 => ?_) (by simpa using hz))
  rw [List.toList_toArray]
  refine wpAny_bind (wpAny_newList ?_ hz)
  have hoL : (h1.push (seqObj "list" vs.toArray 0)).get? h1.objs.size = some (seqObj "list" vs.toArray 0) := Heap.get?_push_size _ rfl
  refine wpAny_bind (wpAny_holding (wpAny_call_entry slot_list_sort ⟨_, hoL, rfl⟩ entry_list_sort (SrtO.list_sort_ord SrtO.swo_int hoL hz (fun h2 => SrtO.ints_sortable hI h2) fun out a1 a2 => ⟨_, rfl, ?_⟩) (args_list_sort _)))
  obtain ⟨k2, k3, k4⟩ := SrtO.ints_out hI a1 a2
  rw [srt_eq k3 k4] at k2
  obtain ⟨c, hc2⟩ := sortedHeap_at (vs := vs) (out := out.toArray) hoL
  refine wpAny_pure ⟨_, rfl, h h1 _ out c k1 (fun b u q => ?_) hc2 k2⟩
  have hlt := Heap.lt_size q
  rw [sortedHeap_old (Nat.ne_of_lt hlt) (by rw [size_push']; exact Nat.lt_succ_of_lt hlt)]
  exact Heap.get?_push_of_some _ q
end
def rSrt (K : Frg) : List V → Hp → VK → Prop := fun vs H Q => ∃ (a : Addr) (ns : List Int), vs = [.ref a] ∧ (SqL K H a (ns.map V.int) ∨ SqT K H a (ns.map V.int)) ∧ ∀ p, H p = none → Q (.ref p) (upd H p (.lst ((srt ns).map V.int)))
theorem cr_srt {X : Cx} : CallR X (.builtin "sorted") (rSrt X.K) := by
  intro pins s σ H vs us Q I r h
  obtain ⟨a, ns, rfl, hs, q⟩ := h
  rw [Vals.ref1 r]
  have fin : ∀ (T : String) (o : Obj) (its : List Value) (n : Nat), (T = "list" ∨ T = "tuple") → s.heap.get? a = some o → o.cls = .type T → o.data = .seq its.toArray n → Vals (ns.map V.int) its → (ns.map V.int).length ≤ sizeLine → wpAny (model X.prog X.w) X.A (call (.builtin "sorted") [.ref a]) (EP X pins σ Q) X.xe s := fun T o its n hT ho hc hd rv hz => by
    refine sorted_seq (n := n) hT ho hc hd rv.ints (by rw [← rv.length]; exact hz) fun h1 h' out c k1 k2 hg hi => ?_
    have I1 : Inv X pins σ H { s with heap := h1 } := I.kept (t' := s.toks) k1
    have hlen : ((srt ns).map V.int).length ≤ sizeLine := by
      rw [List.length_map, (srt_perm ns).length_eq]
      rw [List.length_map] at hz
      exact hz
    exact ⟨.ref _, upd H h1.objs.size (.lst ((srt ns).map V.int)), I1.laid (t' := s.toks) k2 (Nat.le_refl _) ⟨hlen, out, c, vals_of_ints hi, hg⟩, rfl, q _ (I1.hok.fresh (Nat.le_refl _))⟩
  rcases hs with hs | hs
  · obtain ⟨its, rv, ⟨o, n, ho, hc, hdn, hd⟩, hz⟩ := I.list hs
    exact fin "list" o its n (.inl rfl) ho hc hd rv hz
  · obtain ⟨its, rv, ⟨o, ho, hc, n, hd⟩, hz⟩ := I.tuple hs
    exact fin "tuple" o its n (.inr rfl) ho hc hd rv hz
def srtO : List Sl → Option Sl := one fun x => (seqV x).bind fun ds => (intsD ds).map fun ns => .o ((srt ns).map fun i => .v (.int i))
theorem newI {K : Frg} {H : Hp} {p : Addr} (hp : H p = none) (ns : List Int) : Res K H (upd H p (.lst (ns.map V.int))) (.o (ns.map fun i => .v (.int i))) (.ref p) := by
  have := Res.newL hp (RepDs.of_ints (K := K) (H := H) ns)
  rw [List.map_map] at this
  exact this
theorem ro_srt {K : Frg} : RO K (rSrt K) srtO := by
  refine ro_one fun H x v f q Q hv e k => ?_
  obtain ⟨ds, h1, h2⟩ := Option.bind_eq_some_iff.mp e
  obtain ⟨ns, h3, h4⟩ := Option.map_eq_some_iff.mp h2
  subst h4
  obtain ⟨a, us, rfl, hs, hr⟩ := seqV_rd hv h1
  rw [intsD_eq h3] at hr
  have := hr.ints
  subst this
  exact ⟨a, ns, rfl, hs, fun p hp => k _ _ (newI hp _)⟩
theorem d_srt {X : Cx} {T : List Addr} {W : XK} {e : Expr} {as : List Opd} {p pos : Pos} (hg : Gl X "sorted") (hm : X.mg "sorted" = none) (da : DA X T W [e] as) (he : starEach [e] X.env = (false, eval e X.env) :: starEach [] X.env := by rfl) : DE X T W (.Call (.Name "sorted" p) [e] [] pos) (opS srtO as) :=
  d_callB (fun h => pe_callB cr_srt hg hm (by decide +kernel) h (he := he)) ro_srt da
end DL


set_option maxHeartbeats 4000000
namespace DL
open PySem PySem.Spec PyProof.Rows L2
/-! ### set(l), l a list of ints -/
section
variable {P : Program} {w : World} {A : Around} {E : Value → Shared → Prop} {s : Shared}
/-- a new set with no member -/
abbrev set0 (w : World) : Obj := { cls := .type "set", dict := none, data := .set #[] 0 (.fresh 0 0 (!w.params.followText "set-order")) }
theorem set_of_list {l : Addr} {items : Array Value} (ns : List Int) {Q : Value → Shared → Prop} (hh : A.handled = none) (hl : s.heap.IsList l items) (hit : IntsAre items.toList ns) (hb : ns.length + 1 < scanBound)
    (h : ∀ (h' : Heap) (tk c : Nat), SetR w h' s.heap.objs.size (fun j => decide (j ∈ ns)) c → c ≤ ns.length → (∀ b o, s.heap.get? b = some o → h'.get? b = some o) → Q (.ref s.heap.objs.size) { s with heap := h', toks := tk }) :
    wpAny (model P w) A (call (.type "set") [.ref l]) Q E s := by
  have hisz : items.size = ns.length := by
    have q := IntsAre.length hit
    rw [Array.length_toList] at q
    exact q
  obtain ⟨c, tl, hmro⟩ := F.called_set.mro
  have made := F.called_set.made
  have subs := F.called_set.sub
  refine wpAny_call (codeAny_of_tree ?_)
  show wpAny _ _ (callAny (.type "set") _) _ _ _
  refine wpAny_pure ⟨Code.quiet_builtin _ (by decide +kernel), codeAny_builtin F.entry_type_call ?_⟩
  rw [Around.under_plain (weight_type_call_type "set" [.ref l] []) rfl]
  have t1 := F.called_set.notType
  have t2 := F.called_set.canCreate
  have t3 := F.typeCall_set_1 (.ref l)
  repeat (any_goals (first | assumption | wp_step))
  refine codeAny_mono (code_set_led1 (.ref l) (E := E) (Q₁ := fun obj s₁ => obj = .ref s.heap.objs.size ∧ s₁ = { s with heap := s.heap.push (set0 w) }) ⟨rfl, rfl⟩) fun r s₁ hr => ?_
  cases r with
  | error e => exact hr
  | ok fl =>
    cases fl with
    | ret obj =>
      obtain ⟨rfl, rfl⟩ := hr
      have hS : (s.heap.push (set0 w)).get? s.heap.objs.size = some (set0 w) := Heap.get?_push_size _ rfl
      have hT : Shared.TypeIs { s with heap := s.heap.push (set0 w) } (.ref s.heap.objs.size) "set" := ⟨_, hS, rfl⟩
      have b1 := F.called_set.init.lookup
      have b2 := F.called_set.init.bind (.ref s.heap.objs.size)
      repeat (any_goals (first | assumption | wp_step))
      refine codeAny_mono (codeAny_call_builtin (R := wants (fun r s₂ => r = .none ∧ ∃ h' tk c, s₂ = { s with heap := h', toks := tk } ∧ SetR w h' s.heap.objs.size (fun j => decide (j ∈ ns)) c ∧ c ≤ ns.length ∧
          (∀ b o, s.heap.get? b = some o → h'.get? b = some o)) E) F.called_set.init.plain F.entry_set_init (check_set_init_1 hT ?_)) fun r₂ s₂ hr₂ => ?_
      · obtain ⟨⟨ocls, odict, odata, oslots⟩, hol, hcl, nl, hdl⟩ := hl
        simp only at hcl hdl
        subst hcl; subst hdl
        have up : (s.heap.push (set0 w)).get? l = some { cls := .type "list", dict := odict, data := .seq items nl, slots := oslots } := Heap.get?_push_of_some _ hol
        have u1 := F.sub_list_set
        have u2 := F.sub_list_frozenset
        have u3 : (Value.type "list" == Value.type "dict") = false := by decide
        have hl1 : (s.heap.push (set0 w)).IsList l items := ⟨_, up, rfl, nl, rfl⟩
        unfold Builtin.«set.__init__» noKeywords Builtin.Frozenset.updateFrom
        generalize hPI : pyIter = PI
        wp_walk
        subst hPI
        refine wpAny_pyIter_list hl1 ?_
        refine wpAny_bind (wpAny_runValue ?_)
        have lt : l < s.heap.objs.size := Heap.lt_size hol
        have hh3 : A.in1.in1.in1.handled = none := by simp [hh]
        have sz : (s.heap.push (set0 w)).objs.size = s.heap.objs.size + 1 := Heap.size_push ..
        have neI : l ≠ (s.heap.push (set0 w)).objs.size := by
          rw [sz]; exact Nat.ne_of_lt (Nat.lt_succ_of_lt lt)
        have hSf : s.heap.objs.size ∉ [(s.heap.push (set0 w)).objs.size, l] := by
          rw [sz]
          intro z
          rcases List.mem_cons.mp z with y | y
          · exact absurd y (Nat.ne_of_lt (Nat.lt_succ_self _))
          · exact absurd (List.mem_singleton.mp y) (Nat.ne_of_gt lt)
        have val : ∀ (i : Nat) (v : Value), items[i]? = some v → ∃ k t, ns[i]? = some k ∧ v = .int k t := fun i v hv => by
          have hi : i < ns.length := by rw [← hisz]; exact (Array.getElem?_eq_some_iff.mp hv).1
          obtain ⟨t, e⟩ := PyProof.Rows.IntsAre.int_at hit i v (by rw [Array.getElem?_toList]; exact hv)
          refine ⟨ns[i], t, List.getElem?_eq_getElem hi, ?_⟩
          rw [e, List.getD_eq_getElem?_getD, List.getElem?_eq_getElem hi] <;> rfl
        refine set_update_ints ((Walks.list hh3 _ l neI items).toS) s.heap.objs.size hSf ns hisz hb val (items.size - 0) 0 _ (by omega) (Nat.zero_le _)
          ⟨⟨_, Heap.get?_push_size _ rfl, rfl, rfl⟩, (hl1.push _)⟩ ?hS0 ?hR
        case hS0 =>
          have g0 : ((s.heap.push (set0 w)).push { cls := .type "list_iterator", data := .fields #[.ref l, .int 0 0] }).get? s.heap.objs.size = some (set0 w) := Heap.get?_push_of_some _ hS
          exact ⟨0, Nat.le_refl 0, setR_new_at g0⟩
        case hR =>
          intro s' c' hm hc' hS'
          obtain ⟨h', g2, d', tk', os'⟩ := s'
          have eg : g2 = s.gens := hm.gens
          have ed : d' = s.drawn := hm.drawn
          have eo : os' = s.os := hm.os
          subst eg; subst ed; subst eo
          show wpAny _ _ _ _ _ _
          refine wpAny_pure ?_
          show wpAny _ _ (ret Value.none) _ _ _
          rw [hisz] at hc'
          refine wpAny_pure ⟨rfl, h', tk', c', rfl, hS', hc', fun b o e => ?_⟩
          have lb : b < s.heap.objs.size := Heap.lt_size e
          refine hm.heap b o (fun z => ?_) (Heap.get?_push_of_some _ (Heap.get?_push_of_some _ e))
          rcases List.mem_cons.mp z with y | y
          · exact Nat.ne_of_lt lb y
          · rw [List.mem_singleton.mp y, sz] at lb
            exact Nat.not_succ_lt_self lb
      · cases r₂ with
        | error e => exact hr₂
        | ok fl₂ =>
          cases fl₂ with
          | ret r =>
            obtain ⟨rfl, h', tk, c', rfl, hS', hc', hk'⟩ := hr₂
            repeat (any_goals (first | assumption | wp_step))
            exact h _ _ _ hS' hc' hk'
          | _ => exact hr₂.elim
    | _ => exact hr.elim
end
/-! ### sorted(set(x)) -/
def ddI : List Int → List Int
  | [] => []
  | x :: xs => if x ∈ xs then ddI xs else x :: ddI xs
theorem mem_ddI : ∀ (ns : List Int) (k : Int), k ∈ ddI ns ↔ k ∈ ns
  | [], k => Iff.rfl
  | x :: xs, k => by
    unfold ddI
    split
    · rename_i h
      rw [mem_ddI xs k, List.mem_cons]
      exact ⟨.inr, fun z => z.elim (fun e => e ▸ h) id⟩
    · rw [List.mem_cons, List.mem_cons, mem_ddI xs k]
theorem nodup_ddI : ∀ ns : List Int, (ddI ns).Nodup
  | [] => List.nodup_nil
  | x :: xs => by
    unfold ddI
    split
    · exact nodup_ddI xs
    · rename_i h
      exact List.nodup_cons.mpr ⟨fun z => h ((mem_ddI xs x).mp z), nodup_ddI xs⟩
def srtS (ns : List Int) : List Int := srt (ddI ns)
theorem lt_of_le : ∀ {l : List Int}, l.Pairwise (· ≤ ·) → l.Nodup → l.Pairwise (· < ·)
  | [], _, _ => .nil
  | x :: l, h, d => by
    obtain ⟨h1, h2⟩ := List.pairwise_cons.mp h
    obtain ⟨d1, d2⟩ := List.nodup_cons.mp d
    refine List.pairwise_cons.mpr ⟨fun y hy => ?_, lt_of_le h2 d2⟩
    have a := h1 y hy
    have b : x ≠ y := fun z => d1 (z ▸ hy)
    omega
theorem lt_uniq : ∀ {a b : List Int}, a.Pairwise (· < ·) → b.Pairwise (· < ·) → (∀ k, k ∈ a ↔ k ∈ b) → a = b
  | [], [], _, _, _ => rfl
  | [], y :: b, _, _, h => by have := (h y).mpr List.mem_cons_self; cases this
  | x :: a, [], _, _, h => by have := (h x).mp List.mem_cons_self; cases this
  | x :: a, y :: b, h1, h2, h => by
    obtain ⟨k1, k2⟩ := List.pairwise_cons.mp h1
    obtain ⟨k3, k4⟩ := List.pairwise_cons.mp h2
    have e : x = y := by
      rcases List.mem_cons.mp ((h x).mp List.mem_cons_self) with z | z
      · exact z
      · rcases List.mem_cons.mp ((h y).mpr List.mem_cons_self) with u | u
        · exact u.symm
        · have a1 := k1 y u
          have a2 := k3 x z
          omega
    subst e
    refine congrArg (x :: ·) (lt_uniq k2 k4 fun k => ⟨fun hk => ?_, fun hk => ?_⟩)
    · rcases List.mem_cons.mp ((h k).mp (List.mem_cons_of_mem _ hk)) with z | z
      · have := k1 k hk; omega
      · exact z
    · rcases List.mem_cons.mp ((h k).mpr (List.mem_cons_of_mem _ hk)) with z | z
      · have := k3 k hk; omega
      · exact z
theorem srtS_lt (ns : List Int) : (srtS ns).Pairwise (· < ·) := lt_of_le (srt_ord _) ((srt_perm _).nodup_iff.mpr (nodup_ddI _))
theorem srtS_mem (ns : List Int) (k : Int) : k ∈ srtS ns ↔ k ∈ ns := by
  unfold srtS
  rw [(srt_perm _).mem_iff, mem_ddI]
def rSrtS (K : Frg) (ta : TE) : TE := fun σ H Q => ta σ H fun x H1 => ∃ (a : Addr) (ns : List Int), x = .ref a ∧ (SqL K H1 a (ns.map V.int) ∨ SqT K H1 a (ns.map V.int)) ∧ ns.length < 64 ∧ ∀ p, H1 p = none → Q (.ref p) (upd H1 p (.lst ((srtS ns).map V.int)))
theorem pe_srtS {X : Cx} {a : Expr} {ta : TE} {p p2 q pos : Pos} (hc : X.calm = true) (hg : Gl X "sorted") (hm : X.mg "sorted" = none) (hg2 : Gl X "set") (hm2 : X.mg "set" = none) (ha : PE X a ta)
    (na : starEach [a] X.env = (false, eval a X.env) :: starEach [] X.env := by rfl) : PE X (.Call (.Name "sorted" p) [.Call (.Name "set" p2) [a] [] q] [] pos) (rSrtS X.K ta) := by
  refine ⟨fun pins s σ H Q I h => ?_⟩
  refine Call_ (ld_blt I hg hm (show bootBuiltins "sorted" = some (.builtin "sorted") by decide +kernel) ?_)
  refine PyProof.Rows.callWith_builtin1 (PyProof.Rows.args_cons ?_ rfl) rfl rfl
  refine Call_ (ld_blt I hg2 hm2 PyProof.Rows.boot_set ?_)
  refine PyProof.Rows.callWith_type1 (PyProof.Rows.args_cons (thn (ha.run pins s σ H _ I h) fun v s1 ⟨x, H1, I1, r1, q1⟩ => PyProof.Rows.args_nil ?_) na) na rfl
  obtain ⟨l, ns, rfl, hq, hn, q1⟩ := q1
  cases r1
  have fin : ∀ (h' : Heap) (tk c : Nat), SetR X.w h' s1.heap.objs.size (fun j => decide (j ∈ ns)) c → c ≤ ns.length → (∀ b o, s1.heap.get? b = some o → h'.get? b = some o) →
      wpAny (model X.prog X.w) X.A (call (.builtin "sorted") [.ref s1.heap.objs.size]) (EP X pins σ Q) X.xe { s1 with heap := h', toks := tk } := fun h' tk c R hcn k => by
    have I2 : Inv X pins σ H1 { s1 with heap := h', toks := tk } := I1.kept k
    refine sorted_set R (I1.ok.hd hc) (by omega) fun s' p out cc ms k2 g o hp hg3 hi hs hmem hl => ?_
    have e : ms = srtS ns := lt_uniq hs (srtS_lt ns) fun k => by rw [hmem, srtS_mem, decide_eq_true_eq]
    subst e
    have hlen : ((srtS ns).map V.int).length ≤ sizeLine := by rw [List.length_map, hl, sizeLine_eq]; omega
    have hpn : H1 p = none := I2.hok.fresh hp
    have J : Inv X pins σ (upd H1 p (.lst ((srtS ns).map V.int))) ⟨s'.heap, s'.gens, s'.drawn, s'.toks, s1.os⟩ :=
      L2.Inv.call (s := ({ s1 with heap := h', toks := tk } : Shared)) (ch := []) I2 (Un.laid k2 hp hpn) (I2.hok.laid k2 hp ⟨hlen, out.toList, cc, vals_of_ints hi, hg3⟩) (by rw [g]; exact I1.bare) (fun _ z => nomatch z)
    have es : s' = ⟨s'.heap, s'.gens, s'.drawn, s'.toks, s1.os⟩ := by
      cases s'
      cases o
      rfl
    rw [es]
    exact ⟨.ref p, _, J, rfl, q1 p hpn⟩
  rcases hq with hq | hq
  · obtain ⟨its, r, pl, hz⟩ := I1.list hq
    exact set_of_list ns (I1.ok.hd hc) pl.isList (by simpa using r.ints) (by unfold scanBound; omega) fun h' tk c R hcn k => PyProof.Rows.args_nil (fin h' tk c R hcn k)
  · obtain ⟨its, r, pl, hz⟩ := I1.tuple hq
    exact call_set_tupI ns (I1.ok.hd hc) (show s1.heap.IsTuple l its.toArray from pl) (by simpa using r.ints) (by unfold scanBound; omega) fun h' tk c R hcn k => PyProof.Rows.args_nil (fin h' tk c R hcn k)
def srtSO (x : Sl) : Option Sl := (seqV x).bind fun ds => (intsD ds).bind fun ns => if ns.length < 64 then some (.o ((srtS ns).map fun i => .v (.int i))) else none
theorem d_srtS {X : Cx} {T : List Addr} {W : XK} {a : Expr} {A : Opd} {p p2 q pos : Pos} (hc : X.calm = true) (hg : Gl X "sorted") (hm : X.mg "sorted" = none) (hg2 : Gl X "set") (hm2 : X.mg "set" = none) (ha : DO X T W a A)
    (na : starEach [a] X.env = (false, eval a X.env) :: starEach [] X.env := by rfl) : DE X T W (.Call (.Name "sorted" p) [.Call (.Name "set" p2) [a] [] q] [] pos) (opS (one srtSO) [A]) :=
  ⟨(pe_srtS hc hg hm hg2 hm2 ha.pe na).mono fun σ H Q h => seen_one h fun x v f q H' hv hq k => by
    obtain ⟨ds, h1, h2⟩ := Option.bind_eq_some_iff.mp hq
    obtain ⟨ns, h3, h4⟩ := Option.bind_eq_some_iff.mp h2
    split at h4
    · cases h4
      obtain ⟨a, us, rfl, hs, hr⟩ := seqV_rd hv h1
      rw [intsD_eq h3] at hr
      have := hr.ints
      subst this
      exact ⟨a, ns, rfl, hs, by assumption, fun p hp => k _ _ (newI hp _)⟩
    · cases h4⟩
end DL


set_option maxHeartbeats 1000000
namespace DL
open PySem PySem.Spec PyProof.Rows L2

/-! ### t.index(x) -/
def rTIdx (K : Frg) : V → List V → Hp → VK → Prop := fun x xs H Q => ∃ (a : Addr) (ys : List V) (y : V) (j : Nat) (z : V), x = V.ref a ∧ xs = [y] ∧ SqT K H a ys ∧ flatV y = true ∧ ys.all flatV = true ∧ ys[j]? = some z ∧ eqV z y = true ∧
  (∀ (m : Nat) (z' : V), m < j → ys[m]? = some z' → eqV z' y = false) ∧ Q (.int (j : Nat)) H
theorem mt_tidx {X : Cx} : MtR X "tuple.index" (rTIdx X.K) := by
  intro pins s σ H x xs v us Q I rx rxs h
  obtain ⟨a, ys, y, j, z, rfl, rfl, hs, fy, fys, hz, hzj, hno, q⟩ := h
  cases rx
  obtain ⟨uy, rfl, ry⟩ := Vals.one rxs
  obtain ⟨its, rv, ⟨⟨cls, dd, data, sl⟩, ho, hc, n, hd⟩, hlen⟩ := I.tuple hs
  simp only at hc hd
  subst hc hd
  have get : ∀ (m : Nat) (w : V), ys[m]? = some w → ∀ hm : m < its.toArray.size, eqU y its.toArray[m] = eqV w y := fun m w hw hm => by
    obtain ⟨u, hu, ru⟩ := rv.get hw
    obtain ⟨_, he⟩ := List.getElem?_eq_some_iff.mp hu
    have e1 : its.toArray[m] = u := by simpa using he
    rw [e1, eqU_of ru (flat_at fys hw)]
  have hvl := rv.length
  have hj : j < its.toArray.size := by
    have := (List.getElem?_eq_some_iff.mp hz).1
    rw [List.size_toArray]
    omega
  refine call_meets PySem.F.slot_tuple_index ⟨_, ho, rfl⟩ PySem.F.entry_tuple_index (PySem.F.args_tuple_index_2 _ _)
    (TI.tuple_indexAt a its.toArray n dd sl uy (eqU y) j hj ?_ ?_) ⟨ho, fun u' hu' => mem_eqAt ry fy rv fys u' (by simpa using hu'), ⟨.int (j : Nat), H, I.tok _, ⟨_, rfl⟩, q⟩⟩
  · rw [get j z hz hj]
    exact hzj
  · intro m hm hmj
    have hmy : m < ys.length := by
      rw [List.size_toArray] at hm
      omega
    rw [get m _ (List.getElem?_eq_getElem hmy) hm]
    exact hno m _ hmj (List.getElem?_eq_getElem hmy)
/-- what is told of the receiver's type: a tuple with no dict, or a list -/
def tyS (K : Frg) (b : Bool) (x : V) (H : Hp) : Prop := match b with
  | true => ∃ p xs, x = .ref p ∧ TpF K H p xs
  | false => ∃ p xs, x = .ref p ∧ SqL K H p xs
theorem tyS_is {X : Cx} {pins : List (Addr × Obj)} {σ : L2.St} {H : Hp} {s : Shared} {b : Bool} {x : V} {v : Value} (I : Inv X pins σ H s) (r : RelV x v) (ty : tyS X.K b x H) :
    s.TypeIs v (if b = true then "tuple" else "list") ∧ ∀ a, v = .ref a → ∃ ob, s.heap.get? a = some ob ∧ ob.dict = none := by
  cases b with
  | false =>
    obtain ⟨p, xs, rfl, h⟩ := ty
    exact tyV_is I r (.inl ⟨rfl, xs, h⟩)
  | true =>
    obtain ⟨p, xs, rfl, h⟩ := ty
    cases r
    rcases h with ⟨ob, h, hd⟩ | ⟨ob, its, n, h1, h2, h3, _⟩
    · obtain ⟨e, _, _, _, o, e2, c, _⟩ := (show ObjOk X.prog X.w H s.heap p (.frz ob (.tup xs)) from I.hok p _ h)
      rw [e] at e2
      cases e2
      exact ⟨⟨ob, e, c⟩, fun a z => by cases z; exact ⟨ob, e, hd⟩⟩
    · exact tyV_is I (show RelV (.ref p) (.ref p) from rfl) (.inr (.inl ⟨rfl, ob, h1, h2, h3⟩))
def tIdx (K : Frg) (to : TE) (t : TA) : TE := fun σ H Q => to σ H fun x H1 => ∃ b, tyS K b x H1 ∧ t σ H1 fun xs H2 => if b = true then rTIdx K x xs H2 Q else rIndex K x xs H2 Q
section
variable {X : Cx} {o e : Expr} {to : TE} {t : TA} {apos cpos : Pos}
theorem pe_idx (ho : PE X o to) (ha : PA X [e] t)
    (hbase : attributeBase o "index" X.env (eval o X.env) = eval o X.env := by rfl)
    (hfew : ((backTo cpos (starEach [e] X.env)).all (fun x => !x.1) && (backToKw cpos (keywordEach [] X.env)).all (fun x => x.1.isSome)
      && decide ([e].length + ([] : List Keyword).length + (if ([] : List Keyword).isEmpty then 0 else 1) < 30)) = true := by rfl)
    (hline : (apos.endLine == cpos.line) = true := by rfl) (hs : starEach [e] X.env = (false, eval e X.env) :: starEach [] X.env := by rfl) (hplain : (backTo cpos (starEach [] X.env)).any (·.1) = false := by rfl) :
    PE X (.Call (.Attribute o "index" apos) [e] [] cpos) (tIdx X.K to t) := by
  refine ⟨fun pins s σ H Q I h => ?_⟩
  refine wpAny_Call_method_late hbase hfew hline rfl (thn (ho.run pins s σ H _ I h) fun v s1 ⟨x, H1, I1, r1, b, ty, q1⟩ => ?_)
  obtain ⟨h1, h2⟩ := tyS_is I1 r1 ty
  have hA := ha.run cpos pins s1 σ H1 _ I1 q1
  rw [hs] at hA ⊢
  cases b with
  | true => exact ⟨"tuple", "tuple.index", PySem.F.plainAttrs_tuple, PySem.F.slot_tuple_index, PySem.F.type_tuple_index, h1, h2, Calls.callWith_builtin (by show (false || (backTo cpos (starEach [] X.env)).any (·.1)) = false; rw [hplain] <;> rfl) (Calls.evalArgs_plain (thn hA fun us s2 ⟨vs, H2, I2, r2, q2⟩ => mt_tidx pins s2 σ H2 x vs v us Q I2 r1 r2 q2))⟩
  | false => exact ⟨"list", "list.index", PySem.F.plainAttrs_list, PySem.F.slot_list_index, PySem.F.type_list_index, h1, h2, Calls.callWith_builtin (by show (false || (backTo cpos (starEach [] X.env)).any (·.1)) = false; rw [hplain] <;> rfl) (Calls.evalArgs_plain (thn hA fun us s2 ⟨vs, H2, I2, r2, q2⟩ => mt_index pins s2 σ H2 x vs v us Q I2 r1 r2 q2))⟩
end
/-- which of both -/
def seqTag : Sl → Option Bool
  | .v (.tg .f _) => some true
  | .v (.lst _) => some false
  | .o _ => some false
  | _ => none
def seqBy (b : Bool) (x : Sl) : Option (List D) := if b = true then tupV x else listV x
def idxO (b : Bool) : List Sl → Option Sl
  | [x, .v d] => (seqBy b x).bind fun ds => if flatD d = true ∧ ds.all flatD = true then (ds.findIdx? fun y => eqF y d).map fun j => .v (.int (j : Nat)) else none
  | _ => none
def idxM (A B : Opd) : Ev := fun env => (evA [A] env).bind fun rs e => (Rs.of ((cont [A] rs e).head?.bind seqTag) e).bind fun b e => (evA [B] e).bind fun rs2 e => Rs.of (idxO b (cont [A] rs e ++ cont [B] rs2 e)) e
theorem cont1 {A : Opd} {rs : List (Option Sl)} {e : Env} {K : Frg} {H : Hp} {v : V} (h : Seen K H (cont [A] rs e) [v]) : ∃ x f, cont [A] rs e = [x] ∧ Rp K H x (some v) f := by
  cases hc : cont [A] rs e with
  | nil => rw [hc] at h; cases (show [v] = [] from h)
  | cons x l =>
    rw [hc] at h
    obtain ⟨w, r, e1, ⟨f, hf⟩, e2⟩ := h
    injection e1 with e1 e3
    subst e1 e3
    cases l with
    | nil => exact ⟨x, f, rfl, hf⟩
    | cons _ _ =>
      obtain ⟨_, _, z, _⟩ := e2
      cases z
theorem findIdx_ok {K : Frg} {H : Hp} {d : D} {v : V} (hd : RepD K H d v) (fd : flatD d = true) {ds : List D} {vs : List V} {j : Nat} (hr : RepDs K H ds vs) (fs : ds.all flatD = true) (e : (ds.findIdx? fun y => eqF y d) = some j) :
    ∃ z, vs[j]? = some z ∧ eqV z v = true ∧ ∀ (m : Nat) (z' : V), m < j → vs[m]? = some z' → eqV z' v = false := by
  obtain ⟨hj, h1, h2⟩ := List.findIdx?_eq_some_iff_getElem.mp e
  have fl : ∀ (m : Nat) (hm : m < ds.length), flatD ds[m] = true := fun m hm => List.all_eq_true.mp fs _ (List.getElem_mem hm)
  obtain ⟨z, hz, rz⟩ := hr.get (i := j) (List.getElem?_eq_getElem hj)
  refine ⟨z, hz, by rw [eqF_V rz hd (fl j hj) fd]; exact h1, fun m z' hm hz' => ?_⟩
  have hml : m < ds.length := by omega
  obtain ⟨z2, hz2, rz2⟩ := hr.get (i := m) (List.getElem?_eq_getElem hml)
  rw [hz'] at hz2
  cases hz2
  rw [eqF_V rz2 hd (fl m hml) fd]
  simpa using h2 m hm
theorem d_idx {X : Cx} {T : List Addr} {W : XK} {o e : Expr} {A B : Opd} {apos cpos : Pos} (ha : DO X T W o A) (hb : DO X T W e B)
    (hbase : attributeBase o "index" X.env (eval o X.env) = eval o X.env := by rfl)
    (hfew : ((backTo cpos (starEach [e] X.env)).all (fun x => !x.1) && (backToKw cpos (keywordEach [] X.env)).all (fun x => x.1.isSome)
      && decide ([e].length + ([] : List Keyword).length + (if ([] : List Keyword).isEmpty then 0 else 1) < 30)) = true := by rfl)
    (hline : (apos.endLine == cpos.line) = true := by rfl) (hs : starEach [e] X.env = (false, eval e X.env) :: starEach [] X.env := by rfl) (hplain : (backTo cpos (starEach [] X.env)).any (·.1) = false := by rfl) :
    DE X T W (.Call (.Attribute o "index" apos) [e] [] cpos) (idxM A B) :=
  ⟨(pe_idx ha.pe (da_cons hb da_nil hs).pa hbase hfew hline hs hplain).mono fun σ H Q h => by
    obtain ⟨g, env, ts, len, R, h⟩ := h
    have q : nestA ([A].map (rdO X.K T W)) σ H (fun vs H1 => ∃ x, vs = [x] ∧ ∃ b, tyS X.K b x H1 ∧ nestA ([B].map (rdO X.K T W)) σ H1 fun xs H2 => if b = true then rTIdx X.K x xs H2 Q else rIndex X.K x xs H2 Q) := nest_of [A] env ts H _ len R ((Rs.Wp.bind h).imp (fun rs e _ h vs H' len' nm R' => by
      have hl2 := named_len nm
      obtain ⟨x, rfl⟩ : ∃ x, vs = [x] := by
        match vs, hl2 with
        | [x], _ => exact ⟨x, rfl⟩
      obtain ⟨b, hb, h⟩ := Rs.Wp.of (Rs.Wp.bind h)
      have sn : Seen X.K H' (cont [A] rs e) [x] := seen_of len'.1 [A] rs [x] nm R'
      obtain ⟨y, f, hc, hy⟩ := cont1 sn
      rw [hc] at hb
      refine ⟨x, rfl, b, ?_, ?_⟩
      · have hb : seqTag y = some b := hb
        unfold seqTag at hb
        split at hb
        · cases hb
          obtain ⟨_, v, ev, p, us, ea, hp, _⟩ := hy
          cases ev
          exact ⟨p, us, ea, hp⟩
        · cases hb
          obtain ⟨_, v, ev, p, us, ea, hp, _⟩ := hy
          cases ev
          exact ⟨p, us, ea, hp.sq⟩
        · cases hb
          obtain ⟨p, us, fq, ea, hp, _⟩ := hy
          cases ea
          exact ⟨p, us, rfl, SqL.of hp⟩
        · cases hb
      · have R0 : DL.Rel X.K T g (pr e σ ++ (tmps rs [x] ++ ts)) H' := R'.perm (List.perm_append_comm_assoc _ _ _)
        refine nest_of [B] e (tmps rs [x] ++ ts) H' _ len' R0 ((Rs.Wp.bind h).imp (fun rs2 e2 _ h ws H2 len2 nm2 R2 => ?_) fun _ z => z)
        obtain ⟨q, hq, k⟩ := Rs.Wp.of h
        have hl3 := named_len nm2
        obtain ⟨w, rfl⟩ : ∃ w, ws = [w] := by
          match ws, hl3 with
          | [w], _ => exact ⟨w, rfl⟩
        have sn2 : Seen X.K H2 (cont [B] rs2 e2) [w] := seen_of len2.1 [B] rs2 [w] nm2 R2
        have R3 : DL.Rel X.K T g (tmps rs [x] ++ (pr e2 σ ++ ts)) H2 := by
          have := R2.drop
          exact this.perm (List.perm_append_comm_assoc _ _ _)
        have sn3 : Seen X.K H2 (cont [A] rs e2) [x] := seen_of len2.1 [A] rs [x] nm R3
        obtain ⟨y2, f2, hc2, hy2⟩ := cont1 sn3
        obtain ⟨y3, f3, hc3, hy3⟩ := cont1 sn2
        rw [hc2, hc3] at hq
        have hq : idxO b [y2, y3] = some q := hq
        unfold idxO at hq
        split at hq
        · rename_i x' d' he
          injection he with e1 e2'
          injection e2' with e2' e3
          subst e1 e2'
          obtain ⟨ds, h1, h2⟩ := Option.bind_eq_some_iff.mp hq
          split at h2
          · rename_i hf
            obtain ⟨j, h3, h4⟩ := Option.map_eq_some_iff.mp h2
            subst h4
            obtain ⟨_, v', ev, hd⟩ := hy3
            cases ev
            have fin := k (.int (j : Nat)) H2 len2 (R3.drop.pushD rfl)
            cases b with
            | true =>
              rw [if_pos rfl]
              obtain ⟨p, us, rfl, hp, hr⟩ := tupV_rd hy2 h1
              obtain ⟨z, k1, k2, k3⟩ := findIdx_ok hd hf.1 hr hf.2 h3
              exact ⟨p, us, w, j, z, rfl, rfl, hp, flat_V hd hf.1, flats_V hr hf.2, k1, k2, k3, fin⟩
            | false =>
              rw [if_neg Bool.false_ne_true]
              obtain ⟨p, us, rfl, hp, hr⟩ := listV_rd hy2 h1
              obtain ⟨z, k1, k2, k3⟩ := findIdx_ok hd hf.1 hr hf.2 h3
              exact ⟨p, us, w, j, z, rfl, rfl, hp, flat_V hd hf.1, flats_V hr hf.2, k1, k2, k3, fin⟩
          · cases h2
        · cases hq) fun _ z => z)
    refine rdO_imp (fun v H' h1 => ?_) q
    obtain ⟨x, e, b, ty, h⟩ := h1
    cases e
    exact ⟨b, ty, h⟩⟩
/-! ### tuple(x), with no dict -/
def tupleF : List Sl → Option Sl := one fun x => match x with
  | .v (.tg k ds) => some (.v (.tg k ds))
  | x => (listV x).map fun ds => .v (.tg .f ds)
theorem ro_tupleF {K : Frg} : RO K (fun xs H Q => ∃ p ys, xs = [.ref p] ∧ ((SqL K H p ys ∧ NewT H ys Q) ∨ (SqT K H p ys ∧ Q (.ref p) H))) tupleF := by
  refine ro_one fun H x v f q Q hv e k => ?_
  split at e
  · cases e
    obtain ⟨_, v', ev, p, us, ea, hp, hr⟩ := hv
    cases ev
    subst ea
    exact ⟨p, us, rfl, .inr ⟨TpK.sq hp, k _ H (.same ⟨p, us, rfl, hp, hr⟩)⟩⟩
  · obtain ⟨ds, h1, h2⟩ := Option.map_eq_some_iff.mp e
    subst h2
    obtain ⟨p, us, rfl, hp, hr⟩ := listV_rd hv h1
    exact ⟨p, us, rfl, .inl ⟨hp, fun l ob hl hd => k _ _ ⟨ext_upd hl, [], ⟨rfl, _, rfl, l, us, rfl, .inl ⟨ob, upd_same, hd⟩, RepDs.stay (.ext (ext_upd hl)) _ _ hr⟩, List.nodup_nil, fun _ z => nomatch z⟩⟩⟩
theorem d_tupleF {X : Cx} {T : List Addr} {W : XK} {e : Expr} {as : List Opd} {p pos : Pos} (hg : Gl X "tuple") (hm : X.mg "tuple" = none) (da : DA X T W [e] as) (he : starEach [e] X.env = (false, eval e X.env) :: starEach [] X.env := by rfl) : DE X T W (.Call (.Name "tuple" p) [e] [] pos) (opS tupleF as) :=
  d_callB (fun h => pe_callTy call_tupleP hg hm (by decide +kernel) h (he := he)) ro_tupleF da
end DL


set_option maxHeartbeats 1000000
namespace DL
open PySem PySem.Spec PyProof.Rows L2
section
variable {env e : Env} {d : D} {ds ds2 : List D} {xs ys : List Sl} {s r : Sl} {i j : Int} {n m : Nat} {as : List Opd} {rs : List (Option Sl)} {f g : Ev} {c c2 : Tv} {b b2 : Sv} {k k2 : TK}
@[simp] theorem vMov_at : vMov n e = (Rs.of (gt e n) e).bind fun s e => .ok s (e.set n .u) := rfl
@[simp] theorem catO_at : catO [.o xs, .o ys] = (vsOf xs).bind fun a => (vsOf ys).bind fun b => if a.length + b.length ≤ sizeLine then some (.o ((a ++ b).map .v)) else none := rfl
@[simp] theorem addRO_at : addRO [.v (.tg k ds), .v (.tg k2 ds2)] = if ds.length + ds2.length ≤ sizeLine ∧ (ds.isEmpty = true → k2 = .r) ∧ (ds.isEmpty = false → ds2.isEmpty = true → k = .r) then some (.v (.tg .r (ds ++ ds2))) else none := rfl
@[simp] theorem vNewT_at : vNewT env = .ok (.t [] []) env := rfl
@[simp] theorem vNewK_at : vNewK env = .ok (.k [] []) env := rfl
@[simp] theorem dgetO_t {p : List (List Key) × List D} : dgetO [.v (.dt p.1 p.2), .v (.tg k ds)] = (keysD ds).bind fun q => (kGet p.1 p.2 q).map .v := by
  show Option.or ((keysD ds).bind fun q => (kGet p.1 p.2 q).map Sl.v) none = _
  cases (keysD ds).bind fun q => (kGet p.1 p.2 q).map Sl.v <;> rfl
theorem dgetO_dt {ks : List (List Key)} {vs : List D} : dgetO [.v (.dt ks vs), .v (.tg k ds)] = (keysD ds).bind fun q => (kGet ks vs q).map .v := dgetO_t (p := (ks, vs))
theorem dgetO_ot {ks : List (List Key)} {vs : List D} : dgetO [.t ks vs, .v (.tg k ds)] = (keysD ds).bind fun q => (kGet ks vs q).map .v := by
  show Option.or ((keysD ds).bind fun q => (kGet ks vs q).map Sl.v) none = _
  cases (keysD ds).bind fun q => (kGet ks vs q).map Sl.v <;> rfl
@[simp] theorem keysD_nil : keysD [] = some [] := rfl
@[simp] theorem keysD_cons : keysD (d :: ds) = (keyD d).bind fun q => (keysD ds).map (q :: ·) := rfl
@[simp] theorem putT_at : putT n f g env = (g env).bind fun r e1 => (Rs.of (toD r) e1).bind fun d e1 => (Rs.of (gt e1 n) e1).bind fun _ e1 => (f e1).bind fun k e2 => (Rs.of (keyT k) e2).bind fun q e2 => (Rs.of (dtAt e2 n) e2).bind fun p e2 =>
  if p.1.length < sizeLine then .ok .nx (e2.set n (.t (kPut p.1 p.2 q d).1 (kPut p.1 p.2 q d).2)) else .bad := rfl
@[simp] theorem putK_at : putK' n f g env = (g env).bind fun r e1 => (Rs.of (toD r) e1).bind fun d e1 => (Rs.of (gt e1 n) e1).bind fun _ e1 => (f e1).bind fun k e2 => (Rs.of (keyO k) e2).bind fun q e2 => (Rs.of (dkAt e2 n) e2).bind fun p e2 =>
  if p.1.length < sizeLine then .ok .nx (e2.set n (.k (kPut p.1 p.2 q d).1 (kPut p.1 p.2 q d).2)) else .bad := rfl
theorem dtAt_of {ks : List (List Key)} {vs : List D} (h : gt e n = some (.t ks vs)) : dtAt e n = some (ks, vs) := by unfold dtAt; rw [h]
theorem dkAt_of {ks : List Key} {vs : List D} (h : gt e n = some (.k ks vs)) : dkAt e n = some (ks, vs) := by unfold dkAt; rw [h]
@[simp] theorem dtAt_0 {ks : List (List Key)} {vs : List D} : dtAt (.t ks vs :: e) 0 = some (ks, vs) := rfl
@[simp] theorem dtAt_S : dtAt (s :: e) (n + 1) = dtAt e n := rfl
@[simp] theorem dkAt_0 {ks : List Key} {vs : List D} : dkAt (.k ks vs :: e) 0 = some (ks, vs) := rfl
@[simp] theorem dkAt_S : dkAt (s :: e) (n + 1) = dkAt e n := rfl
@[simp] theorem dctI_at : dctI f env = (f env).bind fun r e => (Rs.of ((toD r).bind keysOf) e).bind fun ds e => .ok ds e := rfl
@[simp] theorem srtO_tup : srtO [.v (.tg k ds)] = (intsD ds).map fun ns => .o ((srt ns).map fun i => .v (.int i)) := rfl
@[simp] theorem srtSO_tup : srtSO (.v (.tg k ds)) = (intsD ds).bind fun ns => if ns.length < 64 then some (.o ((srtS ns).map fun i => .v (.int i))) else none := rfl
theorem seqV_o' : seqV (.o xs) = vsOf xs := by
  show (vsOf xs).or none = _
  cases vsOf xs <;> rfl
theorem srtSO_o : srtSO (.o xs) = (vsOf xs).bind fun ds => (intsD ds).bind fun ns => if ns.length < 64 then some (.o ((srtS ns).map fun i => .v (.int i))) else none := by
  unfold srtSO; rw [seqV_o']
theorem srtO_o : srtO [.o xs] = (vsOf xs).bind fun ds => (intsD ds).map fun ns => .o ((srt ns).map fun i => .v (.int i)) := by
  show (seqV (.o xs)).bind _ = _
  rw [seqV_o']
@[simp] theorem tupleF_tup : tupleF [.v (.tg k ds)] = some (.v (.tg k ds)) := rfl
@[simp] theorem tupleF_lst : tupleF [.v (.lst ds)] = some (.v (.tg .f ds)) := rfl
theorem tupleF_o : tupleF [.o xs] = (vsOf xs).map fun ds => .v (.tg .f ds) := rfl
theorem tupleO_o' : tupleO [.o xs] = (vsOf xs).map fun ds => .v (.tup ds) := by
  show (seqV (.o xs)).map _ = _
  rw [seqV_o']
theorem listO_o' : listO [.o xs] = (vsOf xs).map fun ds => .o (ds.map .v) := by
  show (seqV (.o xs)).map _ = _
  rw [seqV_o']
theorem vsOf_ints (ns : List Int) : vsOf (ns.map fun i => .v (.int i)) = some (ns.map .int) := by
  have := vsOf_map (ns.map D.int)
  rw [List.map_map] at this
  exact this
@[simp] theorem seqTag_f : seqTag (.v (.tg .f ds)) = some true := rfl
@[simp] theorem seqTag_l : seqTag (.v (.lst ds)) = some false := rfl
@[simp] theorem seqTag_o : seqTag (.o xs) = some false := rfl
@[simp] theorem idxM_at {A B : Opd} : idxM A B env = (evA [A] env).bind fun rs e => (Rs.of ((cont [A] rs e).head?.bind seqTag) e).bind fun b e => (evA [B] e).bind fun rs2 e => Rs.of (idxO b (cont [A] rs e ++ cont [B] rs2 e)) e := rfl
@[simp] theorem idxO_t : idxO true [.v (.tg k ds), .v d] = if flatD d = true ∧ ds.all flatD = true then (ds.findIdx? fun y => eqF y d).map fun j => .v (.int (j : Nat)) else none := rfl
@[simp] theorem idxO_l : idxO false [.v (.lst ds), .v d] = if flatD d = true ∧ ds.all flatD = true then (ds.findIdx? fun y => eqF y d).map fun j => .v (.int (j : Nat)) else none := rfl
@[simp] theorem vsOf_mapv : vsOf (ds.map .v) = some ds := vsOf_map ds
/-- the place of an int -/
theorem find_int {ns : List Int} {q : Int} {a : Nat} (hn : ns.Nodup) (h : ns[a]? = some q) : ((ns.map D.int).findIdx? fun y => eqF y (.int q)) = some a := by
  obtain ⟨ha, he⟩ := List.getElem?_eq_some_iff.mp h
  refine List.findIdx?_eq_some_iff_getElem.mpr ⟨by rw [List.length_map]; exact ha, ?_, fun m hm => ?_⟩
  · rw [List.getElem_map, he]
    show (q == q) = true
    exact beq_self_eq_true q
  · rw [List.getElem_map]
    have hml : m < ns.length := by omega
    show ¬ (ns[m] == q) = true
    rw [beq_iff_eq]
    intro z
    rw [← he] at z
    exact (List.pairwise_iff_getElem.mp hn) m a hml ha hm z
theorem flat_ints (ns : List Int) : (ns.map D.int).all flatD = true := by
  rw [List.all_map]
  exact List.all_eq_true.mpr fun _ _ => rfl
theorem idx_int {ns : List Int} {q : Int} {a : Nat} (hn : ns.Nodup) (h : ns[a]? = some q) : idxO true [.v (.tg k (ns.map .int)), .v (.int q)] = some (.v (.int (a : Nat))) := by
  rw [idxO_t, if_pos ⟨rfl, flat_ints ns⟩, find_int hn h]
  rfl
end
/-! ### loops -/
/-- a for's turns, by what holds ahead of each -/
theorem forS_inv {tg : Tg} {body : Sv} (P : Nat → Env → Prop) : ∀ (ds : List D) (n : Nat) (e : Env), P n e → (∀ i d e, ds[i]? = some d → P (n + i) e → ∃ e1 e2, tg (.v d) e = some e1 ∧ body e1 = .ok .nx e2 ∧ P (n + i + 1) e2) → ∃ e2, forS tg body ds e = .ok .nx e2 ∧ P (n + ds.length) e2
  | [], n, e, h, _ => ⟨e, rfl, h⟩
  | d :: ds, n, e, h, st => by
    obtain ⟨e1, e2, h1, h2, h3⟩ := st 0 d e rfl h
    obtain ⟨e3, h4, h5⟩ := forS_inv P ds (n + 1) e2 h3 fun i d' e' hd he => by
      have := st (i + 1) d' e' (by simpa using hd) (by rw [← Nat.add_assoc, Nat.add_right_comm]; exact he)
      obtain ⟨f1, f2, k1, k2, k3⟩ := this
      exact ⟨f1, f2, k1, k2, by rw [Nat.add_right_comm n 1 i]; exact k3⟩
    refine ⟨e3, ?_, by rw [List.length_cons]; rw [show n + (ds.length + 1) = n + 1 + ds.length by omega]; exact h5⟩
    rw [forS_cons, h1, Rs.of_some, Rs.bind_ok, h2, turn_nx, h4]
/-- a comprehension's turns, no test -/
theorem lcG_inv {tg : Tg} {f : Ev} {own : List Nat} (P : Nat → Env → Prop) (R : Nat → Sl → Prop) : ∀ (ds : List D) (n : Nat) (acc : List Sl) (e : Env), P n e → (∀ i d e, ds[i]? = some d → P (n + i) e → ∃ e1 r e3, tg (.v d) e = some e1 ∧ f e1 = .ok r e3 ∧ R (n + i) r ∧ P (n + i + 1) (wipeE own e3)) →
    ∃ rs e2, lcG tg yesT f own ds acc e = .ok (.o (acc ++ rs)) e2 ∧ rs.length = ds.length ∧ (∀ i r, rs[i]? = some r → R (n + i) r) ∧ P (n + ds.length) e2
  | [], n, acc, e, h, _ => ⟨[], e, by rw [List.append_nil]; rfl, rfl, fun i r z => by simp at z, h⟩
  | d :: ds, n, acc, e, h, st => by
    obtain ⟨e1, r, e3, h1, h2, h3, h4⟩ := st 0 d e rfl h
    obtain ⟨rs, e5, k1, k2, k3, k4⟩ := lcG_inv P R ds (n + 1) (acc ++ [r]) _ h4 fun i d' e' hd he => by
      have := st (i + 1) d' e' (by simpa using hd) (by rw [← Nat.add_assoc, Nat.add_right_comm]; exact he)
      obtain ⟨f1, f2, f3, k1, k2, k3, k4⟩ := this
      exact ⟨f1, f2, f3, k1, k2, by rw [Nat.add_right_comm n 1 i]; exact k3, by rw [Nat.add_right_comm n 1 i]; exact k4⟩
    refine ⟨r :: rs, e5, ?_, by simp [k2], fun i q hq => ?_, by rw [List.length_cons]; rw [show n + (ds.length + 1) = n + 1 + ds.length by omega]; exact k4⟩
    · rw [lcG_cons, h1, Rs.of_some, Rs.bind_ok, yesT_at, Rs.nox_ok, Rs.bind_ok, if_pos rfl, h2, Rs.nox_ok, Rs.bind_ok, k1, List.append_assoc]
      rfl
    · cases i with
      | zero =>
        simp at hq
        subst hq
        exact h3
      | succ i =>
        have := k3 i q (by simpa using hq)
        rw [show n + (i + 1) = n + 1 + i by omega]
        exact this
/-- .. with a test -/
theorem lcG_filter {tg : Tg} {c : Tv} {f : Ev} {own : List Nat} {e : Env} (p : D → Bool) (v : D → Sl) : ∀ (ds : List D) (acc : List Sl), (∀ d ∈ ds, ∃ e1 e2, tg (.v d) e = some e1 ∧ c e1 = .ok (p d) e2 ∧ (p d = false → wipeE own e2 = e) ∧ (p d = true → ∃ e3, f e2 = .ok (v d) e3 ∧ wipeE own e3 = e)) →
    lcG tg c f own ds acc e = .ok (.o (acc ++ (ds.filter p).map v)) e
  | [], acc, _ => by simp
  | d :: ds, acc, st => by
    obtain ⟨e1, e2, h1, h2, h3, h4⟩ := st d List.mem_cons_self
    have ih := fun a => lcG_filter (c := c) (f := f) (own := own) p v ds a fun x hx => st x (List.mem_cons_of_mem _ hx)
    rw [lcG_cons, h1, Rs.of_some, Rs.bind_ok, h2, Rs.nox_ok, Rs.bind_ok]
    cases hp : p d with
    | false =>
      rw [if_neg Bool.false_ne_true, h3 hp, ih, List.filter_cons, if_neg (by rw [hp]; exact Bool.false_ne_true)]
    | true =>
      obtain ⟨e3, h5, h6⟩ := h4 hp
      rw [if_pos rfl, h5, Rs.nox_ok, Rs.bind_ok, h6, ih, List.filter_cons, if_pos hp, List.map_cons, List.append_assoc]
      rfl
/-! ### dicts -/
theorem kGet_at {κ α : Type} [DecidableEq κ] : ∀ {ks : List κ} {xs : List α} {j : Nat} {k : κ} {x : α}, ks.Nodup → ks[j]? = some k → xs[j]? = some x → kGet ks xs k = some x
  | [], _, _, _, _, _, h, _ => by simp at h
  | _ :: _, [], _, _, _, _, _, h => by simp at h
  | q :: ks, y :: xs, 0, k, x, _, h1, h2 => by
    simp at h1 h2
    subst h1 h2
    show (if q = q then some y else _) = _
    rw [if_pos rfl]
  | q :: ks, y :: xs, j + 1, k, x, hn, h1, h2 => by
    obtain ⟨n1, n2⟩ := List.nodup_cons.mp hn
    have h1 : ks[j]? = some k := by simpa using h1
    have h2 : xs[j]? = some x := by simpa using h2
    have ne : ¬ q = k := fun z => n1 (z ▸ List.mem_of_getElem? h1)
    show (if q = k then some y else kGet ks xs k) = _
    rw [if_neg ne, kGet_at n2 h1 h2]
theorem kPut_new {κ α : Type} [DecidableEq κ] {ks : List κ} {xs : List α} {k : κ} {x : α} (h : k ∉ ks) : kPut ks xs k x = (ks ++ [k], xs ++ [x]) := by
  unfold kPut
  rw [if_neg h]
end DL


set_option maxHeartbeats 1000000
namespace DL
open PySem PySem.Spec PyProof.Rows L2
/-! ### {"k": e, ..} -/
/-- the values, each frozen -/
def evD : List Ev → Env → Rs (List D)
  | [], e => .ok [] e
  | f :: fs, e => (f e).bind fun r e => (Rs.of (toD r) e).bind fun d e => (evD fs e).bind fun ds e => .ok (d :: ds) e
def vDisp (ks : List Key) (fs : List Ev) : Ev := fun env => (evD fs env).bind fun ds e => .ok (.k ks ds) e
def trsD (K : Frg) (T : List Addr) (W : XK) : List Key → List Ev → List (TE × TE)
  | k :: ks, f :: fs => (tC (kV k), fun σ H Q => rdE K T W f σ H fun v H1 => Gh H1 (Q v)) :: trsD K T W ks fs
  | _, _ => []
structure DPs (X : Cx) (T : List Addr) (W : XK) (pos : Pos) (keys : List (Option Expr)) (values : List Expr) (ks : List Key) (fs : List Ev) : Prop where
  pps : PPs X pos keys values (trsD X.K T W ks fs)
  len : ks.length = fs.length
theorem dp_nil {X : Cx} {T : List Addr} {W : XK} {pos : Pos} : DPs X T W pos [] [] [] [] := ⟨pps_nil, rfl⟩
theorem dp_str {X : Cx} {T : List Addr} {W : XK} {pos p : Pos} {j} {x : Str} {v : Expr} {keys : List (Option Expr)} {values : List Expr} {ks : List Key} {f : Ev} {fs : List Ev} (h : DE X T W v f) (t : DPs X T W pos keys values ks fs) :
    DPs X T W pos (some (.Constant (.str x) j p) :: keys) (v :: values) (.inr x :: ks) (f :: fs) := ⟨pps_cons pe_str (PE.gh h.pe) t.pps, by rw [List.length_cons, List.length_cons, t.len]⟩
theorem dp_int {X : Cx} {T : List Addr} {W : XK} {pos p : Pos} {j} {x : Int} {v : Expr} {keys : List (Option Expr)} {values : List Expr} {ks : List Key} {f : Ev} {fs : List Ev} (h : DE X T W v f) (t : DPs X T W pos keys values ks fs) :
    DPs X T W pos (some (.Constant (.int x) j p) :: keys) (v :: values) (.inl x :: ks) (f :: fs) := ⟨pps_cons pe_int (PE.gh h.pe) t.pps, by rw [List.length_cons, List.length_cons, t.len]⟩
theorem disp_of {K : Frg} {T : List Addr} {W : XK} {g : G} {σ : L2.St} : ∀ (ks : List Key) (fs : List Ev) (env : Env) (ts : List (Sl × Option V)) (H : Hp) (Q : List (V × V) → Hp → Prop), ks.length = fs.length → Ln g env σ → Rel K T g (pr env σ ++ ts) H →
    (evD fs env).Wp (fun ds env' => ∀ vs H', Ln g env' σ → vs.length = ks.length → RepDs K H' ds vs → Rel K T g (pr env' σ ++ ts) H' → Q ((ks.map kV).zip vs) H') (exW K T g W) → tPairs (trsD K T W ks fs) σ H Q
  | [], [], env, ts, H, Q, _, len, R, h => h [] H len rfl rfl R
  | k :: ks, f :: fs, env, ts, H, Q, hl, len, R, h => by
    refine ⟨g, env, ts, len, R, (Rs.Wp.bind h).imp (fun r e1 _ h v H1 len1 R1 => ?_) fun _ z => z⟩
    obtain ⟨d, hd, h⟩ := Rs.Wp.of (Rs.Wp.bind h)
    refine (R1.fz hd).imp fun H2 R2 => ?_
    have R3 : Rel K T g (pr e1 σ ++ ((.v d, some v) :: ts)) H2 := R2.perm List.perm_middle.symm
    refine disp_of ks fs e1 _ H2 _ (by simpa using hl) len1 R3 ((Rs.Wp.bind h).imp (fun ds e2 _ h vs H' len2 lv hr R' => ?_) fun _ z => z)
    have R4 := R'.perm List.perm_middle
    exact h (v :: vs) H' len2 (by rw [List.length_cons, List.length_cons, lv]) ⟨v, vs, rfl, R4.getD List.mem_cons_self, hr⟩ R4.tail
  | [], _ :: _, _, _, _, _, h, _, _, _ => nomatch h
  | _ :: _, [], _, _, _, _, h, _, _, _ => nomatch h
theorem mergeK_nodup : ∀ (more kvs : List (Key × V)), ((kvs ++ more).map (·.1)).Nodup → mergeK kvs more = kvs ++ more
  | [], kvs, _ => (List.append_nil _).symm
  | p :: r, kvs, h => by
    have e : putK kvs p.1 p.2 = kvs ++ [p] := by
      unfold putK
      rw [if_neg]
      intro z
      obtain ⟨q, h1, h2⟩ := List.any_eq_true.mp z
      have h2 := of_decide_eq_true h2
      rw [List.map_append, List.map_cons, List.nodup_append] at h
      exact h.2.2 q.1 (List.mem_map.mpr ⟨q, h1, rfl⟩) p.1 List.mem_cons_self h2
    show mergeK (putK kvs p.1 p.2) r = _
    rw [e, mergeK_nodup r (kvs ++ [p]) (by rw [List.append_assoc]; exact h), List.append_assoc]
    rfl
theorem map_zip1 {ks : List Key} : ∀ {vs : List V}, vs.length = ks.length → (ks.zip vs).map (·.1) = ks := by
  induction ks with
  | nil => intro vs _; rfl
  | cons k ks ih =>
    intro vs h
    cases vs with
    | nil => cases h
    | cons v vs => rw [List.zip_cons_cons, List.map_cons, ih (by simpa using h)]
theorem map_zip2 {ks : List Key} : ∀ {vs : List V}, vs.length = ks.length → (ks.zip vs).map (·.2) = vs := by
  induction ks with
  | nil => intro vs h; cases vs with
    | nil => rfl
    | cons v vs => cases h
  | cons k ks ih =>
    intro vs h
    cases vs with
    | nil => cases h
    | cons v vs => rw [List.zip_cons_cons, List.map_cons, ih (by simpa using h)]
theorem zip_map1 (ks : List Key) : ∀ vs : List V, (ks.map kV).zip vs = (ks.zip vs).map fun kv => (kV kv.1, kv.2) := by
  induction ks with
  | nil => intro vs; rfl
  | cons k ks ih =>
    intro vs
    cases vs with
    | nil => rfl
    | cons v vs => rw [List.map_cons, List.zip_cons_cons, List.zip_cons_cons, List.map_cons, ih]
theorem d_disp {X : Cx} {T : List Addr} {W : XK} {pos : Pos} {keys : List (Option Expr)} {values : List Expr} {ks : List Key} {fs : List Ev} (h : DPs X T W pos keys values ks fs) (hn : ks.Nodup := by decide)
    (hall : keys.all (·.isSome) = true := by rfl) (hl : keys.length = values.length := by rfl) (h0 : keys ≠ [] := by exact nofun) (h15 : keys.length ≤ 15 := by decide) (hk : ks.length ≤ 15 := by decide) : DE X T W (.Dict keys values pos) (vDisp ks fs) :=
  ⟨(pe_disp h.pps hall hl h0 h15).mono fun σ H Q q => by
    obtain ⟨g, env, ts, len, R, q⟩ := q
    intro p hp
    have R1 : DL.Rel X.K T g ((.k [] [], some (.ref p)) :: (pr env σ ++ ts)) (upd H p (.dK [])) := R.res ⟨ext_upd hp, [p], ⟨p, [], rfl, upd_same, rfl, rfl, rfl⟩, by simp, fun a z => by rw [List.mem_singleton.mp z]; exact hp⟩
    refine disp_of ks fs env ((.k [] [], some (.ref p)) :: ts) _ _ h.len len (R1.perm List.perm_middle.symm) ((Rs.Wp.bind q).imp (fun ds e1 _ q vs H2 len1 lv hr R2 => ?_) fun _ z => z)
    have R3 := R2.perm List.perm_middle
    obtain ⟨f, a, kvs, ea, ha, hks, _, _⟩ := R3.head
    cases ea
    have hk0 : kvs = [] := List.map_eq_nil_iff.mp hks
    subst hk0
    refine ⟨ha, ks.zip vs, zip_map1 ks vs, by rw [List.length_zip]; omega, ?_⟩
    rw [mergeK_nodup _ _ (by rw [List.nil_append, map_zip1 lv]; exact hn), List.nil_append]
    refine q _ _ len1 (Rel.mut1 R3 (fun f h => ?_) ha trivial ⟨_, _, rfl, upd_same, map_zip1 lv, ?_, rfl⟩)
    · obtain ⟨_, _, e1, _, _, _, e2⟩ := h
      cases e1
      exact e2
    · rw [map_zip2 lv]
      exact RepDs.stay (stf_mut ha trivial) _ _ hr⟩
theorem kc_int {K : Frg} {mg : Str → Option Value} {x : Str} {i : Int} (h : ∃ t, mg x = some (.int i t)) : Kc K mg x (.int i) := let ⟨t, ht⟩ := h; ⟨_, .int i, ht, ⟨t, rfl⟩, fun _ => rfl⟩
/-! ### a value, frozen -/
def vFrz (f : Ev) : Ev := fun env => (f env).bind fun r e => (Rs.of (toD r) e).bind fun d e => .ok (.v d) e
@[simp] theorem vFrz_at (f : Ev) (e : Env) : vFrz f e = (f e).bind fun r e => (Rs.of (toD r) e).bind fun d e => .ok (.v d) e := rfl
theorem d_frz {X : Cx} {T : List Addr} {W : XK} {e : Expr} {f : Ev} (d : DE X T W e f) : DE X T W e (vFrz f) := ⟨(PE.gh d.pe).mono fun σ H Q q => by
  obtain ⟨g, env, ts, len, R, q⟩ := q
  refine ⟨g, env, ts, len, R, (Rs.Wp.bind q).imp (fun r e1 _ q v H1 len1 R1 => ?_) fun _ z => z⟩
  obtain ⟨dv, hd, q⟩ := Rs.Wp.of (Rs.Wp.bind q)
  exact (R1.fz hd).imp fun H2 R2 => q v H2 len1 R2⟩
@[simp] theorem vDisp_at (ks : List Key) (fs : List Ev) (e : Env) : vDisp ks fs e = (evD fs e).bind fun ds e => .ok (.k ks ds) e := rfl
@[simp] theorem evD_nil (e : Env) : evD [] e = .ok [] e := rfl
@[simp] theorem evD_cons (f : Ev) (fs : List Ev) (e : Env) : evD (f :: fs) e = (f e).bind fun r e => (Rs.of (toD r) e).bind fun d e => (evD fs e).bind fun ds e => .ok (d :: ds) e := rfl
end DL


namespace Bt
open PySem PySem.Spec PyProof.Rows L2 DL
/-- the figures of an index, the first one in front -/
def fig : Nat → Nat → List Nat
  | 0, _ => []
  | n + 1, i => fig n (i / 2) ++ [i % 2]
def figs (n : Nat) : List (List Nat) := (List.range (2 ^ n)).map (fig n)
/-- the index with the figure at s (from behind) set to f -/
def setb (s f i : Nat) : Nat := i / 2 ^ (s + 1) * 2 ^ (s + 1) + f * 2 ^ s + i % 2 ^ s
/-- the index without the figure at s -/
def rmb (s i : Nat) : Nat := i / 2 ^ (s + 1) * 2 ^ s + i % 2 ^ s
def bit (s i : Nat) : Nat := i / 2 ^ s % 2
theorem fin1 : ∀ n < 6, ∀ a < n, ∀ i < 2 ^ n, (fig n i)[a]? = some (bit (n - 1 - a) i) ∧ (fig n i).eraseIdx a = fig (n - 1) (rmb (n - 1 - a) i) ∧ rmb (n - 1 - a) i < 2 ^ (n - 1) ∧ bit (n - 1 - a) i < 2 := by decide +kernel
theorem fin2 : ∀ n < 6, ∀ a < n, ∀ i < 2 ^ n, ∀ f < 2, (fig n i).set a f = fig n (setb (n - 1 - a) f i) ∧ setb (n - 1 - a) f i < 2 ^ n := by decide +kernel
theorem fin3 : ∀ s < 6, ∀ i < 64, setb s (bit s i) i = i ∧ setb s (1 - bit s i) i = i ^^^ 2 ^ s ∧ ((i &&& 2 ^ s) != 0) = (bit s i == 1) ∧ ((i >>> s) &&& 1) = bit s i := by decide +kernel
theorem fig_len (n : Nat) : ∀ i, (fig n i).length = n := by
  induction n with
  | zero => intro i; rfl
  | succ n ih => intro i; simp [fig, ih]
theorem fig_inj (n : Nat) : ∀ i j, i < 2 ^ n → j < 2 ^ n → fig n i = fig n j → i = j := by
  induction n with
  | zero => intro i j hi hj _; simp at hi hj; omega
  | succ n ih =>
    intro i j hi hj h
    rw [Nat.pow_succ] at hi hj
    have h1 := List.append_inj h (by rw [fig_len, fig_len])
    have := ih (i / 2) (j / 2) (by omega) (by omega) h1.1
    have h2 : i % 2 = j % 2 := by simpa using h1.2
    omega
theorem figs_nodup (n : Nat) : (figs n).Nodup := by
  unfold figs
  refine List.pairwise_map.mpr (List.pairwise_iff_getElem.mpr fun i j hi hj hij => ?_)
  rw [List.getElem_range, List.getElem_range]
  rw [List.length_range] at hi hj
  intro z
  have := fig_inj n i j hi hj z
  omega
theorem figs_len (n : Nat) : (figs n).length = 2 ^ n := by simp [figs]
theorem figs_get {n i : Nat} (h : i < 2 ^ n) : (figs n)[i]? = some (fig n i) := by simp [figs, h]
theorem range_double (m : Nat) : List.range (2 * m) = (List.range m).flatMap fun i => [2 * i, 2 * i + 1] := by
  induction m with
  | zero => rfl
  | succ m ih =>
    rw [show 2 * (m + 1) = 2 * m + 1 + 1 by omega, List.range_succ, List.range_succ, ih, List.range_succ, List.flatMap_append]
    simp
theorem figs_succ (n : Nat) : figs (n + 1) = (figs n).flatMap fun r => [r ++ [0], r ++ [1]] := by
  unfold figs
  rw [Nat.pow_succ, Nat.mul_comm, range_double, List.map_flatMap, List.flatMap_map]
  congr 1
  funext i
  have h1 : 2 * i / 2 = i := by omega
  have h2 : (2 * i + 1) / 2 = i := by omega
  have h3 : 2 * i % 2 = 0 := by omega
  have h4 : (2 * i + 1) % 2 = 1 := by omega
  simp [fig, h1, h2, h3, h4]
/-! as a program's data -/
def kf (r : List Nat) : List Key := r.map fun (f : Nat) => .inl (f : Int)
def df (r : List Nat) : List D := r.map fun (f : Nat) => .int (f : Int)
theorem kf_inj {r t : List Nat} (h : kf r = kf t) : r = t := by
  induction r generalizing t with
  | nil => cases t with
    | nil => rfl
    | cons _ _ => cases h
  | cons x r ih => cases t with
    | nil => cases h
    | cons y t =>
      injection h with h1 h2
      injection h1 with h1
      rw [ih h2, Int.ofNat.inj h1]
theorem keysD_df (r : List Nat) : keysD (df r) = some (kf r) := by
  induction r with
  | nil => rfl
  | cons f r ih =>
    show (keyD (.int (f : Int))).bind (fun q => (keysD (df r)).map (q :: ·)) = _
    rw [ih]
    rfl
theorem kfs_nodup (n : Nat) : ((figs n).map kf).Nodup := List.pairwise_map.mpr ((figs_nodup n).imp fun h z => h (kf_inj z))
theorem kf_kD (r : List Nat) : (kf r).map kD = df r := by simp [kf, df]
end Bt


set_option maxHeartbeats 0
namespace W
open PySem PySem.Spec PyProof.Rows L2 DL
def top (i : Nat) : Stmt := PySem.Challenge.pw_everybranch_k73_planes_and_paulis.main.body.getD i (.Pass ⟨0, 0, 0, 0⟩)
abbrev P : Program := (PySem.Challenge.rw_everybranch_k73_planes_and_paulis).prog

def TT (K : Frg) : List Addr := [(He.cT K ("exact", none)).2]
def K_ZERO : D := .tup [.int 0, .int 0, .int 0, .int 0, .int 0]
def K_ONE : D := .tup [.int 1, .int 0, .int 0, .int 0, .int 0]
def K_IMAGINARY : D := .int 2
structure Facts (K : Frg) (mg : Str → Option Value) (base : Heap) : Prop where
  f_by_root : FD K mg "by_root" (top 3)
  f_exact : FD K mg "exact" (top 4)
  f_unit : FD K mg "unit" (top 5)
  f_add : FD K mg "add" (top 6)
  f_times : FD K mg "times" (top 7)
  f_negate : FD K mg "negate" (top 8)
  f_conjugate : FD K mg "conjugate" (top 9)
  f_scaled : FD K mg "scaled" (top 10)
  f_shift_of : FD K mg "shift_of" (top 13)
  f_pauli_x : FD K mg "pauli_x" (top 14)
  f_turn : FD K mg "turn" (top 15)
  f_pauli_z : FD K mg "pauli_z" (top 16)
  f_plane_state : FD K mg "plane_state" (top 17)
  f_project : FD K mg "project" (top 18)
  f__law_refill : FD K mg "_law_refill" (top 20)
  f__law_draw : FD K mg "_law_draw" (top 21)
  f__law_exact : FD K mg "_law_exact" (top 22)
  f__law_own : FD K mg "_law_own" (top 23)
  f__law_plus : FD K mg "_law_plus" (top 24)
  f__law_by : FD K mg "_law_by" (top 25)
  f__law_like : FD K mg "_law_like" (top 26)
  f__law_w : FD K mg "_law_w" (top 27)
  f__law_minus : FD K mg "_law_minus" (top 28)
  f__law_bar : FD K mg "_law_bar" (top 29)
  f__law_form : FD K mg "_law_form" (top 30)
  f__law_is : FD K mg "_law_is" (top 31)
  f__law_number : FD K mg "_law_number" (top 32)
  f__law_told : FD K mg "_law_told" (top 33)
  f__law_root : FD K mg "_law_root" (top 34)
  f__law_figures : FD K mg "_law_figures" (top 35)
  f__law_field : FD K mg "_law_field" (top 36)
  f__law_plane : FD K mg "_law_plane" (top 37)
  f__law_found : FD K mg "_law_found" (top 38)
  f__law_row : FD K mg "_law_row" (top 39)
  f__law_same_field : FD K mg "_law_same_field" (top 40)
  f__law_unit_alike : FD K mg "_law_unit_alike" (top 41)
  f__law_state : FD K mg "_law_state" (top 42)
  f__law_qubits : FD K mg "_law_qubits" (top 43)
  f__law_sum : FD K mg "_law_sum" (top 44)
  f_law : FD K mg "law" (top 45)
  k_ZERO : Kc K mg "ZERO" K_ZERO
  k_ONE : Kc K mg "ONE" K_ONE
  k_IMAGINARY : Kc K mg "IMAGINARY" K_IMAGINARY
  tb_exact : LamX.TabB base mg (He.codeOf K ("exact", none)) (He.cT K ("exact", none)).2
  b_abs : mg "abs" = none
  b_all : mg "all" = none
  b_bool : mg "bool" = none
  b_enumerate : mg "enumerate" = none
  b_int : mg "int" = none
  b_isinstance : mg "isinstance" = none
  b_len : mg "len" = none
  b_list : mg "list" = none
  b_max : mg "max" = none
  b_range : mg "range" = none
  b_set : mg "set" = none
  b_sorted : mg "sorted" = none
  b_str : mg "str" = none
  b_tuple : mg "tuple" = none
  b_zip : mg "zip" = none

section
variable {w : World} {K : Frg} {mg : Str → Option Value} {base : Heap}
def N_by_root : List Str := ["number", "first", "second", "third", "fourth"]
noncomputable def b_by_root : Sv := (seqS (asgS (tgSeq (tgCons (tgN 1) (tgCons (tgN 2) (tgCons (tgN 3) (tgCons (tgN 4) tgNil))))) (vVar 0)) (seqS (retS (vTup [(.ex (opS subO [(.nm 2), (.nm 4)])), (.ex (opS addO [(.nm 1), (.nm 3)])), (.ex (opS addO [(.nm 2), (.nm 4)])), (.ex (opS subO [(.nm 3), (.nm 1)]))])) skipS))
noncomputable def n_by_root : Den := denOf 5 [false] b_by_root
theorem sc_by_root : FnScope N_by_root ["number"] (defScope (top 3)) := ⟨rfl, rfl, rfl, by decide +kernel, rfl, by decide +kernel, by decide +kernel⟩
theorem bi_by_root : BindOk "by_root" (top 3) ["number"] := fun _ _ _ _ _ _ us hl => match us, hl with | [_], _ => rfl
theorem ok_by_root (Z : Facts K mg base) : Fn P w K mg base (TT K) 1 "by_root" [false] n_by_root := by
  have S := sc_by_root
  exact fn_mk (k := 0) Z.f_by_root S rfl bi_by_root fun cdv A outer s H E hr => (db_cons (ds_asg (d_var (pv 0)) (dg_seq rfl (dgs_cons (dg_name S.nd rfl (by first | exact .inl rfl | exact .inr rfl)) (dgs_cons (dg_name S.nd rfl (by first | exact .inl rfl | exact .inr rfl)) (dgs_cons (dg_name S.nd rfl (by first | exact .inl rfl | exact .inr rfl)) (dgs_cons (dg_name S.nd rfl (by first | exact .inl rfl | exact .inr rfl)) dgs_nil)))) (hu := (tg_lenS (tg_lenS (tg_lenS (tg_lenS tg_len0))))))) (db_cons (ds_ret (d_tup (da_cons (d_opx (d_sub (d_opn (pv 2)) (d_opn (pv 4)))) (da_cons (d_opx (d_add (d_opn (pv 1)) (d_opn (pv 3)))) (da_cons (d_opx (d_add (d_opn (pv 2)) (d_opn (pv 4)))) (da_cons (d_opx (d_sub (d_opn (pv 3)) (d_opn (pv 1)))) da_nil)))))) db_nil))
def N_exact : List Str := ["first", "second", "third", "fourth", "power", "told", "part"]
noncomputable def e0_exact : Ev := (opS fdivO [(.nm 6), (.ex (vC (.int 2)))])
noncomputable def t1_exact : Tv := (andT (tstB (opS gtS [(.nm 4), (.ex (vC (.int 0)))])) (truA (.ex (genS (callS [false] n_by_root [(.nm 5)]) (modEq 2 0) fun l => l.all fun b => b))))
noncomputable def l2_exact : Sv := (seqS (setS 5 (opS tupleO [(.ex (lcS (seqI (callS [false] n_by_root [(.nm 5)])) (tgN 6) yesT e0_exact [6]))])) (seqS (augN (fun i j => i - j) 4 (vC (.int 1))) (seqS (ifS (tstB (opS (eqS false) [(.nm 5), (.ex (vTup [(.ex (vC (.int 0))), (.ex (vC (.int 0))), (.ex (vC (.int 0))), (.ex (vC (.int 0)))]))])) (seqS (retS (vC K_ZERO)) skipS) skipS) skipS)))
noncomputable def t3_exact : Tv := (tstB (opS ltS [(.nm 4), (.ex (vC (.int 0)))]))
noncomputable def l4_exact : Sv := (seqS (setS 5 (callS [false] n_by_root [(.nm 5)])) (seqS (augN (fun i j => i + j) 4 (vC (.int 1))) skipS))
noncomputable def b_exact : Sv := (seqS (setS 5 (vTup [(.nm 0), (.nm 1), (.nm 2), (.nm 3)])) (seqS (whS t3_exact l4_exact FU) (seqS (whS t1_exact l2_exact FU) (seqS (retS (opS addO [(.nm 5), (.ex (vTup [(.nm 4)]))])) skipS))))
noncomputable def n_exact : Den := denOf 7 [false, false, false, false, false] b_exact
theorem sc_exact : FnScope N_exact ["first", "second", "third", "fourth", "power"] (defScope (top 4)) := ⟨rfl, rfl, rfl, by decide +kernel, rfl, by decide +kernel, by decide +kernel⟩
theorem bi_exact : BindOk "exact" (top 4) ["first", "second", "third", "fourth", "power"] := fun _ _ _ _ _ _ us hl => match us, hl with | [_, _, _, _, _], _ => rfl
theorem ok_exact (Z : Facts K mg base) : Fn P w K mg base (TT K) 2 "exact" [false, false, false, false, false] n_exact := by
  have S := sc_exact
  exact fn_mkC rfl (k := 1) Z.f_exact S rfl bi_exact fun A outer s H E hr => (db_cons (ds_set S.nd rfl (by first | exact .inl rfl | exact .inr rfl) (d_tup (da_cons (d_opn (pv 0)) (da_cons (d_opn (pv 1)) (da_cons (d_opn (pv 2)) (da_cons (d_opn (pv 3)) da_nil)))))) (db_cons (ds_while FU own_fn (dt_lt (d_opn (pv 4)) (d_opx d_int)) (db_cons (ds_set S.nd rfl (by first | exact .inl rfl | exact .inr rfl) (d_cal (ok_by_root (w := w) Z) pass_fn hr (da_cons (d_opn (pv 5)) da_nil) (by first | omega | decide))) (db_cons (ds_augN ip_add S.nd rfl (by first | exact .inl rfl | exact .inr rfl) d_int) db_nil))) (db_cons (ds_while FU own_fn (DW.dt (dw_and (dt_gt (d_opn (pv 4)) (d_opx d_int)) (dw_and1 (dt_truth (d_opx (d_allG hr rfl Z.b_all Z.tb_exact (by simp [TT]) rfl (gen_scope (by decide +kernel) rfl rfl) (d_cal (ok_by_root (w := w) Z) pass_fn hr (da_cons (d_opn (pv 5)) da_nil) (by first | omega | decide)) (elt_modEq (by decide) rfl rfl) (fun _ => rfl))))))) (db_cons (ds_set S.nd rfl (by first | exact .inl rfl | exact .inr rfl) (d_tuple rfl Z.b_tuple (da_cons (d_opx (d_lcx rfl S.nd (di_seq (d_cal (ok_by_root (w := w) Z) pass_fn hr (da_cons (d_opn (pv 5)) da_nil) (by first | omega | decide))) (blk_of (N := N_exact) (sc := defScope (top 4)) (own := [("part", 6)]) (by decide +kernel)) (fun _ _ _ _ _ => (dg_name S.nd rfl (by first | exact .inl rfl | exact .inr rfl))) (fun _ _ _ _ _ => dts_nil) (fun _ _ _ _ _ => (d_fdiv (d_opn (pv 6)) (d_opx d_int))))) da_nil))) (db_cons (ds_augN ip_sub S.nd rfl (by first | exact .inl rfl | exact .inr rfl) d_int) (db_cons (ds_if (dt_eq hr.units (d_opn (pv 5)) (d_opx (d_tup (da_cons (d_opx d_int) (da_cons (d_opx d_int) (da_cons (d_opx d_int) (da_cons (d_opx d_int) da_nil))))))) (db_cons (ds_ret (d_glo Z.k_ZERO)) db_nil) db_nil) db_nil)))) (db_cons (ds_ret (d_add (d_opn (pv 5)) (d_opx (d_tup (da_cons (d_opn (pv 4)) da_nil))))) db_nil))))
def N_unit : List Str := ["turns", "told"]
noncomputable def b_unit : Sv := (seqS (setS 1 (vLst [(.ex (vC (.int 0))), (.ex (vC (.int 0))), (.ex (vC (.int 0))), (.ex (vC (.int 0)))])) (seqS (setI 1 (opS modO [(.nm 0), (.ex (vC (.int 4)))]) (ifV (tstB (opS ltS [(.ex (opS modO [(.nm 0), (.ex (vC (.int 8)))])), (.ex (vC (.int 4)))])) (vC (.int 1)) (opS negO [(.ex (vC (.int 1)))]))) (seqS (retS (opS addO [(.ex (opS tupleO [(.nm 1)])), (.ex (vTup [(.ex (vC (.int 0)))]))])) skipS)))
noncomputable def n_unit : Den := denOf 2 [false] b_unit
theorem sc_unit : FnScope N_unit ["turns"] (defScope (top 5)) := ⟨rfl, rfl, rfl, by decide +kernel, rfl, by decide +kernel, by decide +kernel⟩
theorem bi_unit : BindOk "unit" (top 5) ["turns"] := fun _ _ _ _ _ _ us hl => match us, hl with | [_], _ => rfl
theorem ok_unit (Z : Facts K mg base) : Fn P w K mg base (TT K) 1 "unit" [false] n_unit := by
  have S := sc_unit
  exact fn_mk (k := 0) Z.f_unit S rfl bi_unit fun cdv A outer s H E hr => (db_cons (ds_set S.nd rfl (by first | exact .inl rfl | exact .inr rfl) (d_lst (da_cons (d_opx d_int) (da_cons (d_opx d_int) (da_cons (d_opx d_int) (da_cons (d_opx d_int) da_nil)))))) (db_cons (ds_setI (pv 1) (d_mod (d_opn (pv 0)) (d_opx d_int)) (d_if (dt_lt (d_opx (d_mod (d_opn (pv 0)) (d_opx d_int))) (d_opx d_int)) d_int (d_neg (d_opx d_int)))) (db_cons (ds_ret (d_add (d_opx (d_tuple rfl Z.b_tuple (da_cons (d_opn (pv 1)) da_nil))) (d_opx (d_tup (da_cons (d_opx d_int) da_nil))))) db_nil)))
def N_add : List Str := ["one", "other", "power", "told", "number", "parts", "_", "before", "part"]
noncomputable def e0_add : Ev := (opS addO [(.nm 7), (.nm 8)])
noncomputable def l1_add : Sv := (seqS (setS 5 (callS [false] n_by_root [(.nm 5)])) skipS)
noncomputable def l2_add : Sv := (seqS (setS 5 (slS (.nm 4) .no (.at_ (vC (.int 4))))) (seqS (forE (rng1 (opS subO [(.nm 2), (.ex (opS ixS [(.nm 4), (.ex (vC (.int 4)))]))])) (tgN 6) l1_add) (seqS (setS 3 (lcS (zipI (.nm 3) (.nm 5)) (tgSeq (tgCons (tgN 7) (tgCons (tgN 8) tgNil))) yesT e0_add [7, 8])) skipS)))
noncomputable def b_add : Sv := (seqS (setS 2 (opS max2 [(.ex (opS ixS [(.nm 0), (.ex (vC (.int 4)))])), (.ex (opS ixS [(.nm 1), (.ex (vC (.int 4)))]))])) (seqS (setS 3 (vLst [(.ex (vC (.int 0))), (.ex (vC (.int 0))), (.ex (vC (.int 0))), (.ex (vC (.int 0)))])) (seqS (forE (seqI (vTup [(.nm 0), (.nm 1)])) (tgN 4) l2_add) (seqS (retS (callS [false, false, false, false, false] n_exact [(.ex (opS ixS [(.nm 3), (.ex (vC (.int 0)))])), (.ex (opS ixS [(.nm 3), (.ex (vC (.int 1)))])), (.ex (opS ixS [(.nm 3), (.ex (vC (.int 2)))])), (.ex (opS ixS [(.nm 3), (.ex (vC (.int 3)))])), (.nm 2)])) skipS))))
noncomputable def n_add : Den := denOf 9 [false, false] b_add
theorem sc_add : FnScope N_add ["one", "other"] (defScope (top 6)) := ⟨rfl, rfl, rfl, by decide +kernel, rfl, by decide +kernel, by decide +kernel⟩
theorem bi_add : BindOk "add" (top 6) ["one", "other"] := fun _ _ _ _ _ _ us hl => match us, hl with | [_, _], _ => rfl
theorem ok_add (Z : Facts K mg base) : Fn P w K mg base (TT K) 3 "add" [false, false] n_add := by
  have S := sc_add
  exact fn_mk (k := 2) Z.f_add S rfl bi_add fun cdv A outer s H E hr => (db_cons (ds_set S.nd rfl (by first | exact .inl rfl | exact .inr rfl) (d_max2 rfl rfl Z.b_max (da_cons (d_opx (d_ix (d_opn (pv 0)) (d_opx d_int))) (da_cons (d_opx (d_ix (d_opn (pv 1)) (d_opx d_int))) da_nil)))) (db_cons (ds_set S.nd rfl (by first | exact .inl rfl | exact .inr rfl) (d_lst (da_cons (d_opx d_int) (da_cons (d_opx d_int) (da_cons (d_opx d_int) (da_cons (d_opx d_int) da_nil)))))) (db_cons (ds_for own_fn rfl (di_seq (d_tup (da_cons (d_opn (pv 0)) (da_cons (d_opn (pv 1)) da_nil)))) (dg_name S.nd rfl (by first | exact .inl rfl | exact .inr rfl)) (db_cons (ds_set S.nd rfl (by first | exact .inl rfl | exact .inr rfl) (d_slice (d_opn (pv 4)) dp_no (dp_at d_int))) (db_cons (ds_for own_fn rfl (di_rng1 rfl Z.b_range (d_sub (d_opn (pv 2)) (d_opx (d_ix (d_opn (pv 4)) (d_opx d_int))))) (dg_name S.nd rfl (by first | exact .inl rfl | exact .inr rfl)) (db_cons (ds_set S.nd rfl (by first | exact .inl rfl | exact .inr rfl) (d_cal (ok_by_root (w := w) Z) pass_fn hr (da_cons (d_opn (pv 5)) da_nil) (by first | omega | decide))) db_nil)) (db_cons (ds_setLcx rfl S.nd rfl rfl rfl (di_zip rfl Z.b_zip (da_cons (d_opn (pv 3)) (da_cons (d_opn (pv 5)) da_nil))) (blk_of (N := N_add) (sc := defScope (top 6)) (own := [("before", 7), ("part", 8)]) (by decide +kernel)) (fun _ _ _ _ _ => (dg_seq rfl (dgs_cons (dg_name S.nd rfl (by first | exact .inl rfl | exact .inr rfl)) (dgs_cons (dg_name S.nd rfl (by first | exact .inl rfl | exact .inr rfl)) dgs_nil)) (hu := (tg_lenS (tg_lenS tg_len0))))) (fun _ _ _ _ _ => dts_nil) (fun _ _ _ _ _ => (d_add (d_opn (pv 7)) (d_opn (pv 8))))) db_nil)))) (db_cons (ds_ret (d_cal (ok_exact (w := w) Z) pass_fn hr (da_cons (d_opx (d_ix (d_opn (pv 3)) (d_opx d_int))) (da_cons (d_opx (d_ix (d_opn (pv 3)) (d_opx d_int))) (da_cons (d_opx (d_ix (d_opn (pv 3)) (d_opx d_int))) (da_cons (d_opx (d_ix (d_opn (pv 3)) (d_opx d_int))) (da_cons (d_opn (pv 2)) da_nil))))) (by first | omega | decide))) db_nil))))
def N_times : List Str := ["one", "other", "told", "place", "part", "at", "more", "sign"]
noncomputable def l0_times : Sv := (seqS (setS 7 (ifV (tstB (opS ltS [(.ex (opS addO [(.nm 3), (.nm 5)])), (.ex (vC (.int 4)))])) (vC (.int 1)) (opS negO [(.ex (vC (.int 1)))]))) (seqS (augI (fun i j => i + j) 2 (opS modO [(.ex (opS addO [(.nm 3), (.nm 5)])), (.ex (vC (.int 4)))]) (opS mulO [(.ex (opS mulO [(.nm 7), (.nm 4)])), (.nm 6)])) skipS))
noncomputable def l1_times : Sv := (seqS (forE (enumI (slS (.nm 1) .no (.at_ (vC (.int 4))))) (tgSeq (tgCons (tgN 5) (tgCons (tgN 6) tgNil))) l0_times) skipS)
noncomputable def b_times : Sv := (seqS (setS 2 (vLst [(.ex (vC (.int 0))), (.ex (vC (.int 0))), (.ex (vC (.int 0))), (.ex (vC (.int 0)))])) (seqS (forE (enumI (slS (.nm 0) .no (.at_ (vC (.int 4))))) (tgSeq (tgCons (tgN 3) (tgCons (tgN 4) tgNil))) l1_times) (seqS (retS (callS [false, false, false, false, false] n_exact [(.ex (opS ixS [(.nm 2), (.ex (vC (.int 0)))])), (.ex (opS ixS [(.nm 2), (.ex (vC (.int 1)))])), (.ex (opS ixS [(.nm 2), (.ex (vC (.int 2)))])), (.ex (opS ixS [(.nm 2), (.ex (vC (.int 3)))])), (.ex (opS addO [(.ex (opS ixS [(.nm 0), (.ex (vC (.int 4)))])), (.ex (opS ixS [(.nm 1), (.ex (vC (.int 4)))]))]))])) skipS)))
noncomputable def n_times : Den := denOf 8 [false, false] b_times
theorem sc_times : FnScope N_times ["one", "other"] (defScope (top 7)) := ⟨rfl, rfl, rfl, by decide +kernel, rfl, by decide +kernel, by decide +kernel⟩
theorem bi_times : BindOk "times" (top 7) ["one", "other"] := fun _ _ _ _ _ _ us hl => match us, hl with | [_, _], _ => rfl
theorem ok_times (Z : Facts K mg base) : Fn P w K mg base (TT K) 3 "times" [false, false] n_times := by
  have S := sc_times
  exact fn_mk (k := 2) Z.f_times S rfl bi_times fun cdv A outer s H E hr => (db_cons (ds_set S.nd rfl (by first | exact .inl rfl | exact .inr rfl) (d_lst (da_cons (d_opx d_int) (da_cons (d_opx d_int) (da_cons (d_opx d_int) (da_cons (d_opx d_int) da_nil)))))) (db_cons (ds_for own_fn rfl (di_enum rfl Z.b_enumerate (d_slice (d_opn (pv 0)) dp_no (dp_at d_int))) (dg_seq rfl (dgs_cons (dg_name S.nd rfl (by first | exact .inl rfl | exact .inr rfl)) (dgs_cons (dg_name S.nd rfl (by first | exact .inl rfl | exact .inr rfl)) dgs_nil)) (hu := (tg_lenS (tg_lenS tg_len0)))) (db_cons (ds_for own_fn rfl (di_enum rfl Z.b_enumerate (d_slice (d_opn (pv 1)) dp_no (dp_at d_int))) (dg_seq rfl (dgs_cons (dg_name S.nd rfl (by first | exact .inl rfl | exact .inr rfl)) (dgs_cons (dg_name S.nd rfl (by first | exact .inl rfl | exact .inr rfl)) dgs_nil)) (hu := (tg_lenS (tg_lenS tg_len0)))) (db_cons (ds_set S.nd rfl (by first | exact .inl rfl | exact .inr rfl) (d_if (dt_lt (d_opx (d_add (d_opn (pv 3)) (d_opn (pv 5)))) (d_opx d_int)) d_int (d_neg (d_opx d_int)))) (db_cons (ds_augI ip_add (pv 2) (d_mod (d_opx (d_add (d_opn (pv 3)) (d_opn (pv 5)))) (d_opx d_int)) (d_mul (d_opx (d_mul (d_opn (pv 7)) (d_opn (pv 4)))) (d_opn (pv 6)))) db_nil))) db_nil)) (db_cons (ds_ret (d_cal (ok_exact (w := w) Z) pass_fn hr (da_cons (d_opx (d_ix (d_opn (pv 2)) (d_opx d_int))) (da_cons (d_opx (d_ix (d_opn (pv 2)) (d_opx d_int))) (da_cons (d_opx (d_ix (d_opn (pv 2)) (d_opx d_int))) (da_cons (d_opx (d_ix (d_opn (pv 2)) (d_opx d_int))) (da_cons (d_opx (d_add (d_opx (d_ix (d_opn (pv 0)) (d_opx d_int))) (d_opx (d_ix (d_opn (pv 1)) (d_opx d_int))))) da_nil))))) (by first | omega | decide))) db_nil)))
def N_negate : List Str := ["number", "part"]
noncomputable def e0_negate : Ev := (opS negO [(.nm 1)])
noncomputable def b_negate : Sv := (seqS (retS (opS addO [(.ex (opS tupleO [(.ex (lcS (seqI (slS (.nm 0) .no (.at_ (vC (.int 4))))) (tgN 1) yesT e0_negate [1]))])), (.ex (vTup [(.ex (opS ixS [(.nm 0), (.ex (vC (.int 4)))]))]))])) skipS)
noncomputable def n_negate : Den := denOf 2 [false] b_negate
theorem sc_negate : FnScope N_negate ["number"] (defScope (top 8)) := ⟨rfl, rfl, rfl, by decide +kernel, rfl, by decide +kernel, by decide +kernel⟩
theorem bi_negate : BindOk "negate" (top 8) ["number"] := fun _ _ _ _ _ _ us hl => match us, hl with | [_], _ => rfl
theorem ok_negate (Z : Facts K mg base) : Fn P w K mg base (TT K) 1 "negate" [false] n_negate := by
  have S := sc_negate
  exact fn_mk (k := 0) Z.f_negate S rfl bi_negate fun cdv A outer s H E hr => (db_cons (ds_ret (d_add (d_opx (d_tuple rfl Z.b_tuple (da_cons (d_opx (d_lcx rfl S.nd (di_seq (d_slice (d_opn (pv 0)) dp_no (dp_at d_int))) (blk_of (N := N_negate) (sc := defScope (top 8)) (own := [("part", 1)]) (by decide +kernel)) (fun _ _ _ _ _ => (dg_name S.nd rfl (by first | exact .inl rfl | exact .inr rfl))) (fun _ _ _ _ _ => dts_nil) (fun _ _ _ _ _ => (d_neg (d_opn (pv 1)))))) da_nil))) (d_opx (d_tup (da_cons (d_opx (d_ix (d_opn (pv 0)) (d_opx d_int))) da_nil))))) db_nil)
def N_conjugate : List Str := ["number", "first", "second", "third", "fourth", "power"]
noncomputable def b_conjugate : Sv := (seqS (asgS (tgSeq (tgCons (tgN 1) (tgCons (tgN 2) (tgCons (tgN 3) (tgCons (tgN 4) (tgCons (tgN 5) tgNil)))))) (vVar 0)) (seqS (retS (vTup [(.nm 1), (.ex (opS negO [(.nm 4)])), (.ex (opS negO [(.nm 3)])), (.ex (opS negO [(.nm 2)])), (.nm 5)])) skipS))
noncomputable def n_conjugate : Den := denOf 6 [false] b_conjugate
theorem sc_conjugate : FnScope N_conjugate ["number"] (defScope (top 9)) := ⟨rfl, rfl, rfl, by decide +kernel, rfl, by decide +kernel, by decide +kernel⟩
theorem bi_conjugate : BindOk "conjugate" (top 9) ["number"] := fun _ _ _ _ _ _ us hl => match us, hl with | [_], _ => rfl
theorem ok_conjugate (Z : Facts K mg base) : Fn P w K mg base (TT K) 1 "conjugate" [false] n_conjugate := by
  have S := sc_conjugate
  exact fn_mk (k := 0) Z.f_conjugate S rfl bi_conjugate fun cdv A outer s H E hr => (db_cons (ds_asg (d_var (pv 0)) (dg_seq rfl (dgs_cons (dg_name S.nd rfl (by first | exact .inl rfl | exact .inr rfl)) (dgs_cons (dg_name S.nd rfl (by first | exact .inl rfl | exact .inr rfl)) (dgs_cons (dg_name S.nd rfl (by first | exact .inl rfl | exact .inr rfl)) (dgs_cons (dg_name S.nd rfl (by first | exact .inl rfl | exact .inr rfl)) (dgs_cons (dg_name S.nd rfl (by first | exact .inl rfl | exact .inr rfl)) dgs_nil))))) (hu := (tg_lenS (tg_lenS (tg_lenS (tg_lenS (tg_lenS tg_len0)))))))) (db_cons (ds_ret (d_tup (da_cons (d_opn (pv 1)) (da_cons (d_opx (d_neg (d_opn (pv 4)))) (da_cons (d_opx (d_neg (d_opn (pv 3)))) (da_cons (d_opx (d_neg (d_opn (pv 2)))) (da_cons (d_opn (pv 5)) da_nil))))))) db_nil))
def N_scaled : List Str := ["number", "power"]
noncomputable def b_scaled : Sv := (seqS (retS (callS [false, false, false, false, false] n_exact [(.ex (opS ixS [(.nm 0), (.ex (vC (.int 0)))])), (.ex (opS ixS [(.nm 0), (.ex (vC (.int 1)))])), (.ex (opS ixS [(.nm 0), (.ex (vC (.int 2)))])), (.ex (opS ixS [(.nm 0), (.ex (vC (.int 3)))])), (.ex (opS addO [(.ex (opS ixS [(.nm 0), (.ex (vC (.int 4)))])), (.nm 1)]))])) skipS)
noncomputable def n_scaled : Den := denOf 2 [false, false] b_scaled
theorem sc_scaled : FnScope N_scaled ["number", "power"] (defScope (top 10)) := ⟨rfl, rfl, rfl, by decide +kernel, rfl, by decide +kernel, by decide +kernel⟩
theorem bi_scaled : BindOk "scaled" (top 10) ["number", "power"] := fun _ _ _ _ _ _ us hl => match us, hl with | [_, _], _ => rfl
theorem ok_scaled (Z : Facts K mg base) : Fn P w K mg base (TT K) 3 "scaled" [false, false] n_scaled := by
  have S := sc_scaled
  exact fn_mk (k := 2) Z.f_scaled S rfl bi_scaled fun cdv A outer s H E hr => (db_cons (ds_ret (d_cal (ok_exact (w := w) Z) pass_fn hr (da_cons (d_opx (d_ix (d_opn (pv 0)) (d_opx d_int))) (da_cons (d_opx (d_ix (d_opn (pv 0)) (d_opx d_int))) (da_cons (d_opx (d_ix (d_opn (pv 0)) (d_opx d_int))) (da_cons (d_opx (d_ix (d_opn (pv 0)) (d_opx d_int))) (da_cons (d_opx (d_add (d_opx (d_ix (d_opn (pv 0)) (d_opx d_int))) (d_opn (pv 1)))) da_nil))))) (by first | omega | decide))) db_nil)
def N_shift_of : List Str := ["state", "qubit"]
noncomputable def b_shift_of : Sv := (seqS (retS (opS subO [(.ex (opS subO [(.ex (opS lenO [(.ex (opS ixS [(.nm 0), (.ex (vC (.int 0)))]))])), (.ex (vC (.int 1)))])), (.ex (idxM (.ex (opS ixS [(.nm 0), (.ex (vC (.int 0)))])) (.nm 1)))])) skipS)
noncomputable def n_shift_of : Den := denOf 2 [false, false] b_shift_of
theorem sc_shift_of : FnScope N_shift_of ["state", "qubit"] (defScope (top 13)) := ⟨rfl, rfl, rfl, by decide +kernel, rfl, by decide +kernel, by decide +kernel⟩
theorem bi_shift_of : BindOk "shift_of" (top 13) ["state", "qubit"] := fun _ _ _ _ _ _ us hl => match us, hl with | [_, _], _ => rfl
theorem ok_shift_of (Z : Facts K mg base) : Fn P w K mg base (TT K) 1 "shift_of" [false, false] n_shift_of := by
  have S := sc_shift_of
  exact fn_mk (k := 0) Z.f_shift_of S rfl bi_shift_of fun cdv A outer s H E hr => (db_cons (ds_ret (d_sub (d_opx (d_sub (d_opx (DL.d_len rfl Z.b_len (da_cons (d_opx (d_ix (d_opn (pv 0)) (d_opx d_int))) da_nil))) (d_opx d_int))) (d_opx (d_idx (d_opx (d_ix (d_opn (pv 0)) (d_opx d_int))) (d_opn (pv 1)))))) db_nil)
def N_pauli_x : List Str := ["state", "qubit", "flip", "index"]
noncomputable def e0_pauli_x : Ev := (opS ixS [(.ex (opS ixS [(.nm 0), (.ex (vC (.int 1)))])), (.ex (opS bxorO [(.nm 3), (.nm 2)]))])
noncomputable def b_pauli_x : Sv := (seqS (setS 2 (opS shlO [(.ex (vC (.int 1))), (.ex (callS [false, false] n_shift_of [(.nm 0), (.nm 1)]))])) (seqS (retS (vTup [(.ex (opS ixS [(.nm 0), (.ex (vC (.int 0)))])), (.ex (opS tupleO [(.ex (lcS (rng1 (opS lenO [(.ex (opS ixS [(.nm 0), (.ex (vC (.int 1)))]))])) (tgN 3) yesT e0_pauli_x [3]))]))])) skipS))
noncomputable def n_pauli_x : Den := denOf 4 [false, false] b_pauli_x
theorem sc_pauli_x : FnScope N_pauli_x ["state", "qubit"] (defScope (top 14)) := ⟨rfl, rfl, rfl, by decide +kernel, rfl, by decide +kernel, by decide +kernel⟩
theorem bi_pauli_x : BindOk "pauli_x" (top 14) ["state", "qubit"] := fun _ _ _ _ _ _ us hl => match us, hl with | [_, _], _ => rfl
theorem ok_pauli_x (Z : Facts K mg base) : Fn P w K mg base (TT K) 2 "pauli_x" [false, false] n_pauli_x := by
  have S := sc_pauli_x
  exact fn_mk (k := 1) Z.f_pauli_x S rfl bi_pauli_x fun cdv A outer s H E hr => (db_cons (ds_set S.nd rfl (by first | exact .inl rfl | exact .inr rfl) (d_shl (d_opx d_int) (d_opx (d_cal (ok_shift_of (w := w) Z) pass_fn hr (da_cons (d_opn (pv 0)) (da_cons (d_opn (pv 1)) da_nil)) (by first | omega | decide))))) (db_cons (ds_ret (d_tup (da_cons (d_opx (d_ix (d_opn (pv 0)) (d_opx d_int))) (da_cons (d_opx (d_tuple rfl Z.b_tuple (da_cons (d_opx (d_lcx rfl S.nd (di_rng1 rfl Z.b_range (DL.d_len rfl Z.b_len (da_cons (d_opx (d_ix (d_opn (pv 0)) (d_opx d_int))) da_nil))) (blk_of (N := N_pauli_x) (sc := defScope (top 14)) (own := [("index", 3)]) (by decide +kernel)) (fun _ _ _ _ _ => (dg_name S.nd rfl (by first | exact .inl rfl | exact .inr rfl))) (fun _ _ _ _ _ => dts_nil) (fun _ _ _ _ _ => (d_ix (d_opx (d_ix (d_opn (pv 0)) (d_opx d_int))) (d_opx (d_bxor (d_opn (pv 3)) (d_opn (pv 2)))))))) da_nil))) da_nil)))) db_nil))
def N_turn : List Str := ["state", "qubit", "turns", "shift", "factor", "told", "index", "number"]
noncomputable def l0_turn : Sv := (seqS (dropS (mutS 5 appO [(.ex (ifV (truA (.ex (opS bandO [(.ex (opS shrO [(.nm 6), (.nm 3)])), (.ex (vC (.int 1)))]))) (callS [false, false] n_times [(.nm 4), (.nm 7)]) (vVar 7)))])) skipS)
noncomputable def b_turn : Sv := (seqS (setS 3 (callS [false, false] n_shift_of [(.nm 0), (.nm 1)])) (seqS (setS 4 (callS [false] n_unit [(.nm 2)])) (seqS (setS 5 (vLst [])) (seqS (forE (enumI (opS ixS [(.nm 0), (.ex (vC (.int 1)))])) (tgSeq (tgCons (tgN 6) (tgCons (tgN 7) tgNil))) l0_turn) (seqS (retS (vTup [(.ex (opS ixS [(.nm 0), (.ex (vC (.int 0)))])), (.ex (opS tupleO [(.nm 5)]))])) skipS)))))
noncomputable def n_turn : Den := denOf 8 [false, false, false] b_turn
theorem sc_turn : FnScope N_turn ["state", "qubit", "turns"] (defScope (top 15)) := ⟨rfl, rfl, rfl, by decide +kernel, rfl, by decide +kernel, by decide +kernel⟩
theorem bi_turn : BindOk "turn" (top 15) ["state", "qubit", "turns"] := fun _ _ _ _ _ _ us hl => match us, hl with | [_, _, _], _ => rfl
theorem ok_turn (Z : Facts K mg base) : Fn P w K mg base (TT K) 4 "turn" [false, false, false] n_turn := by
  have S := sc_turn
  exact fn_mk (k := 3) Z.f_turn S rfl bi_turn fun cdv A outer s H E hr => (db_cons (ds_set S.nd rfl (by first | exact .inl rfl | exact .inr rfl) (d_cal (ok_shift_of (w := w) Z) pass_fn hr (da_cons (d_opn (pv 0)) (da_cons (d_opn (pv 1)) da_nil)) (by first | omega | decide))) (db_cons (ds_set S.nd rfl (by first | exact .inl rfl | exact .inr rfl) (d_cal (ok_unit (w := w) Z) pass_fn hr (da_cons (d_opn (pv 2)) da_nil) (by first | omega | decide))) (db_cons (ds_set S.nd rfl (by first | exact .inl rfl | exact .inr rfl) (d_lst da_nil)) (db_cons (ds_for own_fn rfl (di_enum rfl Z.b_enumerate (d_ix (d_opn (pv 0)) (d_opx d_int))) (dg_seq rfl (dgs_cons (dg_name S.nd rfl (by first | exact .inl rfl | exact .inr rfl)) (dgs_cons (dg_name S.nd rfl (by first | exact .inl rfl | exact .inr rfl)) dgs_nil)) (hu := (tg_lenS (tg_lenS tg_len0)))) (db_cons (ds_expr (d_append (pv 5) (da_cons (d_opx (d_if (dt_truth (d_opx (d_band (d_opx (d_shr (d_opn (pv 6)) (d_opn (pv 3)))) (d_opx d_int)))) (d_cal (ok_times (w := w) Z) pass_fn hr (da_cons (d_opn (pv 4)) (da_cons (d_opn (pv 7)) da_nil)) (by first | omega | decide)) (d_var (pv 7)))) da_nil))) db_nil)) (db_cons (ds_ret (d_tup (da_cons (d_opx (d_ix (d_opn (pv 0)) (d_opx d_int))) (da_cons (d_opx (d_tuple rfl Z.b_tuple (da_cons (d_opn (pv 5)) da_nil))) da_nil)))) db_nil)))))
def N_pauli_z : List Str := ["state", "qubit"]
noncomputable def b_pauli_z : Sv := (seqS (retS (callS [false, false, false] n_turn [(.nm 0), (.nm 1), (.ex (vC (.int 4)))])) skipS)
noncomputable def n_pauli_z : Den := denOf 2 [false, false] b_pauli_z
theorem sc_pauli_z : FnScope N_pauli_z ["state", "qubit"] (defScope (top 16)) := ⟨rfl, rfl, rfl, by decide +kernel, rfl, by decide +kernel, by decide +kernel⟩
theorem bi_pauli_z : BindOk "pauli_z" (top 16) ["state", "qubit"] := fun _ _ _ _ _ _ us hl => match us, hl with | [_, _], _ => rfl
theorem ok_pauli_z (Z : Facts K mg base) : Fn P w K mg base (TT K) 5 "pauli_z" [false, false] n_pauli_z := by
  have S := sc_pauli_z
  exact fn_mk (k := 4) Z.f_pauli_z S rfl bi_pauli_z fun cdv A outer s H E hr => (db_cons (ds_ret (d_cal (ok_turn (w := w) Z) pass_fn hr (da_cons (d_opn (pv 0)) (da_cons (d_opn (pv 1)) (da_cons (d_opx d_int) da_nil))) (by first | omega | decide))) db_nil)
def N_plane_state : List Str := ["plane", "turns", "factor", "low", "high"]
noncomputable def b_plane_state : Sv := (seqS (setS 2 (callS [false] n_unit [(.nm 1)])) (seqS (ifS (tstB (opS (eqS false) [(.nm 0), (.ex (vC (.str "XY")))])) (seqS (retS (vTup [(.ex (callS [false, false] n_scaled [(.ex (vC K_ONE)), (.ex (vC (.int 1)))])), (.ex (callS [false, false] n_scaled [(.nm 2), (.ex (vC (.int 1)))]))])) skipS) skipS) (seqS (setS 3 (callS [false, false] n_scaled [(.ex (callS [false, false] n_add [(.ex (vC K_ONE)), (.nm 2)])), (.ex (vC (.int 2)))])) (seqS (setS 4 (callS [false, false] n_scaled [(.ex (callS [false, false] n_add [(.ex (vC K_ONE)), (.ex (callS [false] n_negate [(.nm 2)]))])), (.ex (vC (.int 2)))])) (seqS (retS (vTup [(.nm 3), (.ex (ifV (tstB (opS (eqS false) [(.nm 0), (.ex (vC (.str "XZ")))])) (callS [false, false] n_times [(.ex (callS [false] n_unit [(.ex (vC K_IMAGINARY))])), (.nm 4)]) (vVar 4)))])) skipS)))))
noncomputable def n_plane_state : Den := denOf 5 [false, false] b_plane_state
theorem sc_plane_state : FnScope N_plane_state ["plane", "turns"] (defScope (top 17)) := ⟨rfl, rfl, rfl, by decide +kernel, rfl, by decide +kernel, by decide +kernel⟩
theorem bi_plane_state : BindOk "plane_state" (top 17) ["plane", "turns"] := fun _ _ _ _ _ _ us hl => match us, hl with | [_, _], _ => rfl
theorem ok_plane_state (Z : Facts K mg base) : Fn P w K mg base (TT K) 4 "plane_state" [false, false] n_plane_state := by
  have S := sc_plane_state
  exact fn_mk (k := 3) Z.f_plane_state S rfl bi_plane_state fun cdv A outer s H E hr => (db_cons (ds_set S.nd rfl (by first | exact .inl rfl | exact .inr rfl) (d_cal (ok_unit (w := w) Z) pass_fn hr (da_cons (d_opn (pv 1)) da_nil) (by first | omega | decide))) (db_cons (ds_if (dt_eq hr.units (d_opn (pv 0)) (d_opx d_str)) (db_cons (ds_ret (d_tup (da_cons (d_opx (d_cal (ok_scaled (w := w) Z) pass_fn hr (da_cons (d_opx (d_glo Z.k_ONE)) (da_cons (d_opx d_int) da_nil)) (by first | omega | decide))) (da_cons (d_opx (d_cal (ok_scaled (w := w) Z) pass_fn hr (da_cons (d_opn (pv 2)) (da_cons (d_opx d_int) da_nil)) (by first | omega | decide))) da_nil)))) db_nil) db_nil) (db_cons (ds_set S.nd rfl (by first | exact .inl rfl | exact .inr rfl) (d_cal (ok_scaled (w := w) Z) pass_fn hr (da_cons (d_opx (d_cal (ok_add (w := w) Z) pass_fn hr (da_cons (d_opx (d_glo Z.k_ONE)) (da_cons (d_opn (pv 2)) da_nil)) (by first | omega | decide))) (da_cons (d_opx d_int) da_nil)) (by first | omega | decide))) (db_cons (ds_set S.nd rfl (by first | exact .inl rfl | exact .inr rfl) (d_cal (ok_scaled (w := w) Z) pass_fn hr (da_cons (d_opx (d_cal (ok_add (w := w) Z) pass_fn hr (da_cons (d_opx (d_glo Z.k_ONE)) (da_cons (d_opx (d_cal (ok_negate (w := w) Z) pass_fn hr (da_cons (d_opn (pv 2)) da_nil) (by first | omega | decide))) da_nil)) (by first | omega | decide))) (da_cons (d_opx d_int) da_nil)) (by first | omega | decide))) (db_cons (ds_ret (d_tup (da_cons (d_opn (pv 3)) (da_cons (d_opx (d_if (dt_eq hr.units (d_opn (pv 0)) (d_opx d_str)) (d_cal (ok_times (w := w) Z) pass_fn hr (da_cons (d_opx (d_cal (ok_unit (w := w) Z) pass_fn hr (da_cons (d_opx (d_glo Z.k_IMAGINARY)) da_nil) (by first | omega | decide))) (da_cons (d_opn (pv 4)) da_nil)) (by first | omega | decide)) (d_var (pv 4)))) da_nil)))) db_nil)))))
def N_project : List Str := ["state", "qubit", "plane", "turns", "shift", "low", "high", "number", "told", "index", "old", "one"]
noncomputable def e0_project : Ev := (vVar 11)
noncomputable def l1_project : Sv := (seqS (setS 10 (opS addO [(.ex (opS shlO [(.ex (opS shrO [(.nm 9), (.nm 4)])), (.ex (opS addO [(.nm 4), (.ex (vC (.int 1)))]))])), (.ex (opS modO [(.nm 9), (.ex (opS shlO [(.ex (vC (.int 1))), (.nm 4)]))]))])) (seqS (dropS (mutS 8 appO [(.ex (callS [false, false] n_add [(.ex (callS [false, false] n_times [(.nm 5), (.ex (opS ixS [(.ex (opS ixS [(.nm 0), (.ex (vC (.int 1)))])), (.nm 10)]))])), (.ex (callS [false, false] n_times [(.nm 6), (.ex (opS ixS [(.ex (opS ixS [(.nm 0), (.ex (vC (.int 1)))])), (.ex (opS addO [(.nm 10), (.ex (opS shlO [(.ex (vC (.int 1))), (.nm 4)]))]))]))]))]))])) skipS))
noncomputable def e2_project : Ev := (callS [false] n_conjugate [(.nm 7)])
noncomputable def b_project : Sv := (seqS (setS 4 (callS [false, false] n_shift_of [(.nm 0), (.nm 1)])) (seqS (asgS (tgSeq (tgCons (tgN 5) (tgCons (tgN 6) tgNil))) (vFrz (lcS (seqI (callS [false, false] n_plane_state [(.nm 2), (.nm 3)])) (tgN 7) yesT e2_project [7]))) (seqS (setS 8 (vLst [])) (seqS (forE (rng1 (opS fdivO [(.ex (opS lenO [(.ex (opS ixS [(.nm 0), (.ex (vC (.int 1)))]))])), (.ex (vC (.int 2)))])) (tgN 9) l1_project) (seqS (retS (vTup [(.ex (opS tupleF [(.ex (lcS (seqI (opS ixS [(.nm 0), (.ex (vC (.int 0)))])) (tgN 11) (tstB (opS (eqS true) [(.nm 11), (.nm 1)])) e0_project [11]))])), (.ex (opS tupleO [(.nm 8)]))])) skipS)))))
noncomputable def n_project : Den := denOf 12 [false, false, false, false] b_project
theorem sc_project : FnScope N_project ["state", "qubit", "plane", "turns"] (defScope (top 18)) := ⟨rfl, rfl, rfl, by decide +kernel, rfl, by decide +kernel, by decide +kernel⟩
theorem bi_project : BindOk "project" (top 18) ["state", "qubit", "plane", "turns"] := fun _ _ _ _ _ _ us hl => match us, hl with | [_, _, _, _], _ => rfl
theorem ok_project (Z : Facts K mg base) : Fn P w K mg base (TT K) 5 "project" [false, false, false, false] n_project := by
  have S := sc_project
  exact fn_mk (k := 4) Z.f_project S rfl bi_project fun cdv A outer s H E hr => (db_cons (ds_set S.nd rfl (by first | exact .inl rfl | exact .inr rfl) (d_cal (ok_shift_of (w := w) Z) pass_fn hr (da_cons (d_opn (pv 0)) (da_cons (d_opn (pv 1)) da_nil)) (by first | omega | decide))) (db_cons (ds_asg (d_frz (d_lcx rfl S.nd (di_seq (d_cal (ok_plane_state (w := w) Z) pass_fn hr (da_cons (d_opn (pv 2)) (da_cons (d_opn (pv 3)) da_nil)) (by first | omega | decide))) (blk_of (N := N_project) (sc := defScope (top 18)) (own := [("number", 7)]) (by decide +kernel)) (fun _ _ _ _ _ => (dg_name S.nd rfl (by first | exact .inl rfl | exact .inr rfl))) (fun _ _ _ _ _ => dts_nil) (fun _ _ _ _ _ => (d_cal (ok_conjugate (w := w) Z) passL hr (da_cons (d_opn (pv 7)) da_nil) (by first | omega | decide))))) (dg_seq rfl (dgs_cons (dg_name S.nd rfl (by first | exact .inl rfl | exact .inr rfl)) (dgs_cons (dg_name S.nd rfl (by first | exact .inl rfl | exact .inr rfl)) dgs_nil)) (hu := (tg_lenS (tg_lenS tg_len0))))) (db_cons (ds_set S.nd rfl (by first | exact .inl rfl | exact .inr rfl) (d_lst da_nil)) (db_cons (ds_for own_fn rfl (di_rng1 rfl Z.b_range (d_fdiv (d_opx (DL.d_len rfl Z.b_len (da_cons (d_opx (d_ix (d_opn (pv 0)) (d_opx d_int))) da_nil))) (d_opx d_int))) (dg_name S.nd rfl (by first | exact .inl rfl | exact .inr rfl)) (db_cons (ds_set S.nd rfl (by first | exact .inl rfl | exact .inr rfl) (d_add (d_opx (d_shl (d_opx (d_shr (d_opn (pv 9)) (d_opn (pv 4)))) (d_opx (d_add (d_opn (pv 4)) (d_opx d_int))))) (d_opx (d_mod (d_opn (pv 9)) (d_opx (d_shl (d_opx d_int) (d_opn (pv 4)))))))) (db_cons (ds_expr (d_append (pv 8) (da_cons (d_opx (d_cal (ok_add (w := w) Z) pass_fn hr (da_cons (d_opx (d_cal (ok_times (w := w) Z) pass_fn hr (da_cons (d_opn (pv 5)) (da_cons (d_opx (d_ix (d_opx (d_ix (d_opn (pv 0)) (d_opx d_int))) (d_opn (pv 10)))) da_nil)) (by first | omega | decide))) (da_cons (d_opx (d_cal (ok_times (w := w) Z) pass_fn hr (da_cons (d_opn (pv 6)) (da_cons (d_opx (d_ix (d_opx (d_ix (d_opn (pv 0)) (d_opx d_int))) (d_opx (d_add (d_opn (pv 10)) (d_opx (d_shl (d_opx d_int) (d_opn (pv 4)))))))) da_nil)) (by first | omega | decide))) da_nil)) (by first | omega | decide))) da_nil))) db_nil))) (db_cons (ds_ret (d_tup (da_cons (d_opx (d_tupleF rfl Z.b_tuple (da_cons (d_opx (d_lcx rfl S.nd (di_seq (d_ix (d_opn (pv 0)) (d_opx d_int))) (blk_of (N := N_project) (sc := defScope (top 18)) (own := [("one", 11)]) (by decide +kernel)) (fun _ _ _ _ _ => (dg_name S.nd rfl (by first | exact .inl rfl | exact .inr rfl))) (fun _ _ _ _ _ => (dts_one (dt_ne hr.units (d_opn (pv 11)) (d_opn (pv 1))))) (fun _ _ _ _ _ => (d_var (pv 11))))) da_nil))) (da_cons (d_opx (d_tuple rfl Z.b_tuple (da_cons (d_opn (pv 8)) da_nil))) da_nil)))) db_nil)))))
def N__law_refill : List Str := ["script", "k", "cell"]
noncomputable def b__law_refill : Sv := (seqS (setS 2 (vC (.int 0))) (seqS (ifS (truA (.nm 0)) (seqS (setS 2 (opS ixS [(.nm 0), (.ex (opS modO [(.nm 1), (.ex (opS lenO [(.nm 0)]))]))])) skipS) skipS) (seqS (ifS (tstB (opS ltS [(.nm 2), (.ex (vC (.int 0)))])) (seqS (setS 2 (opS subO [(.ex (vC (.int 1))), (.ex (opS mulO [(.ex (vC (.int 2))), (.nm 2)]))])) skipS) skipS) (seqS (ifS (andT (tstB (opS geS [(.nm 2), (.ex (opS powO [(.ex (vC (.int 10))), (.ex (vC (.int 18)))]))])) (tstB (opS ltS [(.nm 1), (.ex (opS lenO [(.nm 0)]))]))) (seqS (movS 2) skipS) skipS) (seqS (retS (opS modO [(.ex (opS intO [(.ex (opS addO [(.ex (opS mulO [(.ex (opS intO [(.ex (opS addO [(.ex (opS addO [(.ex (opS mulO [(.nm 2), (.ex (vC (.int 48271)))])), (.ex (opS mulO [(.nm 1), (.ex (vC (.int 69621)))]))])), (.ex (vC (.int 12345)))]))])), (.ex (vC (.int 40692)))])), (.ex (vC (.int 7)))]))])), (.ex (vC (.int 2147483399)))])) skipS)))))
noncomputable def n__law_refill : Den := denOf 3 [false, false] b__law_refill
theorem sc__law_refill : FnScope N__law_refill ["script", "k"] (defScope (top 20)) := ⟨rfl, rfl, rfl, by decide +kernel, rfl, by decide +kernel, by decide +kernel⟩
theorem bi__law_refill : BindOk "_law_refill" (top 20) ["script", "k"] := fun _ _ _ _ _ _ us hl => match us, hl with | [_, _], _ => rfl
theorem ok__law_refill (Z : Facts K mg base) : Fn P w K mg base (TT K) 1 "_law_refill" [false, false] n__law_refill := by
  have S := sc__law_refill
  exact fn_mk (k := 0) Z.f__law_refill S rfl bi__law_refill fun cdv A outer s H E hr => (db_cons (ds_set S.nd rfl (by first | exact .inl rfl | exact .inr rfl) d_int) (db_cons (ds_if (dt_truth (d_opn (pv 0))) (db_cons (ds_set S.nd rfl (by first | exact .inl rfl | exact .inr rfl) (d_ix (d_opn (pv 0)) (d_opx (d_mod (d_opn (pv 1)) (d_opx (DL.d_len rfl Z.b_len (da_cons (d_opn (pv 0)) da_nil))))))) db_nil) db_nil) (db_cons (ds_if (dt_lt (d_opn (pv 2)) (d_opx d_int)) (db_cons (ds_set S.nd rfl (by first | exact .inl rfl | exact .inr rfl) (d_sub (d_opx d_int) (d_opx (d_mul (d_opx d_int) (d_opn (pv 2)))))) db_nil) db_nil) (db_cons (ds_if (DW.dt (dw_and (dt_ge (d_opn (pv 2)) (d_opx (d_pow (d_opx d_int) (d_opx d_int)))) (dw_and1 (dt_lt (d_opn (pv 1)) (d_opx (DL.d_len rfl Z.b_len (da_cons (d_opn (pv 0)) da_nil))))))) (db_cons (ds_mov (pv 2)) db_nil) db_nil) (db_cons (ds_ret (d_mod (d_opx (d_int1 rfl Z.b_int (da_cons (d_opx (d_add (d_opx (d_mul (d_opx (d_int1 rfl Z.b_int (da_cons (d_opx (d_add (d_opx (d_add (d_opx (d_mul (d_opn (pv 2)) (d_opx d_int))) (d_opx (d_mul (d_opn (pv 1)) (d_opx d_int))))) (d_opx d_int))) da_nil))) (d_opx d_int))) (d_opx d_int))) da_nil))) (d_opx d_int))) db_nil)))))
def N__law_draw : List Str := ["state", "script", "size", "digit"]
noncomputable def b__law_draw : Sv := (seqS (ifS (tstB (opS (eqS false) [(.ex (opS ixS [(.nm 0), (.ex (vC (.int 1)))])), (.ex (vC (.int 0)))])) (seqS (setI 0 (vC (.int 1)) (callS [false, false] n__law_refill [(.nm 1), (.ex (opS ixS [(.nm 0), (.ex (vC (.int 0)))]))])) (seqS (setI 0 (vC (.int 0)) (opS addO [(.ex (opS ixS [(.nm 0), (.ex (vC (.int 0)))])), (.ex (vC (.int 1)))])) skipS)) skipS) (seqS (setS 3 (opS modO [(.ex (opS intO [(.ex (opS ixS [(.nm 0), (.ex (vC (.int 1)))]))])), (.nm 2)])) (seqS (setI 0 (vC (.int 1)) (opS fdivO [(.ex (opS ixS [(.nm 0), (.ex (vC (.int 1)))])), (.nm 2)])) (seqS (movS 3) skipS))))
noncomputable def n__law_draw : Den := denOf 4 [true, false, false] b__law_draw
theorem sc__law_draw : FnScope N__law_draw ["state", "script", "size"] (defScope (top 21)) := ⟨rfl, rfl, rfl, by decide +kernel, rfl, by decide +kernel, by decide +kernel⟩
theorem bi__law_draw : BindOk "_law_draw" (top 21) ["state", "script", "size"] := fun _ _ _ _ _ _ us hl => match us, hl with | [_, _, _], _ => rfl
theorem ok__law_draw (Z : Facts K mg base) : Fn P w K mg base (TT K) 2 "_law_draw" [true, false, false] n__law_draw := by
  have S := sc__law_draw
  exact fn_mk (k := 1) Z.f__law_draw S rfl bi__law_draw fun cdv A outer s H E hr => (db_cons (ds_if (dt_eq hr.units (d_opx (d_ix (d_opn (pv 0)) (d_opx d_int))) (d_opx d_int)) (db_cons (ds_setI (pv 0) d_int (d_cal (ok__law_refill (w := w) Z) pass_fn hr (da_cons (d_opn (pv 1)) (da_cons (d_opx (d_ix (d_opn (pv 0)) (d_opx d_int))) da_nil)) (by first | omega | decide))) (db_cons (ds_setI (pv 0) d_int (d_add (d_opx (d_ix (d_opn (pv 0)) (d_opx d_int))) (d_opx d_int))) db_nil)) db_nil) (db_cons (ds_set S.nd rfl (by first | exact .inl rfl | exact .inr rfl) (d_mod (d_opx (d_int1 rfl Z.b_int (da_cons (d_opx (d_ix (d_opn (pv 0)) (d_opx d_int))) da_nil))) (d_opn (pv 2)))) (db_cons (ds_setI (pv 0) d_int (d_fdiv (d_opx (d_ix (d_opn (pv 0)) (d_opx d_int))) (d_opn (pv 2)))) (db_cons (ds_mov (pv 3)) db_nil))))
def N__law_exact : List Str := ["first", "second", "k", "alike"]
noncomputable def e0__law_exact (rec : Den) : Ev := (callS [false, false] rec [(.ex (opS ixS [(.nm 0), (.nm 2)])), (.ex (opS ixS [(.nm 1), (.nm 2)]))])
noncomputable def b__law_exact (rec : Den) : Sv := (seqS (ifS (truA (.ex (isiS2 "list" "tuple" (.nm 0)))) (seqS (ifS (orT (tstB (opS (eqS true) [(.ex (isiS "list" (.nm 0))), (.ex (isiS "list" (.nm 1)))])) (tstB (opS (eqS true) [(.ex (isiS "tuple" (.nm 0))), (.ex (isiS "tuple" (.nm 1)))]))) (seqS (retS (vC (.bl false))) skipS) skipS) (seqS (retS (andV (opS (eqS false) [(.ex (opS lenO [(.nm 0)])), (.ex (opS lenO [(.nm 1)]))]) (opS allO [(.ex (lcS (rng1 (opS lenO [(.nm 0)])) (tgN 2) yesT (e0__law_exact rec) [2]))]))) skipS)) skipS) (seqS (ifS (orT (tstB (opS (isN false) [(.nm 0), (.ex (vC .non))])) (tstB (opS (isN false) [(.nm 1), (.ex (vC .non))]))) (seqS (retS (andV (opS (isN false) [(.nm 0), (.ex (vC .non))]) (opS (isN false) [(.nm 1), (.ex (vC .non))]))) skipS) skipS) (seqS (setS 3 (andV (opS (eqS false) [(.ex (isiS "str" (.nm 0))), (.ex (isiS "str" (.nm 1)))]) (opS (eqS false) [(.ex (isiS "bool" (.nm 0))), (.ex (isiS "bool" (.nm 1)))]))) (seqS (retS (andV (vVar 3) (andV (opS (eqS false) [(.ex (isiS "int" (.nm 0))), (.ex (isiS "int" (.nm 1)))]) (opS (eqS false) [(.nm 0), (.nm 1)])))) skipS))))
noncomputable def r__law_exact : Nat → Den
  | 0 => fun _ => .bad
  | n + 1 => denOf 4 [false, false] (b__law_exact (r__law_exact n))
noncomputable def n__law_exact : Den := r__law_exact 6
theorem sc__law_exact : FnScope N__law_exact ["first", "second"] (defScope (top 22)) := ⟨rfl, rfl, rfl, by decide +kernel, rfl, by decide +kernel, by decide +kernel⟩
theorem bi__law_exact : BindOk "_law_exact" (top 22) ["first", "second"] := fun _ _ _ _ _ _ us hl => match us, hl with | [_, _], _ => rfl
theorem okr__law_exact (Z : Facts K mg base) : ∀ n, Fn P w K mg base (TT K) (1 + n) "_law_exact" [false, false] (r__law_exact n)
  | 0 => fn_bad Z.f__law_exact (ps := ["first", "second"]) rfl bi__law_exact
  | n + 1 => by
    have CR := okr__law_exact Z n
    exact fn_mk (k := 1 + n) Z.f__law_exact sc__law_exact rfl bi__law_exact fun cdv A outer s H E hr => by
      have S := sc__law_exact
      exact (db_cons (ds_if (dt_truth (d_opx (d_isi2 rfl Z.b_isinstance (d_opn (pv 0)) (pe_bltn rfl Z.b_list boot_list rfl) (pe_bltn rfl Z.b_tuple boot_tuple rfl)))) (db_cons (ds_if (DW.dt (dw_or (dt_ne hr.units (d_opx (d_isi rfl Z.b_isinstance (d_opn (pv 0)) (pe_bltn rfl Z.b_list boot_list rfl))) (d_opx (d_isi rfl Z.b_isinstance (d_opn (pv 1)) (pe_bltn rfl Z.b_list boot_list rfl)))) (dw_or1 (dt_ne hr.units (d_opx (d_isi rfl Z.b_isinstance (d_opn (pv 0)) (pe_bltn rfl Z.b_tuple boot_tuple rfl))) (d_opx (d_isi rfl Z.b_isinstance (d_opn (pv 1)) (pe_bltn rfl Z.b_tuple boot_tuple rfl))))))) (db_cons (ds_ret d_bl) db_nil) db_nil) (db_cons (ds_ret (d_and (d_eq hr.units (d_opx (DL.d_len rfl Z.b_len (da_cons (d_opn (pv 0)) da_nil))) (d_opx (DL.d_len rfl Z.b_len (da_cons (d_opn (pv 1)) da_nil)))) (d_one (d_all rfl rfl Z.b_all (da_cons (d_opx (d_lcx rfl S.nd (di_rng1 rfl Z.b_range (DL.d_len rfl Z.b_len (da_cons (d_opn (pv 0)) da_nil))) (blk_of (N := N__law_exact) (sc := defScope (top 22)) (own := [("k", 2)]) (by decide +kernel)) (fun _ _ _ _ _ => (dg_name S.nd rfl (by first | exact .inl rfl | exact .inr rfl))) (fun _ _ _ _ _ => dts_nil) (fun _ _ _ _ _ => (d_cal CR passL hr (da_cons (d_opx (d_ix (d_opn (pv 0)) (d_opn (pv 2)))) (da_cons (d_opx (d_ix (d_opn (pv 1)) (d_opn (pv 2)))) da_nil)) (by first | omega | decide))))) da_nil))))) db_nil)) db_nil) (db_cons (ds_if (DW.dt (dw_or (dt_isN (d_opn (pv 0)) (d_opx d_non)) (dw_or1 (dt_isN (d_opn (pv 1)) (d_opx d_non))))) (db_cons (ds_ret (d_and (d_isN (d_opn (pv 0)) (d_opx d_non)) (d_one (d_isN (d_opn (pv 1)) (d_opx d_non))))) db_nil) db_nil) (db_cons (ds_set S.nd rfl (by first | exact .inl rfl | exact .inr rfl) (d_and (d_eq hr.units (d_opx (d_isi rfl Z.b_isinstance (d_opn (pv 0)) (pe_bltn rfl Z.b_str boot_str rfl))) (d_opx (d_isi rfl Z.b_isinstance (d_opn (pv 1)) (pe_bltn rfl Z.b_str boot_str rfl)))) (d_one (d_eq hr.units (d_opx (d_isi rfl Z.b_isinstance (d_opn (pv 0)) (pe_bltn rfl Z.b_bool boot_bool rfl))) (d_opx (d_isi rfl Z.b_isinstance (d_opn (pv 1)) (pe_bltn rfl Z.b_bool boot_bool rfl))))))) (db_cons (ds_ret (d_and (d_var (pv 3)) (d_and (d_eq hr.units (d_opx (d_isi rfl Z.b_isinstance (d_opn (pv 0)) (pe_bltn rfl Z.b_int boot_int rfl))) (d_opx (d_isi rfl Z.b_isinstance (d_opn (pv 1)) (pe_bltn rfl Z.b_int boot_int rfl)))) (d_one (d_eq hr.units (d_opn (pv 0)) (d_opn (pv 1))))))) db_nil))))
theorem ok__law_exact (Z : Facts K mg base) : Fn P w K mg base (TT K) 7 "_law_exact" [false, false] n__law_exact := okr__law_exact Z 6
def N__law_own : List Str := ["number", "a", "b", "c", "d", "power"]
noncomputable def b__law_own : Sv := (seqS (asgS (tgSeq (tgCons (tgN 1) (tgCons (tgN 2) (tgCons (tgN 3) (tgCons (tgN 4) (tgCons (tgN 5) tgNil)))))) (vVar 0)) (seqS (ifS (tstB (opS (eqS false) [(.ex (opS modO [(.nm 5), (.ex (vC (.int 2)))])), (.ex (vC (.int 1)))])) (seqS (asgS (tgSeq (tgCons (tgN 1) (tgCons (tgN 2) (tgCons (tgN 3) (tgCons (tgN 4) (tgCons (tgN 5) tgNil)))))) (vTup [(.ex (opS subO [(.nm 2), (.nm 4)])), (.ex (opS addO [(.nm 1), (.nm 3)])), (.ex (opS addO [(.nm 2), (.nm 4)])), (.ex (opS subO [(.nm 3), (.nm 1)])), (.ex (opS addO [(.nm 5), (.ex (vC (.int 1)))]))])) skipS) skipS) (seqS (retS (vTup [(.ex (vLst [(.nm 1), (.nm 2), (.nm 3), (.nm 4)])), (.ex (opS fdivO [(.nm 5), (.ex (vC (.int 2)))]))])) skipS)))
noncomputable def n__law_own : Den := denOf 6 [false] b__law_own
theorem sc__law_own : FnScope N__law_own ["number"] (defScope (top 23)) := ⟨rfl, rfl, rfl, by decide +kernel, rfl, by decide +kernel, by decide +kernel⟩
theorem bi__law_own : BindOk "_law_own" (top 23) ["number"] := fun _ _ _ _ _ _ us hl => match us, hl with | [_], _ => rfl
theorem ok__law_own (Z : Facts K mg base) : Fn P w K mg base (TT K) 1 "_law_own" [false] n__law_own := by
  have S := sc__law_own
  exact fn_mk (k := 0) Z.f__law_own S rfl bi__law_own fun cdv A outer s H E hr => (db_cons (ds_asg (d_var (pv 0)) (dg_seq rfl (dgs_cons (dg_name S.nd rfl (by first | exact .inl rfl | exact .inr rfl)) (dgs_cons (dg_name S.nd rfl (by first | exact .inl rfl | exact .inr rfl)) (dgs_cons (dg_name S.nd rfl (by first | exact .inl rfl | exact .inr rfl)) (dgs_cons (dg_name S.nd rfl (by first | exact .inl rfl | exact .inr rfl)) (dgs_cons (dg_name S.nd rfl (by first | exact .inl rfl | exact .inr rfl)) dgs_nil))))) (hu := (tg_lenS (tg_lenS (tg_lenS (tg_lenS (tg_lenS tg_len0)))))))) (db_cons (ds_if (dt_eq hr.units (d_opx (d_mod (d_opn (pv 5)) (d_opx d_int))) (d_opx d_int)) (db_cons (ds_asg (d_tup (da_cons (d_opx (d_sub (d_opn (pv 2)) (d_opn (pv 4)))) (da_cons (d_opx (d_add (d_opn (pv 1)) (d_opn (pv 3)))) (da_cons (d_opx (d_add (d_opn (pv 2)) (d_opn (pv 4)))) (da_cons (d_opx (d_sub (d_opn (pv 3)) (d_opn (pv 1)))) (da_cons (d_opx (d_add (d_opn (pv 5)) (d_opx d_int))) da_nil)))))) (dg_seq rfl (dgs_cons (dg_name S.nd rfl (by first | exact .inl rfl | exact .inr rfl)) (dgs_cons (dg_name S.nd rfl (by first | exact .inl rfl | exact .inr rfl)) (dgs_cons (dg_name S.nd rfl (by first | exact .inl rfl | exact .inr rfl)) (dgs_cons (dg_name S.nd rfl (by first | exact .inl rfl | exact .inr rfl)) (dgs_cons (dg_name S.nd rfl (by first | exact .inl rfl | exact .inr rfl)) dgs_nil))))) (hu := (tg_lenS (tg_lenS (tg_lenS (tg_lenS (tg_lenS tg_len0)))))))) db_nil) db_nil) (db_cons (ds_ret (d_tup (da_cons (d_opx (d_lst (da_cons (d_opn (pv 1)) (da_cons (d_opn (pv 2)) (da_cons (d_opn (pv 3)) (da_cons (d_opn (pv 4)) da_nil)))))) (da_cons (d_opx (d_fdiv (d_opn (pv 5)) (d_opx d_int))) da_nil)))) db_nil)))
def N__law_plus : List Str := ["one", "other", "deep", "k"]
noncomputable def e0__law_plus : Ev := (opS addO [(.ex (opS mulO [(.ex (opS ixS [(.ex (opS ixS [(.nm 0), (.ex (vC (.int 0)))])), (.nm 3)])), (.ex (opS shlO [(.ex (vC (.int 1))), (.ex (opS subO [(.nm 2), (.ex (opS ixS [(.nm 0), (.ex (vC (.int 1)))]))]))]))])), (.ex (opS mulO [(.ex (opS ixS [(.ex (opS ixS [(.nm 1), (.ex (vC (.int 0)))])), (.nm 3)])), (.ex (opS shlO [(.ex (vC (.int 1))), (.ex (opS subO [(.nm 2), (.ex (opS ixS [(.nm 1), (.ex (vC (.int 1)))]))]))]))]))])
noncomputable def b__law_plus : Sv := (seqS (setS 2 (opS max2 [(.ex (opS ixS [(.nm 0), (.ex (vC (.int 1)))])), (.ex (opS ixS [(.nm 1), (.ex (vC (.int 1)))]))])) (seqS (retS (vTup [(.ex (lcS (rng1 (vC (.int 4))) (tgN 3) yesT e0__law_plus [3])), (.nm 2)])) skipS))
noncomputable def n__law_plus : Den := denOf 4 [false, false] b__law_plus
theorem sc__law_plus : FnScope N__law_plus ["one", "other"] (defScope (top 24)) := ⟨rfl, rfl, rfl, by decide +kernel, rfl, by decide +kernel, by decide +kernel⟩
theorem bi__law_plus : BindOk "_law_plus" (top 24) ["one", "other"] := fun _ _ _ _ _ _ us hl => match us, hl with | [_, _], _ => rfl
theorem ok__law_plus (Z : Facts K mg base) : Fn P w K mg base (TT K) 1 "_law_plus" [false, false] n__law_plus := by
  have S := sc__law_plus
  exact fn_mk (k := 0) Z.f__law_plus S rfl bi__law_plus fun cdv A outer s H E hr => (db_cons (ds_set S.nd rfl (by first | exact .inl rfl | exact .inr rfl) (d_max2 rfl rfl Z.b_max (da_cons (d_opx (d_ix (d_opn (pv 0)) (d_opx d_int))) (da_cons (d_opx (d_ix (d_opn (pv 1)) (d_opx d_int))) da_nil)))) (db_cons (ds_ret (d_tup (da_cons (d_opx (d_lcx rfl S.nd (di_rng1 rfl Z.b_range d_int) (blk_of (N := N__law_plus) (sc := defScope (top 24)) (own := [("k", 3)]) (by decide +kernel)) (fun _ _ _ _ _ => (dg_name S.nd rfl (by first | exact .inl rfl | exact .inr rfl))) (fun _ _ _ _ _ => dts_nil) (fun _ _ _ _ _ => (d_add (d_opx (d_mul (d_opx (d_ix (d_opx (d_ix (d_opn (pv 0)) (d_opx d_int))) (d_opn (pv 3)))) (d_opx (d_shl (d_opx d_int) (d_opx (d_sub (d_opn (pv 2)) (d_opx (d_ix (d_opn (pv 0)) (d_opx d_int))))))))) (d_opx (d_mul (d_opx (d_ix (d_opx (d_ix (d_opn (pv 1)) (d_opx d_int))) (d_opn (pv 3)))) (d_opx (d_shl (d_opx d_int) (d_opx (d_sub (d_opn (pv 2)) (d_opx (d_ix (d_opn (pv 1)) (d_opx d_int))))))))))))) (da_cons (d_opn (pv 2)) da_nil)))) db_nil))
def N__law_by : List Str := ["one", "other", "out", "k", "j"]
noncomputable def e0__law_by : Ev := (opS subO [(.ex (opS ixS [(.nm 2), (.nm 3)])), (.ex (ifV (tstB (opS ltS [(.nm 3), (.ex (vC (.int 3)))])) (opS ixS [(.nm 2), (.ex (opS addO [(.nm 3), (.ex (vC (.int 4)))]))]) (vC (.int 0))))])
noncomputable def l1__law_by : Sv := (seqS (setI 2 (opS addO [(.nm 3), (.nm 4)]) (opS addO [(.ex (opS ixS [(.nm 2), (.ex (opS addO [(.nm 3), (.nm 4)]))])), (.ex (opS mulO [(.ex (opS ixS [(.ex (opS ixS [(.nm 0), (.ex (vC (.int 0)))])), (.nm 3)])), (.ex (opS ixS [(.ex (opS ixS [(.nm 1), (.ex (vC (.int 0)))])), (.nm 4)]))]))])) skipS)
noncomputable def l2__law_by : Sv := (seqS (forE (rng1 (vC (.int 4))) (tgN 4) l1__law_by) skipS)
noncomputable def b__law_by : Sv := (seqS (setS 2 (opS mulO [(.ex (vLst [(.ex (vC (.int 0)))])), (.ex (vC (.int 7)))])) (seqS (forE (rng1 (vC (.int 4))) (tgN 3) l2__law_by) (seqS (retS (vTup [(.ex (lcS (rng1 (vC (.int 4))) (tgN 3) yesT e0__law_by [3])), (.ex (opS addO [(.ex (opS ixS [(.nm 0), (.ex (vC (.int 1)))])), (.ex (opS ixS [(.nm 1), (.ex (vC (.int 1)))]))]))])) skipS)))
noncomputable def n__law_by : Den := denOf 5 [false, false] b__law_by
theorem sc__law_by : FnScope N__law_by ["one", "other"] (defScope (top 25)) := ⟨rfl, rfl, rfl, by decide +kernel, rfl, by decide +kernel, by decide +kernel⟩
theorem bi__law_by : BindOk "_law_by" (top 25) ["one", "other"] := fun _ _ _ _ _ _ us hl => match us, hl with | [_, _], _ => rfl
theorem ok__law_by (Z : Facts K mg base) : Fn P w K mg base (TT K) 1 "_law_by" [false, false] n__law_by := by
  have S := sc__law_by
  exact fn_mk (k := 0) Z.f__law_by S rfl bi__law_by fun cdv A outer s H E hr => (db_cons (ds_set S.nd rfl (by first | exact .inl rfl | exact .inr rfl) (d_mul (d_opx (d_lst (da_cons (d_opx d_int) da_nil))) (d_opx d_int))) (db_cons (ds_for own_fn rfl (di_rng1 rfl Z.b_range d_int) (dg_name S.nd rfl (by first | exact .inl rfl | exact .inr rfl)) (db_cons (ds_for own_fn rfl (di_rng1 rfl Z.b_range d_int) (dg_name S.nd rfl (by first | exact .inl rfl | exact .inr rfl)) (db_cons (ds_setI (pv 2) (d_add (d_opn (pv 3)) (d_opn (pv 4))) (d_add (d_opx (d_ix (d_opn (pv 2)) (d_opx (d_add (d_opn (pv 3)) (d_opn (pv 4)))))) (d_opx (d_mul (d_opx (d_ix (d_opx (d_ix (d_opn (pv 0)) (d_opx d_int))) (d_opn (pv 3)))) (d_opx (d_ix (d_opx (d_ix (d_opn (pv 1)) (d_opx d_int))) (d_opn (pv 4)))))))) db_nil)) db_nil)) (db_cons (ds_ret (d_tup (da_cons (d_opx (d_lcx rfl S.nd (di_rng1 rfl Z.b_range d_int) (blk_of (N := N__law_by) (sc := defScope (top 25)) (own := [("k", 3)]) (by decide +kernel)) (fun _ _ _ _ _ => (dg_name S.nd rfl (by first | exact .inl rfl | exact .inr rfl))) (fun _ _ _ _ _ => dts_nil) (fun _ _ _ _ _ => (d_sub (d_opx (d_ix (d_opn (pv 2)) (d_opn (pv 3)))) (d_opx (d_if (dt_lt (d_opn (pv 3)) (d_opx d_int)) (d_ix (d_opn (pv 2)) (d_opx (d_add (d_opn (pv 3)) (d_opx d_int)))) d_int)))))) (da_cons (d_opx (d_add (d_opx (d_ix (d_opn (pv 0)) (d_opx d_int))) (d_opx (d_ix (d_opn (pv 1)) (d_opx d_int))))) da_nil)))) db_nil)))
def N__law_like : List Str := ["one", "other", "deep", "k"]
noncomputable def e0__law_like : Ev := (opS shlO [(.ex (opS ixS [(.ex (opS ixS [(.nm 0), (.ex (vC (.int 0)))])), (.nm 3)])), (.ex (opS subO [(.nm 2), (.ex (opS ixS [(.nm 0), (.ex (vC (.int 1)))]))]))])
noncomputable def e1__law_like : Ev := (opS shlO [(.ex (opS ixS [(.ex (opS ixS [(.nm 1), (.ex (vC (.int 0)))])), (.nm 3)])), (.ex (opS subO [(.nm 2), (.ex (opS ixS [(.nm 1), (.ex (vC (.int 1)))]))]))])
noncomputable def b__law_like : Sv := (seqS (setS 2 (opS max2 [(.ex (opS ixS [(.nm 0), (.ex (vC (.int 1)))])), (.ex (opS ixS [(.nm 1), (.ex (vC (.int 1)))]))])) (seqS (retS (opS (eqS false) [(.ex (lcS (rng1 (vC (.int 4))) (tgN 3) yesT e0__law_like [3])), (.ex (lcS (rng1 (vC (.int 4))) (tgN 3) yesT e1__law_like [3]))])) skipS))
noncomputable def n__law_like : Den := denOf 4 [false, false] b__law_like
theorem sc__law_like : FnScope N__law_like ["one", "other"] (defScope (top 26)) := ⟨rfl, rfl, rfl, by decide +kernel, rfl, by decide +kernel, by decide +kernel⟩
theorem bi__law_like : BindOk "_law_like" (top 26) ["one", "other"] := fun _ _ _ _ _ _ us hl => match us, hl with | [_, _], _ => rfl
theorem ok__law_like (Z : Facts K mg base) : Fn P w K mg base (TT K) 1 "_law_like" [false, false] n__law_like := by
  have S := sc__law_like
  exact fn_mk (k := 0) Z.f__law_like S rfl bi__law_like fun cdv A outer s H E hr => (db_cons (ds_set S.nd rfl (by first | exact .inl rfl | exact .inr rfl) (d_max2 rfl rfl Z.b_max (da_cons (d_opx (d_ix (d_opn (pv 0)) (d_opx d_int))) (da_cons (d_opx (d_ix (d_opn (pv 1)) (d_opx d_int))) da_nil)))) (db_cons (ds_ret (d_eq hr.units (d_opx (d_lcx rfl S.nd (di_rng1 rfl Z.b_range d_int) (blk_of (N := N__law_like) (sc := defScope (top 26)) (own := [("k", 3)]) (by decide +kernel)) (fun _ _ _ _ _ => (dg_name S.nd rfl (by first | exact .inl rfl | exact .inr rfl))) (fun _ _ _ _ _ => dts_nil) (fun _ _ _ _ _ => (d_shl (d_opx (d_ix (d_opx (d_ix (d_opn (pv 0)) (d_opx d_int))) (d_opn (pv 3)))) (d_opx (d_sub (d_opn (pv 2)) (d_opx (d_ix (d_opn (pv 0)) (d_opx d_int))))))))) (d_opx (d_lcx rfl S.nd (di_rng1 rfl Z.b_range d_int) (blk_of (N := N__law_like) (sc := defScope (top 26)) (own := [("k", 3)]) (by decide +kernel)) (fun _ _ _ _ _ => (dg_name S.nd rfl (by first | exact .inl rfl | exact .inr rfl))) (fun _ _ _ _ _ => dts_nil) (fun _ _ _ _ _ => (d_shl (d_opx (d_ix (d_opx (d_ix (d_opn (pv 1)) (d_opx d_int))) (d_opn (pv 3)))) (d_opx (d_sub (d_opn (pv 2)) (d_opx (d_ix (d_opn (pv 1)) (d_opx d_int))))))))))) db_nil))
def N__law_w : List Str := ["turns", "parts"]
noncomputable def b__law_w : Sv := (seqS (setS 1 (vLst [(.ex (vC (.int 0))), (.ex (vC (.int 0))), (.ex (vC (.int 0))), (.ex (vC (.int 0)))])) (seqS (setI 1 (opS modO [(.nm 0), (.ex (vC (.int 4)))]) (opS subO [(.ex (vC (.int 1))), (.ex (opS mulO [(.ex (vC (.int 2))), (.ex (opS modO [(.ex (opS fdivO [(.nm 0), (.ex (vC (.int 4)))])), (.ex (vC (.int 2)))]))]))])) (seqS (retS (vTup [(.nm 1), (.ex (vC (.int 0)))])) skipS)))
noncomputable def n__law_w : Den := denOf 2 [false] b__law_w
theorem sc__law_w : FnScope N__law_w ["turns"] (defScope (top 27)) := ⟨rfl, rfl, rfl, by decide +kernel, rfl, by decide +kernel, by decide +kernel⟩
theorem bi__law_w : BindOk "_law_w" (top 27) ["turns"] := fun _ _ _ _ _ _ us hl => match us, hl with | [_], _ => rfl
theorem ok__law_w (Z : Facts K mg base) : Fn P w K mg base (TT K) 1 "_law_w" [false] n__law_w := by
  have S := sc__law_w
  exact fn_mk (k := 0) Z.f__law_w S rfl bi__law_w fun cdv A outer s H E hr => (db_cons (ds_set S.nd rfl (by first | exact .inl rfl | exact .inr rfl) (d_lst (da_cons (d_opx d_int) (da_cons (d_opx d_int) (da_cons (d_opx d_int) (da_cons (d_opx d_int) da_nil)))))) (db_cons (ds_setI (pv 1) (d_mod (d_opn (pv 0)) (d_opx d_int)) (d_sub (d_opx d_int) (d_opx (d_mul (d_opx d_int) (d_opx (d_mod (d_opx (d_fdiv (d_opn (pv 0)) (d_opx d_int))) (d_opx d_int))))))) (db_cons (ds_ret (d_tup (da_cons (d_opn (pv 1)) (da_cons (d_opx d_int) da_nil)))) db_nil)))
def N__law_minus : List Str := ["one", "part"]
noncomputable def e0__law_minus : Ev := (opS subO [(.ex (vC (.int 0))), (.nm 1)])
noncomputable def b__law_minus : Sv := (seqS (retS (vTup [(.ex (lcS (seqI (opS ixS [(.nm 0), (.ex (vC (.int 0)))])) (tgN 1) yesT e0__law_minus [1])), (.ex (opS ixS [(.nm 0), (.ex (vC (.int 1)))]))])) skipS)
noncomputable def n__law_minus : Den := denOf 2 [false] b__law_minus
theorem sc__law_minus : FnScope N__law_minus ["one"] (defScope (top 28)) := ⟨rfl, rfl, rfl, by decide +kernel, rfl, by decide +kernel, by decide +kernel⟩
theorem bi__law_minus : BindOk "_law_minus" (top 28) ["one"] := fun _ _ _ _ _ _ us hl => match us, hl with | [_], _ => rfl
theorem ok__law_minus (Z : Facts K mg base) : Fn P w K mg base (TT K) 1 "_law_minus" [false] n__law_minus := by
  have S := sc__law_minus
  exact fn_mk (k := 0) Z.f__law_minus S rfl bi__law_minus fun cdv A outer s H E hr => (db_cons (ds_ret (d_tup (da_cons (d_opx (d_lcx rfl S.nd (di_seq (d_ix (d_opn (pv 0)) (d_opx d_int))) (blk_of (N := N__law_minus) (sc := defScope (top 28)) (own := [("part", 1)]) (by decide +kernel)) (fun _ _ _ _ _ => (dg_name S.nd rfl (by first | exact .inl rfl | exact .inr rfl))) (fun _ _ _ _ _ => dts_nil) (fun _ _ _ _ _ => (d_sub (d_opx d_int) (d_opn (pv 1)))))) (da_cons (d_opx (d_ix (d_opn (pv 0)) (d_opx d_int))) da_nil)))) db_nil)
def N__law_bar : List Str := ["one", "a", "b", "c", "d"]
noncomputable def b__law_bar : Sv := (seqS (asgS (tgSeq (tgCons (tgN 1) (tgCons (tgN 2) (tgCons (tgN 3) (tgCons (tgN 4) tgNil))))) (opS ixS [(.nm 0), (.ex (vC (.int 0)))])) (seqS (retS (vTup [(.ex (vLst [(.nm 1), (.ex (opS subO [(.ex (vC (.int 0))), (.nm 4)])), (.ex (opS subO [(.ex (vC (.int 0))), (.nm 3)])), (.ex (opS subO [(.ex (vC (.int 0))), (.nm 2)]))])), (.ex (opS ixS [(.nm 0), (.ex (vC (.int 1)))]))])) skipS))
noncomputable def n__law_bar : Den := denOf 5 [false] b__law_bar
theorem sc__law_bar : FnScope N__law_bar ["one"] (defScope (top 29)) := ⟨rfl, rfl, rfl, by decide +kernel, rfl, by decide +kernel, by decide +kernel⟩
theorem bi__law_bar : BindOk "_law_bar" (top 29) ["one"] := fun _ _ _ _ _ _ us hl => match us, hl with | [_], _ => rfl
theorem ok__law_bar (Z : Facts K mg base) : Fn P w K mg base (TT K) 1 "_law_bar" [false] n__law_bar := by
  have S := sc__law_bar
  exact fn_mk (k := 0) Z.f__law_bar S rfl bi__law_bar fun cdv A outer s H E hr => (db_cons (ds_asg (d_ix (d_opn (pv 0)) (d_opx d_int)) (dg_seq rfl (dgs_cons (dg_name S.nd rfl (by first | exact .inl rfl | exact .inr rfl)) (dgs_cons (dg_name S.nd rfl (by first | exact .inl rfl | exact .inr rfl)) (dgs_cons (dg_name S.nd rfl (by first | exact .inl rfl | exact .inr rfl)) (dgs_cons (dg_name S.nd rfl (by first | exact .inl rfl | exact .inr rfl)) dgs_nil)))) (hu := (tg_lenS (tg_lenS (tg_lenS (tg_lenS tg_len0))))))) (db_cons (ds_ret (d_tup (da_cons (d_opx (d_lst (da_cons (d_opn (pv 1)) (da_cons (d_opx (d_sub (d_opx d_int) (d_opn (pv 4)))) (da_cons (d_opx (d_sub (d_opx d_int) (d_opn (pv 3)))) (da_cons (d_opx (d_sub (d_opx d_int) (d_opn (pv 2)))) da_nil)))))) (da_cons (d_opx (d_ix (d_opn (pv 0)) (d_opx d_int))) da_nil)))) db_nil))
def N__law_form : List Str := ["number", "part", "a", "b", "c", "d", "power"]
noncomputable def e0__law_form : Ev := (andV (isiS "int" (.nm 1)) (notV (isiS "bool" (.nm 1))))
noncomputable def b__law_form : Sv := (seqS (ifS (orT (notT (truA (.ex (isiS "tuple" (.nm 0))))) (orT (tstB (opS (eqS true) [(.ex (opS lenO [(.nm 0)])), (.ex (vC (.int 5)))])) (notT (truA (.ex (opS allO [(.ex (lcS (seqI (vVar 0)) (tgN 1) yesT e0__law_form [1]))])))))) (seqS (retS (vC (.bl false))) skipS) skipS) (seqS (asgS (tgSeq (tgCons (tgN 2) (tgCons (tgN 3) (tgCons (tgN 4) (tgCons (tgN 5) (tgCons (tgN 6) tgNil)))))) (vVar 0)) (seqS (ifS (orT (tstB (opS ltS [(.nm 6), (.ex (vC (.int 0)))])) (andT (tstB (opS (eqS false) [(.ex (vLst [(.nm 2), (.nm 3), (.nm 4), (.nm 5)])), (.ex (vLst [(.ex (vC (.int 0))), (.ex (vC (.int 0))), (.ex (vC (.int 0))), (.ex (vC (.int 0)))]))])) (tstB (opS gtS [(.nm 6), (.ex (vC (.int 0)))])))) (seqS (retS (vC (.bl false))) skipS) skipS) (seqS (retS (orV (opS (eqS false) [(.nm 6), (.ex (vC (.int 0)))]) (orV (opS (eqS false) [(.ex (opS modO [(.ex (opS addO [(.nm 2), (.nm 4)])), (.ex (vC (.int 2)))])), (.ex (vC (.int 1)))]) (opS (eqS false) [(.ex (opS modO [(.ex (opS addO [(.nm 3), (.nm 5)])), (.ex (vC (.int 2)))])), (.ex (vC (.int 1)))])))) skipS))))
noncomputable def n__law_form : Den := denOf 7 [false] b__law_form
theorem sc__law_form : FnScope N__law_form ["number"] (defScope (top 30)) := ⟨rfl, rfl, rfl, by decide +kernel, rfl, by decide +kernel, by decide +kernel⟩
theorem bi__law_form : BindOk "_law_form" (top 30) ["number"] := fun _ _ _ _ _ _ us hl => match us, hl with | [_], _ => rfl
theorem ok__law_form (Z : Facts K mg base) : Fn P w K mg base (TT K) 1 "_law_form" [false] n__law_form := by
  have S := sc__law_form
  exact fn_mk (k := 0) Z.f__law_form S rfl bi__law_form fun cdv A outer s H E hr => (db_cons (ds_if (DW.dt (dw_or (dt_not (dt_truth (d_opx (d_isi rfl Z.b_isinstance (d_opn (pv 0)) (pe_bltn rfl Z.b_tuple boot_tuple rfl))))) (dw_or (dt_ne hr.units (d_opx (DL.d_len rfl Z.b_len (da_cons (d_opn (pv 0)) da_nil))) (d_opx d_int)) (dw_or1 (dt_not (dt_truth (d_opx (d_all rfl rfl Z.b_all (da_cons (d_opx (d_lcx rfl S.nd (di_seq (d_var (pv 0))) (blk_of (N := N__law_form) (sc := defScope (top 30)) (own := [("part", 1)]) (by decide +kernel)) (fun _ _ _ _ _ => (dg_name S.nd rfl (by first | exact .inl rfl | exact .inr rfl))) (fun _ _ _ _ _ => dts_nil) (fun _ _ _ _ _ => (d_and (d_isi rfl Z.b_isinstance (d_opn (pv 1)) (pe_bltn rfl Z.b_int boot_int rfl)) (d_one (d_not (d_isi rfl Z.b_isinstance (d_opn (pv 1)) (pe_bltn rfl Z.b_bool boot_bool rfl)))))))) da_nil))))))))) (db_cons (ds_ret d_bl) db_nil) db_nil) (db_cons (ds_asg (d_var (pv 0)) (dg_seq rfl (dgs_cons (dg_name S.nd rfl (by first | exact .inl rfl | exact .inr rfl)) (dgs_cons (dg_name S.nd rfl (by first | exact .inl rfl | exact .inr rfl)) (dgs_cons (dg_name S.nd rfl (by first | exact .inl rfl | exact .inr rfl)) (dgs_cons (dg_name S.nd rfl (by first | exact .inl rfl | exact .inr rfl)) (dgs_cons (dg_name S.nd rfl (by first | exact .inl rfl | exact .inr rfl)) dgs_nil))))) (hu := (tg_lenS (tg_lenS (tg_lenS (tg_lenS (tg_lenS tg_len0)))))))) (db_cons (ds_if (DW.dt (dw_or (dt_lt (d_opn (pv 6)) (d_opx d_int)) (dw_or1 (DW.dt (dw_and (dt_eq hr.units (d_opx (d_lst (da_cons (d_opn (pv 2)) (da_cons (d_opn (pv 3)) (da_cons (d_opn (pv 4)) (da_cons (d_opn (pv 5)) da_nil)))))) (d_opx (d_lst (da_cons (d_opx d_int) (da_cons (d_opx d_int) (da_cons (d_opx d_int) (da_cons (d_opx d_int) da_nil))))))) (dw_and1 (dt_gt (d_opn (pv 6)) (d_opx d_int)))))))) (db_cons (ds_ret d_bl) db_nil) db_nil) (db_cons (ds_ret (d_or (d_eq hr.units (d_opn (pv 6)) (d_opx d_int)) (d_or (d_eq hr.units (d_opx (d_mod (d_opx (d_add (d_opn (pv 2)) (d_opn (pv 4)))) (d_opx d_int))) (d_opx d_int)) (d_one (d_eq hr.units (d_opx (d_mod (d_opx (d_add (d_opn (pv 3)) (d_opn (pv 5)))) (d_opx d_int))) (d_opx d_int)))))) db_nil))))
def N__law_is : List Str := ["told", "due"]
noncomputable def b__law_is : Sv := (seqS (retS (andV (callS [false] n__law_form [(.nm 0)]) (callS [false, false] n__law_like [(.ex (callS [false] n__law_own [(.nm 0)])), (.nm 1)]))) skipS)
noncomputable def n__law_is : Den := denOf 2 [false, false] b__law_is
theorem sc__law_is : FnScope N__law_is ["told", "due"] (defScope (top 31)) := ⟨rfl, rfl, rfl, by decide +kernel, rfl, by decide +kernel, by decide +kernel⟩
theorem bi__law_is : BindOk "_law_is" (top 31) ["told", "due"] := fun _ _ _ _ _ _ us hl => match us, hl with | [_, _], _ => rfl
theorem ok__law_is (Z : Facts K mg base) : Fn P w K mg base (TT K) 2 "_law_is" [false, false] n__law_is := by
  have S := sc__law_is
  exact fn_mk (k := 1) Z.f__law_is S rfl bi__law_is fun cdv A outer s H E hr => (db_cons (ds_ret (d_and (d_cal (ok__law_form (w := w) Z) pass_fn hr (da_cons (d_opn (pv 0)) da_nil) (by first | omega | decide)) (d_one (d_cal (ok__law_like (w := w) Z) pass_fn hr (da_cons (d_opx (d_cal (ok__law_own (w := w) Z) pass_fn hr (da_cons (d_opn (pv 0)) da_nil) (by first | omega | decide))) (da_cons (d_opn (pv 1)) da_nil)) (by first | omega | decide))))) db_nil)
def N__law_number : List Str := ["state", "script", "wide", "parts", "k"]
noncomputable def e0__law_number : Ev := (opS mulO [(.ex (callS [true, false, false] n__law_draw [(.nm 0), (.nm 1), (.nm 2)])), (.ex (opS subO [(.ex (vC (.int 1))), (.ex (opS mulO [(.ex (vC (.int 2))), (.ex (callS [true, false, false] n__law_draw [(.nm 0), (.nm 1), (.ex (vC (.int 2)))]))]))]))])
noncomputable def b__law_number : Sv := (seqS (setS 2 (opS ixS [(.ex (vLst [(.ex (vC (.int 2))), (.ex (vC (.int 3))), (.ex (vC (.int 12))), (.ex (opS powO [(.ex (vC (.int 10))), (.ex (vC (.int 9)))]))])), (.ex (callS [true, false, false] n__law_draw [(.nm 0), (.nm 1), (.ex (vC (.int 4)))]))])) (seqS (setS 3 (lcS (rng1 (vC (.int 4))) (tgN 4) yesT e0__law_number [4])) (seqS (retS (vTup [(.nm 3), (.ex (opS ixS [(.ex (vLst [(.ex (vC (.int 0))), (.ex (vC (.int 0))), (.ex (vC (.int 1))), (.ex (callS [true, false, false] n__law_draw [(.nm 0), (.nm 1), (.ex (vC (.int 6)))]))])), (.ex (callS [true, false, false] n__law_draw [(.nm 0), (.nm 1), (.ex (vC (.int 4)))]))]))])) skipS)))
noncomputable def n__law_number : Den := denOf 5 [true, false] b__law_number
theorem sc__law_number : FnScope N__law_number ["state", "script"] (defScope (top 32)) := ⟨rfl, rfl, rfl, by decide +kernel, rfl, by decide +kernel, by decide +kernel⟩
theorem bi__law_number : BindOk "_law_number" (top 32) ["state", "script"] := fun _ _ _ _ _ _ us hl => match us, hl with | [_, _], _ => rfl
theorem ok__law_number (Z : Facts K mg base) : Fn P w K mg base (TT K) 3 "_law_number" [true, false] n__law_number := by
  have S := sc__law_number
  exact fn_mk (k := 2) Z.f__law_number S rfl bi__law_number fun cdv A outer s H E hr => (db_cons (ds_set S.nd rfl (by first | exact .inl rfl | exact .inr rfl) (d_ix (d_opx (d_lst (da_cons (d_opx d_int) (da_cons (d_opx d_int) (da_cons (d_opx d_int) (da_cons (d_opx (d_pow (d_opx d_int) (d_opx d_int))) da_nil)))))) (d_opx (d_cal (ok__law_draw (w := w) Z) pass_fn hr (da_cons (d_opn (pv 0)) (da_cons (d_opn (pv 1)) (da_cons (d_opx d_int) da_nil))) (by first | omega | decide))))) (db_cons (ds_setLcx rfl S.nd rfl rfl rfl (di_rng1 rfl Z.b_range d_int) (blk_of (N := N__law_number) (sc := defScope (top 32)) (own := [("k", 4)]) (by decide +kernel)) (fun _ _ _ _ _ => (dg_name S.nd rfl (by first | exact .inl rfl | exact .inr rfl))) (fun _ _ _ _ _ => dts_nil) (fun _ _ _ _ _ => (d_mul (d_opx (d_cal (ok__law_draw (w := w) Z) passL hr (da_cons (d_opn (pv 0)) (da_cons (d_opn (pv 1)) (da_cons (d_opn (pv 2)) da_nil))) (by first | omega | decide))) (d_opx (d_sub (d_opx d_int) (d_opx (d_mul (d_opx d_int) (d_opx (d_cal (ok__law_draw (w := w) Z) passL hr (da_cons (d_opn (pv 0)) (da_cons (d_opn (pv 1)) (da_cons (d_opx d_int) da_nil))) (by first | omega | decide)))))))))) (db_cons (ds_ret (d_tup (da_cons (d_opn (pv 3)) (da_cons (d_opx (d_ix (d_opx (d_lst (da_cons (d_opx d_int) (da_cons (d_opx d_int) (da_cons (d_opx d_int) (da_cons (d_opx (d_cal (ok__law_draw (w := w) Z) pass_fn hr (da_cons (d_opn (pv 0)) (da_cons (d_opn (pv 1)) (da_cons (d_opx d_int) da_nil))) (by first | omega | decide))) da_nil)))))) (d_opx (d_cal (ok__law_draw (w := w) Z) pass_fn hr (da_cons (d_opn (pv 0)) (da_cons (d_opn (pv 1)) (da_cons (d_opx d_int) da_nil))) (by first | omega | decide))))) da_nil)))) db_nil)))
def N__law_told : List Str := ["number", "parts", "deep", "a", "b", "c", "d"]
noncomputable def t0__law_told : Tv := (andT (tstB (opS gtS [(.nm 2), (.ex (vC (.int 0)))])) (andT (tstB (opS (eqS false) [(.ex (opS modO [(.ex (opS addO [(.ex (opS ixS [(.nm 1), (.ex (vC (.int 0)))])), (.ex (opS ixS [(.nm 1), (.ex (vC (.int 2)))]))])), (.ex (vC (.int 2)))])), (.ex (vC (.int 0)))])) (tstB (opS (eqS false) [(.ex (opS modO [(.ex (opS addO [(.ex (opS ixS [(.nm 1), (.ex (vC (.int 1)))])), (.ex (opS ixS [(.nm 1), (.ex (vC (.int 3)))]))])), (.ex (vC (.int 2)))])), (.ex (vC (.int 0)))]))))
noncomputable def l1__law_told : Sv := (seqS (asgS (tgSeq (tgCons (tgN 3) (tgCons (tgN 4) (tgCons (tgN 5) (tgCons (tgN 6) tgNil))))) (vVar 1)) (seqS (par2 1 2 [(.ex (vLst [(.ex (opS fdivO [(.ex (opS subO [(.nm 4), (.nm 6)])), (.ex (vC (.int 2)))])), (.ex (opS fdivO [(.ex (opS addO [(.nm 3), (.nm 5)])), (.ex (vC (.int 2)))])), (.ex (opS fdivO [(.ex (opS addO [(.nm 4), (.nm 6)])), (.ex (vC (.int 2)))])), (.ex (opS fdivO [(.ex (opS subO [(.nm 5), (.nm 3)])), (.ex (vC (.int 2)))]))])), (.ex (opS subO [(.nm 2), (.ex (vC (.int 1)))]))]) skipS))
noncomputable def b__law_told : Sv := (seqS (par2 1 2 [(.ex (opS listO [(.ex (opS ixS [(.nm 0), (.ex (vC (.int 0)))]))])), (.ex (opS mulO [(.ex (vC (.int 2))), (.ex (opS ixS [(.nm 0), (.ex (vC (.int 1)))]))]))]) (seqS (whS t0__law_told l1__law_told FU) (seqS (ifS (tstB (opS (eqS false) [(.nm 1), (.ex (vLst [(.ex (vC (.int 0))), (.ex (vC (.int 0))), (.ex (vC (.int 0))), (.ex (vC (.int 0)))]))])) (seqS (setS 2 (vC (.int 0))) skipS) skipS) (seqS (retS (opS addO [(.ex (opS tupleO [(.nm 1)])), (.ex (vTup [(.nm 2)]))])) skipS))))
noncomputable def n__law_told : Den := denOf 7 [false] b__law_told
theorem sc__law_told : FnScope N__law_told ["number"] (defScope (top 33)) := ⟨rfl, rfl, rfl, by decide +kernel, rfl, by decide +kernel, by decide +kernel⟩
theorem bi__law_told : BindOk "_law_told" (top 33) ["number"] := fun _ _ _ _ _ _ us hl => match us, hl with | [_], _ => rfl
theorem ok__law_told (Z : Facts K mg base) : Fn P w K mg base (TT K) 1 "_law_told" [false] n__law_told := by
  have S := sc__law_told
  exact fn_mk (k := 0) Z.f__law_told S rfl bi__law_told fun cdv A outer s H E hr => (db_cons (ds_par2 rfl S.nd rfl rfl (by decide) rfl rfl (da_cons (d_opx (d_list rfl Z.b_list (da_cons (d_opx (d_ix (d_opn (pv 0)) (d_opx d_int))) da_nil))) (da_cons (d_opx (d_mul (d_opx d_int) (d_opx (d_ix (d_opn (pv 0)) (d_opx d_int))))) da_nil))) (db_cons (ds_while FU own_fn (DW.dt (dw_and (dt_gt (d_opn (pv 2)) (d_opx d_int)) (dw_and (dt_eq hr.units (d_opx (d_mod (d_opx (d_add (d_opx (d_ix (d_opn (pv 1)) (d_opx d_int))) (d_opx (d_ix (d_opn (pv 1)) (d_opx d_int))))) (d_opx d_int))) (d_opx d_int)) (dw_and1 (dt_eq hr.units (d_opx (d_mod (d_opx (d_add (d_opx (d_ix (d_opn (pv 1)) (d_opx d_int))) (d_opx (d_ix (d_opn (pv 1)) (d_opx d_int))))) (d_opx d_int))) (d_opx d_int)))))) (db_cons (ds_asg (d_var (pv 1)) (dg_seq rfl (dgs_cons (dg_name S.nd rfl (by first | exact .inl rfl | exact .inr rfl)) (dgs_cons (dg_name S.nd rfl (by first | exact .inl rfl | exact .inr rfl)) (dgs_cons (dg_name S.nd rfl (by first | exact .inl rfl | exact .inr rfl)) (dgs_cons (dg_name S.nd rfl (by first | exact .inl rfl | exact .inr rfl)) dgs_nil)))) (hu := (tg_lenS (tg_lenS (tg_lenS (tg_lenS tg_len0))))))) (db_cons (ds_par2 rfl S.nd rfl rfl (by decide) rfl rfl (da_cons (d_opx (d_lst (da_cons (d_opx (d_fdiv (d_opx (d_sub (d_opn (pv 4)) (d_opn (pv 6)))) (d_opx d_int))) (da_cons (d_opx (d_fdiv (d_opx (d_add (d_opn (pv 3)) (d_opn (pv 5)))) (d_opx d_int))) (da_cons (d_opx (d_fdiv (d_opx (d_add (d_opn (pv 4)) (d_opn (pv 6)))) (d_opx d_int))) (da_cons (d_opx (d_fdiv (d_opx (d_sub (d_opn (pv 5)) (d_opn (pv 3)))) (d_opx d_int))) da_nil)))))) (da_cons (d_opx (d_sub (d_opn (pv 2)) (d_opx d_int))) da_nil))) db_nil))) (db_cons (ds_if (dt_eq hr.units (d_opn (pv 1)) (d_opx (d_lst (da_cons (d_opx d_int) (da_cons (d_opx d_int) (da_cons (d_opx d_int) (da_cons (d_opx d_int) da_nil))))))) (db_cons (ds_set S.nd rfl (by first | exact .inl rfl | exact .inr rfl) d_int) db_nil) db_nil) (db_cons (ds_ret (d_add (d_opx (d_tuple rfl Z.b_tuple (da_cons (d_opn (pv 1)) da_nil))) (d_opx (d_tup (da_cons (d_opn (pv 2)) da_nil))))) db_nil))))
def N__law_root : List Str := ["number", "power", "half", "k"]
noncomputable def l0__law_root : Sv := (seqS (setS 0 (callS [false, false] n__law_by [(.nm 0), (.ex (ifV (tstB (opS gtS [(.nm 1), (.ex (vC (.int 0)))])) (vVar 2) (vTup [(.ex (vLst [(.ex (vC (.int 0))), (.ex (vC (.int 1))), (.ex (vC (.int 0))), (.ex (opS negO [(.ex (vC (.int 1)))]))])), (.ex (vC (.int 0)))])))])) skipS)
noncomputable def b__law_root : Sv := (seqS (setS 2 (vTup [(.ex (vLst [(.ex (vC (.int 0))), (.ex (vC (.int 1))), (.ex (vC (.int 0))), (.ex (opS negO [(.ex (vC (.int 1)))]))])), (.ex (vC (.int 1)))])) (seqS (forE (rng1 (opS absO [(.nm 1)])) (tgN 3) l0__law_root) (seqS (movS 0) skipS)))
noncomputable def n__law_root : Den := denOf 4 [false, false] b__law_root
theorem sc__law_root : FnScope N__law_root ["number", "power"] (defScope (top 34)) := ⟨rfl, rfl, rfl, by decide +kernel, rfl, by decide +kernel, by decide +kernel⟩
theorem bi__law_root : BindOk "_law_root" (top 34) ["number", "power"] := fun _ _ _ _ _ _ us hl => match us, hl with | [_, _], _ => rfl
theorem ok__law_root (Z : Facts K mg base) : Fn P w K mg base (TT K) 2 "_law_root" [false, false] n__law_root := by
  have S := sc__law_root
  exact fn_mk (k := 1) Z.f__law_root S rfl bi__law_root fun cdv A outer s H E hr => (db_cons (ds_set S.nd rfl (by first | exact .inl rfl | exact .inr rfl) (d_tup (da_cons (d_opx (d_lst (da_cons (d_opx d_int) (da_cons (d_opx d_int) (da_cons (d_opx d_int) (da_cons (d_opx (d_neg (d_opx d_int))) da_nil)))))) (da_cons (d_opx d_int) da_nil)))) (db_cons (ds_for own_fn rfl (di_rng1 rfl Z.b_range (d_abs rfl Z.b_abs (da_cons (d_opn (pv 1)) da_nil))) (dg_name S.nd rfl (by first | exact .inl rfl | exact .inr rfl)) (db_cons (ds_set S.nd rfl (by first | exact .inl rfl | exact .inr rfl) (d_cal (ok__law_by (w := w) Z) pass_fn hr (da_cons (d_opn (pv 0)) (da_cons (d_opx (d_if (dt_gt (d_opn (pv 1)) (d_opx d_int)) (d_var (pv 2)) (d_tup (da_cons (d_opx (d_lst (da_cons (d_opx d_int) (da_cons (d_opx d_int) (da_cons (d_opx d_int) (da_cons (d_opx (d_neg (d_opx d_int))) da_nil)))))) (da_cons (d_opx d_int) da_nil))))) da_nil)) (by first | omega | decide))) db_nil)) (db_cons (ds_mov (pv 0)) db_nil)))
def N__law_figures : List Str := ["many", "rows", "k", "longer", "row"]
noncomputable def l0__law_figures : Sv := (seqS (setS 3 (opS catO [(.nm 3), (.ex (vLst [(.ex (opS addRO [(.nm 4), (.ex (vTupR [(.ex (vC (.int 0)))]))])), (.ex (opS addRO [(.nm 4), (.ex (vTupR [(.ex (vC (.int 1)))]))]))]))])) skipS)
noncomputable def l1__law_figures : Sv := (seqS (setS 3 (vLst [])) (seqS (forE (seqI (vVar 1)) (tgN 4) l0__law_figures) (seqS (setS 1 (vVar 3)) skipS)))
noncomputable def b__law_figures : Sv := (seqS (setS 1 (vLst [(.ex (vTupR []))])) (seqS (forE (rng1 (vVar 0)) (tgN 2) l1__law_figures) (seqS (movS 1) skipS)))
noncomputable def n__law_figures : Den := denOf 5 [false] b__law_figures
theorem sc__law_figures : FnScope N__law_figures ["many"] (defScope (top 35)) := ⟨rfl, rfl, rfl, by decide +kernel, rfl, by decide +kernel, by decide +kernel⟩
theorem bi__law_figures : BindOk "_law_figures" (top 35) ["many"] := fun _ _ _ _ _ _ us hl => match us, hl with | [_], _ => rfl
theorem ok__law_figures (Z : Facts K mg base) : Fn P w K mg base (TT K) 1 "_law_figures" [false] n__law_figures := by
  have S := sc__law_figures
  exact fn_mk (k := 0) Z.f__law_figures S rfl bi__law_figures fun cdv A outer s H E hr => (db_cons (ds_set S.nd rfl (by first | exact .inl rfl | exact .inr rfl) (d_lst (da_cons (d_opx (d_tupR da_nil)) da_nil))) (db_cons (ds_for own_fn rfl (di_rng1 rfl Z.b_range (d_var (pv 0))) (dg_name S.nd rfl (by first | exact .inl rfl | exact .inr rfl)) (db_cons (ds_set S.nd rfl (by first | exact .inl rfl | exact .inr rfl) (d_lst da_nil)) (db_cons (ds_for own_fn rfl (di_seq (d_var (pv 1))) (dg_name S.nd rfl (by first | exact .inl rfl | exact .inr rfl)) (db_cons (ds_set S.nd rfl (by first | exact .inl rfl | exact .inr rfl) (d_cat (d_opn (pv 3)) (d_opx (d_lst (da_cons (d_opx (d_addR (d_opn (pv 4)) (d_opx (d_tupR (da_cons (d_opx d_int) da_nil))))) (da_cons (d_opx (d_addR (d_opn (pv 4)) (d_opx (d_tupR (da_cons (d_opx d_int) da_nil))))) da_nil)))))) db_nil)) (db_cons (ds_set S.nd rfl (by first | exact .inl rfl | exact .inr rfl) (d_var (pv 3))) db_nil)))) (db_cons (ds_mov (pv 1)) db_nil)))
def N__law_field : List Str := ["qubits", "amplitudes", "rows", "numbers", "k"]
noncomputable def l0__law_field : Sv := (seqS (putT 3 (opS ixS [(.nm 2), (.nm 4)]) (opS ixS [(.nm 1), (.nm 4)])) skipS)
noncomputable def b__law_field : Sv := (seqS (setS 2 (callS [false] n__law_figures [(.ex (opS lenO [(.nm 0)]))])) (seqS (setS 3 vNewT) (seqS (forE (rng1 (opS lenO [(.nm 2)])) (tgN 4) l0__law_field) (seqS (retS (vTup [(.ex (opS tupleF [(.nm 0)])), (.nm 3)])) skipS))))
noncomputable def n__law_field : Den := denOf 5 [false, false] b__law_field
theorem sc__law_field : FnScope N__law_field ["qubits", "amplitudes"] (defScope (top 36)) := ⟨rfl, rfl, rfl, by decide +kernel, rfl, by decide +kernel, by decide +kernel⟩
theorem bi__law_field : BindOk "_law_field" (top 36) ["qubits", "amplitudes"] := fun _ _ _ _ _ _ us hl => match us, hl with | [_, _], _ => rfl
theorem ok__law_field (Z : Facts K mg base) : Fn P w K mg base (TT K) 2 "_law_field" [false, false] n__law_field := by
  have S := sc__law_field
  exact fn_mk (k := 1) Z.f__law_field S rfl bi__law_field fun cdv A outer s H E hr => (db_cons (ds_set S.nd rfl (by first | exact .inl rfl | exact .inr rfl) (d_cal (ok__law_figures (w := w) Z) pass_fn hr (da_cons (d_opx (DL.d_len rfl Z.b_len (da_cons (d_opn (pv 0)) da_nil))) da_nil) (by first | omega | decide))) (db_cons (ds_set S.nd rfl (by first | exact .inl rfl | exact .inr rfl) d_newT) (db_cons (ds_for own_fn rfl (di_rng1 rfl Z.b_range (DL.d_len rfl Z.b_len (da_cons (d_opn (pv 2)) da_nil))) (dg_name S.nd rfl (by first | exact .inl rfl | exact .inr rfl)) (db_cons (ds_putT hr.units (pv 3) (d_ix (d_opn (pv 2)) (d_opn (pv 4))) (d_ix (d_opn (pv 1)) (d_opn (pv 4)))) db_nil)) (db_cons (ds_ret (d_tup (da_cons (d_opx (d_tupleF rfl Z.b_tuple (da_cons (d_opn (pv 0)) da_nil))) (da_cons (d_opn (pv 3)) da_nil)))) db_nil))))
def N__law_plane : List Str := ["plane", "turns", "one", "w", "low", "high"]
noncomputable def b__law_plane : Sv := (seqS (par2 2 3 [(.ex (vTup [(.ex (vLst [(.ex (vC (.int 1))), (.ex (vC (.int 0))), (.ex (vC (.int 0))), (.ex (vC (.int 0)))])), (.ex (vC (.int 0)))])), (.ex (callS [false] n__law_w [(.nm 1)]))]) (seqS (ifS (tstB (opS (eqS false) [(.nm 0), (.ex (vC (.str "XY")))])) (seqS (retS (vTup [(.ex (callS [false, false] n__law_root [(.nm 2), (.ex (vC (.int 1)))])), (.ex (callS [false, false] n__law_root [(.nm 3), (.ex (vC (.int 1)))]))])) skipS) skipS) (seqS (par2 4 5 [(.ex (callS [false, false] n__law_root [(.ex (callS [false, false] n__law_plus [(.nm 2), (.nm 3)])), (.ex (vC (.int 2)))])), (.ex (callS [false, false] n__law_root [(.ex (callS [false, false] n__law_plus [(.nm 2), (.ex (callS [false] n__law_minus [(.nm 3)]))])), (.ex (vC (.int 2)))]))]) (seqS (retS (vTup [(.nm 4), (.ex (ifV (tstB (opS (eqS false) [(.nm 0), (.ex (vC (.str "XZ")))])) (callS [false, false] n__law_by [(.ex (vTup [(.ex (vLst [(.ex (vC (.int 0))), (.ex (vC (.int 0))), (.ex (vC (.int 1))), (.ex (vC (.int 0)))])), (.ex (vC (.int 0)))])), (.nm 5)]) (vVar 5)))])) skipS))))
noncomputable def n__law_plane : Den := denOf 6 [false, false] b__law_plane
theorem sc__law_plane : FnScope N__law_plane ["plane", "turns"] (defScope (top 37)) := ⟨rfl, rfl, rfl, by decide +kernel, rfl, by decide +kernel, by decide +kernel⟩
theorem bi__law_plane : BindOk "_law_plane" (top 37) ["plane", "turns"] := fun _ _ _ _ _ _ us hl => match us, hl with | [_, _], _ => rfl
theorem ok__law_plane (Z : Facts K mg base) : Fn P w K mg base (TT K) 3 "_law_plane" [false, false] n__law_plane := by
  have S := sc__law_plane
  exact fn_mk (k := 2) Z.f__law_plane S rfl bi__law_plane fun cdv A outer s H E hr => (db_cons (ds_par2 rfl S.nd rfl rfl (by decide) rfl rfl (da_cons (d_opx (d_tup (da_cons (d_opx (d_lst (da_cons (d_opx d_int) (da_cons (d_opx d_int) (da_cons (d_opx d_int) (da_cons (d_opx d_int) da_nil)))))) (da_cons (d_opx d_int) da_nil)))) (da_cons (d_opx (d_cal (ok__law_w (w := w) Z) pass_fn hr (da_cons (d_opn (pv 1)) da_nil) (by first | omega | decide))) da_nil))) (db_cons (ds_if (dt_eq hr.units (d_opn (pv 0)) (d_opx d_str)) (db_cons (ds_ret (d_tup (da_cons (d_opx (d_cal (ok__law_root (w := w) Z) pass_fn hr (da_cons (d_opn (pv 2)) (da_cons (d_opx d_int) da_nil)) (by first | omega | decide))) (da_cons (d_opx (d_cal (ok__law_root (w := w) Z) pass_fn hr (da_cons (d_opn (pv 3)) (da_cons (d_opx d_int) da_nil)) (by first | omega | decide))) da_nil)))) db_nil) db_nil) (db_cons (ds_par2 rfl S.nd rfl rfl (by decide) rfl rfl (da_cons (d_opx (d_cal (ok__law_root (w := w) Z) pass_fn hr (da_cons (d_opx (d_cal (ok__law_plus (w := w) Z) pass_fn hr (da_cons (d_opn (pv 2)) (da_cons (d_opn (pv 3)) da_nil)) (by first | omega | decide))) (da_cons (d_opx d_int) da_nil)) (by first | omega | decide))) (da_cons (d_opx (d_cal (ok__law_root (w := w) Z) pass_fn hr (da_cons (d_opx (d_cal (ok__law_plus (w := w) Z) pass_fn hr (da_cons (d_opn (pv 2)) (da_cons (d_opx (d_cal (ok__law_minus (w := w) Z) pass_fn hr (da_cons (d_opn (pv 3)) da_nil) (by first | omega | decide))) da_nil)) (by first | omega | decide))) (da_cons (d_opx d_int) da_nil)) (by first | omega | decide))) da_nil))) (db_cons (ds_ret (d_tup (da_cons (d_opn (pv 4)) (da_cons (d_opx (d_if (dt_eq hr.units (d_opn (pv 0)) (d_opx d_str)) (d_cal (ok__law_by (w := w) Z) pass_fn hr (da_cons (d_opx (d_tup (da_cons (d_opx (d_lst (da_cons (d_opx d_int) (da_cons (d_opx d_int) (da_cons (d_opx d_int) (da_cons (d_opx d_int) da_nil)))))) (da_cons (d_opx d_int) da_nil)))) (da_cons (d_opn (pv 5)) da_nil)) (by first | omega | decide)) (d_var (pv 5)))) da_nil)))) db_nil))))
def N__law_found : List Str := ["field", "qubit", "plane", "turns", "qubits", "numbers", "at", "low", "high", "out", "row", "x", "y"]
noncomputable def l0__law_found : Sv := (seqS (par2 11 12 [(.ex (opS dgetO [(.nm 5), (.ex (opS addO [(.ex (opS addO [(.ex (slS (.nm 10) .no (.at_ (vVar 6)))), (.ex (vTup [(.ex (vC (.int 0)))]))])), (.ex (slS (.nm 10) (.at_ (vVar 6)) .no))]))])), (.ex (opS dgetO [(.nm 5), (.ex (opS addO [(.ex (opS addO [(.ex (slS (.nm 10) .no (.at_ (vVar 6)))), (.ex (vTup [(.ex (vC (.int 1)))]))])), (.ex (slS (.nm 10) (.at_ (vVar 6)) .no))]))]))]) (seqS (putT 9 (vVar 10) (callS [false, false] n__law_plus [(.ex (callS [false, false] n__law_by [(.ex (callS [false] n__law_bar [(.nm 7)])), (.nm 11)])), (.ex (callS [false, false] n__law_by [(.ex (callS [false] n__law_bar [(.nm 8)])), (.nm 12)]))])) skipS))
noncomputable def b__law_found : Sv := (seqS (asgS (tgSeq (tgCons (tgN 4) (tgCons (tgN 5) tgNil))) (vVar 0)) (seqS (setS 6 (idxM (.nm 4) (.nm 1))) (seqS (asgS (tgSeq (tgCons (tgN 7) (tgCons (tgN 8) tgNil))) (callS [false, false] n__law_plane [(.nm 2), (.nm 3)])) (seqS (setS 9 vNewT) (seqS (forE (seqI (callS [false] n__law_figures [(.ex (opS subO [(.ex (opS lenO [(.nm 4)])), (.ex (vC (.int 1)))]))])) (tgN 10) l0__law_found) (seqS (retS (vTup [(.ex (opS addO [(.ex (slS (.nm 4) .no (.at_ (vVar 6)))), (.ex (slS (.nm 4) (.at_ (opS addO [(.nm 6), (.ex (vC (.int 1)))])) .no))])), (.nm 9)])) skipS))))))
noncomputable def n__law_found : Den := denOf 13 [false, false, false, false] b__law_found
theorem sc__law_found : FnScope N__law_found ["field", "qubit", "plane", "turns"] (defScope (top 38)) := ⟨rfl, rfl, rfl, by decide +kernel, rfl, by decide +kernel, by decide +kernel⟩
theorem bi__law_found : BindOk "_law_found" (top 38) ["field", "qubit", "plane", "turns"] := fun _ _ _ _ _ _ us hl => match us, hl with | [_, _, _, _], _ => rfl
theorem ok__law_found (Z : Facts K mg base) : Fn P w K mg base (TT K) 4 "_law_found" [false, false, false, false] n__law_found := by
  have S := sc__law_found
  exact fn_mk (k := 3) Z.f__law_found S rfl bi__law_found fun cdv A outer s H E hr => (db_cons (ds_asg (d_var (pv 0)) (dg_seq rfl (dgs_cons (dg_name S.nd rfl (by first | exact .inl rfl | exact .inr rfl)) (dgs_cons (dg_name S.nd rfl (by first | exact .inl rfl | exact .inr rfl)) dgs_nil)) (hu := (tg_lenS (tg_lenS tg_len0))))) (db_cons (ds_set S.nd rfl (by first | exact .inl rfl | exact .inr rfl) (d_idx (d_opn (pv 4)) (d_opn (pv 1)))) (db_cons (ds_asg (d_cal (ok__law_plane (w := w) Z) pass_fn hr (da_cons (d_opn (pv 2)) (da_cons (d_opn (pv 3)) da_nil)) (by first | omega | decide)) (dg_seq rfl (dgs_cons (dg_name S.nd rfl (by first | exact .inl rfl | exact .inr rfl)) (dgs_cons (dg_name S.nd rfl (by first | exact .inl rfl | exact .inr rfl)) dgs_nil)) (hu := (tg_lenS (tg_lenS tg_len0))))) (db_cons (ds_set S.nd rfl (by first | exact .inl rfl | exact .inr rfl) d_newT) (db_cons (ds_for own_fn rfl (di_seq (d_cal (ok__law_figures (w := w) Z) pass_fn hr (da_cons (d_opx (d_sub (d_opx (DL.d_len rfl Z.b_len (da_cons (d_opn (pv 4)) da_nil))) (d_opx d_int))) da_nil) (by first | omega | decide))) (dg_name S.nd rfl (by first | exact .inl rfl | exact .inr rfl)) (db_cons (ds_par2 rfl S.nd rfl rfl (by decide) rfl rfl (da_cons (d_opx (d_dget hr.units (d_opn (pv 5)) (d_opx (d_add (d_opx (d_add (d_opx (d_slice (d_opn (pv 10)) dp_no (dp_at (d_var (pv 6))))) (d_opx (d_tup (da_cons (d_opx d_int) da_nil))))) (d_opx (d_slice (d_opn (pv 10)) (dp_at (d_var (pv 6))) dp_no)))))) (da_cons (d_opx (d_dget hr.units (d_opn (pv 5)) (d_opx (d_add (d_opx (d_add (d_opx (d_slice (d_opn (pv 10)) dp_no (dp_at (d_var (pv 6))))) (d_opx (d_tup (da_cons (d_opx d_int) da_nil))))) (d_opx (d_slice (d_opn (pv 10)) (dp_at (d_var (pv 6))) dp_no)))))) da_nil))) (db_cons (ds_putT hr.units (pv 9) (d_var (pv 10)) (d_cal (ok__law_plus (w := w) Z) pass_fn hr (da_cons (d_opx (d_cal (ok__law_by (w := w) Z) pass_fn hr (da_cons (d_opx (d_cal (ok__law_bar (w := w) Z) pass_fn hr (da_cons (d_opn (pv 7)) da_nil) (by first | omega | decide))) (da_cons (d_opn (pv 11)) da_nil)) (by first | omega | decide))) (da_cons (d_opx (d_cal (ok__law_by (w := w) Z) pass_fn hr (da_cons (d_opx (d_cal (ok__law_bar (w := w) Z) pass_fn hr (da_cons (d_opn (pv 8)) da_nil) (by first | omega | decide))) (da_cons (d_opn (pv 12)) da_nil)) (by first | omega | decide))) da_nil)) (by first | omega | decide))) db_nil))) (db_cons (ds_ret (d_tup (da_cons (d_opx (d_add (d_opx (d_slice (d_opn (pv 4)) dp_no (dp_at (d_var (pv 6))))) (d_opx (d_slice (d_opn (pv 4)) (dp_at (d_add (d_opn (pv 6)) (d_opx d_int))) dp_no)))) (da_cons (d_opn (pv 9)) da_nil)))) db_nil))))))
def N__law_row : List Str := ["field", "row"]
noncomputable def e0__law_row : Ev := (opS dgetO [(.ex (opS ixS [(.nm 0), (.ex (vC (.int 1)))])), (.nm 1)])
noncomputable def b__law_row : Sv := (seqS (retS (lcS (seqI (callS [false] n__law_figures [(.ex (opS lenO [(.ex (opS ixS [(.nm 0), (.ex (vC (.int 0)))]))]))])) (tgN 1) yesT e0__law_row [1])) skipS)
noncomputable def n__law_row : Den := denOf 2 [false] b__law_row
theorem sc__law_row : FnScope N__law_row ["field"] (defScope (top 39)) := ⟨rfl, rfl, rfl, by decide +kernel, rfl, by decide +kernel, by decide +kernel⟩
theorem bi__law_row : BindOk "_law_row" (top 39) ["field"] := fun _ _ _ _ _ _ us hl => match us, hl with | [_], _ => rfl
theorem ok__law_row (Z : Facts K mg base) : Fn P w K mg base (TT K) 2 "_law_row" [false] n__law_row := by
  have S := sc__law_row
  exact fn_mk (k := 1) Z.f__law_row S rfl bi__law_row fun cdv A outer s H E hr => (db_cons (ds_ret (d_lcx rfl S.nd (di_seq (d_cal (ok__law_figures (w := w) Z) pass_fn hr (da_cons (d_opx (DL.d_len rfl Z.b_len (da_cons (d_opx (d_ix (d_opn (pv 0)) (d_opx d_int))) da_nil))) da_nil) (by first | omega | decide))) (blk_of (N := N__law_row) (sc := defScope (top 39)) (own := [("row", 1)]) (by decide +kernel)) (fun _ _ _ _ _ => (dg_name S.nd rfl (by first | exact .inl rfl | exact .inr rfl))) (fun _ _ _ _ _ => dts_nil) (fun _ _ _ _ _ => (d_dget hr.units (d_opx (d_ix (d_opn (pv 0)) (d_opx d_int))) (d_opn (pv 1)))))) db_nil)
def N__law_same_field : List Str := ["told", "field", "due", "k"]
noncomputable def e0__law_same_field : Ev := (callS [false, false] n__law_is [(.ex (opS ixS [(.ex (opS ixS [(.nm 0), (.ex (vC (.int 1)))])), (.nm 3)])), (.ex (opS ixS [(.nm 2), (.nm 3)]))])
noncomputable def b__law_same_field : Sv := (seqS (ifS (orT (notT (truA (.ex (isiS "tuple" (.nm 0))))) (orT (tstB (opS (eqS true) [(.ex (opS lenO [(.nm 0)])), (.ex (vC (.int 2)))])) (orT (notT (truA (.ex (callS [false, false] n__law_exact [(.ex (opS tupleF [(.ex (opS ixS [(.nm 1), (.ex (vC (.int 0)))]))])), (.ex (opS ixS [(.nm 0), (.ex (vC (.int 0)))]))])))) (notT (truA (.ex (isiS "tuple" (.ex (opS ixS [(.nm 0), (.ex (vC (.int 1)))]))))))))) (seqS (retS (vC (.bl false))) skipS) skipS) (seqS (setS 2 (callS [false] n__law_row [(.nm 1)])) (seqS (retS (andV (opS (eqS false) [(.ex (opS lenO [(.nm 2)])), (.ex (opS lenO [(.ex (opS ixS [(.nm 0), (.ex (vC (.int 1)))]))]))]) (opS allO [(.ex (lcS (rng1 (opS lenO [(.nm 2)])) (tgN 3) yesT e0__law_same_field [3]))]))) skipS)))
noncomputable def n__law_same_field : Den := denOf 4 [false, false] b__law_same_field
theorem sc__law_same_field : FnScope N__law_same_field ["told", "field"] (defScope (top 40)) := ⟨rfl, rfl, rfl, by decide +kernel, rfl, by decide +kernel, by decide +kernel⟩
theorem bi__law_same_field : BindOk "_law_same_field" (top 40) ["told", "field"] := fun _ _ _ _ _ _ us hl => match us, hl with | [_, _], _ => rfl
theorem ok__law_same_field (Z : Facts K mg base) : Fn P w K mg base (TT K) 8 "_law_same_field" [false, false] n__law_same_field := by
  have S := sc__law_same_field
  exact fn_mk (k := 7) Z.f__law_same_field S rfl bi__law_same_field fun cdv A outer s H E hr => (db_cons (ds_if (DW.dt (dw_or (dt_not (dt_truth (d_opx (d_isi rfl Z.b_isinstance (d_opn (pv 0)) (pe_bltn rfl Z.b_tuple boot_tuple rfl))))) (dw_or (dt_ne hr.units (d_opx (DL.d_len rfl Z.b_len (da_cons (d_opn (pv 0)) da_nil))) (d_opx d_int)) (dw_or (dt_not (dt_truth (d_opx (d_cal (ok__law_exact (w := w) Z) pass_fn hr (da_cons (d_opx (d_tupleF rfl Z.b_tuple (da_cons (d_opx (d_ix (d_opn (pv 1)) (d_opx d_int))) da_nil))) (da_cons (d_opx (d_ix (d_opn (pv 0)) (d_opx d_int))) da_nil)) (by first | omega | decide))))) (dw_or1 (dt_not (dt_truth (d_opx (d_isi rfl Z.b_isinstance (d_opx (d_ix (d_opn (pv 0)) (d_opx d_int))) (pe_bltn rfl Z.b_tuple boot_tuple rfl)))))))))) (db_cons (ds_ret d_bl) db_nil) db_nil) (db_cons (ds_set S.nd rfl (by first | exact .inl rfl | exact .inr rfl) (d_cal (ok__law_row (w := w) Z) pass_fn hr (da_cons (d_opn (pv 1)) da_nil) (by first | omega | decide))) (db_cons (ds_ret (d_and (d_eq hr.units (d_opx (DL.d_len rfl Z.b_len (da_cons (d_opn (pv 2)) da_nil))) (d_opx (DL.d_len rfl Z.b_len (da_cons (d_opx (d_ix (d_opn (pv 0)) (d_opx d_int))) da_nil)))) (d_one (d_all rfl rfl Z.b_all (da_cons (d_opx (d_lcx rfl S.nd (di_rng1 rfl Z.b_range (DL.d_len rfl Z.b_len (da_cons (d_opn (pv 2)) da_nil))) (blk_of (N := N__law_same_field) (sc := defScope (top 40)) (own := [("k", 3)]) (by decide +kernel)) (fun _ _ _ _ _ => (dg_name S.nd rfl (by first | exact .inl rfl | exact .inr rfl))) (fun _ _ _ _ _ => dts_nil) (fun _ _ _ _ _ => (d_cal (ok__law_is (w := w) Z) passL hr (da_cons (d_opx (d_ix (d_opx (d_ix (d_opn (pv 0)) (d_opx d_int))) (d_opn (pv 3)))) (da_cons (d_opx (d_ix (d_opn (pv 2)) (d_opn (pv 3)))) da_nil)) (by first | omega | decide))))) da_nil))))) db_nil)))
def N__law_unit_alike : List Str := ["one", "other", "turns", "k"]
noncomputable def e0__law_unit_alike : Ev := (callS [false, false] n__law_like [(.ex (callS [false, false] n__law_by [(.ex (callS [false] n__law_w [(.nm 2)])), (.ex (opS ixS [(.nm 0), (.nm 3)]))])), (.ex (opS ixS [(.nm 1), (.nm 3)]))])
noncomputable def l1__law_unit_alike : Sv := (seqS (ifS (truA (.ex (opS allO [(.ex (lcS (rng1 (opS lenO [(.nm 0)])) (tgN 3) yesT e0__law_unit_alike [3]))]))) (seqS (retS (vC (.bl true))) skipS) skipS) skipS)
noncomputable def b__law_unit_alike : Sv := (seqS (forE (rng1 (vC (.int 8))) (tgN 2) l1__law_unit_alike) (seqS (retS (vC (.bl false))) skipS))
noncomputable def n__law_unit_alike : Den := denOf 4 [false, false] b__law_unit_alike
theorem sc__law_unit_alike : FnScope N__law_unit_alike ["one", "other"] (defScope (top 41)) := ⟨rfl, rfl, rfl, by decide +kernel, rfl, by decide +kernel, by decide +kernel⟩
theorem bi__law_unit_alike : BindOk "_law_unit_alike" (top 41) ["one", "other"] := fun _ _ _ _ _ _ us hl => match us, hl with | [_, _], _ => rfl
theorem ok__law_unit_alike (Z : Facts K mg base) : Fn P w K mg base (TT K) 2 "_law_unit_alike" [false, false] n__law_unit_alike := by
  have S := sc__law_unit_alike
  exact fn_mk (k := 1) Z.f__law_unit_alike S rfl bi__law_unit_alike fun cdv A outer s H E hr => (db_cons (ds_for own_fn rfl (di_rng1 rfl Z.b_range d_int) (dg_name S.nd rfl (by first | exact .inl rfl | exact .inr rfl)) (db_cons (ds_if (dt_truth (d_opx (d_all rfl rfl Z.b_all (da_cons (d_opx (d_lcx rfl S.nd (di_rng1 rfl Z.b_range (DL.d_len rfl Z.b_len (da_cons (d_opn (pv 0)) da_nil))) (blk_of (N := N__law_unit_alike) (sc := defScope (top 41)) (own := [("k", 3)]) (by decide +kernel)) (fun _ _ _ _ _ => (dg_name S.nd rfl (by first | exact .inl rfl | exact .inr rfl))) (fun _ _ _ _ _ => dts_nil) (fun _ _ _ _ _ => (d_cal (ok__law_like (w := w) Z) passL hr (da_cons (d_opx (d_cal (ok__law_by (w := w) Z) passL hr (da_cons (d_opx (d_cal (ok__law_w (w := w) Z) passL hr (da_cons (d_opn (pv 2)) da_nil) (by first | omega | decide))) (da_cons (d_opx (d_ix (d_opn (pv 0)) (d_opn (pv 3)))) da_nil)) (by first | omega | decide))) (da_cons (d_opx (d_ix (d_opn (pv 1)) (d_opn (pv 3)))) da_nil)) (by first | omega | decide))))) da_nil)))) (db_cons (ds_ret d_bl) db_nil) db_nil) db_nil)) (db_cons (ds_ret d_bl) db_nil))
def N__law_state : List Str := ["state", "script", "qubits", "k"]
noncomputable def e0__law_state : Ev := (callS [true, false] n__law_number [(.nm 0), (.nm 1)])
noncomputable def b__law_state : Sv := (seqS (retS (lcS (rng1 (opS shlO [(.ex (vC (.int 1))), (.ex (opS lenO [(.nm 2)]))])) (tgN 3) yesT e0__law_state [3])) skipS)
noncomputable def n__law_state : Den := denOf 4 [true, false, false] b__law_state
theorem sc__law_state : FnScope N__law_state ["state", "script", "qubits"] (defScope (top 42)) := ⟨rfl, rfl, rfl, by decide +kernel, rfl, by decide +kernel, by decide +kernel⟩
theorem bi__law_state : BindOk "_law_state" (top 42) ["state", "script", "qubits"] := fun _ _ _ _ _ _ us hl => match us, hl with | [_, _, _], _ => rfl
theorem ok__law_state (Z : Facts K mg base) : Fn P w K mg base (TT K) 4 "_law_state" [true, false, false] n__law_state := by
  have S := sc__law_state
  exact fn_mk (k := 3) Z.f__law_state S rfl bi__law_state fun cdv A outer s H E hr => (db_cons (ds_ret (d_lcx rfl S.nd (di_rng1 rfl Z.b_range (d_shl (d_opx d_int) (d_opx (DL.d_len rfl Z.b_len (da_cons (d_opn (pv 2)) da_nil))))) (blk_of (N := N__law_state) (sc := defScope (top 42)) (own := [("k", 3)]) (by decide +kernel)) (fun _ _ _ _ _ => (dg_name S.nd rfl (by first | exact .inl rfl | exact .inr rfl))) (fun _ _ _ _ _ => dts_nil) (fun _ _ _ _ _ => (d_cal (ok__law_number (w := w) Z) passL hr (da_cons (d_opn (pv 0)) (da_cons (d_opn (pv 1)) da_nil)) (by first | omega | decide))))) db_nil)
def N__law_qubits : List Str := ["state", "script", "most", "qubits", "k"]
noncomputable def l0__law_qubits : Sv := (seqS (dropS (mutS 3 appO [(.ex (opS ixS [(.ex (vLst [(.nm 4), (.ex (opS subO [(.ex (vC (.int 23))), (.nm 4)])), (.ex (callS [true, false, false] n__law_draw [(.nm 0), (.nm 1), (.ex (vC (.int 24)))]))])), (.ex (callS [true, false, false] n__law_draw [(.nm 0), (.nm 1), (.ex (vC (.int 3)))]))]))])) skipS)
noncomputable def b__law_qubits : Sv := (seqS (setS 3 (vLst [])) (seqS (forE (rng1 (opS addO [(.ex (vC (.int 1))), (.ex (callS [true, false, false] n__law_draw [(.nm 0), (.nm 1), (.nm 2)]))])) (tgN 4) l0__law_qubits) (seqS (retS (opS tupleF [(.ex (opS (one srtSO) [(.nm 3)]))])) skipS)))
noncomputable def n__law_qubits : Den := denOf 5 [true, false, false] b__law_qubits
theorem sc__law_qubits : FnScope N__law_qubits ["state", "script", "most"] (defScope (top 43)) := ⟨rfl, rfl, rfl, by decide +kernel, rfl, by decide +kernel, by decide +kernel⟩
theorem bi__law_qubits : BindOk "_law_qubits" (top 43) ["state", "script", "most"] := fun _ _ _ _ _ _ us hl => match us, hl with | [_, _, _], _ => rfl
theorem ok__law_qubits (Z : Facts K mg base) : Fn P w K mg base (TT K) 3 "_law_qubits" [true, false, false] n__law_qubits := by
  have S := sc__law_qubits
  exact fn_mk (k := 2) Z.f__law_qubits S rfl bi__law_qubits fun cdv A outer s H E hr => (db_cons (ds_set S.nd rfl (by first | exact .inl rfl | exact .inr rfl) (d_lst da_nil)) (db_cons (ds_for own_fn rfl (di_rng1 rfl Z.b_range (d_add (d_opx d_int) (d_opx (d_cal (ok__law_draw (w := w) Z) pass_fn hr (da_cons (d_opn (pv 0)) (da_cons (d_opn (pv 1)) (da_cons (d_opn (pv 2)) da_nil))) (by first | omega | decide))))) (dg_name S.nd rfl (by first | exact .inl rfl | exact .inr rfl)) (db_cons (ds_expr (d_append (pv 3) (da_cons (d_opx (d_ix (d_opx (d_lst (da_cons (d_opn (pv 4)) (da_cons (d_opx (d_sub (d_opx d_int) (d_opn (pv 4)))) (da_cons (d_opx (d_cal (ok__law_draw (w := w) Z) pass_fn hr (da_cons (d_opn (pv 0)) (da_cons (d_opn (pv 1)) (da_cons (d_opx d_int) da_nil))) (by first | omega | decide))) da_nil))))) (d_opx (d_cal (ok__law_draw (w := w) Z) pass_fn hr (da_cons (d_opn (pv 0)) (da_cons (d_opn (pv 1)) (da_cons (d_opx d_int) da_nil))) (by first | omega | decide))))) da_nil))) db_nil)) (db_cons (ds_ret (d_tupleF rfl Z.b_tuple (da_cons (d_opx (d_srtS rfl rfl Z.b_sorted rfl Z.b_set (d_opn (pv 3)))) da_nil))) db_nil)))
def N__law_sum : List Str := ["row", "total", "one"]
noncomputable def l0__law_sum : Sv := (seqS (setS 1 (callS [false, false] n__law_plus [(.nm 1), (.ex (callS [false, false] n__law_by [(.nm 2), (.ex (callS [false] n__law_bar [(.nm 2)]))]))])) skipS)
noncomputable def b__law_sum : Sv := (seqS (setS 1 (vTup [(.ex (vLst [(.ex (vC (.int 0))), (.ex (vC (.int 0))), (.ex (vC (.int 0))), (.ex (vC (.int 0)))])), (.ex (vC (.int 0)))])) (seqS (forE (seqI (vVar 0)) (tgN 2) l0__law_sum) (seqS (movS 1) skipS)))
noncomputable def n__law_sum : Den := denOf 3 [false] b__law_sum
theorem sc__law_sum : FnScope N__law_sum ["row"] (defScope (top 44)) := ⟨rfl, rfl, rfl, by decide +kernel, rfl, by decide +kernel, by decide +kernel⟩
theorem bi__law_sum : BindOk "_law_sum" (top 44) ["row"] := fun _ _ _ _ _ _ us hl => match us, hl with | [_], _ => rfl
theorem ok__law_sum (Z : Facts K mg base) : Fn P w K mg base (TT K) 2 "_law_sum" [false] n__law_sum := by
  have S := sc__law_sum
  exact fn_mk (k := 1) Z.f__law_sum S rfl bi__law_sum fun cdv A outer s H E hr => (db_cons (ds_set S.nd rfl (by first | exact .inl rfl | exact .inr rfl) (d_tup (da_cons (d_opx (d_lst (da_cons (d_opx d_int) (da_cons (d_opx d_int) (da_cons (d_opx d_int) (da_cons (d_opx d_int) da_nil)))))) (da_cons (d_opx d_int) da_nil)))) (db_cons (ds_for own_fn rfl (di_seq (d_var (pv 0))) (dg_name S.nd rfl (by first | exact .inl rfl | exact .inr rfl)) (db_cons (ds_set S.nd rfl (by first | exact .inl rfl | exact .inr rfl) (d_cal (ok__law_plus (w := w) Z) pass_fn hr (da_cons (d_opn (pv 1)) (da_cons (d_opx (d_cal (ok__law_by (w := w) Z) pass_fn hr (da_cons (d_opn (pv 2)) (da_cons (d_opx (d_cal (ok__law_bar (w := w) Z) pass_fn hr (da_cons (d_opn (pv 2)) da_nil) (by first | omega | decide))) da_nil)) (by first | omega | decide))) da_nil)) (by first | omega | decide))) db_nil)) (db_cons (ds_mov (pv 1)) db_nil)))
def N_law : List Str := ["script", "state", "k", "plane", "turns", "told", "due", "other", "cross", "qubits", "amplitudes", "given", "one", "field", "qubit", "first", "second", "both", "by_x", "by_z", "turned", "new", "two", "part"]
noncomputable def e0_law : Ev := (callS [false] n__law_own [(.nm 23)])
noncomputable def e1_law : Ev := (callS [false] n__law_own [(.nm 23)])
noncomputable def l2_law : Sv := (seqS (par2 12 22 [(.ex (opS ixS [(.ex (callS [false, false, false, false] n_project [(.nm 20), (.nm 14), (.nm 3), (.nm 4)])), (.ex (vC (.int 1)))])), (.ex (opS ixS [(.ex (callS [false, false, false, false] n_project [(.nm 11), (.nm 14), (.nm 3), (.nm 21)])), (.ex (vC (.int 1)))]))]) (seqS (ifS (notT (truA (.ex (callS [false, false] n__law_unit_alike [(.ex (lcS (seqI (vVar 12)) (tgN 23) yesT e0_law [23])), (.ex (lcS (seqI (vVar 22)) (tgN 23) yesT e1_law [23]))])))) (seqS (retS (vC (.bl false))) skipS) skipS) skipS))
noncomputable def e3_law : Ev := (callS [false] n__law_own [(.nm 12)])
noncomputable def e4_law : Ev := (callS [false] n__law_own [(.nm 12)])
noncomputable def e5_law : Ev := (callS [false] n__law_told [(.nm 12)])
noncomputable def l6_law : Sv := (seqS (setS 3 (opS ixS [(.ex (vLst [(.ex (vC (.str "XY"))), (.ex (vC (.str "XZ"))), (.ex (vC (.str "YZ")))])), (.ex (callS [true, false, false] n__law_draw [(.nm 1), (.nm 0), (.ex (vC (.int 3)))]))])) (seqS (setS 4 (opS subO [(.ex (callS [true, false, false] n__law_draw [(.nm 1), (.nm 0), (.ex (vC (.int 32)))])), (.ex (vC (.int 12)))])) (seqS (setS 5 (callS [false, false] n_plane_state [(.nm 3), (.nm 4)])) (seqS (setS 6 (callS [false, false] n__law_plane [(.nm 3), (.nm 4)])) (seqS (ifS (orT (notT (truA (.ex (isiS "tuple" (.nm 5))))) (orT (tstB (opS (eqS true) [(.ex (opS lenO [(.nm 5)])), (.ex (vC (.int 2)))])) (orT (notT (truA (.ex (callS [false, false] n__law_is [(.ex (opS ixS [(.nm 5), (.ex (vC (.int 0)))])), (.ex (opS ixS [(.nm 6), (.ex (vC (.int 0)))]))])))) (notT (truA (.ex (callS [false, false] n__law_is [(.ex (opS ixS [(.nm 5), (.ex (vC (.int 1)))])), (.ex (opS ixS [(.nm 6), (.ex (vC (.int 1)))]))]))))))) (seqS (retS (vC (.bl false))) skipS) skipS) (seqS (setS 7 (callS [false, false] n__law_plane [(.nm 3), (.ex (opS addO [(.nm 4), (.ex (vC (.int 4)))]))])) (seqS (setS 8 (callS [false, false] n__law_plus [(.ex (callS [false, false] n__law_by [(.ex (callS [false] n__law_bar [(.ex (opS ixS [(.nm 6), (.ex (vC (.int 0)))]))])), (.ex (opS ixS [(.nm 7), (.ex (vC (.int 0)))]))])), (.ex (callS [false, false] n__law_by [(.ex (callS [false] n__law_bar [(.ex (opS ixS [(.nm 6), (.ex (vC (.int 1)))]))])), (.ex (opS ixS [(.nm 7), (.ex (vC (.int 1)))]))]))])) (seqS (ifS (orT (notT (truA (.ex (callS [false, false] n__law_like [(.ex (callS [false] n__law_sum [(.nm 6)])), (.ex (vTup [(.ex (vLst [(.ex (vC (.int 1))), (.ex (vC (.int 0))), (.ex (vC (.int 0))), (.ex (vC (.int 0)))])), (.ex (vC (.int 0)))]))])))) (notT (truA (.ex (callS [false, false] n__law_like [(.nm 8), (.ex (vTup [(.ex (vLst [(.ex (vC (.int 0))), (.ex (vC (.int 0))), (.ex (vC (.int 0))), (.ex (vC (.int 0)))])), (.ex (vC (.int 0)))]))]))))) (seqS (retS (vC (.bl false))) skipS) skipS) (seqS (setS 9 (callS [true, false, false] n__law_qubits [(.nm 1), (.nm 0), (.ex (vC (.int 3)))])) (seqS (setS 10 (callS [true, false, false] n__law_state [(.nm 1), (.nm 0), (.nm 9)])) (seqS (setS 11 (vTup [(.nm 9), (.ex (opS tupleO [(.ex (lcS (seqI (vVar 10)) (tgN 12) yesT e5_law [12]))]))])) (seqS (setS 13 (callS [false, false] n__law_field [(.nm 9), (.nm 10)])) (seqS (setS 14 (opS ixS [(.nm 9), (.ex (callS [true, false, false] n__law_draw [(.nm 1), (.nm 0), (.ex (opS lenO [(.nm 9)]))]))])) (seqS (par2 15 16 [(.ex (callS [false, false, false, false] n_project [(.nm 11), (.nm 14), (.nm 3), (.nm 4)])), (.ex (callS [false, false, false, false] n_project [(.nm 11), (.nm 14), (.nm 3), (.ex (opS addO [(.nm 4), (.ex (vC (.int 4)))]))]))]) (seqS (ifS (orT (notT (truA (.ex (callS [false, false] n__law_same_field [(.nm 15), (.ex (callS [false, false, false, false] n__law_found [(.nm 13), (.nm 14), (.nm 3), (.nm 4)]))])))) (notT (truA (.ex (callS [false, false] n__law_same_field [(.nm 16), (.ex (callS [false, false, false, false] n__law_found [(.nm 13), (.nm 14), (.nm 3), (.ex (opS addO [(.nm 4), (.ex (vC (.int 4)))]))]))]))))) (seqS (retS (vC (.bl false))) skipS) skipS) (seqS (setS 17 (callS [false, false] n__law_plus [(.ex (callS [false] n__law_sum [(.ex (lcS (seqI (opS ixS [(.nm 15), (.ex (vC (.int 1)))])) (tgN 12) yesT e3_law [12]))])), (.ex (callS [false] n__law_sum [(.ex (lcS (seqI (opS ixS [(.nm 16), (.ex (vC (.int 1)))])) (tgN 12) yesT e4_law [12]))]))])) (seqS (ifS (notT (truA (.ex (callS [false, false] n__law_like [(.nm 17), (.ex (callS [false] n__law_sum [(.nm 10)]))])))) (seqS (retS (vC (.bl false))) skipS) skipS) (seqS (setS 18 (opS dgetO [(.ex (vDisp [(.inr "XY"), (.inr "YZ"), (.inr "XZ")] [(opS subO [(.ex (vC (.int 0))), (.nm 4)]), (opS addO [(.nm 4), (.ex (vC (.int 4)))]), (opS subO [(.ex (vC (.int 4))), (.nm 4)])])), (.nm 3)])) (seqS (setS 19 (opS dgetO [(.ex (vDisp [(.inr "XY"), (.inr "YZ"), (.inr "XZ")] [(opS addO [(.nm 4), (.ex (vC (.int 4)))]), (opS subO [(.ex (vC (.int 0))), (.nm 4)]), (opS subO [(.ex (vC (.int 0))), (.nm 4)])])), (.nm 3)])) (seqS (forE (seqI (vTup [(.ex (vTup [(.ex (callS [false, false] n_pauli_x [(.nm 11), (.nm 14)])), (.nm 18)])), (.ex (vTup [(.ex (callS [false, false] n_pauli_z [(.nm 11), (.nm 14)])), (.nm 19)]))])) (tgSeq (tgCons (tgN 20) (tgCons (tgN 21) tgNil))) l2_law) skipS))))))))))))))))))))
noncomputable def b_law : Sv := (seqS (setS 1 (vLst [(.ex (vC (.int 0))), (.ex (vC (.int 0)))])) (seqS (forE (rng1 (vC (.int 3))) (tgN 2) l6_law) (seqS (retS (vC (.bl true))) skipS)))
noncomputable def n_law : Den := denOf 24 [false] b_law
theorem sc_law : FnScope N_law ["script"] (defScope (top 45)) := ⟨rfl, rfl, rfl, by decide +kernel, rfl, by decide +kernel, by decide +kernel⟩
theorem bi_law : BindOk "law" (top 45) ["script"] := fun _ _ _ _ _ _ us hl => match us, hl with | [_], _ => rfl
theorem ok_law (Z : Facts K mg base) {fd : FuncData} (F : FunD K "law" "law" (defArgs (top 45)) (defBody (top 45)) (defScope (top 45)) [] [] (He.fAd K ("law", none)) fd) : FnOk P w K mg base (L2.CX P w) 9 (He.fAd K ("law", none)) fd ["script"] (spF K (TT K) [false] n_law) := by
  have S := sc_law
  exact fn_at (k := 8) F S rfl fun cdv A outer s H E hr => (db_cons (ds_set S.nd rfl (by first | exact .inl rfl | exact .inr rfl) (d_lst (da_cons (d_opx d_int) (da_cons (d_opx d_int) da_nil)))) (db_cons (ds_for own_fn rfl (di_rng1 rfl Z.b_range d_int) (dg_name S.nd rfl (by first | exact .inl rfl | exact .inr rfl)) (db_cons (ds_set S.nd rfl (by first | exact .inl rfl | exact .inr rfl) (d_ix (d_opx (d_lst (da_cons (d_opx d_str) (da_cons (d_opx d_str) (da_cons (d_opx d_str) da_nil))))) (d_opx (d_cal (ok__law_draw (w := w) Z) pass_fn hr (da_cons (d_opn (pv 1)) (da_cons (d_opn (pv 0)) (da_cons (d_opx d_int) da_nil))) (by first | omega | decide))))) (db_cons (ds_set S.nd rfl (by first | exact .inl rfl | exact .inr rfl) (d_sub (d_opx (d_cal (ok__law_draw (w := w) Z) pass_fn hr (da_cons (d_opn (pv 1)) (da_cons (d_opn (pv 0)) (da_cons (d_opx d_int) da_nil))) (by first | omega | decide))) (d_opx d_int))) (db_cons (ds_set S.nd rfl (by first | exact .inl rfl | exact .inr rfl) (d_cal (ok_plane_state (w := w) Z) pass_fn hr (da_cons (d_opn (pv 3)) (da_cons (d_opn (pv 4)) da_nil)) (by first | omega | decide))) (db_cons (ds_set S.nd rfl (by first | exact .inl rfl | exact .inr rfl) (d_cal (ok__law_plane (w := w) Z) pass_fn hr (da_cons (d_opn (pv 3)) (da_cons (d_opn (pv 4)) da_nil)) (by first | omega | decide))) (db_cons (ds_if (DW.dt (dw_or (dt_not (dt_truth (d_opx (d_isi rfl Z.b_isinstance (d_opn (pv 5)) (pe_bltn rfl Z.b_tuple boot_tuple rfl))))) (dw_or (dt_ne hr.units (d_opx (DL.d_len rfl Z.b_len (da_cons (d_opn (pv 5)) da_nil))) (d_opx d_int)) (dw_or (dt_not (dt_truth (d_opx (d_cal (ok__law_is (w := w) Z) pass_fn hr (da_cons (d_opx (d_ix (d_opn (pv 5)) (d_opx d_int))) (da_cons (d_opx (d_ix (d_opn (pv 6)) (d_opx d_int))) da_nil)) (by first | omega | decide))))) (dw_or1 (dt_not (dt_truth (d_opx (d_cal (ok__law_is (w := w) Z) pass_fn hr (da_cons (d_opx (d_ix (d_opn (pv 5)) (d_opx d_int))) (da_cons (d_opx (d_ix (d_opn (pv 6)) (d_opx d_int))) da_nil)) (by first | omega | decide)))))))))) (db_cons (ds_ret d_bl) db_nil) db_nil) (db_cons (ds_set S.nd rfl (by first | exact .inl rfl | exact .inr rfl) (d_cal (ok__law_plane (w := w) Z) pass_fn hr (da_cons (d_opn (pv 3)) (da_cons (d_opx (d_add (d_opn (pv 4)) (d_opx d_int))) da_nil)) (by first | omega | decide))) (db_cons (ds_set S.nd rfl (by first | exact .inl rfl | exact .inr rfl) (d_cal (ok__law_plus (w := w) Z) pass_fn hr (da_cons (d_opx (d_cal (ok__law_by (w := w) Z) pass_fn hr (da_cons (d_opx (d_cal (ok__law_bar (w := w) Z) pass_fn hr (da_cons (d_opx (d_ix (d_opn (pv 6)) (d_opx d_int))) da_nil) (by first | omega | decide))) (da_cons (d_opx (d_ix (d_opn (pv 7)) (d_opx d_int))) da_nil)) (by first | omega | decide))) (da_cons (d_opx (d_cal (ok__law_by (w := w) Z) pass_fn hr (da_cons (d_opx (d_cal (ok__law_bar (w := w) Z) pass_fn hr (da_cons (d_opx (d_ix (d_opn (pv 6)) (d_opx d_int))) da_nil) (by first | omega | decide))) (da_cons (d_opx (d_ix (d_opn (pv 7)) (d_opx d_int))) da_nil)) (by first | omega | decide))) da_nil)) (by first | omega | decide))) (db_cons (ds_if (DW.dt (dw_or (dt_not (dt_truth (d_opx (d_cal (ok__law_like (w := w) Z) pass_fn hr (da_cons (d_opx (d_cal (ok__law_sum (w := w) Z) pass_fn hr (da_cons (d_opn (pv 6)) da_nil) (by first | omega | decide))) (da_cons (d_opx (d_tup (da_cons (d_opx (d_lst (da_cons (d_opx d_int) (da_cons (d_opx d_int) (da_cons (d_opx d_int) (da_cons (d_opx d_int) da_nil)))))) (da_cons (d_opx d_int) da_nil)))) da_nil)) (by first | omega | decide))))) (dw_or1 (dt_not (dt_truth (d_opx (d_cal (ok__law_like (w := w) Z) pass_fn hr (da_cons (d_opn (pv 8)) (da_cons (d_opx (d_tup (da_cons (d_opx (d_lst (da_cons (d_opx d_int) (da_cons (d_opx d_int) (da_cons (d_opx d_int) (da_cons (d_opx d_int) da_nil)))))) (da_cons (d_opx d_int) da_nil)))) da_nil)) (by first | omega | decide)))))))) (db_cons (ds_ret d_bl) db_nil) db_nil) (db_cons (ds_set S.nd rfl (by first | exact .inl rfl | exact .inr rfl) (d_cal (ok__law_qubits (w := w) Z) pass_fn hr (da_cons (d_opn (pv 1)) (da_cons (d_opn (pv 0)) (da_cons (d_opx d_int) da_nil))) (by first | omega | decide))) (db_cons (ds_set S.nd rfl (by first | exact .inl rfl | exact .inr rfl) (d_cal (ok__law_state (w := w) Z) pass_fn hr (da_cons (d_opn (pv 1)) (da_cons (d_opn (pv 0)) (da_cons (d_opn (pv 9)) da_nil))) (by first | omega | decide))) (db_cons (ds_set S.nd rfl (by first | exact .inl rfl | exact .inr rfl) (d_tup (da_cons (d_opn (pv 9)) (da_cons (d_opx (d_tuple rfl Z.b_tuple (da_cons (d_opx (d_lcx rfl S.nd (di_seq (d_var (pv 10))) (blk_of (N := N_law) (sc := defScope (top 45)) (own := [("one", 12)]) (by decide +kernel)) (fun _ _ _ _ _ => (dg_name S.nd rfl (by first | exact .inl rfl | exact .inr rfl))) (fun _ _ _ _ _ => dts_nil) (fun _ _ _ _ _ => (d_cal (ok__law_told (w := w) Z) passL hr (da_cons (d_opn (pv 12)) da_nil) (by first | omega | decide))))) da_nil))) da_nil)))) (db_cons (ds_set S.nd rfl (by first | exact .inl rfl | exact .inr rfl) (d_cal (ok__law_field (w := w) Z) pass_fn hr (da_cons (d_opn (pv 9)) (da_cons (d_opn (pv 10)) da_nil)) (by first | omega | decide))) (db_cons (ds_set S.nd rfl (by first | exact .inl rfl | exact .inr rfl) (d_ix (d_opn (pv 9)) (d_opx (d_cal (ok__law_draw (w := w) Z) pass_fn hr (da_cons (d_opn (pv 1)) (da_cons (d_opn (pv 0)) (da_cons (d_opx (DL.d_len rfl Z.b_len (da_cons (d_opn (pv 9)) da_nil))) da_nil))) (by first | omega | decide))))) (db_cons (ds_par2 rfl S.nd rfl rfl (by decide) rfl rfl (da_cons (d_opx (d_cal (ok_project (w := w) Z) pass_fn hr (da_cons (d_opn (pv 11)) (da_cons (d_opn (pv 14)) (da_cons (d_opn (pv 3)) (da_cons (d_opn (pv 4)) da_nil)))) (by first | omega | decide))) (da_cons (d_opx (d_cal (ok_project (w := w) Z) pass_fn hr (da_cons (d_opn (pv 11)) (da_cons (d_opn (pv 14)) (da_cons (d_opn (pv 3)) (da_cons (d_opx (d_add (d_opn (pv 4)) (d_opx d_int))) da_nil)))) (by first | omega | decide))) da_nil))) (db_cons (ds_if (DW.dt (dw_or (dt_not (dt_truth (d_opx (d_cal (ok__law_same_field (w := w) Z) pass_fn hr (da_cons (d_opn (pv 15)) (da_cons (d_opx (d_cal (ok__law_found (w := w) Z) pass_fn hr (da_cons (d_opn (pv 13)) (da_cons (d_opn (pv 14)) (da_cons (d_opn (pv 3)) (da_cons (d_opn (pv 4)) da_nil)))) (by first | omega | decide))) da_nil)) (by first | omega | decide))))) (dw_or1 (dt_not (dt_truth (d_opx (d_cal (ok__law_same_field (w := w) Z) pass_fn hr (da_cons (d_opn (pv 16)) (da_cons (d_opx (d_cal (ok__law_found (w := w) Z) pass_fn hr (da_cons (d_opn (pv 13)) (da_cons (d_opn (pv 14)) (da_cons (d_opn (pv 3)) (da_cons (d_opx (d_add (d_opn (pv 4)) (d_opx d_int))) da_nil)))) (by first | omega | decide))) da_nil)) (by first | omega | decide)))))))) (db_cons (ds_ret d_bl) db_nil) db_nil) (db_cons (ds_set S.nd rfl (by first | exact .inl rfl | exact .inr rfl) (d_cal (ok__law_plus (w := w) Z) pass_fn hr (da_cons (d_opx (d_cal (ok__law_sum (w := w) Z) pass_fn hr (da_cons (d_opx (d_lcx rfl S.nd (di_seq (d_ix (d_opn (pv 15)) (d_opx d_int))) (blk_of (N := N_law) (sc := defScope (top 45)) (own := [("one", 12)]) (by decide +kernel)) (fun _ _ _ _ _ => (dg_name S.nd rfl (by first | exact .inl rfl | exact .inr rfl))) (fun _ _ _ _ _ => dts_nil) (fun _ _ _ _ _ => (d_cal (ok__law_own (w := w) Z) passL hr (da_cons (d_opn (pv 12)) da_nil) (by first | omega | decide))))) da_nil) (by first | omega | decide))) (da_cons (d_opx (d_cal (ok__law_sum (w := w) Z) pass_fn hr (da_cons (d_opx (d_lcx rfl S.nd (di_seq (d_ix (d_opn (pv 16)) (d_opx d_int))) (blk_of (N := N_law) (sc := defScope (top 45)) (own := [("one", 12)]) (by decide +kernel)) (fun _ _ _ _ _ => (dg_name S.nd rfl (by first | exact .inl rfl | exact .inr rfl))) (fun _ _ _ _ _ => dts_nil) (fun _ _ _ _ _ => (d_cal (ok__law_own (w := w) Z) passL hr (da_cons (d_opn (pv 12)) da_nil) (by first | omega | decide))))) da_nil) (by first | omega | decide))) da_nil)) (by first | omega | decide))) (db_cons (ds_if (dt_not (dt_truth (d_opx (d_cal (ok__law_like (w := w) Z) pass_fn hr (da_cons (d_opn (pv 17)) (da_cons (d_opx (d_cal (ok__law_sum (w := w) Z) pass_fn hr (da_cons (d_opn (pv 10)) da_nil) (by first | omega | decide))) da_nil)) (by first | omega | decide))))) (db_cons (ds_ret d_bl) db_nil) db_nil) (db_cons (ds_set S.nd rfl (by first | exact .inl rfl | exact .inr rfl) (d_dget hr.units (d_opx (d_disp (dp_str (d_sub (d_opx d_int) (d_opn (pv 4))) (dp_str (d_add (d_opn (pv 4)) (d_opx d_int)) (dp_str (d_sub (d_opx d_int) (d_opn (pv 4))) dp_nil))))) (d_opn (pv 3)))) (db_cons (ds_set S.nd rfl (by first | exact .inl rfl | exact .inr rfl) (d_dget hr.units (d_opx (d_disp (dp_str (d_add (d_opn (pv 4)) (d_opx d_int)) (dp_str (d_sub (d_opx d_int) (d_opn (pv 4))) (dp_str (d_sub (d_opx d_int) (d_opn (pv 4))) dp_nil))))) (d_opn (pv 3)))) (db_cons (ds_for own_fn rfl (di_seq (d_tup (da_cons (d_opx (d_tup (da_cons (d_opx (d_cal (ok_pauli_x (w := w) Z) pass_fn hr (da_cons (d_opn (pv 11)) (da_cons (d_opn (pv 14)) da_nil)) (by first | omega | decide))) (da_cons (d_opn (pv 18)) da_nil)))) (da_cons (d_opx (d_tup (da_cons (d_opx (d_cal (ok_pauli_z (w := w) Z) pass_fn hr (da_cons (d_opn (pv 11)) (da_cons (d_opn (pv 14)) da_nil)) (by first | omega | decide))) (da_cons (d_opn (pv 19)) da_nil)))) da_nil)))) (dg_seq rfl (dgs_cons (dg_name S.nd rfl (by first | exact .inl rfl | exact .inr rfl)) (dgs_cons (dg_name S.nd rfl (by first | exact .inl rfl | exact .inr rfl)) dgs_nil)) (hu := (tg_lenS (tg_lenS tg_len0)))) (db_cons (ds_par2 rfl S.nd rfl rfl (by decide) rfl rfl (da_cons (d_opx (d_ix (d_opx (d_cal (ok_project (w := w) Z) pass_fn hr (da_cons (d_opn (pv 20)) (da_cons (d_opn (pv 14)) (da_cons (d_opn (pv 3)) (da_cons (d_opn (pv 4)) da_nil)))) (by first | omega | decide))) (d_opx d_int))) (da_cons (d_opx (d_ix (d_opx (d_cal (ok_project (w := w) Z) pass_fn hr (da_cons (d_opn (pv 11)) (da_cons (d_opn (pv 14)) (da_cons (d_opn (pv 3)) (da_cons (d_opn (pv 21)) da_nil)))) (by first | omega | decide))) (d_opx d_int))) da_nil))) (db_cons (ds_if (dt_not (dt_truth (d_opx (d_cal (ok__law_unit_alike (w := w) Z) pass_fn hr (da_cons (d_opx (d_lcx rfl S.nd (di_seq (d_var (pv 12))) (blk_of (N := N_law) (sc := defScope (top 45)) (own := [("part", 23)]) (by decide +kernel)) (fun _ _ _ _ _ => (dg_name S.nd rfl (by first | exact .inl rfl | exact .inr rfl))) (fun _ _ _ _ _ => dts_nil) (fun _ _ _ _ _ => (d_cal (ok__law_own (w := w) Z) passL hr (da_cons (d_opn (pv 23)) da_nil) (by first | omega | decide))))) (da_cons (d_opx (d_lcx rfl S.nd (di_seq (d_var (pv 22))) (blk_of (N := N_law) (sc := defScope (top 45)) (own := [("part", 23)]) (by decide +kernel)) (fun _ _ _ _ _ => (dg_name S.nd rfl (by first | exact .inl rfl | exact .inr rfl))) (fun _ _ _ _ _ => dts_nil) (fun _ _ _ _ _ => (d_cal (ok__law_own (w := w) Z) passL hr (da_cons (d_opn (pv 23)) da_nil) (by first | omega | decide))))) da_nil)) (by first | omega | decide))))) (db_cons (ds_ret d_bl) db_nil) db_nil) db_nil))) db_nil))))))))))))))))))))) (db_cons (ds_ret d_bl) db_nil)))
end
end W


/-! numbers of four parts -/
namespace N4
structure Q where
  a : Int
  b : Int
  c : Int
  d : Int
deriving DecidableEq
def rt (x : Q) : Q := ⟨x.b - x.d, x.a + x.c, x.b + x.d, x.c - x.a⟩
def hf (x : Q) : Q := ⟨(x.b - x.d) / 2, (x.a + x.c) / 2, (x.b + x.d) / 2, (x.c - x.a) / 2⟩
def dv (x : Q) : Bool := (x.b - x.d) % 2 == 0 && ((x.a + x.c) % 2 == 0 && ((x.b + x.d) % 2 == 0 && (x.c - x.a) % 2 == 0))
def zr : Q := ⟨0, 0, 0, 0⟩
def ad (x y : Q) : Q := ⟨x.a + y.a, x.b + y.b, x.c + y.c, x.d + y.d⟩
def ng (x : Q) : Q := ⟨-x.a, -x.b, -x.c, -x.d⟩
def cj (x : Q) : Q := ⟨x.a, -x.d, -x.c, -x.b⟩
def sm (k : Int) (x : Q) : Q := ⟨k * x.a, k * x.b, k * x.c, k * x.d⟩
def ml (x y : Q) : Q := ⟨x.a * y.a - x.b * y.d - x.c * y.c - x.d * y.b, x.a * y.b + x.b * y.a - x.c * y.d - x.d * y.c, x.a * y.c + x.b * y.b + x.c * y.a - x.d * y.d, x.a * y.d + x.b * y.c + x.c * y.b + x.d * y.a⟩
def rtn : Nat → Q → Q
  | 0, x => x
  | n + 1, x => rtn n (rt x)
theorem ext {x y : Q} (h1 : x.a = y.a) (h2 : x.b = y.b) (h3 : x.c = y.c) (h4 : x.d = y.d) : x = y := by
  cases x; cases y; simp_all
theorem rt_inj {x y : Q} (h : rt x = rt y) : x = y := by
  simp only [rt, Q.mk.injEq] at h
  obtain ⟨h1, h2, h3, h4⟩ := h
  apply ext <;> omega
theorem rt_rt (x : Q) : rt (rt x) = sm 2 x := by
  simp only [rt, sm, Q.mk.injEq]
  refine ⟨?_, ?_, ?_, ?_⟩ <;> omega
theorem rt_ad (x y : Q) : rt (ad x y) = ad (rt x) (rt y) := by
  simp only [rt, ad, Q.mk.injEq]
  refine ⟨?_, ?_, ?_, ?_⟩ <;> omega
theorem rt_ng (x : Q) : rt (ng x) = ng (rt x) := by
  simp only [rt, ng, Q.mk.injEq]
  refine ⟨?_, ?_, ?_, ?_⟩ <;> omega
theorem rt_cj (x : Q) : rt (cj x) = cj (rt x) := by
  simp only [rt, cj, Q.mk.injEq]
  refine ⟨?_, ?_, ?_, ?_⟩ <;> omega
theorem rt_ml (x y : Q) : rt (ml x y) = ml (rt x) y := by
  simp only [rt, ml, Q.mk.injEq]
  refine ⟨?_, ?_, ?_, ?_⟩ <;> grind
theorem ml_comm (x y : Q) : ml x y = ml y x := by
  simp only [ml, Q.mk.injEq]
  refine ⟨?_, ?_, ?_, ?_⟩ <;> grind
theorem ml_assoc (x y z : Q) : ml (ml x y) z = ml x (ml y z) := by
  simp only [ml, Q.mk.injEq]
  refine ⟨?_, ?_, ?_, ?_⟩ <;> grind
theorem ml_ad (x y z : Q) : ml (ad x y) z = ad (ml x z) (ml y z) := by
  simp only [ml, ad, Q.mk.injEq]
  refine ⟨?_, ?_, ?_, ?_⟩ <;> grind
theorem rt_hf {x : Q} (h : dv x = true) : rt (hf x) = x := by
  simp only [dv, Bool.and_eq_true, beq_iff_eq] at h
  obtain ⟨h1, h2, h3, h4⟩ := h
  simp only [rt, hf]
  apply ext <;> simp only [] <;> omega
theorem dv_rt (x : Q) : dv (rt x) = true := by
  simp only [dv, rt, Bool.and_eq_true, beq_iff_eq]
  refine ⟨?_, ?_, ?_, ?_⟩ <;> omega
theorem rtn_succ (n : Nat) (x : Q) : rtn (n + 1) x = rt (rtn n x) := by
  induction n generalizing x with
  | zero => rfl
  | succ n ih => exact ih (rt x)
theorem rtn_add (m n : Nat) (x : Q) : rtn (m + n) x = rtn m (rtn n x) := by
  induction m with
  | zero => rw [Nat.zero_add]; rfl
  | succ m ih => rw [Nat.add_right_comm, rtn_succ, ih, rtn_succ]
theorem rtn_inj {n : Nat} {x y : Q} (h : rtn n x = rtn n y) : x = y := by
  induction n generalizing x y with
  | zero => exact h
  | succ n ih => exact rt_inj (ih h)
theorem rtn_comm (m n : Nat) (x : Q) : rtn m (rtn n x) = rtn n (rtn m x) := by rw [← rtn_add, Nat.add_comm, rtn_add]
theorem rtn_ad (n : Nat) (x y : Q) : rtn n (ad x y) = ad (rtn n x) (rtn n y) := by
  induction n with
  | zero => rfl
  | succ n ih => rw [rtn_succ, ih, rt_ad, rtn_succ, rtn_succ]
theorem rtn_ng (n : Nat) (x : Q) : rtn n (ng x) = ng (rtn n x) := by
  induction n with
  | zero => rfl
  | succ n ih => rw [rtn_succ, ih, rt_ng, rtn_succ]
theorem rtn_cj (n : Nat) (x : Q) : rtn n (cj x) = cj (rtn n x) := by
  induction n with
  | zero => rfl
  | succ n ih => rw [rtn_succ, ih, rt_cj, rtn_succ]
theorem rtn_ml (n : Nat) (x y : Q) : rtn n (ml x y) = ml (rtn n x) y := by
  induction n with
  | zero => rfl
  | succ n ih => rw [rtn_succ, ih, rt_ml, rtn_succ]
theorem rtn_ml2 (m n : Nat) (x y : Q) : rtn (m + n) (ml x y) = ml (rtn m x) (rtn n y) := by
  rw [rtn_add, ml_comm, rtn_ml, ml_comm, rtn_ml]
theorem rt_zr : rt zr = zr := rfl
theorem rtn_zr (n : Nat) : rtn n zr = zr := by
  induction n with
  | zero => rfl
  | succ n ih => exact ih
/-- x over the n-th power of the root -/
abbrev F := Q × Nat
def Eq2 (u v : F) : Prop := rtn v.2 u.1 = rtn u.2 v.1
theorem Eq2.refl (u : F) : Eq2 u u := rfl
theorem Eq2.symm {u v : F} (h : Eq2 u v) : Eq2 v u := Eq.symm h
theorem Eq2.trans {u v w : F} (h : Eq2 u v) (k : Eq2 v w) : Eq2 u w := by
  unfold Eq2 at *
  refine rtn_inj (n := v.2) ?_
  rw [rtn_comm, h, rtn_comm, k, rtn_comm]
def Cn (u : F) : Prop := u.2 = 0 ∨ dv u.1 = false
theorem uniq {u v : F} (hu : Cn u) (hv : Cn v) (h : Eq2 u v) : u = v := by
  have key : ∀ {u v : F}, Cn v → Eq2 u v → u.2 ≤ v.2 → u = v := by
    intro u v hv h le
    obtain ⟨x, p⟩ := u
    obtain ⟨y, q⟩ := v
    unfold Eq2 at h
    simp only at h le
    obtain ⟨k, rfl⟩ : ∃ k, q = p + k := ⟨q - p, by omega⟩
    rw [rtn_add] at h
    have h2 := rtn_inj h
    cases k with
    | zero => subst h2; rfl
    | succ k =>
      rw [rtn_succ] at h2
      rcases hv with z | z
      · simp at z
      · simp only at z
        rw [← h2, dv_rt] at z
        cases z
  rcases Nat.le_total u.2 v.2 with le | le
  · exact key hv h le
  · exact (key hu h.symm le).symm
/-- the one form -/
def nf : Nat → Q → F
  | 0, x => (x, 0)
  | n + 1, x => if dv x = true then (if hf x = zr then (zr, 0) else nf n (hf x)) else (x, n + 1)
theorem nf_ok (n : Nat) (x : Q) : Cn (nf n x) ∧ Eq2 (nf n x) (x, n) := by
  induction n generalizing x with
  | zero => exact ⟨.inl rfl, rfl⟩
  | succ n ih =>
    unfold nf
    split
    · rename_i h
      split
      · rename_i h2
        refine ⟨.inl rfl, ?_⟩
        have e := rt_hf h
        rw [h2] at e
        have : x = zr := e.symm
        subst this
        unfold Eq2
        exact rtn_zr (n + 1)
      · refine ⟨(ih (hf x)).1, (ih (hf x)).2.trans ?_⟩
        unfold Eq2
        show rtn (n + 1) (hf x) = rtn n x
        show rtn n (rt (hf x)) = rtn n x
        rw [rt_hf h]
    · rename_i h
      exact ⟨.inr (by simpa using h), Eq2.refl _⟩
theorem nf_of {u : F} {n : Nat} {x : Q} (c : Cn u) (h : Eq2 u (x, n)) : nf n x = u := uniq (nf_ok n x).1 c ((nf_ok n x).2.trans h.symm)
theorem nf_self {u : F} (c : Cn u) : nf u.2 u.1 = u := nf_of c (Eq2.refl u)
theorem nf_le (n : Nat) (x : Q) : (nf n x).2 ≤ n := by
  induction n generalizing x with
  | zero => exact Nat.le_refl _
  | succ n ih =>
    unfold nf
    split
    · split
      · exact Nat.zero_le _
      · exact Nat.le_succ_of_le (ih _)
    · exact Nat.le_refl _
/-! sizes -/
structure Bd (n : Nat) (x : Q) : Prop where
  a : x.a.natAbs < 2 ^ n
  b : x.b.natAbs < 2 ^ n
  c : x.c.natAbs < 2 ^ n
  d : x.d.natAbs < 2 ^ n
theorem Bd.mono {m n : Nat} {x : Q} (h : Bd m x) (le : m ≤ n) : Bd n x := by
  have := Nat.pow_le_pow_right (n := 2) (by decide) le
  exact ⟨by have := h.a; omega, by have := h.b; omega, by have := h.c; omega, by have := h.d; omega⟩
theorem Bd.rt {n : Nat} {x : Q} (h : Bd n x) : Bd (n + 1) (rt x) := by
  obtain ⟨h1, h2, h3, h4⟩ := h
  have e : 2 ^ (n + 1) = 2 * 2 ^ n := by rw [Nat.pow_succ]; omega
  refine ⟨?_, ?_, ?_, ?_⟩ <;> (simp only [N4.rt]; omega)
theorem Bd.rtn {n : Nat} {x : Q} (h : Bd n x) (k : Nat) : Bd (n + k) (rtn k x) := by
  induction k with
  | zero => exact h
  | succ k ih => rw [rtn_succ]; exact ih.rt
theorem Bd.hf {n : Nat} {x : Q} (h : Bd n x) : Bd n (hf x) := by
  obtain ⟨h1, h2, h3, h4⟩ := h
  refine ⟨?_, ?_, ?_, ?_⟩ <;> (simp only [N4.hf]; omega)
theorem Bd.zr {n : Nat} : Bd n zr := ⟨Nat.two_pow_pos n, Nat.two_pow_pos n, Nat.two_pow_pos n, Nat.two_pow_pos n⟩
theorem Bd.nf {n : Nat} (m : Nat) {x : Q} (h : Bd n x) : Bd n (nf m x).1 := by
  induction m generalizing x with
  | zero => exact h
  | succ m ih =>
    unfold N4.nf
    split
    · split
      · exact Bd.zr
      · exact ih h.hf
    · exact h
theorem Bd.ad {n : Nat} {x y : Q} (h : Bd n x) (k : Bd n y) : Bd (n + 1) (ad x y) := by
  obtain ⟨h1, h2, h3, h4⟩ := h
  obtain ⟨k1, k2, k3, k4⟩ := k
  have e : 2 ^ (n + 1) = 2 * 2 ^ n := by rw [Nat.pow_succ]; omega
  refine ⟨?_, ?_, ?_, ?_⟩ <;> (simp only [N4.ad]; omega)
theorem Bd.ng {n : Nat} {x : Q} (h : Bd n x) : Bd n (ng x) := by
  obtain ⟨h1, h2, h3, h4⟩ := h
  refine ⟨?_, ?_, ?_, ?_⟩ <;> (simp only [N4.ng]; omega)
theorem Bd.cj {n : Nat} {x : Q} (h : Bd n x) : Bd n (cj x) := by
  obtain ⟨h1, h2, h3, h4⟩ := h
  refine ⟨?_, ?_, ?_, ?_⟩ <;> (simp only [N4.cj]; omega)
theorem mul_lt {i j : Int} {m n : Nat} (h : i.natAbs < 2 ^ m) (k : j.natAbs < 2 ^ n) : (i * j).natAbs < 2 ^ (m + n) := by
  rw [Int.natAbs_mul, Nat.pow_add]
  exact Nat.mul_lt_mul'' h k
theorem Bd.ml {m n : Nat} {x y : Q} (h : Bd m x) (k : Bd n y) : Bd (m + n + 2) (ml x y) := by
  obtain ⟨h1, h2, h3, h4⟩ := h
  obtain ⟨k1, k2, k3, k4⟩ := k
  have e : 2 ^ (m + n + 2) = 4 * 2 ^ (m + n) := by rw [Nat.pow_add]; omega
  refine ⟨?_, ?_, ?_, ?_⟩ <;> simp only [N4.ml]
  · have := mul_lt h1 k1; have := mul_lt h2 k4; have := mul_lt h3 k3; have := mul_lt h4 k2; omega
  · have := mul_lt h1 k2; have := mul_lt h2 k1; have := mul_lt h3 k4; have := mul_lt h4 k3; omega
  · have := mul_lt h1 k3; have := mul_lt h2 k2; have := mul_lt h3 k1; have := mul_lt h4 k4; omega
  · have := mul_lt h1 k4; have := mul_lt h2 k3; have := mul_lt h3 k2; have := mul_lt h4 k1; omega
end N4


namespace W
open PySem PySem.Spec PyProof.Rows L2 DL N4
abbrev I (i : Int) : Sl := .v (.int i)
abbrev B (b : Bool) : Sl := .v (.bl b)
/-- four parts -/
abbrev tq (x : Q) : D := .tup [.int x.a, .int x.b, .int x.c, .int x.d]
/-- a number of the program -/
abbrev tp (x : Q) (p : Int) : D := .tup [.int x.a, .int x.b, .int x.c, .int x.d, .int p]
abbrev tf2 (u : F) : D := tp u.1 u.2
theorem by_root_eq (x : Q) : n_by_root [.v (tq x)] = .ret (.v (tq (rt x))) [] := rfl
theorem wh1 (n : Nat) : ∀ (G : Nat) (x : Q) (s0 s1 s2 s3 s6 : Sl), n < G → whS t3_exact l4_exact G [s0, s1, s2, s3, I (-(n : Int)), .v (tq x), s6] = .ok .nx [s0, s1, s2, s3, I 0, .v (tq (rtn n x)), s6] := by
  induction n with
  | zero =>
    intro G x s0 s1 s2 s3 s6 h
    cases G with
    | zero => omega
    | succ G => rfl
  | succ n ih =>
    intro G x s0 s1 s2 s3 s6 h
    cases G with
    | zero => omega
    | succ G =>
      have e1 : t3_exact [s0, s1, s2, s3, I (-((n + 1 : Nat) : Int)), .v (tq x), s6] = .ok (decide (-((n + 1 : Nat) : Int) < 0)) [s0, s1, s2, s3, I (-((n + 1 : Nat) : Int)), .v (tq x), s6] := rfl
      have e2 : l4_exact [s0, s1, s2, s3, I (-((n + 1 : Nat) : Int)), .v (tq x), s6] = .ok .nx [s0, s1, s2, s3, I (-((n + 1 : Nat) : Int) + 1), .v (tq (rt x)), s6] := rfl
      unfold whS
      rw [e1, Rs.bind_ok, if_pos (decide_eq_true (by omega)), e2, Rs.bind_ok]
      have e3 : -((n + 1 : Nat) : Int) + 1 = -(n : Int) := by omega
      rw [e3]
      exact ih G (rt x) s0 s1 s2 s3 s6 (by omega)
theorem zr_eq (x : Q) : (x.a == 0 && (x.b == 0 && (x.c == 0 && (x.d == 0 && true)))) = decide (x = zr) := by
  by_cases h : x = zr
  · subst h; rfl
  · rw [decide_eq_false h]
    cases e : (x.a == 0 && (x.b == 0 && (x.c == 0 && (x.d == 0 && true)))) with
    | false => rfl
    | true =>
      simp only [Bool.and_eq_true, beq_iff_eq, Bool.and_true] at e
      exact absurd (ext e.1 e.2.1 e.2.2.1 e.2.2.2) h
noncomputable def wkS (G : Nat) (env : DL.Env) : Rs Out := whS t1_exact l2_exact G env
theorem wh2 (n : Nat) : ∀ (G : Nat) (x : Q) (s0 s1 s2 s3 s6 : Sl), n < G → (wkS G [s0, s1, s2, s3, I (n : Int), .v (tq x), s6] = .ok .nx [s0, s1, s2, s3, I ((nf n x).2 : Int), .v (tq (nf n x).1), s6]) ∨ (∃ e, wkS G [s0, s1, s2, s3, I (n : Int), .v (tq x), s6] = .ok (.rt (.v (tp zr 0))) e ∧ nf n x = (zr, 0)) := by
  induction n with
  | zero =>
    intro G x s0 s1 s2 s3 s6 h
    cases G with
    | zero => omega
    | succ G => exact .inl rfl
  | succ n ih =>
    intro G x s0 s1 s2 s3 s6 h
    cases G with
    | zero => omega
    | succ G =>
      have e1 : t1_exact [s0, s1, s2, s3, I ((n + 1 : Nat) : Int), .v (tq x), s6] = .ok (dv x) [s0, s1, s2, s3, I ((n + 1 : Nat) : Int), .v (tq x), s6] := by
        have e0 : t1_exact [s0, s1, s2, s3, I ((n + 1 : Nat) : Int), .v (tq x), s6] = if (decide ((0 : Int) < ((n + 1 : Nat) : Int))) = true then .ok ((x.b - x.d) % 2 == 0 && ((x.a + x.c) % 2 == 0 && ((x.b + x.d) % 2 == 0 && ((x.c - x.a) % 2 == 0 && true)))) [s0, s1, s2, s3, I ((n + 1 : Nat) : Int), .v (tq x), s6] else .ok false [s0, s1, s2, s3, I ((n + 1 : Nat) : Int), .v (tq x), s6] := rfl
        rw [e0, if_pos (decide_eq_true (by omega)), Bool.and_true]
        rfl
      unfold wkS whS
      rw [e1, Rs.bind_ok]
      unfold nf
      by_cases hd : dv x = true
      · rw [if_pos hd, if_pos hd]
        have e3 : ((n + 1 : Nat) : Int) - 1 = (n : Int) := by omega
        have e2 : l2_exact [s0, s1, s2, s3, I ((n + 1 : Nat) : Int), .v (tq x), s6] = (if hf x = zr then .ok (.rt (.v (tp zr 0))) [s0, s1, s2, s3, I (n : Int), .v (tq (hf x)), s6] else .ok .nx [s0, s1, s2, s3, I (n : Int), .v (tq (hf x)), s6]) := by
          have e0 : l2_exact [s0, s1, s2, s3, I ((n + 1 : Nat) : Int), .v (tq x), s6] = seqS (fun e => if ((hf x).a == 0 && ((hf x).b == 0 && ((hf x).c == 0 && ((hf x).d == 0 && true)))) = true then .ok (.rt (.v (tp zr 0))) e else .ok .nx e) skipS [s0, s1, s2, s3, I (((n + 1 : Nat) : Int) - 1), .v (tq (hf x)), s6] := by kernel_rfl
          rw [zr_eq] at e0
          rw [e0, e3]
          by_cases hz : hf x = zr
          · rw [if_pos hz, decide_eq_true hz]; rfl
          · rw [if_neg hz, decide_eq_false hz]; rfl
        rw [e2]
        by_cases hz : hf x = zr
        · rw [if_pos hz, if_pos hz]
          exact .inr ⟨_, rfl, rfl⟩
        · rw [if_neg hz, if_neg hz, Rs.bind_ok]
          exact ih G (hf x) s0 s1 s2 s3 s6 (by omega)
      · rw [if_neg hd, if_neg hd]
        exact .inl rfl
/-- exact -/
def exI (x : Q) (p : Int) : F := if p < 0 then (rtn (-p).toNat x, 0) else nf p.toNat x
theorem exact_eq (x : Q) (p : Int) (h : p.natAbs < 2 ^ 29) : n_exact [I x.a, I x.b, I x.c, I x.d, I p] = .ret (.v (tf2 (exI x p))) [] := by
  have e0 : n_exact [I x.a, I x.b, I x.c, I x.d, I p] = denOf 7 [false, false, false, false, false] (fun _ => (whS t3_exact l4_exact FU [I x.a, I x.b, I x.c, I x.d, I p, .v (tq x), .u]).bind fun o e => match o with
      | .nx => (wkS FU e).bind fun o e => match o with
        | .nx => seqS (retS (opS addO [(.nm 5), (.ex (vTup [(.nm 4)]))])) skipS e
        | o => .ok o e
      | o => .ok o e) [I x.a, I x.b, I x.c, I x.d, I p] := rfl
  rw [e0]
  have z : I 0 = I ((0 : Nat) : Int) := rfl
  unfold exI
  by_cases hp : p < 0
  · rw [if_pos hp]
    obtain ⟨n, rfl⟩ : ∃ n : Nat, p = -(n : Int) := ⟨(-p).toNat, by omega⟩
    rw [wh1 n FU x _ _ _ _ _ (by rw [FU_eq]; omega), Rs.bind_ok]
    rcases wh2 0 FU (rtn n x) (I x.a) (I x.b) (I x.c) (I x.d) .u (by rw [FU_eq]; omega) with this | ⟨e, _, this⟩
    · simp only [z, this, Rs.bind_ok]
      have : (- -(n : Int)).toNat = n := by omega
      rw [this]
      rfl
    · rename_i h2
      simp only [z, h2, Rs.bind_ok]
      have : (- -(n : Int)).toNat = n := by omega
      rw [this]
      have h3 : rtn n x = zr := congrArg (·.1) (show (rtn n x, 0) = (zr, 0) from by assumption)
      rw [h3]
      rfl
  · rw [if_neg hp]
    obtain ⟨n, rfl⟩ : ∃ n : Nat, p = (n : Int) := ⟨p.toNat, by omega⟩
    have w0 : whS t3_exact l4_exact FU [I x.a, I x.b, I x.c, I x.d, I (n : Int), .v (tq x), .u] = .ok .nx [I x.a, I x.b, I x.c, I x.d, I (n : Int), .v (tq x), .u] := by
      obtain ⟨G, hG⟩ : ∃ G, FU = G + 1 := ⟨2 ^ 30 - 1, by rw [FU_eq]⟩
      rw [hG]
      unfold whS
      have e1 : t3_exact [I x.a, I x.b, I x.c, I x.d, I (n : Int), .v (tq x), .u] = .ok (decide ((n : Int) < 0)) [I x.a, I x.b, I x.c, I x.d, I (n : Int), .v (tq x), .u] := rfl
      rw [e1, Rs.bind_ok, if_neg (by simp)]
    rw [w0, Rs.bind_ok]
    rcases wh2 n FU x (I x.a) (I x.b) (I x.c) (I x.d) .u (by rw [FU_eq]; omega) with this | ⟨e, h2, this⟩
    · simp only [this, Rs.bind_ok]
      rfl
    · simp only [h2, Rs.bind_ok]
      rw [show ((n : Int)).toNat = n from rfl, this]
      rfl
end W


set_option maxHeartbeats 1000000
namespace W
open PySem PySem.Spec PyProof.Rows L2 DL N4
theorem rangeD_zero (lo : Int) : rangeD lo 0 = [] := rfl
theorem rangeD_succ (lo : Int) (n : Nat) : rangeD lo (n + 1) = .int lo :: rangeD (lo + 1) n := by
  unfold rangeD
  rw [List.range_succ_eq_map, List.map_cons, List.map_map]
  congr 1
  · simp
  · refine List.map_congr_left fun i _ => ?_
    simp only [Function.comp_apply, D.int.injEq]
    omega
theorem mulC_of {i j : Int} {m n : Nat} (hi : i.natAbs < 2 ^ m) (hj : j.natAbs < 2 ^ n) (h : m + n ≤ 134217728) : mulC i j = true := by
  have h1 := PySem.intBits_le_iff.mpr hi
  have h2 := PySem.intBits_le_iff.mpr hj
  rw [mulC_at]
  exact decide_eq_true (by omega)
theorem scaled_eq (x : Q) (p k : Int) (h : (p + k).natAbs < 2 ^ 29) : n_scaled [.v (tp x p), I k] = .ret (.v (tf2 (exI x (p + k)))) [] := by
  simp [n_scaled, den_at, b_scaled, atI, ixN, exact_eq x _ h]
theorem neg_eq (x : Q) (p : Int) : n_negate [.v (tp x p)] = .ret (.v (tp (ng x) p)) [] := rfl
theorem conj_eq (x : Q) (p : Int) : n_conjugate [.v (tp x p)] = .ret (.v (tp (cj x) p)) [] := rfl
theorem l1_add_loop (n : Nat) : ∀ (k : Int) (x : Q) (s0 s1 s2 s3 s4 s6 s7 s8 : Sl), ∃ t6, forS (tgN 6) l1_add (rangeD k n) [s0, s1, s2, s3, s4, .v (tq x), s6, s7, s8] = .ok .nx [s0, s1, s2, s3, s4, .v (tq (rtn n x)), t6, s7, s8] := by
  induction n with
  | zero => intro k x s0 s1 s2 s3 s4 s6 s7 s8; exact ⟨s6, rfl⟩
  | succ n ih =>
    intro k x s0 s1 s2 s3 s4 s6 s7 s8
    obtain ⟨t6, e⟩ := ih (k + 1) (rt x) s0 s1 s2 s3 s4 (I k) s7 s8
    refine ⟨t6, ?_⟩
    rw [rangeD_succ]
    simp [l1_add, by_root_eq]
    exact e
theorem cut4 (x : Q) (p : Int) : DL.cutD [D.int x.a, D.int x.b, D.int x.c, D.int x.d, D.int p] none (some 4) = [D.int x.a, D.int x.b, D.int x.c, D.int x.d] := rfl
theorem l2_add_eq (x y : Q) (p q : Nat) (hpq : p ≤ q) (hq : q < 2 ^ 29) (s0 s1 s6 s7 s8 s5 : Sl) : ∃ t5 t6, l2_add [s0, s1, I q, .o [I y.a, I y.b, I y.c, I y.d], .v (tp x p), s5, s6, s7, s8] = .ok .nx [s0, s1, I q, .o [I (ad y (rtn (q - p) x)).a, I (ad y (rtn (q - p) x)).b, I (ad y (rtn (q - p) x)).c, I (ad y (rtn (q - p) x)).d], .v (tp x p), t5, t6, s7, s8] := by
  obtain ⟨t6, e⟩ := l1_add_loop (q - p) 0 x s0 s1 (I q) (.o [I y.a, I y.b, I y.c, I y.d]) (.v (tp x p)) s6 s7 s8
  refine ⟨.v (tq (rtn (q - p) x)), t6, ?_⟩
  have h1 : rngB ((q : Int) - p) = true := by
    rw [rngB_at]
    exact decide_eq_true (by omega)
  have h2 : ((q : Int) - p).toNat = q - p := by omega
  simp [l2_add, atI, ixN, zipI, cut4, h1, h2, e, zipD, sizeLine_eq, e0_add, N4.ad]
/-- a sum, before it is brought to the one form -/
def sumN (u v : F) : F := (N4.ad (rtn (max u.2 v.2 - u.2) u.1) (rtn (max u.2 v.2 - v.2) v.1), max u.2 v.2)
theorem exI_nat (x : Q) (n : Nat) : exI x (n : Int) = nf n x := by
  unfold exI
  rw [if_neg (by omega)]
  rfl
theorem zr_ad (x : Q) : N4.ad zr x = x := by simp [N4.ad, zr]
theorem add_eq (u v : F) (hu : u.2 < 2 ^ 28) (hv : v.2 < 2 ^ 28) : n_add [.v (tf2 u), .v (tf2 v)] = .ret (.v (tf2 (nf (sumN u v).2 (sumN u v).1))) [] := by
  obtain ⟨x, p⟩ := u
  obtain ⟨y, q⟩ := v
  simp only at hu hv
  have hm : (if p < q then (q : Int) else p) = ((max p q : Nat) : Int) := by split <;> omega
  obtain ⟨t5, t6, e1⟩ := l2_add_eq x zr p (max p q) (by omega) (by omega) (.v (tp x p)) (.v (tp y q)) .u .u .u .u
  obtain ⟨r5, r6, e2⟩ := l2_add_eq y (N4.ad zr (rtn (max p q - p) x)) q (max p q) (by omega) (by omega) (.v (tp x p)) (.v (tp y q)) t6 .u .u t5
  have e3 := exact_eq (sumN (x, p) (y, q)).1 (max p q : Nat) (by omega)
  rw [exI_nat] at e3
  rw [zr_ad] at e1 e2
  have e1 := e1
  simp only [zr] at e1
  simp only [sumN] at e3 ⊢
  show n_add [.v (tp x p), .v (tp y q)] = _
  simp [n_add, den_at, b_add, List.replicate, atI, ixN, hm, e1, e2, ixS_o, e3]
theorem l0_times_eq (place at_ : Nat) (hp : place < 4) (ha : at_ < 4) (X Y s7 : Sl) (w0 w1 w2 w3 part more : Int) (h1 : mulC 1 part = true) (h1' : mulC (-1) part = true) (h2 : mulC part more = true) (h2' : mulC (-part) more = true) :
    l0_times [X, Y, .o [I w0, I w1, I w2, I w3], I place, I part, I at_, I more, s7] = .ok .nx [X, Y,
      (match place + at_ with
      | 0 => .o [I (w0 + part * more), I w1, I w2, I w3]
      | 1 => .o [I w0, I (w1 + part * more), I w2, I w3]
      | 2 => .o [I w0, I w1, I (w2 + part * more), I w3]
      | 3 => .o [I w0, I w1, I w2, I (w3 + part * more)]
      | 4 => .o [I (w0 + -part * more), I w1, I w2, I w3]
      | 5 => .o [I w0, I (w1 + -part * more), I w2, I w3]
      | _ => .o [I w0, I w1, I (w2 + -part * more), I w3]), I place, I part, I at_, I more, I (if place + at_ < 4 then 1 else -1)] := by
  match place, at_, hp, ha with
  | 0, 0, _, _ => simp [l0_times, mulS_int, h1, h1', h2, h2', modC, atI, ixN]
  | 0, 1, _, _ => simp [l0_times, mulS_int, h1, h1', h2, h2', modC, atI, ixN]
  | 0, 2, _, _ => simp [l0_times, mulS_int, h1, h1', h2, h2', modC, atI, ixN]
  | 0, 3, _, _ => simp [l0_times, mulS_int, h1, h1', h2, h2', modC, atI, ixN]
  | 1, 0, _, _ => simp [l0_times, mulS_int, h1, h1', h2, h2', modC, atI, ixN]
  | 1, 1, _, _ => simp [l0_times, mulS_int, h1, h1', h2, h2', modC, atI, ixN]
  | 1, 2, _, _ => simp [l0_times, mulS_int, h1, h1', h2, h2', modC, atI, ixN]
  | 1, 3, _, _ => simp [l0_times, mulS_int, h1, h1', h2, h2', modC, atI, ixN]
  | 2, 0, _, _ => simp [l0_times, mulS_int, h1, h1', h2, h2', modC, atI, ixN]
  | 2, 1, _, _ => simp [l0_times, mulS_int, h1, h1', h2, h2', modC, atI, ixN]
  | 2, 2, _, _ => simp [l0_times, mulS_int, h1, h1', h2, h2', modC, atI, ixN]
  | 2, 3, _, _ => simp [l0_times, mulS_int, h1, h1', h2, h2', modC, atI, ixN]
  | 3, 0, _, _ => simp [l0_times, mulS_int, h1, h1', h2, h2', modC, atI, ixN]
  | 3, 1, _, _ => simp [l0_times, mulS_int, h1, h1', h2, h2', modC, atI, ixN]
  | 3, 2, _, _ => simp [l0_times, mulS_int, h1, h1', h2, h2', modC, atI, ixN]
  | 3, 3, _, _ => simp [l0_times, mulS_int, h1, h1', h2, h2', modC, atI, ixN]
end W


set_option maxHeartbeats 1000000
namespace W
open PySem PySem.Spec PyProof.Rows L2 DL N4
theorem enum4 (x : Q) : enumD [D.int x.a, D.int x.b, D.int x.c, D.int x.d] = [.tup [.int ((0 : Nat) : Int), .int x.a], .tup [.int ((1 : Nat) : Int), .int x.b], .tup [.int ((2 : Nat) : Int), .int x.c], .tup [.int ((3 : Nat) : Int), .int x.d]] := rfl
structure MulOk (part : Int) (y : Q) : Prop where
  h1 : mulC 1 part = true
  h2 : mulC (-1) part = true
  a : mulC part y.a = true
  b : mulC part y.b = true
  c : mulC part y.c = true
  d : mulC part y.d = true
  a' : mulC (-part) y.a = true
  b' : mulC (-part) y.b = true
  c' : mulC (-part) y.c = true
  d' : mulC (-part) y.d = true
def row (k : Nat) (t : Int) (y : Q) (z : Q) : Q := match k with
  | 0 => ⟨z.a + t * y.a, z.b + t * y.b, z.c + t * y.c, z.d + t * y.d⟩
  | 1 => ⟨z.a + -t * y.d, z.b + t * y.a, z.c + t * y.b, z.d + t * y.c⟩
  | 2 => ⟨z.a + -t * y.c, z.b + -t * y.d, z.c + t * y.a, z.d + t * y.b⟩
  | _ => ⟨z.a + -t * y.b, z.b + -t * y.c, z.c + -t * y.d, z.d + t * y.a⟩
theorem l1_times_eq (k : Nat) (hk : k < 4) (t : Int) (y z : Q) (q : Int) (M : MulOk t y) (X s5 s6 s7 : Sl) : ∃ t5 t6 t7, l1_times [X, .v (tp y q), .o [I z.a, I z.b, I z.c, I z.d], I k, I t, s5, s6, s7] = .ok .nx [X, .v (tp y q), .o [I (row k t y z).a, I (row k t y z).b, I (row k t y z).c, I (row k t y z).d], I k, I t, t5, t6, t7] := by
  obtain ⟨m1, m2, ma, mb, mc, md, na, nb, nc, nd⟩ := M
  refine ⟨I (3 : Nat), I y.d, I (if k + 3 < 4 then 1 else -1), ?_⟩
  have e0 := fun w0 w1 w2 w3 s7 => l0_times_eq k 0 hk (by decide) X (.v (tp y q)) s7 w0 w1 w2 w3 t y.a m1 m2 ma na
  have e1 := fun w0 w1 w2 w3 s7 => l0_times_eq k 1 hk (by decide) X (.v (tp y q)) s7 w0 w1 w2 w3 t y.b m1 m2 mb nb
  have e2 := fun w0 w1 w2 w3 s7 => l0_times_eq k 2 hk (by decide) X (.v (tp y q)) s7 w0 w1 w2 w3 t y.c m1 m2 mc nc
  have e3 := fun w0 w1 w2 w3 s7 => l0_times_eq k 3 hk (by decide) X (.v (tp y q)) s7 w0 w1 w2 w3 t y.d m1 m2 md nd
  match k, hk with
  | 0, _ => simp [l1_times, cut4, enum4] at e0 e1 e2 e3 ⊢; simp [e0, e1, e2, e3, row]
  | 1, _ => simp [l1_times, cut4, enum4] at e0 e1 e2 e3 ⊢; simp [e0, e1, e2, e3, row]
  | 2, _ => simp [l1_times, cut4, enum4] at e0 e1 e2 e3 ⊢; simp [e0, e1, e2, e3, row]
  | 3, _ => simp [l1_times, cut4, enum4] at e0 e1 e2 e3 ⊢; simp [e0, e1, e2, e3, row]
theorem row_ml (x y : Q) : row 3 x.d y (row 2 x.c y (row 1 x.b y (row 0 x.a y zr))) = ml x y := by
  simp only [row, zr, ml, Q.mk.injEq]
  refine ⟨?_, ?_, ?_, ?_⟩ <;> grind
theorem mulOk_of {t : Int} {y : Q} {m n : Nat} (h : t.natAbs < 2 ^ m) (k : Bd n y) (le : m + n + 2 ≤ 134217728) : MulOk t y := by
  have h' : (-t).natAbs < 2 ^ m := by rw [Int.natAbs_neg]; exact h
  exact ⟨mulC_of (m := 1) (by decide) h (by omega), mulC_of (m := 1) (by decide) h (by omega), mulC_of h k.a (by omega), mulC_of h k.b (by omega), mulC_of h k.c (by omega), mulC_of h k.d (by omega),
    mulC_of h' k.a (by omega), mulC_of h' k.b (by omega), mulC_of h' k.c (by omega), mulC_of h' k.d (by omega)⟩
theorem times_eq (u v : F) (m n : Nat) (hu : Bd m u.1) (hv : Bd n v.1) (le : m + n + 2 ≤ 134217728) (hp : u.2 + v.2 < 2 ^ 29) : n_times [.v (tf2 u), .v (tf2 v)] = .ret (.v (tf2 (nf (u.2 + v.2) (ml u.1 v.1)))) [] := by
  obtain ⟨x, p⟩ := u
  obtain ⟨y, q⟩ := v
  simp only at hu hv hp
  obtain ⟨a5, a6, a7, e0⟩ := l1_times_eq 0 (by decide) x.a y zr q (mulOk_of hu.a hv le) (.v (tp x p)) .u .u .u
  obtain ⟨b5, b6, b7, e1⟩ := l1_times_eq 1 (by decide) x.b y (row 0 x.a y zr) q (mulOk_of hu.b hv le) (.v (tp x p)) a5 a6 a7
  obtain ⟨c5, c6, c7, e2⟩ := l1_times_eq 2 (by decide) x.c y (row 1 x.b y (row 0 x.a y zr)) q (mulOk_of hu.c hv le) (.v (tp x p)) b5 b6 b7
  obtain ⟨d5, d6, d7, e3⟩ := l1_times_eq 3 (by decide) x.d y (row 2 x.c y (row 1 x.b y (row 0 x.a y zr))) q (mulOk_of hu.d hv le) (.v (tp x p)) c5 c6 c7
  rw [row_ml] at e3
  have e4 := exact_eq (ml x y) (p + q : Nat) (by omega)
  rw [exI_nat] at e4
  show n_times [.v (tp x p), .v (tp y q)] = _
  simp only [zr] at e0 e1 e2 e3
  simp [n_times, den_at, b_times, List.replicate, cut4, enum4] at e0 e1 e2 e3 e4 ⊢
  simp [e0, e1, e2, e3, ixS_o, atI, ixN, e4]
end W


set_option maxHeartbeats 1000000
namespace W
open PySem PySem.Spec PyProof.Rows L2 DL N4
/-- a number of the law -/
abbrev ln (x : Q) (e : Int) : D := .tup [.lst [.int x.a, .int x.b, .int x.c, .int x.d], .int e]
abbrev lf (u : F) : D := ln u.1 (u.2 : Int)
def ownN (u : F) : F := if u.2 % 2 = 1 then (rt u.1, (u.2 + 1) / 2) else (u.1, u.2 / 2)
theorem own_eq (u : F) (h : u.2 < 2 ^ 29) : n__law_own [.v (tf2 u)] = .ret (.v (lf (ownN u))) [] := by
  obtain ⟨x, p⟩ := u
  show n__law_own [.v (tp x p)] = _
  unfold ownN
  by_cases hp : p % 2 = 1
  · have h1 : (p : Int) % 2 = 1 := by omega
    simp [n__law_own, den_at, b__law_own, List.replicate, modC, h1, divC, hp, N4.rt]
  · have h1 : ¬ (p : Int) % 2 = 1 := by omega
    simp [n__law_own, den_at, b__law_own, List.replicate, modC, h1, divC, hp]
theorem minus_eq (x : Q) (e : Int) : n__law_minus [.v (ln x e)] = .ret (.v (ln (ng x) e)) [] := by
  simp [n__law_minus, den_at, b__law_minus, List.replicate, atI, ixN, sizeLine_eq, e0__law_minus, ng]
theorem bar_eq (x : Q) (e : Int) : n__law_bar [.v (ln x e)] = .ret (.v (ln (cj x) e)) [] := by
  simp [n__law_bar, den_at, b__law_bar, List.replicate, atI, ixN, cj]
theorem range4 : rangeD 0 4 = [.int 0, .int 1, .int 2, .int 3] := rfl
theorem shl_at {i : Int} {j : Nat} (h : shlC i (j : Int) = true) : shlO [I i, I (j : Int)] = some (I (i * 2 ^ j)) := by
  show i2 shlC _ _ = _
  rw [i2_int, if_pos h]
  rfl
theorem shlC_of {i : Int} {n j : Nat} (hi : i.natAbs < 2 ^ n) (h : n + j ≤ 134217728) : shlC i (j : Int) = true := by
  have h1 := PySem.intBits_le_iff.mpr hi
  rw [shlC_at]
  exact decide_eq_true (by omega)
theorem by_eq (x y : Q) (e f : Int) (m n : Nat) (hx : Bd m x) (hy : Bd n y) (le : m + n + 2 ≤ 134217728) : n__law_by [.v (ln x e), .v (ln y f)] = .ret (.v (ln (ml x y) (e + f))) [] := by
  have aa := mulC_of hx.a hy.a (by omega)
  have ab := mulC_of hx.a hy.b (by omega)
  have ac := mulC_of hx.a hy.c (by omega)
  have ad := mulC_of hx.a hy.d (by omega)
  have ba := mulC_of hx.b hy.a (by omega)
  have bb := mulC_of hx.b hy.b (by omega)
  have bc := mulC_of hx.b hy.c (by omega)
  have bd := mulC_of hx.b hy.d (by omega)
  have ca := mulC_of hx.c hy.a (by omega)
  have cb := mulC_of hx.c hy.b (by omega)
  have cc := mulC_of hx.c hy.c (by omega)
  have cd := mulC_of hx.c hy.d (by omega)
  have da := mulC_of hx.d hy.a (by omega)
  have db := mulC_of hx.d hy.b (by omega)
  have dc := mulC_of hx.d hy.c (by omega)
  have dd := mulC_of hx.d hy.d (by omega)
  have e0 : mulO [.o [I 0], I 7] = some (.o [I 0, I 0, I 0, I 0, I 0, I 0, I 0]) := by
    simp [mulO, mulS, repS, i2, sizeLine_eq]
  simp [n__law_by, den_at, b__law_by, List.replicate, atI, ixN, range4, l2__law_by, l1__law_by, ixS_o, mulS_int, aa, ab, ac, ad, ba, bb, bc, bd, ca, cb, cc, cd, da, db, dc, dd, e0, sizeLine_eq, e0__law_by, N4.ml]
  constructor <;> grind
theorem shlO_at {i d : Int} {j : Nat} (hd : d = (j : Int)) (h : shlC i (j : Int) = true) : shlO [I i, I d] = some (I (i * 2 ^ j)) := by
  subst hd
  exact shl_at h
theorem eq_lists {k : Bool} (a0 a1 a2 a3 b0 b1 b2 b3 : Int) : eqS k [.o [I a0, I a1, I a2, I a3], .o [I b0, I b1, I b2, I b3]] = some (.v (.bl (if k = true then !(decide (Q.mk a0 a1 a2 a3 = Q.mk b0 b1 b2 b3)) else decide (Q.mk a0 a1 a2 a3 = Q.mk b0 b1 b2 b3)))) := by
  have h1 : ∀ c0 c1 c2 c3 : Int, SeqAt.shaped (.list [.int c0, .int c1, .int c2, .int c3]) = true := fun _ _ _ _ => by rfl
  have h3 : PyData.eqv (.list [.int a0, .int a1, .int a2, .int a3]) (.list [.int b0, .int b1, .int b2, .int b3]) = decide (Q.mk a0 a1 a2 a3 = Q.mk b0 b1 b2 b3) := by
    simp [PyData.eqv, PyData.eqvAll]
    rfl
  show (if SeqAt.shaped (.list [.int a0, .int a1, .int a2, .int a3]) = true ∧ SeqAt.shaped (.list [.int b0, .int b1, .int b2, .int b3]) = true then some (Sl.v (.bl (if k = true then !PyData.eqv (.list [.int a0, .int a1, .int a2, .int a3]) (.list [.int b0, .int b1, .int b2, .int b3]) else PyData.eqv (.list [.int a0, .int a1, .int a2, .int a3]) (.list [.int b0, .int b1, .int b2, .int b3])))) else none) = _
  rw [if_pos ⟨h1 _ _ _ _, h1 _ _ _ _⟩, h3]
theorem like_eq (u v : F) (m n : Nat) (hu : Bd m u.1) (hv : Bd n v.1) (le1 : m + (max u.2 v.2 - u.2) ≤ 134217728) (le2 : n + (max u.2 v.2 - v.2) ≤ 134217728) :
    n__law_like [.v (lf u), .v (lf v)] = .ret (.v (.bl (decide (sm (2 ^ (max u.2 v.2 - u.2)) u.1 = sm (2 ^ (max u.2 v.2 - v.2)) v.1)))) [] := by
  obtain ⟨x, e⟩ := u
  obtain ⟨y, f⟩ := v
  simp only at hu hv le1 le2
  have hm : (if e < f then (f : Int) else e) = ((max e f : Nat) : Int) := by split <;> omega
  have d1 : ((max e f : Nat) : Int) - e = ((max e f - e : Nat) : Int) := by omega
  have d2 : ((max e f : Nat) : Int) - f = ((max e f - f : Nat) : Int) := by omega
  have a1 := shlC_of hu.a le1
  have a2 := shlC_of hu.b le1
  have a3 := shlC_of hu.c le1
  have a4 := shlC_of hu.d le1
  have b1 := shlC_of hv.a le2
  have b2 := shlC_of hv.b le2
  have b3 := shlC_of hv.c le2
  have b4 := shlC_of hv.d le2
  rw [← d1] at a1 a2 a3 a4
  rw [← d2] at b1 b2 b3 b4
  show n__law_like [.v (ln x e), .v (ln y f)] = _
  have hM2 : ((max e f : Nat) : Int).toNat = max e f := rfl
  generalize ((max e f : Nat) : Int) = M at *
  simp [n__law_like, den_at, b__law_like, List.replicate, atI, ixN, hm, range4, e0__law_like, e1__law_like, sizeLine_eq, eq_lists, a1, a2, a3, a4, b1, b2, b3, b4, hM2, sm, Int.mul_comm]
theorem plus_eq (u v : F) (m n : Nat) (hu : Bd m u.1) (hv : Bd n v.1) (le1 : m + (max u.2 v.2 - u.2) + 2 ≤ 134217728) (le2 : n + (max u.2 v.2 - v.2) + 2 ≤ 134217728) :
    n__law_plus [.v (lf u), .v (lf v)] = .ret (.v (lf (N4.ad (sm (2 ^ (max u.2 v.2 - u.2)) u.1) (sm (2 ^ (max u.2 v.2 - v.2)) v.1), max u.2 v.2))) [] := by
  obtain ⟨x, e⟩ := u
  obtain ⟨y, f⟩ := v
  simp only at hu hv le1 le2
  have hm : (if e < f then (f : Int) else e) = ((max e f : Nat) : Int) := by split <;> omega
  have d1 : ((max e f : Nat) : Int) - e = ((max e f - e : Nat) : Int) := by omega
  have d2 : ((max e f : Nat) : Int) - f = ((max e f - f : Nat) : Int) := by omega
  have p2 : ∀ k : Nat, ((2 : Int) ^ k).natAbs < 2 ^ (k + 1) := fun k => by
    rw [Int.natAbs_pow, Nat.pow_succ]
    have := Nat.two_pow_pos k
    show 2 ^ k < _
    omega
  have s1 := shlC_of (i := 1) (n := 1) (j := max e f - e) (by decide) (by omega)
  have s2 := shlC_of (i := 1) (n := 1) (j := max e f - f) (by decide) (by omega)
  have a1 := mulC_of hu.a (p2 (max e f - e)) (by omega)
  have a2 := mulC_of hu.b (p2 (max e f - e)) (by omega)
  have a3 := mulC_of hu.c (p2 (max e f - e)) (by omega)
  have a4 := mulC_of hu.d (p2 (max e f - e)) (by omega)
  have b1 := mulC_of hv.a (p2 (max e f - f)) (by omega)
  have b2 := mulC_of hv.b (p2 (max e f - f)) (by omega)
  have b3 := mulC_of hv.c (p2 (max e f - f)) (by omega)
  have b4 := mulC_of hv.d (p2 (max e f - f)) (by omega)
  rw [← d1] at s1
  rw [← d2] at s2
  show n__law_plus [.v (ln x e), .v (ln y f)] = .ret (.v (ln _ ((max e f : Nat) : Int))) []
  have hM2 : ((max e f : Nat) : Int).toNat = max e f := rfl
  simp only
  generalize ((max e f : Nat) : Int) = M at *
  simp [n__law_plus, den_at, b__law_plus, List.replicate, atI, ixN, hm, range4, e0__law_plus, sizeLine_eq, s1, s2, mulS_int, a1, a2, a3, a4, b1, b2, b3, b4, hM2, sm, N4.ad, Int.mul_comm]
end W


set_option maxHeartbeats 1000000
namespace W
open PySem PySem.Spec PyProof.Rows L2 DL N4
/-- the unit of t eighths -/
def un (t : Int) : Q :=
  let s : Int := if t % 8 < 4 then 1 else -1
  if t % 4 = 0 then ⟨s, 0, 0, 0⟩ else if t % 4 = 1 then ⟨0, s, 0, 0⟩ else if t % 4 = 2 then ⟨0, 0, s, 0⟩ else ⟨0, 0, 0, s⟩
theorem unit_eq (t : Int) : n_unit [I t] = .ret (.v (tp (un t) 0)) [] := by
  have h8 : 0 ≤ t % 4 ∧ t % 4 < 4 := by omega
  obtain h | h | h | h : t % 4 = 0 ∨ t % 4 = 1 ∨ t % 4 = 2 ∨ t % 4 = 3 := by omega
  all_goals
    by_cases h2 : t % 8 < 4
    · simp [n_unit, den_at, b_unit, List.replicate, modC, h, h2, ixN, un, tupleO, one, seqV, listV_o', sizeLine_eq]
    · simp [n_unit, den_at, b_unit, List.replicate, modC, h, h2, ixN, un, tupleO, one, seqV, listV_o', sizeLine_eq]
theorem w_eq (t : Int) (ht : t.natAbs < 2 ^ 60) : n__law_w [I t] = .ret (.v (ln (un t) 0)) [] := by
  have hm : mulC 2 (t / 4 % 2) = true := mulC_of (m := 2) (n := 2) (by decide) (by omega) (by omega)
  obtain h | h | h | h : t % 4 = 0 ∨ t % 4 = 1 ∨ t % 4 = 2 ∨ t % 4 = 3 := by omega
  all_goals
    by_cases h2 : t % 8 < 4
    · have h3 : t / 4 % 2 = 0 := by omega
      rw [h3] at hm
      simp [n__law_w, den_at, b__law_w, List.replicate, modC, divC, h, h2, h3, ixN, un, mulS_int, hm]
    · have h3 : t / 4 % 2 = 1 := by omega
      rw [h3] at hm
      simp [n__law_w, den_at, b__law_w, List.replicate, modC, divC, h, h2, h3, ixN, un, mulS_int, hm]
end W


set_option maxHeartbeats 1000000
namespace W
open PySem PySem.Spec PyProof.Rows L2 DL N4
abbrev o4 (x : Q) : Sl := .o [I x.a, I x.b, I x.c, I x.d]
def nfp : Nat → Q → F
  | 0, x => (x, 0)
  | n + 1, x => if dv x = true then nfp n (hf x) else (x, n + 1)
theorem nfp_zr (n : Nat) : nfp n zr = (zr, 0) := by
  induction n with
  | zero => rfl
  | succ n ih => exact ih
theorem nf_nfp (n : Nat) (x : Q) : nf n x = if (nfp n x).1 = zr then (zr, 0) else nfp n x := by
  induction n generalizing x with
  | zero =>
    show (x, 0) = if x = zr then (zr, 0) else (x, 0)
    by_cases h : x = zr
    · rw [if_pos h, h]
    · rw [if_neg h]
  | succ n ih =>
    unfold nf nfp
    by_cases h : dv x = true
    · rw [if_pos h, if_pos h]
      by_cases hz : hf x = zr
      · rw [if_pos hz, hz, nfp_zr, if_pos rfl]
      · rw [if_neg hz, ih]
    · rw [if_neg h, if_neg h]
      have : x ≠ zr := fun z => h (by rw [z]; rfl)
      rw [if_neg this]
theorem dv_test (x : Q) : dv x = (decide ((x.a + x.c) % 2 = 0) && decide ((x.b + x.d) % 2 = 0)) := by
  rw [Bool.eq_iff_iff]
  simp only [dv, Bool.and_eq_true, beq_iff_eq, decide_eq_true_eq]
  omega
theorem told_wh (n : Nat) : ∀ (G : Nat) (x : Q) (s0 s3 s4 s5 s6 : Sl), n < G → ∃ r3 r4 r5 r6, whS t0__law_told l1__law_told G [s0, o4 x, I n, s3, s4, s5, s6] = .ok .nx [s0, o4 (nfp n x).1, I ((nfp n x).2 : Int), r3, r4, r5, r6] := by
  induction n with
  | zero =>
    intro G x s0 s3 s4 s5 s6 h
    cases G with
    | zero => omega
    | succ G => exact ⟨s3, s4, s5, s6, rfl⟩
  | succ n ih =>
    intro G x s0 s3 s4 s5 s6 h
    cases G with
    | zero => omega
    | succ G =>
      have hn : (0 : Int) < ((n + 1 : Nat) : Int) := by omega
      have e1 : t0__law_told [s0, o4 x, I ((n + 1 : Nat) : Int), s3, s4, s5, s6] = .ok (dv x) [s0, o4 x, I ((n + 1 : Nat) : Int), s3, s4, s5, s6] := by
        generalize ((n + 1 : Nat) : Int) = m at *
        rw [dv_test]
        by_cases h1 : (x.a + x.c) % 2 = 0
        · simp [t0__law_told, hn, ixS_o, atI, ixN, modC, h1]
          rfl
        · simp [t0__law_told, hn, ixS_o, atI, ixN, modC, h1]
      unfold whS nfp
      rw [e1, Rs.bind_ok]
      by_cases hd : dv x = true
      · rw [if_pos hd, if_pos hd]
        have e2 : l1__law_told [s0, o4 x, I ((n + 1 : Nat) : Int), s3, s4, s5, s6] = .ok .nx [s0, o4 (hf x), I (n : Int), I x.a, I x.b, I x.c, I x.d] := by
          have e3 : ((n + 1 : Nat) : Int) - 1 = (n : Int) := by omega
          generalize ((n + 1 : Nat) : Int) = m at *
          simp [l1__law_told, divC, e3, hf]
        rw [e2, Rs.bind_ok]
        exact ih G (hf x) s0 _ _ _ _ (by omega)
      · rw [if_neg hd, if_neg hd]
        exact ⟨s3, s4, s5, s6, rfl⟩
theorem told_eq (u : F) (h : u.2 < 2 ^ 28) : n__law_told [.v (lf u)] = .ret (.v (tf2 (nf (2 * u.2) u.1))) [] := by
  obtain ⟨x, e⟩ := u
  obtain ⟨r3, r4, r5, r6, e1⟩ := told_wh (2 * e) FU x (.v (ln x e)) .u .u .u .u (by rw [FU_eq]; simp only at h; omega)
  have hm : mulC 2 (e : Int) = true := mulC_of (m := 2) (n := 28) (by decide) (by simpa using h) (by omega)
  have e2 : (2 * (e : Int)) = ((2 * e : Nat) : Int) := by omega
  show n__law_told [.v (ln x e)] = _
  rw [nf_nfp]
  generalize hN : ((2 * e : Nat) : Int) = N at *
  have z4 : ∀ w : Q, eqS false [o4 w, .o [I 0, I 0, I 0, I 0]] = some (.v (.bl (decide (w = zr)))) := fun w => by
    rw [eq_lists]; rfl
  have t4 : ∀ w : Q, tupleO [o4 w] = some (.v (tq w)) := fun w => by simp [tupleO, one, seqV, listV_o']
  generalize nfp (2 * e) x = w at *
  obtain ⟨w, k⟩ := w
  by_cases hz : w = zr
  · simp [n__law_told, den_at, b__law_told, List.replicate, atI, ixN, mulS_int, hm, e2, e1, z4, t4, hz, sizeLine_eq]
  · simp [n__law_told, den_at, b__law_told, List.replicate, atI, ixN, mulS_int, hm, e2, e1, z4, t4, hz, sizeLine_eq]
end W


set_option maxHeartbeats 1000000
namespace W
open PySem PySem.Spec PyProof.Rows L2 DL N4
abbrev rh : Q := ⟨0, 1, 0, -1⟩
theorem ml_rh (x : Q) : ml x rh = rt x := by
  simp only [ml, rt, Q.mk.injEq]
  refine ⟨?_, ?_, ?_, ?_⟩ <;> omega
theorem bd_rh : Bd 1 rh := ⟨by decide, by decide, by decide, by decide⟩
theorem l0_root_eq (x : Q) (e p : Int) (m : Nat) (hx : Bd m x) (hm : m + 3 ≤ 134217728) (s3 : Sl) : l0__law_root [.v (ln x e), I p, .v (ln rh 1), s3] = .ok .nx [.v (ln (rt x) (e + if 0 < p then 1 else 0)), I p, .v (ln rh 1), s3] := by
  have e1 := by_eq x rh e 1 m 1 hx bd_rh (by omega)
  have e2 := by_eq x rh e 0 m 1 hx bd_rh (by omega)
  rw [ml_rh] at e1 e2
  by_cases h : 0 < p
  · simp [l0__law_root, h, e1]
  · simp [l0__law_root, h] at e2 ⊢
    simp [e2]
theorem root_loop (n : Nat) : ∀ (k : Int) (x : Q) (e p : Int) (m : Nat) (hx : Bd m x) (hm : m + n + 3 ≤ 134217728) (s3 : Sl), ∃ t3, forS (tgN 3) l0__law_root (rangeD k n) [.v (ln x e), I p, .v (ln rh 1), s3] = .ok .nx [.v (ln (rtn n x) (e + if 0 < p then (n : Int) else 0)), I p, .v (ln rh 1), t3] := by
  induction n with
  | zero =>
    intro k x e p m hx hm s3
    refine ⟨s3, ?_⟩
    have : (e + if 0 < p then ((0 : Nat) : Int) else 0) = e := by split <;> simp
    rw [this]
    rfl
  | succ n ih =>
    intro k x e p m hx hm s3
    obtain ⟨t3, h⟩ := ih (k + 1) (rt x) (e + if 0 < p then 1 else 0) p (m + 1) hx.rt (by omega) (I k)
    refine ⟨t3, ?_⟩
    rw [rangeD_succ]
    simp [l0_root_eq x e p m hx (by omega)]
    have e1 : (e + if 0 < p then 1 else 0) + (if 0 < p then (n : Int) else 0) = e + if 0 < p then ((n + 1 : Nat) : Int) else 0 := by split <;> omega
    rw [e1] at h
    exact h
theorem rng1_of {f : Ev} {env e : DL.Env} {j : Int} {n : Nat} (h : f env = .ok (I j) e) (hj : j = (n : Int)) (hn : n < 1000000000000) : rng1 f env = .ok (rangeD 0 n) e := by
  rw [rng1_at, h, Rs.bind_ok, intOf_int, Rs.of_some, Rs.bind_ok, hj, if_pos (rngB_nat hn)]
  rfl
theorem root_eq (u : F) (p : Int) (m : Nat) (hx : Bd m u.1) (hp : p.natAbs ≤ 1000000) (hm : m ≤ 1000000) :
    n__law_root [.v (lf u), I p] = .ret (.v (lf (rtn p.natAbs u.1, u.2 + if 0 < p then p.natAbs else 0))) [] := by
  obtain ⟨x, e⟩ := u
  obtain ⟨t3, h⟩ := root_loop p.natAbs 0 x e p m hx (by omega) .u
  have e1 : (if p < 0 then -p else p) = (p.natAbs : Int) := by split <;> omega
  have e2 : -4611686018427387904 ≤ (p.natAbs : Int) ∧ (p.natAbs : Int) < 4611686018427387904 := by omega
  have e4 : ((e : Int) + if 0 < p then (p.natAbs : Int) else 0) = ((e + (if 0 < p then p.natAbs else 0) : Nat) : Int) := by split <;> omega
  show n__law_root [.v (ln x e), I p] = .ret (.v (ln _ ((e + (if 0 < p then p.natAbs else 0) : Nat) : Int))) []
  have e3 : ((p.natAbs : Int)).toNat = p.natAbs := rfl
  rw [e4] at h
  have e5 : ∀ a b c : Sl, rng1 (opS absO [Opd.nm 1]) [a, I p, b, c] = .ok (rangeD 0 p.natAbs) [a, I p, b, c] := fun a b c => rng1_of rfl e1 (by omega)
  generalize ((e + (if 0 < p then p.natAbs else 0) : Nat) : Int) = E at *
  simp [n__law_root, den_at, b__law_root, List.replicate, e5, h, -rng1_at]
end W


set_option maxHeartbeats 1000000
namespace W
open PySem PySem.Spec PyProof.Rows L2 DL N4
theorem form_eq (u : F) (c : Cn u) (h : u.2 < 2 ^ 28) : n__law_form [.v (tf2 u)] = .ret (.v (.bl true)) [] := by
  obtain ⟨x, p⟩ := u
  show n__law_form [.v (tp x p)] = _
  have k1 : kitB "tuple" "tuple" = some true := by rfl
  have k2 : kitB "int" "int" = some true := by rfl
  have k3 : kitB "int" "bool" = some false := by rfl
  have hp : ¬ ((p : Int) < 0) := by omega
  have z4 : eqS false [o4 x, .o [I 0, I 0, I 0, I 0]] = some (.v (.bl (decide (x = zr)))) := by
    rw [eq_lists]; rfl
  by_cases h0 : p = 0
  · subst h0
    simp [n__law_form, den_at, b__law_form, List.replicate, z4, isiS, isiO, tyNm, k1, k2, k3, e0__law_form, allO, one, listV_o', blsD, sizeLine_eq]
  · rcases c with c | c
    · exact absurd c h0
    · simp only at c
      have hz : x ≠ zr := fun z => by rw [z] at c; exact absurd c (by decide)
      rw [dv_test] at c
      by_cases h1 : (x.a + x.c) % 2 = 1
      · simp [n__law_form, den_at, b__law_form, List.replicate, z4, hp, hz, isiS, isiO, tyNm, k1, k2, k3, e0__law_form, allO, one, listV_o', blsD, sizeLine_eq, h0, modC, h1]
      · have h2 : (x.b + x.d) % 2 = 1 := by
          have h3 : (x.a + x.c) % 2 = 0 := by omega
          rw [decide_eq_true h3, Bool.true_and] at c
          have := of_decide_eq_false c
          omega
        simp [n__law_form, den_at, b__law_form, List.replicate, z4, hp, hz, isiS, isiO, tyNm, k1, k2, k3, e0__law_form, allO, one, listV_o', blsD, sizeLine_eq, h0, modC, h1, h2]
theorem rtn_two (n : Nat) (x : Q) : rtn (2 * n) x = sm (2 ^ n) x := by
  induction n with
  | zero => simp [rtn, sm]
  | succ n ih =>
    have e : 2 * (n + 1) = (2 * n + 1) + 1 := by omega
    rw [e, rtn_succ, rtn_succ, ih, rt_rt]
    simp only [sm, Int.pow_succ, Q.mk.injEq]
    refine ⟨?_, ?_, ?_, ?_⟩ <;> grind
/-- the same number, the law's way -/
def Same (u v : F) : Prop := rtn (2 * v.2) u.1 = rtn u.2 v.1
theorem own_same (u v : F) (h : Same u v) : sm (2 ^ (max (ownN u).2 v.2 - (ownN u).2)) (ownN u).1 = sm (2 ^ (max (ownN u).2 v.2 - v.2)) v.1 := by
  have key : ∀ (x y : Q) (e f : Nat), rtn (2 * f) x = rtn (2 * e) y → sm (2 ^ (max e f - e)) x = sm (2 ^ (max e f - f)) y := fun x y e f h => by
    rw [← rtn_two, ← rtn_two]
    refine rtn_inj (n := 2 * (min e f)) ?_
    rw [← rtn_add, ← rtn_add]
    have e1 : 2 * min e f + 2 * (max e f - e) = 2 * f := by omega
    have e2 : 2 * min e f + 2 * (max e f - f) = 2 * e := by omega
    rw [e1, e2]
    exact h
  refine key _ _ _ _ ?_
  unfold ownN
  unfold Same at h
  split
  · rename_i hp
    have e1 : 2 * ((u.2 + 1) / 2) = u.2 + 1 := by omega
    simp only
    rw [e1]
    show rtn (2 * v.2 + 1) u.1 = _
    rw [rtn_succ, h, rtn_succ]
  · rename_i hp
    have e1 : 2 * (u.2 / 2) = u.2 := by omega
    simp only
    rw [e1]
    exact h
theorem is_eq (u v : F) (m n : Nat) (c : Cn u) (s : Same u v) (hu : Bd m u.1) (hv : Bd n v.1) (hp : u.2 < 1000000) (hq : v.2 < 1000000) (hm : m < 1000000) (hn : n < 1000000) : n__law_is [.v (tf2 u), .v (lf v)] = .ret (.v (.bl true)) [] := by
  have e1 := form_eq u c (by omega)
  have e2 := own_eq u (by omega)
  have bo : Bd (m + 1) (ownN u).1 := by
    unfold ownN
    split
    · exact hu.rt
    · exact hu.mono (by omega)
  have le : (ownN u).2 < 1000001 := by
    unfold ownN
    split
    · simp only; omega
    · simp only; omega
  have e3 := like_eq (ownN u) v (m + 1) n bo hv (by omega) (by omega)
  rw [decide_eq_true (own_same u v s)] at e3
  simp [n__law_is, den_at, b__law_is, e1, e2, e3]
end W


set_option maxHeartbeats 1000000
/-! the field: four fractions over the eighth root w of 1 -/
structure KK where
  a : Rat
  b : Rat
  c : Rat
  d : Rat
namespace KK
theorem ext {x y : KK} (h1 : x.a = y.a) (h2 : x.b = y.b) (h3 : x.c = y.c) (h4 : x.d = y.d) : x = y := by
  cases x; cases y; cases h1; cases h2; cases h3; cases h4; rfl
def add (x y : KK) : KK := ⟨x.a + y.a, x.b + y.b, x.c + y.c, x.d + y.d⟩
def mul (x y : KK) : KK := ⟨x.a * y.a - x.b * y.d - x.c * y.c - x.d * y.b, x.a * y.b + x.b * y.a - x.c * y.d - x.d * y.c, x.a * y.c + x.b * y.b + x.c * y.a - x.d * y.d, x.a * y.d + x.b * y.c + x.c * y.b + x.d * y.a⟩
def neg (x : KK) : KK := ⟨-x.a, -x.b, -x.c, -x.d⟩
def nat (n : Nat) : KK := ⟨(n : Rat), 0, 0, 0⟩
def int (n : Int) : KK := ⟨(n : Rat), 0, 0, 0⟩
def pow (x : KK) : Nat → KK
  | 0 => nat 1
  | n + 1 => mul (pow x n) x
theorem nat_succ (n : Nat) : nat (n + 1) = add (nat n) (nat 1) := by
  apply ext <;> simp only [nat, add] <;> grind
theorem add_comm' (x y : KK) : add x y = add y x := by apply ext <;> simp only [add] <;> grind
theorem add_assoc' (x y z : KK) : add (add x y) z = add x (add y z) := by apply ext <;> simp only [add] <;> grind
theorem add_zero' (x : KK) : add x (nat 0) = x := by apply ext <;> simp only [add, nat] <;> grind
theorem mul_comm' (x y : KK) : mul x y = mul y x := by apply ext <;> simp only [mul] <;> grind
theorem mul_assoc' (x y z : KK) : mul (mul x y) z = mul x (mul y z) := by apply ext <;> simp only [mul] <;> grind
theorem mul_one' (x : KK) : mul x (nat 1) = x := by apply ext <;> simp only [mul, nat] <;> grind
theorem mul_zero' (x : KK) : mul x (nat 0) = nat 0 := by apply ext <;> simp only [mul, nat] <;> grind
theorem distrib' (x y z : KK) : mul x (add y z) = add (mul x y) (mul x z) := by apply ext <;> simp only [mul, add] <;> grind
theorem neg_add' (x : KK) : add (neg x) x = nat 0 := by apply ext <;> simp only [neg, add, nat] <;> grind
theorem int_neg (i : Int) : int (-i) = neg (int i) := by apply ext <;> simp only [neg, int] <;> grind
theorem neg_mul' (x y : KK) : mul (neg x) y = neg (mul x y) := by apply ext <;> simp only [neg, mul] <;> grind
instance : Lean.Grind.CommRing KK where
  add := add
  mul := mul
  natCast := ⟨nat⟩
  ofNat n := ⟨nat n⟩
  nsmul := ⟨fun n x => mul (nat n) x⟩
  npow := ⟨pow⟩
  neg := neg
  sub x y := add x (neg y)
  intCast := ⟨int⟩
  zsmul := ⟨fun n x => mul (int n) x⟩
  add_zero := add_zero'
  add_comm := add_comm'
  add_assoc := add_assoc'
  mul_assoc := mul_assoc'
  mul_one := mul_one'
  one_mul x := (mul_comm' _ _).trans (mul_one' x)
  left_distrib := distrib'
  right_distrib x y z := (mul_comm' _ _).trans ((distrib' z x y).trans (by rw [mul_comm' z x, mul_comm' z y]; rfl))
  zero_mul x := (mul_comm' _ _).trans (mul_zero' x)
  mul_zero := mul_zero'
  pow_zero _ := rfl
  pow_succ _ _ := rfl
  ofNat_succ := nat_succ
  neg_add_cancel := neg_add'
  sub_eq_add_neg _ _ := rfl
  neg_zsmul i x := by
    show mul (int (-i)) x = neg (mul (int i) x)
    rw [int_neg, neg_mul']
  zsmul_natCast_eq_nsmul _ _ := rfl
  intCast_ofNat _ := rfl
  intCast_neg := int_neg
  mul_comm := mul_comm'
def conj (x : KK) : KK := ⟨x.a, -x.d, -x.c, -x.b⟩
theorem conj_add (x y : KK) : conj (x + y) = conj x + conj y := by
  show conj (add x y) = add (conj x) (conj y)
  apply ext <;> simp only [conj, add] <;> grind
theorem conj_mul (x y : KK) : conj (x * y) = conj x * conj y := by
  show conj (mul x y) = mul (conj x) (conj y)
  apply ext <;> simp only [conj, mul] <;> grind
theorem conj_neg (x : KK) : conj (-x) = -conj x := by
  show conj (neg x) = neg (conj x)
  apply ext <;> simp only [conj, neg] <;> grind
theorem conj_conj (x : KK) : conj (conj x) = x := by
  apply ext <;> simp only [conj] <;> grind
/-- the root of 2, one over it, a half -/
def s : KK := ⟨0, 1, 0, -1⟩
def r : KK := ⟨0, 1/2, 0, -1/2⟩
def h : KK := ⟨1/2, 0, 0, 0⟩
theorem s_r : s * r = 1 := by
  show mul s r = nat 1
  apply ext <;> simp only [mul, s, r, nat] <;> grind
theorem r_r : r * r = h := by
  show mul r r = h
  apply ext <;> simp only [mul, r, h] <;> grind
theorem conj_r : conj r = r := by
  apply ext <;> simp only [conj, r] <;> grind
theorem conj_h : conj h = h := by
  apply ext <;> simp only [conj, h] <;> grind
theorem conj_1 : conj 1 = 1 := by
  show conj (nat 1) = nat 1
  apply ext <;> simp only [conj, nat] <;> grind
theorem conj_0 : conj 0 = 0 := by
  show conj (nat 0) = nat 0
  apply ext <;> simp only [conj, nat] <;> grind
theorem h_2 : (2 : KK) * h = 1 := by
  show mul (nat 2) h = nat 1
  apply ext <;> simp only [mul, h, nat] <;> grind
theorem pow_conj (x : KK) (n : Nat) : conj (x ^ n) = conj x ^ n := by
  induction n with
  | zero => exact conj_1
  | succ n ih => rw [Lean.Grind.Semiring.pow_succ, Lean.Grind.Semiring.pow_succ, conj_mul, ih]
theorem pow_mul' (x y : KK) (n : Nat) : (x * y) ^ n = x ^ n * y ^ n := by
  induction n with
  | zero => grind
  | succ n ih => rw [Lean.Grind.Semiring.pow_succ, Lean.Grind.Semiring.pow_succ, Lean.Grind.Semiring.pow_succ, ih]; grind
theorem one_pow (n : Nat) : (1 : KK) ^ n = 1 := by
  induction n with
  | zero => rfl
  | succ n ih => rw [Lean.Grind.Semiring.pow_succ, ih]; grind
theorem pow_add' (x : KK) (m n : Nat) : x ^ (m + n) = x ^ m * x ^ n := by
  induction n with
  | zero => rw [Nat.add_zero, Lean.Grind.Semiring.pow_zero]; grind
  | succ n ih => rw [← Nat.add_assoc, Lean.Grind.Semiring.pow_succ, ih, Lean.Grind.Semiring.pow_succ]; grind
theorem sr_pow (n : Nat) : s ^ n * r ^ n = 1 := by rw [← pow_mul', s_r, one_pow]
theorem rr_pow (n : Nat) : r ^ (2 * n) = h ^ n := by
  induction n with
  | zero => rfl
  | succ n ih =>
    have e : 2 * (n + 1) = 2 * n + 1 + 1 := by omega
    rw [e, Lean.Grind.Semiring.pow_succ, Lean.Grind.Semiring.pow_succ, ih, Lean.Grind.Semiring.pow_succ, ← r_r]
    grind
end KK
namespace N4
open KK
def em (x : Q) : KK := ⟨(x.a : Rat), (x.b : Rat), (x.c : Rat), (x.d : Rat)⟩
theorem em_inj {x y : Q} (h : em x = em y) : x = y := by
  injection h with h1 h2 h3 h4
  exact ext (Rat.intCast_inj.mp h1) (Rat.intCast_inj.mp h2) (Rat.intCast_inj.mp h3) (Rat.intCast_inj.mp h4)
theorem em_ad (x y : Q) : em (ad x y) = em x + em y := by
  show em (ad x y) = KK.add (em x) (em y)
  apply KK.ext <;> simp only [em, ad, KK.add] <;> grind
theorem em_ng (x : Q) : em (ng x) = -em x := by
  show em (ng x) = KK.neg (em x)
  apply KK.ext <;> simp only [em, ng, KK.neg] <;> grind
theorem em_ml (x y : Q) : em (ml x y) = em x * em y := by
  show em (ml x y) = KK.mul (em x) (em y)
  apply KK.ext <;> simp only [em, ml, KK.mul] <;> grind
theorem em_cj (x : Q) : em (cj x) = conj (em x) := by
  apply KK.ext <;> simp only [em, cj, KK.conj] <;> grind
theorem em_rt (x : Q) : em (rt x) = em x * s := by
  show em (rt x) = KK.mul (em x) s
  apply KK.ext <;> simp only [em, rt, KK.mul, s] <;> grind
theorem em_rtn (n : Nat) (x : Q) : em (rtn n x) = em x * s ^ n := by
  induction n with
  | zero =>
    show em x = em x * s ^ 0
    rw [Lean.Grind.Semiring.pow_zero]; grind
  | succ n ih => rw [rtn_succ, em_rt, ih, Lean.Grind.Semiring.pow_succ]; grind
theorem em_zr : em zr = 0 := rfl
/-- the program's number's value, the law's number's value -/
def vP (u : F) : KK := em u.1 * r ^ u.2
def vL (u : F) : KK := em u.1 * h ^ u.2
theorem eq2_iff {u v : F} : Eq2 u v ↔ vP u = vP v := by
  have h1 := sr_pow u.2
  have h2 := sr_pow v.2
  unfold vP
  constructor
  · intro e
    have e := congrArg em e
    rw [em_rtn, em_rtn] at e
    have : em u.1 * r ^ u.2 = (em u.1 * s ^ v.2) * r ^ u.2 * r ^ v.2 := by grind
    rw [this, e]
    grind
  · intro e
    refine em_inj ?_
    rw [em_rtn, em_rtn]
    have : em u.1 * s ^ v.2 = (em u.1 * r ^ u.2) * s ^ u.2 * s ^ v.2 := by grind
    rw [this, e]
    grind
theorem vP_L (u : F) : vP (u.1, 2 * u.2) = vL u := by
  unfold vP vL
  simp only
  rw [rr_pow]
theorem vP_nf (n : Nat) (x : Q) : vP (nf n x) = em x * r ^ n := eq2_iff.mp (nf_ok n x).2
theorem em_sm (k : Nat) (x : Q) : em (sm (2 ^ k) x) = em x * s ^ (2 * k) := by
  rw [← em_rtn, ← W.rtn_two]
end N4


set_option maxHeartbeats 1000000
namespace W
open PySem PySem.Spec PyProof.Rows L2 DL N4
theorem ex_int (n : Nat) (i : Int) : r__law_exact (n + 1) [I i, I i] = .ret (.v (.bl true)) [] := by
  have k1 : kitB "int" "tuple" = some false := by rfl
  have k2 : kitB "int" "int" = some true := by rfl
  have k3 : kitB "int" "bool" = some false := by rfl
  have k4 : kitB "int" "list" = some false := by rfl
  have k5 : kitB "int" "str" = some false := by rfl
  simp [r__law_exact, den_at, b__law_exact, List.replicate, isiS, isiS2, isiO, isiO2, tyNm, k1, k2, k3, k4, k5, one, isN]
theorem ex_tp (n : Nat) (x : Q) (p : Int) : r__law_exact (n + 2) [.v (tp x p), .v (tp x p)] = .ret (.v (.bl true)) [] := by
  have k1 : kitB "tuple" "tuple" = some true := by rfl
  have k4 : kitB "tuple" "list" = some false := by rfl
  have r5 : rangeD 0 5 = [.int 0, .int 1, .int 2, .int 3, .int 4] := rfl
  have h := ex_int n
  rw [r__law_exact]
  simp [den_at, b__law_exact, List.replicate, isiS, isiS2, isiO, isiO2, tyNm, k1, k4, one, isN, r5, sizeLine_eq, e0__law_exact, atI, ixN, h, allO, listV_o', blsD]
theorem ex_eq (x : Q) (p : Int) : n__law_exact [.v (tp x p), .v (tp x p)] = .ret (.v (.bl true)) [] := ex_tp 4 x p
theorem ex_lst : n__law_exact [.v (.lst [tp zr 0, tp ⟨1, 0, 0, 0⟩ 0]), .v (.lst [tp zr 0, tp ⟨1, 0, 0, 0⟩ 0])] = .ret (.v (.bl true)) [] := by
  have k1 : kitB "list" "tuple" = some false := by rfl
  have k4 : kitB "list" "list" = some true := by rfl
  have r2 : rangeD 0 2 = [.int 0, .int 1] := rfl
  have h := ex_tp 3
  show r__law_exact (5 + 1) _ = _
  rw [r__law_exact]
  simp [den_at, b__law_exact, List.replicate, isiS, isiS2, isiO, isiO2, tyNm, k1, k4, one, isN, r2, sizeLine_eq, e0__law_exact, atI, ixN, h, allO, listV_o', blsD]
end W


set_option maxHeartbeats 1000000
namespace W
open PySem PySem.Spec PyProof.Rows L2 DL N4
abbrev scr (ns : List Int) : D := .lst (ns.map .int)
/-- the script's sizes -/
structure ScOk (B : Nat) (ns : List Int) : Prop where
  lo : 62 ≤ B
  hi : B ≤ 1048576
  len : ns.length ≤ 63
  at_ : ∀ z ∈ ns, z.natAbs < 2 ^ B
noncomputable def tail1 : Sv := (seqS (ifS (andT (tstB (opS geS [(.nm 2), (.ex (opS powO [(.ex (vC (.int 10))), (.ex (vC (.int 18)))]))])) (tstB (opS ltS [(.nm 1), (.ex (opS lenO [(.nm 0)]))]))) (seqS (movS 2) skipS) skipS) (seqS (retS (opS modO [(.ex (opS intO [(.ex (opS addO [(.ex (opS mulO [(.ex (opS intO [(.ex (opS addO [(.ex (opS addO [(.ex (opS mulO [(.nm 2), (.ex (vC (.int 48271)))])), (.ex (opS mulO [(.nm 1), (.ex (vC (.int 69621)))]))])), (.ex (vC (.int 12345)))]))])), (.ex (vC (.int 40692)))])), (.ex (vC (.int 7)))]))])), (.ex (vC (.int 2147483399)))])) skipS))
noncomputable def tail2 : Sv := (seqS (ifS (tstB (opS ltS [(.nm 2), (.ex (vC (.int 0)))])) (seqS (setS 2 (opS subO [(.ex (vC (.int 1))), (.ex (opS mulO [(.ex (vC (.int 2))), (.nm 2)]))])) skipS) skipS) tail1)
@[simp] theorem intO_int (i : Int) : intO [.v (.int i)] = some (.v (.int i)) := rfl
theorem tail1_eq (B : Nat) (hlo : 62 ≤ B) (hhi : B ≤ 1048576) (ns : List Int) (c k : Int) (hk : 0 ≤ k) (hk2 : k.natAbs < 2 ^ 60) (h0 : 0 ≤ c) (hc : c.natAbs < 2 ^ (B + 2)) :
    ∃ v e, 0 ≤ v ∧ v.natAbs < 2 ^ (B + 2) ∧ tail1 [.v (scr ns), I k, I c] = .ok (.rt (I v)) e := by
  have p1 : powC 10 18 = true := by rfl
  have m1 : mulC c 48271 = true := mulC_of hc (n := 16) (by decide) (by omega)
  have m2 : mulC k 69621 = true := mulC_of hk2 (n := 17) (by decide) (by omega)
  have m3 : mulC (c * 48271 + k * 69621 + 12345) 40692 = true := by
    refine mulC_of (m := B + 80) (n := 16) ?_ (by decide) (by omega)
    have e1 : 2 ^ (B + 2) = 2 ^ B * 4 := by rw [Nat.pow_add]
    have e2 : 2 ^ (B + 80) = 2 ^ B * 1208925819614629174706176 := by rw [Nat.pow_add]
    have e3 : (2 : Nat) ^ 60 = 1152921504606846976 := by decide
    have := Nat.two_pow_pos B
    rw [e1] at hc
    rw [e3] at hk2
    rw [e2]
    generalize 2 ^ B = P at *
    omega
  have mo : ∀ i, modC i 2147483399 = true := fun _ => by rfl
  have pw : (10 : Int) ^ (Int.toNat 18) = 1000000000000000000 := by decide
  by_cases h2 : 1000000000000000000 ≤ c ∧ k < (ns.length : Int)
  · exact ⟨c, [.v (scr ns), I k, .u], h0, hc, by simp [tail1, p1, h2.1, h2.2]⟩
  · have hB : 2 ^ 64 ≤ 2 ^ (B + 2) := Nat.pow_le_pow_right (by decide) (by omega)
    refine ⟨((c * 48271 + k * 69621 + 12345) * 40692 + 7) % 2147483399, [.v (scr ns), I k, I c], by omega, by omega, ?_⟩
    have ev : opS modO [(.ex (opS intO [(.ex (opS addO [(.ex (opS mulO [(.ex (opS intO [(.ex (opS addO [(.ex (opS addO [(.ex (opS mulO [(.nm 2), (.ex (vC (.int 48271)))])), (.ex (opS mulO [(.nm 1), (.ex (vC (.int 69621)))]))])), (.ex (vC (.int 12345)))]))])), (.ex (vC (.int 40692)))])), (.ex (vC (.int 7)))]))])), (.ex (vC (.int 2147483399)))] [.v (scr ns), I k, I c] = .ok (I (((c * 48271 + k * 69621 + 12345) * 40692 + 7) % 2147483399)) [.v (scr ns), I k, I c] := by
      simp only [opS_at, evA_nm, evA_ex, evA_nil, gt_v, gt_S, Rs.of_some, Rs.bind_ok, cont_nm, cont_ex, cont_nil, List.getD_cons_zero, List.getD_cons_succ, vC_at, mulO, addO, modO, mulS_int m1, mulS_int m2, mulS_int m3, addS_int, intO_int, i2_int, mo, if_true]
    have te : andT (tstB (opS geS [(.nm 2), (.ex (opS powO [(.ex (vC (.int 10))), (.ex (vC (.int 18)))]))])) (tstB (opS ltS [(.nm 1), (.ex (opS lenO [(.nm 0)]))])) [.v (scr ns), I k, I c] = .ok false [.v (scr ns), I k, I c] := by
      by_cases h3 : 1000000000000000000 ≤ c
      · have h4 : ¬ k < (ns.length : Int) := fun z => h2 ⟨h3, z⟩
        simp [p1, h3, h4]
      · simp [p1, h3]
    simp only [tail1, seqS_at, ifS_at, te, Rs.bind_ok, if_neg Bool.false_ne_true, skipS_at, goOn_nx, retS_at, ev, goOn_rt]
theorem tail2_eq (B : Nat) (hlo : 62 ≤ B) (hhi : B ≤ 1048576) (ns : List Int) (cell k : Int) (hk : 0 ≤ k) (hk2 : k.natAbs < 2 ^ 60) (hc : cell.natAbs < 2 ^ B) :
    ∃ v e, 0 ≤ v ∧ v.natAbs < 2 ^ (B + 2) ∧ tail2 [.v (scr ns), I k, I cell] = .ok (.rt (I v)) e := by
  have e1 : 2 ^ (B + 2) = 2 ^ B * 4 := by rw [Nat.pow_add]
  have hP := Nat.two_pow_pos B
  by_cases h1 : cell < 0
  · obtain ⟨v, e, v0, v1, h⟩ := tail1_eq B hlo hhi ns (1 - 2 * cell) k hk hk2 (by omega) (by rw [e1]; omega)
    have m1 : mulC 2 cell = true := mulC_of (m := 2) (by decide) hc (by omega)
    exact ⟨v, e, v0, v1, by simp [tail2, h1, mulS_int, m1, h]⟩
  · obtain ⟨v, e, v0, v1, h⟩ := tail1_eq B hlo hhi ns cell k hk hk2 (by omega) (by rw [e1]; omega)
    exact ⟨v, e, v0, v1, by simp [tail2, h1, h]⟩
theorem refill_eq {B : Nat} {ns : List Int} (S : ScOk B ns) (k : Int) (hk : 0 ≤ k) (hk2 : k.natAbs < 2 ^ 60) : ∃ v, 0 ≤ v ∧ v.natAbs < 2 ^ (B + 2) ∧ n__law_refill [.v (scr ns), I k] = .ret (I v) [] := by
  have hb : b__law_refill = seqS (setS 2 (vC (.int 0))) (seqS (ifS (truA (.nm 0)) (seqS (setS 2 (opS ixS [(.nm 0), (.ex (opS modO [(.nm 1), (.ex (opS lenO [(.nm 0)]))]))])) skipS) skipS) tail2) := rfl
  cases ns with
  | nil =>
    obtain ⟨v, e, v0, v1, h⟩ := tail2_eq B S.lo S.hi [] 0 k hk hk2 (Nat.two_pow_pos B)
    exact ⟨v, v0, v1, by simp [n__law_refill, den_at, hb, List.replicate] at h ⊢; simp [h]⟩
  | cons z zs =>
    have hl : (0 : Int) < ((z :: zs).length : Nat) := by simp only [List.length_cons]; omega
    have hm := Int.emod_nonneg k (b := ((z :: zs).length : Nat)) (by omega)
    have hm2 := Int.emod_lt_of_pos k hl
    have mc : modC k (((z :: zs).length : Nat) : Int) = true := decide_eq_true hl
    obtain ⟨j, hj⟩ : ∃ j : Nat, k % (((z :: zs).length : Nat) : Int) = j := ⟨(k % (((z :: zs).length : Nat) : Int)).toNat, by omega⟩
    have hjl : j < (z :: zs).length := by omega
    obtain ⟨y, hy⟩ : ∃ y, (z :: zs)[j]? = some y := ⟨_, List.getElem?_eq_getElem hjl⟩
    have ym : y ∈ z :: zs := List.mem_of_getElem? hy
    have at1 : atI ((z :: zs).map D.int) (j : Int) = some (.int y) := by
      unfold atI ixN
      rw [if_pos (by omega), if_pos (by rw [List.length_map]; omega)]
      show ((z :: zs).map D.int)[(j : Int).toNat]? = _
      rw [Int.toNat_natCast, List.getElem?_map, hy]
      rfl
    obtain ⟨v, e, v0, v1, h⟩ := tail2_eq B S.lo S.hi (z :: zs) y k hk hk2 (S.at_ y ym)
    refine ⟨v, v0, v1, ?_⟩
    have e1 : opS ixS [(.nm 0), (.ex (opS modO [(.nm 1), (.ex (opS lenO [(.nm 0)]))]))] [.v (scr (z :: zs)), I k, I 0] = .ok (I y) [.v (scr (z :: zs)), I k, I 0] := by
      have l1 : lenO [.v (scr (z :: zs))] = some (I (((z :: zs).length : Nat) : Int)) := by
        rw [lenO_lst, List.length_map]
      generalize hL : (((z :: zs).length : Nat) : Int) = L at *
      simp only [opS_at, evA_nm, evA_ex, evA_nil, gt_v, gt_S, Rs.of_some, Rs.bind_ok, cont_nm, cont_ex, cont_nil, List.getD_cons_zero, List.getD_cons_succ, l1]
      simp only [modO, i2_int, mc, if_true, Rs.of_some, Rs.bind_ok, cont_ex, cont_nm, cont_nil, List.getD_cons_zero, hj, ixS_lst]
      rw [at1]
      rfl
    have e2 : truA (.nm 0) [.v (scr (z :: zs)), I k, I 0] = .ok true [.v (scr (z :: zs)), I k, I 0] := rfl
    show n__law_refill [.v (scr (z :: zs)), I k] = _
    simp only [n__law_refill, den_at, hb]
    show FR.fin _ (seqS (setS 2 (vC (.int 0))) _ [.v (scr (z :: zs)), I k, .u]) = _
    simp only [seqS_at, setS_at, vC_at, Rs.bind_ok, List.set_cons_succ, List.set_cons_zero, goOn_nx, ifS_at, e2, if_true, e1, skipS_at, h]
    rfl
end W


set_option maxHeartbeats 1000000
namespace W
open PySem PySem.Spec PyProof.Rows L2 DL N4
/-- the state of the law's draws, after at most n draws -/
structure StOk (B n : Nat) (s : Sl) : Prop where
  ex : ∃ k c : Int, s = .o [I k, I c] ∧ 0 ≤ k ∧ k ≤ n ∧ 0 ≤ c ∧ c.natAbs < 2 ^ (B + 2)
theorem draw_eq {B n : Nat} {ns : List Int} (S : ScOk B ns) {s : Sl} (h : StOk B n s) (hn : n < 1000000) (size : Int) (hs : 0 < size) (hs2 : size < 1073741824) :
    ∃ d s', n__law_draw [s, .v (scr ns), I size] = .ret (I d) [s'] ∧ 0 ≤ d ∧ d < size ∧ StOk B (n + 1) s' := by
  obtain ⟨k, c, rfl, k0, k1, c0, c1⟩ := h
  have md : ∀ i, modC i size = true := fun i => decide_eq_true hs
  have dd : ∀ i, divC i size = true := fun i => decide_eq_true ⟨hs, hs2⟩
  have fin : ∀ c : Int, 0 ≤ c → c.natAbs < 2 ^ (B + 2) → 0 ≤ c / size ∧ (c / size).natAbs < 2 ^ (B + 2) := fun c h1 h2 => by
    have a1 := Int.ediv_nonneg h1 (Int.le_of_lt hs)
    have a2 := Int.ediv_le_self size h1
    exact ⟨a1, by omega⟩
  by_cases hc : c = 0
  · obtain ⟨v, v0, v1, hr⟩ := refill_eq S k k0 (by omega)
    refine ⟨v % size, .o [I (k + 1), I (v / size)], ?_, Int.emod_nonneg _ (by omega), Int.emod_lt_of_pos _ hs, ⟨k + 1, v / size, rfl, by omega, by omega, (fin v v0 v1).1, (fin v v0 v1).2⟩⟩
    simp [n__law_draw, den_at, b__law_draw, List.replicate, hc, ixS_o, atI, ixN, hr, md, dd]
  · refine ⟨c % size, .o [I k, I (c / size)], ?_, Int.emod_nonneg _ (by omega), Int.emod_lt_of_pos _ hs, ⟨k, c / size, rfl, by omega, by omega, (fin c c0 c1).1, (fin c c0 c1).2⟩⟩
    simp [n__law_draw, den_at, b__law_draw, List.replicate, hc, ixS_o, atI, ixN, md, dd]
/-- one part -/
theorem part_eq {B n : Nat} {ns : List Int} (S : ScOk B ns) {s : Sl} (h : StOk B n s) (hn : n < 900000) (wide : Int) (hs : 0 < wide) (hs2 : wide < 1073741824) (s3 s4 : Sl) :
    ∃ d s', e0__law_number [s, .v (scr ns), I wide, s3, s4] = .ok (I d) [s', .v (scr ns), I wide, s3, s4] ∧ d.natAbs < 2 ^ 30 ∧ StOk B (n + 2) s' := by
  obtain ⟨d1, t1, e1, a1, b1, h1⟩ := draw_eq S h (by omega) wide hs hs2
  obtain ⟨d2, t2, e2, a2, b2, h2⟩ := draw_eq S h1 (by omega) 2 (by decide) (by decide)
  obtain ⟨k, c, rfl, _⟩ := h.ex
  obtain ⟨k', c', rfl, _⟩ := h1.ex
  have m1 : mulC 2 d2 = true := mulC_of (m := 2) (n := 2) (by decide) (by omega) (by omega)
  have m2 : mulC d1 (1 - 2 * d2) = true := mulC_of (m := 30) (n := 4) (by omega) (by omega) (by omega)
  refine ⟨d1 * (1 - 2 * d2), t2, ?_, ?_, h2⟩
  · simp [e0__law_number, e1, e2, mulS_int, m1, m2]
  · obtain h | h : d2 = 0 ∨ d2 = 1 := by omega
    · rw [h]; omega
    · rw [h]; omega
end W


set_option maxHeartbeats 1000000
namespace W
open PySem PySem.Spec PyProof.Rows L2 DL N4
theorem pick4 (w0 w1 w2 w3 d : Int) (h0 : 0 ≤ d) (h1 : d < 4) : ∃ w, ixS [.o [I w0, I w1, I w2, I w3], I d] = some (I w) ∧ (w = w0 ∨ w = w1 ∨ w = w2 ∨ w = w3) := by
  obtain h | h | h | h : d = 0 ∨ d = 1 ∨ d = 2 ∨ d = 3 := by omega
  all_goals subst h
  · exact ⟨w0, by simp [ixS_o, atI, ixN], .inl rfl⟩
  · exact ⟨w1, by simp [ixS_o, atI, ixN], .inr (.inl rfl)⟩
  · exact ⟨w2, by simp [ixS_o, atI, ixN], .inr (.inr (.inl rfl))⟩
  · exact ⟨w3, by simp [ixS_o, atI, ixN], .inr (.inr (.inr rfl))⟩
theorem number_eq {B n : Nat} {ns : List Int} (S : ScOk B ns) {s : Sl} (h : StOk B n s) (hn : n < 800000) :
    ∃ (u : F) (s' : Sl), n__law_number [s, .v (scr ns)] = .ret (.v (lf u)) [s'] ∧ Bd 30 u.1 ∧ u.2 ≤ 5 ∧ StOk B (n + 11) s' := by
  obtain ⟨d0, t0, e0, a0, b0, h0⟩ := draw_eq S h (by omega) 4 (by decide) (by decide)
  obtain ⟨w, ew, hw⟩ := pick4 2 3 12 1000000000 d0 a0 b0
  have w0 : 0 < w := by omega
  have w1 : w < 1073741824 := by omega
  obtain ⟨x0, t1, e1, c1, h1⟩ := part_eq S h0 (by omega) w w0 w1 .u (I 0)
  obtain ⟨x1, t2, e2, c2, h2⟩ := part_eq S h1 (by omega) w w0 w1 .u (I 1)
  obtain ⟨x2, t3, e3, c3, h3⟩ := part_eq S h2 (by omega) w w0 w1 .u (I 2)
  obtain ⟨x3, t4, e4, c4, h4⟩ := part_eq S h3 (by omega) w w0 w1 .u (I 3)
  obtain ⟨d5, t5, e5, a5, b5, h5⟩ := draw_eq S h4 (by omega) 6 (by decide) (by decide)
  obtain ⟨d6, t6, e6, a6, b6, h6⟩ := draw_eq S h5 (by omega) 4 (by decide) (by decide)
  obtain ⟨p, ep, hp⟩ := pick4 0 0 1 d5 d6 a6 b6
  obtain ⟨e, he⟩ : ∃ e : Nat, p = e := ⟨p.toNat, by omega⟩
  subst he
  refine ⟨(⟨x0, x1, x2, x3⟩, e), t6, ?_, ⟨c1, c2, c3, c4⟩, by simp only; omega, h6⟩
  obtain ⟨_, _, r0, _⟩ := h.ex
  obtain ⟨_, _, r1, _⟩ := h0.ex
  obtain ⟨_, _, r2, _⟩ := h1.ex
  obtain ⟨_, _, r3, _⟩ := h2.ex
  obtain ⟨_, _, r4, _⟩ := h3.ex
  obtain ⟨_, _, r5, _⟩ := h4.ex
  obtain ⟨_, _, r6, _⟩ := h5.ex
  subst r0 r1 r2 r3 r4 r5 r6
  have p9 : powC 10 9 = true := by rfl
  show n__law_number _ = .ret (.v (ln ⟨x0, x1, x2, x3⟩ e)) [t6]
  simp [n__law_number, den_at, b__law_number, List.replicate, p9, e0, ew, range4, sizeLine_eq, e1, e2, e3, e4, e5, e6, ep]
end W


set_option maxHeartbeats 1000000
namespace N4
theorem dv_ng (x : Q) : dv (ng x) = dv x := by
  rw [Bool.eq_iff_iff]
  simp only [dv, ng, Bool.and_eq_true, beq_iff_eq]
  omega
theorem dv_cj (x : Q) : dv (cj x) = dv x := by
  rw [Bool.eq_iff_iff]
  simp only [dv, cj, Bool.and_eq_true, beq_iff_eq]
  omega
theorem Cn.ng {u : F} (c : Cn u) : Cn (ng u.1, u.2) := by
  rcases c with c | c
  · exact .inl c
  · exact .inr (by rw [dv_ng]; exact c)
theorem Cn.cj {u : F} (c : Cn u) : Cn (cj u.1, u.2) := by
  rcases c with c | c
  · exact .inl c
  · exact .inr (by rw [dv_cj]; exact c)
theorem eq_ng {u v : F} (h : Eq2 u v) : Eq2 (ng u.1, u.2) (ng v.1, v.2) := by
  unfold Eq2 at *
  simp only [rtn_ng, h]
theorem eq_cj {u v : F} (h : Eq2 u v) : Eq2 (cj u.1, u.2) (cj v.1, v.2) := by
  unfold Eq2 at *
  simp only [rtn_cj, h]
theorem eq_ml {u v x y : F} (h : Eq2 u x) (k : Eq2 v y) : Eq2 (ml u.1 v.1, u.2 + v.2) (ml x.1 y.1, x.2 + y.2) := by
  unfold Eq2 at *
  simp only [rtn_ml2, h, k]
/-- a sum, over m powers -/
def sumAt (m : Nat) (u v : F) : F := (ad (rtn (m - u.2) u.1) (rtn (m - v.2) v.1), m)
theorem eq_sum {u v x y : F} {m n : Nat} (h : Eq2 u x) (k : Eq2 v y) (hu : u.2 ≤ m) (hv : v.2 ≤ m) (hx : x.2 ≤ n) (hy : y.2 ≤ n) : Eq2 (sumAt m u v) (sumAt n x y) := by
  have key : ∀ {u x : F}, Eq2 u x → u.2 ≤ m → x.2 ≤ n → rtn n (rtn (m - u.2) u.1) = rtn m (rtn (n - x.2) x.1) := fun {u x} h hu hx => by
    unfold Eq2 at h
    have e1 : rtn n (rtn (m - u.2) u.1) = rtn (n - x.2) (rtn (m - u.2) (rtn x.2 u.1)) := by
      rw [← rtn_add, ← rtn_add, ← rtn_add]
      congr 1
      omega
    rw [e1, h, ← rtn_add, ← rtn_add, ← rtn_add]
    congr 1
    omega
  unfold Eq2 sumAt
  simp only [rtn_ad, key h hu hx, key k hv hy]
theorem sum_ml (u v w : F) (m : Nat) : Eq2 (ml (sumAt m u v).1 w.1, m + w.2) (sumAt (m + w.2) (ml u.1 w.1, u.2 + w.2) (ml v.1 w.1, v.2 + w.2)) := by
  unfold Eq2 sumAt
  simp only
  have e1 : ∀ u : F, m + w.2 - (u.2 + w.2) = m - u.2 := fun u => by omega
  rw [e1, e1, ml_ad, rtn_ml, rtn_ml]
theorem sum_neg (m : Nat) (u : F) : (sumAt m u (ng u.1, u.2)).1 = zr := by
  unfold sumAt
  simp only [rtn_ng]
  generalize rtn (m - u.2) u.1 = y
  simp only [ad, ng, zr, Q.mk.injEq]
  omega
theorem nf_zr (n : Nat) : nf n zr = (zr, 0) := nf_of (.inl rfl) (by unfold Eq2; simp only [rtn_zr])
end N4
namespace W
open PySem PySem.Spec PyProof.Rows L2 DL N4
/-- x over the p-th power, p an integer -/
def Vi (u : F) (x : Q) (p : Int) : Prop := rtn p.toNat u.1 = rtn u.2 (rtn (-p).toNat x)
theorem exI_ok (x : Q) (p : Int) : Cn (exI x p) ∧ Vi (exI x p) x p := by
  unfold exI
  split
  · rename_i h
    refine ⟨.inl rfl, ?_⟩
    unfold Vi
    have : p.toNat = 0 := by omega
    rw [this] <;> rfl
  · rename_i h
    refine ⟨(nf_ok _ _).1, ?_⟩
    have := (nf_ok p.toNat x).2
    unfold Eq2 at this
    unfold Vi
    have e : (-p).toNat = 0 := by omega
    rw [e]
    exact this
theorem vi_same {u v : F} {x : Q} {e : Nat} {p : Int} (h : Eq2 u (x, 2 * e)) (k : Vi v u.1 (u.2 + p)) : Same v (rtn p.natAbs x, e + if 0 < p then p.natAbs else 0) := by
  unfold Eq2 at h
  unfold Vi at k
  unfold Same
  simp only at h ⊢
  refine rtn_inj (n := ((u.2 : Int) + p).toNat) ?_
  rw [rtn_comm, k]
  by_cases hp : 0 < p
  · rw [if_pos hp]
    have e1 : (-((u.2 : Int) + p)).toNat = 0 := by omega
    rw [e1]
    show rtn (2 * (e + p.natAbs)) (rtn v.2 u.1) = _
    have e2 : rtn (2 * (e + p.natAbs)) (rtn v.2 u.1) = rtn v.2 (rtn (2 * p.natAbs) (rtn (2 * e) u.1)) := by
      rw [← rtn_add, ← rtn_add, ← rtn_add]
      congr 1
      omega
    rw [e2, h, ← rtn_add, ← rtn_add, ← rtn_add, ← rtn_add]
    congr 1
    omega
  · rw [if_neg hp]
    have e2 : rtn (2 * (e + 0)) (rtn v.2 (rtn (-((u.2 : Int) + p)).toNat u.1)) = rtn v.2 (rtn (-((u.2 : Int) + p)).toNat (rtn (2 * e) u.1)) := by
      rw [← rtn_add, ← rtn_add, ← rtn_add, ← rtn_add]
      congr 1
      omega
    rw [e2, h, ← rtn_add, ← rtn_add, ← rtn_add, ← rtn_add]
    congr 1
    omega
theorem vi_back {u v w : F} {p : Int} (c : Cn u) (cw : Cn w) (k : Vi v u.1 (u.2 + p)) (l : Vi w v.1 (v.2 - p)) : w = u := by
  refine uniq cw c ?_
  unfold Eq2
  unfold Vi at k l
  refine rtn_inj (n := ((v.2 : Int) - p).toNat + ((u.2 : Int) + p).toNat) ?_
  have e1 : rtn (((v.2 : Int) - p).toNat + ((u.2 : Int) + p).toNat) (rtn u.2 w.1) = rtn (u.2 + ((u.2 : Int) + p).toNat) (rtn ((v.2 : Int) - p).toNat w.1) := by
    rw [← rtn_add, ← rtn_add]
    congr 1
    omega
  rw [e1, l]
  have e2 : rtn (u.2 + ((u.2 : Int) + p).toNat) (rtn w.2 (rtn (-((v.2 : Int) - p)).toNat v.1)) = rtn (u.2 + w.2 + (-((v.2 : Int) - p)).toNat) (rtn ((u.2 : Int) + p).toNat v.1) := by
    rw [← rtn_add, ← rtn_add, ← rtn_add]
    congr 1
    omega
  rw [e2, k, ← rtn_add, ← rtn_add, ← rtn_add]
  congr 1
  omega
theorem un_back (t : Int) (x : Q) : ml (un t) (ml x (un (0 - t))) = x := by
  have key : ∀ y z : Q, ml y z = ⟨1, 0, 0, 0⟩ → ml y (ml x z) = x := fun y z h => by
    rw [ml_comm x z, ← ml_assoc, h]
    simp only [ml]
    apply N4.ext <;> simp only [] <;> omega
  refine key _ _ ?_
  obtain h | h | h | h | h | h | h | h : t % 8 = 0 ∨ t % 8 = 1 ∨ t % 8 = 2 ∨ t % 8 = 3 ∨ t % 8 = 4 ∨ t % 8 = 5 ∨ t % 8 = 6 ∨ t % 8 = 7 := by omega
  all_goals
    have h1 : t % 4 = (t % 8) % 4 := by omega
    have h2 : (0 - t) % 8 = (8 - t % 8) % 8 := by omega
    have h3 : (0 - t) % 4 = (8 - t % 8) % 4 := by omega
    rw [h] at h1 h2 h3
    generalize 0 - t = r at *
    simp at h1 h2 h3
    simp [un, h, h1, h2, h3, ml]
end W


set_option maxHeartbeats 4000000
namespace W
open PySem PySem.Spec PyProof.Rows L2 DL N4
/-- a number of the law and what the program tells of it -/
structure Pr (u A : F) : Prop where
  bu : Bd 30 u.1
  pu : u.2 ≤ 5
  bA : Bd 30 A.1
  pA : A.2 ≤ 10
  c : Cn A
  e : Eq2 A (u.1, 2 * u.2)
theorem pr_of {u : F} (h : Bd 30 u.1) (k : u.2 ≤ 5) : Pr u (nf (2 * u.2) u.1) := by
  have := nf_le (2 * u.2) u.1
  exact ⟨h, k, h.nf _, by omega, (nf_ok _ _).1, (nf_ok _ _).2⟩
theorem nf_bd {n : Nat} {x : Q} {m : Nat} (h : Bd m x) : Bd m (nf n x).1 := h.nf n
theorem exI_bd {x : Q} {p : Int} {m : Nat} (h : Bd m x) (k : -40 ≤ p) : Bd (m + 40) (exI x p).1 := by
  unfold exI
  split
  · exact (h.rtn _).mono (by omega)
  · exact (h.nf _).mono (by omega)
theorem exI_le {x : Q} {p : Int} (k : p ≤ 1000) : (exI x p).2 ≤ 1000 := by
  unfold exI
  split
  · exact Nat.zero_le _
  · have := nf_le p.toNat x
    omega
theorem same_of {u v : F} (h : Eq2 u (v.1, 2 * v.2)) : Same u v := h
theorem check1 {u : F} (h : Bd 30 u.1) (p : Int) (hp : -6 ≤ p ∧ p ≤ 5) : ∃ X R : F, n_exact [I u.1.a, I u.1.b, I u.1.c, I u.1.d, I p] = .ret (.v (tf2 X)) [] ∧ n__law_root [.v (ln u.1 0), I p] = .ret (.v (lf R)) [] ∧ n__law_is [.v (tf2 X), .v (lf R)] = .ret (.v (.bl true)) [] := by
  obtain ⟨hp1, hp2⟩ := hp
  refine ⟨_, _, exact_eq u.1 p (by omega), root_eq (u.1, 0) p 30 h (by omega) (by omega), ?_⟩
  have k := exI_ok u.1 p
  have := exI_le (x := u.1) (p := p) (by omega)
  refine is_eq _ _ 70 40 k.1 (vi_same (u := (u.1, 0)) (x := u.1) (e := 0) (p := p) (Eq2.refl _) ?_) (exI_bd h (by omega)) ((h.rtn p.natAbs).mono (by omega)) (by omega) (by simp only; split <;> omega) (by omega) (by omega)
  have e : (((u.1, 0) : F).2 : Int) + p = p := by simp
  rw [e]
  exact k.2
theorem check2 {u A : F} (h : Pr u A) (p : Int) (hp : -6 ≤ p ∧ p ≤ 5) : ∃ Y R : F, n_scaled [.v (tf2 A), I p] = .ret (.v (tf2 Y)) [] ∧ n__law_root [.v (lf u), I p] = .ret (.v (lf R)) [] ∧ n__law_is [.v (tf2 Y), .v (lf R)] = .ret (.v (.bl true)) [] ∧ n_scaled [.v (tf2 Y), I (-p)] = .ret (.v (tf2 A)) [] := by
  obtain ⟨hp1, hp2⟩ := hp
  have hA := h.pA
  have hu := h.pu
  have k := exI_ok A.1 (A.2 + p)
  have le := exI_le (x := A.1) (p := A.2 + p) (by omega)
  have bY := exI_bd (x := A.1) (p := A.2 + p) h.bA (by omega)
  refine ⟨_, _, scaled_eq A.1 A.2 p (by omega), root_eq u p 30 h.bu (by omega) (by omega), ?_, ?_⟩
  · exact is_eq _ _ 70 40 k.1 (vi_same h.e k.2) bY ((h.bu.rtn p.natAbs).mono (by omega)) (by omega) (by simp only; split <;> omega) (by omega) (by omega)
  · have := scaled_eq (exI A.1 (A.2 + p)).1 (exI A.1 (A.2 + p)).2 (-p) (by omega)
    have k2 := exI_ok (exI A.1 (A.2 + p)).1 ((exI A.1 (A.2 + p)).2 - p)
    have e := vi_back h.c k2.1 k.2 k2.2
    have e2 : ((exI A.1 (A.2 + p)).2 : Int) + -p = (exI A.1 (A.2 + p)).2 - p := by omega
    rw [e2, e] at this
    exact this
theorem self_eq {A : F} (c : Cn A) (h : A.2 ≤ 1000) : n_exact [I A.1.a, I A.1.b, I A.1.c, I A.1.d, I A.2] = .ret (.v (tf2 A)) [] := by
  rw [exact_eq A.1 A.2 (by omega), exI_nat, nf_self c]
theorem check3 {u A v B' : F} (h : Pr u A) (k : Pr v B') : ∃ S P : F, n_add [.v (tf2 A), .v (tf2 B')] = .ret (.v (tf2 S)) [] ∧ n__law_plus [.v (lf u), .v (lf v)] = .ret (.v (lf P)) [] ∧ n__law_is [.v (tf2 S), .v (lf P)] = .ret (.v (.bl true)) [] ∧
    Cn S ∧ S.2 ≤ 10 ∧ Bd 50 S.1 ∧ Eq2 S (sumAt (max A.2 B'.2) A B') := by
  have h1 := h.pA
  have h2 := k.pA
  have h3 := h.pu
  have h4 := k.pu
  have n1 := nf_ok (sumN A B').2 (sumN A B').1
  have n2 := nf_le (sumN A B').2 (sumN A B').1
  have hm : (sumN A B').2 = max A.2 B'.2 := rfl
  have bS : Bd 50 (sumN A B').1 := (((h.bA.rtn _).mono (n := 40) (by omega)).ad ((k.bA.rtn _).mono (n := 40) (by omega))).mono (by omega)
  have e0 : Eq2 (nf (sumN A B').2 (sumN A B').1) (sumAt (max A.2 B'.2) A B') := n1.2
  have bP : Bd 50 (N4.ad (sm (2 ^ (max u.2 v.2 - u.2)) u.1) (sm (2 ^ (max u.2 v.2 - v.2)) v.1)) := by
    rw [← rtn_two, ← rtn_two]
    exact (((h.bu.rtn _).mono (n := 40) (by omega)).ad ((k.bu.rtn _).mono (n := 40) (by omega))).mono (by omega)
  refine ⟨_, _, add_eq A B' (by omega) (by omega), plus_eq u v 30 30 h.bu k.bu (by omega) (by omega), ?_, n1.1, by omega, bS.nf _, e0⟩
  refine is_eq _ _ 50 50 n1.1 ?_ (bS.nf _) bP (by omega) (by simp only; omega) (by omega) (by omega)
  refine same_of (e0.trans ?_)
  have := eq_sum (m := max A.2 B'.2) (n := 2 * max u.2 v.2) h.e k.e (by omega) (by omega) (by simp only; omega) (by simp only; omega)
  have e1 : ∀ a b : Nat, 2 * a - 2 * b = 2 * (a - b) := fun a b => by omega
  unfold sumAt at this
  simp only [e1, rtn_two] at this
  exact this
theorem times_at {A C : F} {m n : Nat} (h : Bd m A.1) (k : Bd n C.1) (hm : m ≤ 1000) (hn : n ≤ 1000) (hA : A.2 ≤ 1000) (hC : C.2 ≤ 1000) : ∃ M : F, n_times [.v (tf2 A), .v (tf2 C)] = .ret (.v (tf2 M)) [] ∧ Cn M ∧ M.2 ≤ A.2 + C.2 ∧ Bd (m + n + 2) M.1 ∧ Eq2 M (ml A.1 C.1, A.2 + C.2) :=
  ⟨_, times_eq A C m n h k (by omega) (by omega), (nf_ok _ _).1, nf_le _ _, (h.ml k).nf _, (nf_ok _ _).2⟩
theorem check4 {u A v B' : F} (h : Pr u A) (k : Pr v B') : ∃ S P : F, n_times [.v (tf2 A), .v (tf2 B')] = .ret (.v (tf2 S)) [] ∧ n__law_by [.v (lf u), .v (lf v)] = .ret (.v (lf P)) [] ∧ n__law_is [.v (tf2 S), .v (lf P)] = .ret (.v (.bl true)) [] := by
  have h1 := h.pA
  have h2 := k.pA
  have h3 := h.pu
  have h4 := k.pu
  obtain ⟨M, e1, c, l, b, q⟩ := times_at h.bA k.bA (by omega) (by omega) (by omega) (by omega)
  have e2 : n__law_by [.v (lf u), .v (lf v)] = .ret (.v (lf (ml u.1 v.1, u.2 + v.2))) [] := by_eq u.1 v.1 u.2 v.2 30 30 h.bu k.bu (by omega)
  refine ⟨M, _, e1, e2, ?_⟩
  refine is_eq _ _ 62 62 c ?_ b (h.bu.ml k.bu) (by omega) (by simp only; omega) (by omega) (by omega)
  refine same_of (q.trans ?_)
  have := eq_ml h.e k.e
  simp only at this ⊢
  have e1 : 2 * u.2 + 2 * v.2 = 2 * (u.2 + v.2) := by omega
  rw [e1] at this
  exact this
theorem check5 {u A : F} (h : Pr u A) : n__law_is [.v (tf2 (N4.ng A.1, A.2)), .v (lf (N4.ng u.1, u.2))] = .ret (.v (.bl true)) [] ∧ n__law_is [.v (tf2 (N4.cj A.1, A.2)), .v (lf (N4.cj u.1, u.2))] = .ret (.v (.bl true)) [] := by
  have h1 := h.pA
  have h3 := h.pu
  exact ⟨is_eq _ _ 30 30 h.c.ng (same_of (eq_ng h.e)) h.bA.ng h.bu.ng (by simp only; omega) (by simp only; omega) (by omega) (by omega), is_eq _ _ 30 30 h.c.cj (same_of (eq_cj h.e)) h.bA.cj h.bu.cj (by simp only; omega) (by simp only; omega) (by omega) (by omega)⟩
theorem add_at {A C : F} {m : Nat} (h : Bd m A.1) (k : Bd m C.1) (hm : m ≤ 1000) (hA : A.2 ≤ 1000) (hC : C.2 ≤ 1000) : ∃ M : F, n_add [.v (tf2 A), .v (tf2 C)] = .ret (.v (tf2 M)) [] ∧ Cn M ∧ M.2 ≤ max A.2 C.2 ∧ Eq2 M (sumAt (max A.2 C.2) A C) :=
  ⟨_, add_eq A C (by omega) (by omega), (nf_ok _ _).1, nf_le _ _, (nf_ok _ _).2⟩
theorem check6 {u A v B' x C S : F} (h : Pr u A) (k : Pr v B') (l : Pr x C) (cS : Cn S) (lS : S.2 ≤ 10) (bS : Bd 50 S.1) (eS : Eq2 S (sumAt (max A.2 B'.2) A B')) :
    ∃ M1 M2 T : F, n_times [.v (tf2 A), .v (tf2 C)] = .ret (.v (tf2 M1)) [] ∧ n_times [.v (tf2 B'), .v (tf2 C)] = .ret (.v (tf2 M2)) [] ∧ n_add [.v (tf2 M1), .v (tf2 M2)] = .ret (.v (tf2 T)) [] ∧ n_times [.v (tf2 S), .v (tf2 C)] = .ret (.v (tf2 T)) [] := by
  have h1 := h.pA
  have h2 := k.pA
  have h3 := l.pA
  obtain ⟨M1, e1, c1, l1, b1, q1⟩ := times_at h.bA l.bA (by omega) (by omega) (by omega) (by omega)
  obtain ⟨M2, e2, c2, l2, b2, q2⟩ := times_at k.bA l.bA (by omega) (by omega) (by omega) (by omega)
  obtain ⟨T, e3, c3, l3, q3⟩ := add_at b1 b2 (by omega) (by omega) (by omega)
  obtain ⟨T2, e4, c4, l4, b4, q4⟩ := times_at bS l.bA (by omega) (by omega) (by omega) (by omega)
  have e : T2 = T := by
    refine uniq c4 c3 ((q4.trans ?_).trans q3.symm)
    have r1 : Eq2 (ml S.1 C.1, S.2 + C.2) (ml (sumAt (max A.2 B'.2) A B').1 C.1, max A.2 B'.2 + C.2) := eq_ml eS (Eq2.refl C)
    have r2 := sum_ml A B' C (max A.2 B'.2)
    have r3 := eq_sum (m := max M1.2 M2.2) (n := max A.2 B'.2 + C.2) q1 q2 (by omega) (by omega) (by simp only; omega) (by simp only; omega)
    exact (r1.trans r2).trans r3.symm
  rw [e] at e4
  exact ⟨M1, M2, T, e1, e2, e3, e4⟩
theorem check7 {u A : F} (h : Pr u A) : n_add [.v (tf2 A), .v (tf2 (N4.ng A.1, A.2))] = .ret (.v (tp zr 0)) [] := by
  have h1 := h.pA
  rw [add_eq A (N4.ng A.1, A.2) (by omega) (by simp only; omega)]
  have e : (sumN A (N4.ng A.1, A.2)).1 = zr := by
    have := sum_neg (max A.2 A.2) A
    exact this
  rw [e, nf_zr]
  rfl
theorem bd_un (t : Int) : Bd 1 (un t) := by
  unfold un
  simp only
  by_cases h : t % 8 < 4
  · simp only [if_pos h]
    split
    · exact ⟨by decide, by decide, by decide, by decide⟩
    · split
      · exact ⟨by decide, by decide, by decide, by decide⟩
      · split <;> exact ⟨by decide, by decide, by decide, by decide⟩
  · simp only [if_neg h]
    split
    · exact ⟨by decide, by decide, by decide, by decide⟩
    · split
      · exact ⟨by decide, by decide, by decide, by decide⟩
      · split <;> exact ⟨by decide, by decide, by decide, by decide⟩
theorem check8 {u A : F} (h : Pr u A) (t : Int) : n__law_is [.v (tp (un t) 0), .v (ln (un t) 0)] = .ret (.v (.bl true)) [] ∧ ∃ T : F, n_times [.v (tf2 A), .v (tp (un (-t)) 0)] = .ret (.v (tf2 T)) [] ∧ n_times [.v (tp (un t) 0), .v (tf2 T)] = .ret (.v (tf2 A)) [] := by
  have h1 := h.pA
  refine ⟨is_eq (un t, 0) (un t, 0) 1 1 (.inl rfl) rfl (bd_un t) (bd_un t) (by simp) (by simp) (by decide) (by decide), ?_⟩
  obtain ⟨T, e1, c1, l1, b1, q1⟩ := times_at (C := (un (-t), 0)) h.bA (bd_un (-t)) (by omega) (by omega) (by omega) (by simp)
  simp only at l1
  obtain ⟨T2, e2, c2, l2, b2, q2⟩ := times_at (A := (un t, 0)) (bd_un t) b1 (by omega) (by omega) (by simp) (by omega)
  refine ⟨T, e1, ?_⟩
  have e : T2 = A := by
    refine uniq c2 h.c (q2.trans ?_)
    have := eq_ml (Eq2.refl (un t, 0)) q1
    refine this.trans ?_
    have e3 : (0 : Int) - t = -t := by omega
    have := un_back t A.1
    rw [e3] at this
    simp only
    rw [this]
    unfold Eq2
    simp
  rw [e] at e2
  exact e2
end W


set_option maxHeartbeats 1000000
namespace W
open PySem PySem.Spec PyProof.Rows L2 DL N4 Bt
theorem atI_of {α : Type} {ds : List α} {j : Nat} {d : α} (h : ds[j]? = some d) : atI ds (j : Int) = some d := by
  obtain ⟨hj, _⟩ := List.getElem?_eq_some_iff.mp h
  unfold atI ixN
  rw [if_pos (by omega), if_pos (by omega)]
  exact h
theorem atI0 {α : Type} {a : α} {ds : List α} : atI (a :: ds) 0 = some a := atI_of (j := 0) rfl
theorem atI1 {α : Type} {a b : α} {ds : List α} : atI (a :: b :: ds) 1 = some b := atI_of (j := 1) rfl
theorem xor_int : ∀ s < 6, ∀ i < 64, Builtin.bitXor ((i : Nat) : Int) ((2 ^ s : Nat) : Int) = ((i ^^^ 2 ^ s : Nat) : Int) := by decide +kernel
theorem and_int : ∀ s < 6, ∀ i < 64, (Builtin.bitAnd ((i : Nat) : Int) ((2 ^ s : Nat) : Int) != 0) = (bit s i == 1) := by decide +kernel
theorem shr_int : ∀ s < 6, ∀ i < 64, (Builtin.bitAnd (((i : Nat) : Int) / 2 ^ s) 1 != 0) = (bit s i == 1) := by decide +kernel
theorem xor_lt : ∀ n < 6, ∀ s < n, ∀ i < 2 ^ n, i ^^^ 2 ^ s < 2 ^ n := by decide +kernel
/-- a state: qubits, amplitudes -/
abbrev st (k : TK) (qs : List Int) (as : List F) : D := .tup [.tg k (qs.map .int), .tup (as.map tf2)]
theorem shift_eq {qs : List Int} {q : Int} {a : Nat} (as : List F) (hn : qs.Nodup) (ha : qs[a]? = some q) (hz : qs.length < 64) : n_shift_of [.v (st .f qs as), I q] = .ret (I ((qs.length - 1 - a : Nat) : Int)) [] := by
  have hl := (List.getElem?_eq_some_iff.mp ha).1
  have e : ((qs.length : Int) - 1 - (a : Int)) = ((qs.length - 1 - a : Nat) : Int) := by omega
  have hi := idx_int (k := .f) hn ha
  simp [n_shift_of, den_at, b_shift_of, List.replicate, atI, ixN, hi, e, -idxO_t]
def z0 : F := (zr, 0)
def pNeg (A : F) : F := (ng A.1, A.2)
def pAdd (A C : F) : F := nf (sumN A C).2 (sumN A C).1
def pMul (A C : F) : F := nf (A.2 + C.2) (ml A.1 C.1)
def pSc (A : F) : F := nf (A.2 + 1) A.1
theorem pAdd_eq {A C : F} (h : A.2 < 2 ^ 28) (k : C.2 < 2 ^ 28) : n_add [.v (tf2 A), .v (tf2 C)] = .ret (.v (tf2 (pAdd A C))) [] := add_eq A C h k
theorem pNeg_eq (A : F) : n_negate [.v (tf2 A)] = .ret (.v (tf2 (pNeg A))) [] := neg_eq A.1 A.2
theorem pSc_eq {A : F} (h : A.2 < 2 ^ 28) : n_scaled [.v (tf2 A), I 1] = .ret (.v (tf2 (pSc A))) [] := by
  rw [scaled_eq A.1 A.2 1 (by omega)]
  unfold pSc
  rw [show ((A.2 : Int) + 1) = ((A.2 + 1 : Nat) : Int) by omega, exI_nat]
theorem pAdd_le (A C : F) : (pAdd A C).2 ≤ max A.2 C.2 := nf_le _ _
theorem shl1 {s : Nat} (h : s < 64) : shlO [I 1, I (s : Int)] = some (I ((2 ^ s : Nat) : Int)) := by
  rw [shl_at (shlC_of (i := 1) (n := 1) (by decide) (by omega))]
  have : (1 : Int) * 2 ^ s = ((2 ^ s : Nat) : Int) := by
    rw [Int.one_mul]; norm_cast
  rw [this]
theorem shl1' {s : Nat} (h : s < 64) : i2 shlC (fun i j => D.int (i * 2 ^ j.toNat)) [I 1, I (s : Int)] = some (I ((2 ^ s : Nat) : Int)) := shl1 h
theorem getD_get {as : List F} {i : Nat} (h : i < as.length) : as[i]? = some (as.getD i z0) := by
  rw [List.getD_eq_getElem?_getD, List.getElem?_eq_getElem h]
  rfl
theorem map_get {as : List F} {i : Nat} (h : i < as.length) : (as.map tf2)[i]? = some (tf2 (as.getD i z0)) := by
  rw [List.getElem?_map, getD_get h]
  rfl
/-- .. of each place -/
def each (n : Nat) (f : Nat → F) : List F := (List.range n).map f
theorem each_len (n : Nat) (f : Nat → F) : (each n f).length = n := by simp [each]
theorem each_get {n i : Nat} (f : Nat → F) (h : i < n) : (each n f)[i]? = some (f i) := by simp [each, h]
theorem each_getD {n i : Nat} (f : Nat → F) (h : i < n) : (each n f).getD i z0 = f i := by rw [List.getD_eq_getElem?_getD, each_get f h]; rfl
theorem each_take {n i : Nat} (f : Nat → F) (h : i < n) : (each n f).take (i + 1) = (each n f).take i ++ [f i] := by
  rw [List.take_add_one, each_get f h]
  rfl
def hadF (s : Nat) (as : List F) (i : Nat) : F := pSc (if bit s i = 1 then pAdd (as.getD (i ^^^ 2 ^ s) z0) (pNeg (as.getD i z0)) else pAdd (as.getD i z0) (as.getD (i ^^^ 2 ^ s) z0))
end W


set_option maxHeartbeats 1000000
namespace W
open PySem PySem.Spec PyProof.Rows L2 DL N4 Bt
theorem enum_get {as : List F} {i : Nat} {d : D} (h : (enumD (as.map tf2))[i]? = some d) : i < as.length ∧ d = .tup [.int (i : Int), tf2 (as.getD i z0)] := by
  have hi : i < as.length := by
    have := (List.getElem?_eq_some_iff.mp h).1
    rw [enumD_len, List.length_map] at this
    exact this
  rw [enumD_get (map_get hi)] at h
  cases h
  exact ⟨hi, rfl⟩
abbrev sl (as : List F) : List Sl := as.map fun A => .v (tf2 A)
theorem sl_vs (as : List F) : vsOf (sl as) = some (as.map tf2) := by
  have := vsOf_map (as.map tf2)
  rw [List.map_map] at this
  exact this
theorem tup_sl (as : List F) : tupleO [.o (sl as)] = some (.v (.tup (as.map tf2))) := by rw [tupleO_o', sl_vs]; rfl
theorem sl_snoc {n i : Nat} (f : Nat → F) (h : i < n) : sl ((each n f).take i) ++ [.v (tf2 (f i))] = sl ((each n f).take (i + 1)) := by
  rw [each_take f h, sl, sl, List.map_append]
  rfl
theorem sl_len {n i : Nat} (f : Nat → F) (h : i < n) : (sl ((each n f).take i)).length = i := by simp [each]; omega
theorem pow6 {n : Nat} (h : n < 6) : 2 ^ n ≤ 32 := Nat.pow_le_pow_right (n := 2) (by decide) (show n ≤ 5 by omega)
end W


set_option maxHeartbeats 1000000
namespace W
open PySem PySem.Spec PyProof.Rows L2 DL N4 Bt
/-- not too great -/
structure Sm (L : Nat) (A : F) : Prop where
  b : Bd L A.1
  p : A.2 ≤ L
theorem pMul_eq {A C : F} {L M : Nat} (h : Sm L A) (k : Sm M C) (hL : L ≤ 1000000) (hM : M ≤ 1000000) : n_times [.v (tf2 A), .v (tf2 C)] = .ret (.v (tf2 (pMul A C))) [] :=
  times_eq A C L M h.b k.b (by omega) (by have := h.p; have := k.p; omega)
theorem sm_un (t : Int) : Sm 1 (un t, 0) := ⟨bd_un t, Nat.zero_le _⟩
def turnF (t : Int) (s : Nat) (as : List F) (i : Nat) : F := if bit s i = 1 then pMul (un t, 0) (as.getD i z0) else as.getD i z0
theorem shrO_at {i s : Nat} : shrO [I (i : Int), I (s : Int)] = some (I ((i : Int) / 2 ^ s)) := by
  show i2 shrC _ _ = _
  rw [i2_int, if_pos (by unfold shrC; exact decide_eq_true (by omega))]
  rfl
theorem tru_bit {s i : Nat} (hs : s < 6) (hi : i < 64) (o : Opd) (e : DL.Env) (h : evA [o] e = .ok [some (I (Builtin.bitAnd ((i : Int) / 2 ^ s) 1))] e) (ho : ∀ f, o = .ex f → True) (hx : ∃ f, o = .ex f) : truA o e = .ok (bit s i == 1) e := by
  obtain ⟨f, rfl⟩ := hx
  rw [truA_at, h, Rs.bind_ok, ← shr_int s hs i hi]
  rfl
theorem get_sm {as : List F} {L i : Nat} (h : ∀ A ∈ as, Sm L A) (hi : i < as.length) : Sm L (as.getD i z0) := h _ (List.mem_of_getElem? (getD_get hi))
theorem l0_turn_eq {X Q : Sl} {as : List F} {n s i L : Nat} {t : Int} (hn : n < 6) (hs : s < n) (hl : as.length = 2 ^ n) (hi : i < 2 ^ n) (hL : L ≤ 1000000) (hsm : ∀ A ∈ as, Sm L A) (T : Sl) (acc : List Sl) (hacc : acc.length < 64) :
    l0_turn [X, Q, T, I (s : Int), .v (tp (un t) 0), .o acc, I (i : Int), .v (tf2 (as.getD i z0))] = .ok .nx [X, Q, T, I (s : Int), .v (tp (un t) 0), .o (acc ++ [.v (tf2 (turnF t s as i))]), I (i : Int), .v (tf2 (as.getD i z0))] := by
  have h64 := pow6 hn
  have e2 := shr_int s (by omega) i (by omega)
  have hA := get_sm hsm (i := i) (by omega)
  have z1 := pMul_eq (sm_un t) hA (by decide) hL
  have z2 := shrO_at (i := i) (s := s)
  unfold turnF
  generalize as.getD i z0 = A at *
  generalize ((i : Int) / 2 ^ s) = J at *
  generalize (i : Int) = I' at *
  have sz : acc.length < sizeLine := by rw [sizeLine_eq]; omega
  have z1 : n_times [.v (tp (un t) 0), .v (tf2 A)] = .ret (.v (tf2 (pMul (un t, 0) A))) [] := z1
  by_cases hb : bit s i = 1
  · have hb' : (bit s i == 1) = true := by rw [hb]; rfl
    rw [hb'] at e2
    have h0 : ¬ Builtin.bitAnd J 1 = 0 := by simpa using e2
    rw [if_pos hb]
    generalize pMul (un t, 0) A = R at *
    simp [l0_turn, z2, h0, z1, DL.listAt, appO, sz]
  · have hb' : (bit s i == 1) = false := by simpa using hb
    rw [hb'] at e2
    have h0 : Builtin.bitAnd J 1 = 0 := by simpa using e2
    rw [if_neg hb]
    simp [l0_turn, z2, h0, DL.listAt, appO, sz]
theorem turn_eq {qs : List Int} {as : List F} {q t : Int} {a n L : Nat} (hq : qs.Nodup) (ha : qs[a]? = some q) (hn : qs.length = n) (h6 : n < 6) (hl : as.length = 2 ^ n) (hL : L ≤ 1000000) (hsm : ∀ A ∈ as, Sm L A) :
    n_turn [.v (st .f qs as), I q, I t] = .ret (.v (st .f qs (each (2 ^ n) (turnF t (n - 1 - a) as)))) [] := by
  have hal := (List.getElem?_eq_some_iff.mp ha).1
  have h1 := shift_eq as hq ha (by omega)
  rw [hn] at h1
  have h64 := pow6 h6
  have hu := unit_eq t
  obtain ⟨e2, h3, s4, s5, h4⟩ := forS_inv (tg := tgSeq (tgCons (tgN 6) (tgCons (tgN 7) tgNil))) (body := l0_turn) (fun m e => ∃ s4 s5, e = [.v (st .f qs as), I q, I t, I ((n - 1 - a : Nat) : Int), .v (tp (un t) 0), .o (sl ((each (2 ^ n) (turnF t (n - 1 - a) as)).take m)), s4, s5])
    (enumD (as.map tf2)) 0 [.v (st .f qs as), I q, I t, I ((n - 1 - a : Nat) : Int), .v (tp (un t) 0), .o [], .u, .u] ⟨.u, .u, rfl⟩ (fun i d e hd ⟨s4, s5, he⟩ => by
      obtain ⟨hi, rfl⟩ := enum_get hd
      subst he
      have hi : i < 2 ^ n := by omega
      rw [Nat.zero_add]
      refine ⟨_, _, rfl, l0_turn_eq h6 (by omega) hl hi hL hsm (I t) _ (by rw [sl_len _ hi]; omega), ?_⟩
      rw [← sl_snoc _ hi]
      exact ⟨_, _, rfl⟩)
  subst h4
  have hlen : 0 + (enumD (as.map tf2)).length = 2 ^ n := by rw [enumD_len, List.length_map, hl, Nat.zero_add]
  rw [hlen, List.take_of_length_le (by rw [each_len]; omega)] at h3
  have ht := tup_sl (each (2 ^ n) (turnF t (n - 1 - a) as))
  generalize each (2 ^ n) (turnF t (n - 1 - a) as) = out at *
  generalize ((n - 1 - a : Nat) : Int) = S2 at *
  simp [n_turn, den_at, b_turn, List.replicate, h1, hu, atI0, atI1, h3, ht]
theorem each_sm {n L : Nat} {f : Nat → F} (h : ∀ i < n, Sm L (f i)) : ∀ A ∈ each n f, Sm L A := fun A hA => by
  obtain ⟨i, hi, rfl⟩ := List.mem_map.mp hA
  exact h i (List.mem_range.mp hi)
theorem pauli_z_eq {qs : List Int} {as : List F} {q : Int} {a n L : Nat} (hq : qs.Nodup) (ha : qs[a]? = some q) (hn : qs.length = n) (h6 : n < 6) (hl : as.length = 2 ^ n) (hL : L ≤ 1000000) (hsm : ∀ A ∈ as, Sm L A) :
    n_pauli_z [.v (st .f qs as), I q] = .ret (.v (st .f qs (each (2 ^ n) (turnF 4 (n - 1 - a) as)))) [] := by
  have h := turn_eq (t := 4) hq ha hn h6 hl hL hsm
  simp [n_pauli_z, den_at, b_pauli_z, List.replicate, h]
/-! sizes -/
theorem sm_mul {A C : F} {L M N : Nat} (h : Sm L A) (k : Sm M C) (hN : L + M + 2 ≤ N) : Sm N (pMul A C) := by
  have h1 := h.p
  have h2 := k.p
  exact ⟨(((h.b.ml k.b).mono hN).nf _), Nat.le_trans (nf_le _ _) (by omega)⟩
theorem Sm.mono {A : F} {L N : Nat} (h : Sm L A) (le : L ≤ N) : Sm N A := ⟨h.b.mono le, Nat.le_trans h.p le⟩
theorem sm_add {A C : F} {L N : Nat} (h : Sm L A) (k : Sm L C) (hN : 2 * L + 1 ≤ N) : Sm N (pAdd A C) := by
  have h1 := h.p
  have h2 := k.p
  refine ⟨Bd.nf _ ?_, Nat.le_trans (pAdd_le A C) (by omega)⟩
  exact (((h.b.rtn _).mono (n := 2 * L) (by omega)).ad ((k.b.rtn _).mono (n := 2 * L) (by omega))).mono (by omega)
theorem sm_neg {A : F} {L : Nat} (h : Sm L A) : Sm L (pNeg A) := ⟨h.b.ng, h.p⟩
theorem sm_sc {A : F} {L N : Nat} (h : Sm L A) (hN : L + 1 ≤ N) : Sm N (pSc A) := ⟨(h.b.mono (by omega)).nf _, Nat.le_trans (nf_le _ _) (by have := h.p; omega)⟩
theorem sm_turn {t : Int} {s i L N : Nat} {as : List F} (h : ∀ A ∈ as, Sm L A) (hi : i < as.length) (hN : L + 3 ≤ N) : Sm N (turnF t s as i) := by
  have hA := get_sm h hi
  unfold turnF
  split
  · exact sm_mul (sm_un t) hA (by omega)
  · exact hA.mono (by omega)
theorem sm_had {s i L N n : Nat} {as : List F} (h : ∀ A ∈ as, Sm L A) (hn : n < 6) (hl : as.length = 2 ^ n) (hs : s < n) (hi : i < 2 ^ n) (hN : 2 * L + 2 ≤ N) : Sm N (hadF s as i) := by
  have hA := get_sm h (i := i) (by omega)
  have hx := xor_lt n hn s hs i hi
  have hC := get_sm h (i := i ^^^ 2 ^ s) (by omega)
  unfold hadF
  refine sm_sc (L := 2 * L + 1) ?_ (by omega)
  split
  · exact sm_add hC (sm_neg hA) (by omega)
  · exact sm_add hA hC (by omega)
def xF (s : Nat) (as : List F) (i : Nat) : F := as.getD (i ^^^ 2 ^ s) z0
theorem pauli_x_eq {qs : List Int} {as : List F} {q : Int} {a n : Nat} (hq : qs.Nodup) (ha : qs[a]? = some q) (hn : qs.length = n) (h6 : n < 6) (hl : as.length = 2 ^ n) :
    n_pauli_x [.v (st .f qs as), I q] = .ret (.v (st .f qs (each (2 ^ n) (xF (n - 1 - a) as)))) [] := by
  have hal := (List.getElem?_eq_some_iff.mp ha).1
  have h1 := shift_eq as hq ha (by omega)
  rw [hn] at h1
  have h2 := shl1 (s := n - 1 - a) (by omega)
  have h64 := pow6 h6
  obtain ⟨rs, e2, h3, k1, k2, k3⟩ := lcG_inv (tg := tgN 3) (f := e0_pauli_x) (own := [3]) (fun _ e => e = [.v (st .f qs as), I q, I ((2 ^ (n - 1 - a) : Nat) : Int), .u]) (fun i r => r = .v (tf2 (xF (n - 1 - a) as i))) (rangeD 0 (2 ^ n)) 0 []
    [.v (st .f qs as), I q, I ((2 ^ (n - 1 - a) : Nat) : Int), .u] rfl (fun i d e hd he => by
      subst he
      rw [Nat.zero_add]
      have hd2 : i < 2 ^ n ∧ d = .int (i : Int) := by
        unfold rangeD at hd
        rw [List.getElem?_map] at hd
        obtain ⟨x, hx, rfl⟩ := Option.map_eq_some_iff.mp hd
        obtain ⟨hi, e⟩ := List.getElem?_eq_some_iff.mp hx
        rw [List.getElem_range] at e
        subst e
        rw [List.length_range] at hi
        exact ⟨hi, by simp⟩
      obtain ⟨hi, rfl⟩ := hd2
      have hx := xor_lt n h6 (n - 1 - a) (by omega) i hi
      have e1 := xor_int (n - 1 - a) (by omega) i (by omega)
      have g1 := atI_of (map_get (as := as) (i := i ^^^ 2 ^ (n - 1 - a)) (by omega))
      refine ⟨_, .v (tf2 (xF (n - 1 - a) as i)), [.v (st .f qs as), I q, I ((2 ^ (n - 1 - a) : Nat) : Int), I (i : Int)], rfl, ?_, rfl, rfl⟩
      unfold xF
      generalize as.getD (i ^^^ 2 ^ (n - 1 - a)) z0 = A at *
      generalize ((i ^^^ 2 ^ (n - 1 - a) : Nat) : Int) = J' at *
      generalize ((2 ^ (n - 1 - a) : Nat) : Int) = S2 at *
      generalize (i : Int) = I' at *
      simp [e0_pauli_x, atI1, e1, g1])
  subst k3
  have hrs : rs = sl (each (2 ^ n) (xF (n - 1 - a) as)) := by
    refine List.ext_getElem? fun i => ?_
    by_cases hi : i < 2 ^ n
    · have hl2 : i < rs.length := by rw [k1]; simp [rangeD]; exact hi
      have := k2 i _ (List.getElem?_eq_getElem hl2)
      rw [Nat.zero_add] at this
      rw [List.getElem?_eq_getElem hl2, this, sl, List.getElem?_map, each_get _ hi]
      rfl
    · rw [List.getElem?_eq_none (by rw [k1]; simp [rangeD]; omega), List.getElem?_eq_none (by simp [sl, each]; omega)]
  subst hrs
  rw [List.nil_append] at h3
  have ht := tup_sl (each (2 ^ n) (xF (n - 1 - a) as))
  have hr : rngB ((as.length : Nat) : Int) = true := rngB_nat (by omega)
  have hsz : (rangeD 0 (2 ^ n)).length ≤ sizeLine := by rw [sizeLine_eq]; simp [rangeD]; omega
  generalize each (2 ^ n) (xF (n - 1 - a) as) = out at *
  have hlt : ((as.length : Nat) : Int).toNat = 2 ^ n := by omega
  generalize hS : ((2 ^ (n - 1 - a) : Nat) : Int) = S2 at *
  generalize hM : ((as.length : Nat) : Int) = M at *
  simp [n_pauli_x, den_at, b_pauli_x, List.replicate, h1, h2, hS, hM, atI0, atI1, hr, hlt, hsz, h3, ht]
end W


set_option maxHeartbeats 1000000
namespace W
open PySem PySem.Spec PyProof.Rows L2 DL N4 Bt
theorem range_get {n i : Nat} {d : D} (hd : (rangeD 0 n)[i]? = some d) : i < n ∧ d = .int (i : Int) := by
  unfold rangeD at hd
  rw [List.getElem?_map] at hd
  obtain ⟨x, hx, rfl⟩ := Option.map_eq_some_iff.mp hd
  obtain ⟨hi, e⟩ := List.getElem?_eq_some_iff.mp hx
  rw [List.getElem_range] at e
  subst e
  rw [List.length_range] at hi
  exact ⟨hi, by simp⟩
theorem range_len {lo : Int} {n : Nat} : (rangeD lo n).length = n := by simp [rangeD]
/-- what a comprehension over a range gives -/
theorem rs_sl {n : Nat} {f : Nat → F} {rs : List Sl} (k1 : rs.length = (rangeD 0 n).length) (k2 : ∀ (i : Nat) (r : Sl), rs[i]? = some r → r = .v (tf2 (f i))) : rs = sl (each n f) := by
  rw [range_len] at k1
  refine List.ext_getElem? fun i => ?_
  by_cases hi : i < n
  · have hl2 : i < rs.length := by omega
    rw [List.getElem?_eq_getElem hl2, k2 i _ (List.getElem?_eq_getElem hl2), sl, List.getElem?_map, each_get _ hi]
    rfl
  · rw [List.getElem?_eq_none (by omega), List.getElem?_eq_none (by simp [sl, each]; omega)]
/-! controlled Z -/
def czF (s u : Nat) (as : List F) (i : Nat) : F := if bit s i = 1 ∧ bit u i = 1 then pNeg (as.getD i z0) else as.getD i z0
def frF (s : Nat) (as : List F) (i : Nat) : F := pSc (as.getD (rmb s i) z0)
theorem rm_int : ∀ s < 6, ∀ i < 64, (((i : Nat) : Int) / 2 ^ (s + 1)) * 2 ^ s + ((i : Nat) : Int) % ((2 ^ s : Nat) : Int) = ((rmb s i : Nat) : Int) ∧ (0 : Int) < ((2 ^ s : Nat) : Int) := by decide +kernel
theorem shrO_at1 {i s : Nat} : shrO [I (i : Int), I ((s : Int) + 1)] = some (I ((i : Int) / 2 ^ (s + 1))) := by
  show i2 shrC _ _ = _
  rw [i2_int, if_pos (by unfold shrC; exact decide_eq_true (by omega))]
  rfl
theorem shl_small {i : Int} {s : Nat} (hi : i.natAbs < 2 ^ 20) (hs : s < 64) : shlO [I i, I (s : Int)] = some (I (i * 2 ^ s)) := shl_at (shlC_of hi (by omega))
end W


set_option maxHeartbeats 1000000
namespace W
open PySem PySem.Spec PyProof.Rows L2 DL N4 Bt
theorem srt_len (ns : List Int) : (srt ns).length = ns.length := (srt_perm ns).length_eq
theorem srt_nodup {ns : List Int} (h : ns.Nodup) : (srt ns).Nodup := (srt_perm ns).nodup_iff.mpr h
theorem snoc_nodup {qs : List Int} {q : Int} (h : qs.Nodup) (hq : q ∉ qs) : (qs ++ [q]).Nodup := by
  refine List.nodup_append.mpr ⟨h, by simp, fun a ha b hb e => ?_⟩
  rw [List.mem_singleton.mp hb] at e
  exact hq (e ▸ ha)
theorem find_at {ns : List Int} {q : Int} (h : q ∈ ns) : ∃ a : Nat, ns[a]? = some q := List.getElem?_of_mem h
theorem srt_ints (ns : List Int) : srtO [.v (.tup (ns.map .int))] = some (.o ((srt ns).map fun i => .v (.int i))) := by
  rw [srtO_tup, intsD_map]
  rfl
theorem tupF_ints (ns : List Int) : tupleF [.o (ns.map fun i => .v (.int i))] = some (.v (.tg .f (ns.map .int))) := by
  rw [tupleF_o, vsOf_ints]
  rfl
end W
namespace W
open PySem PySem.Spec PyProof.Rows L2 DL N4 Bt
/-! basis states -/
def oneF : F := (⟨1, 0, 0, 0⟩, 0)
def basF (m : Int) (i : Nat) : F := if (i : Int) = m then oneF else z0
end W


set_option maxHeartbeats 1000000
namespace W
open PySem PySem.Spec PyProof.Rows L2 DL N4 Bt
abbrev kt (r : List Nat) : D := .tg .r (df r)
abbrev fd (n : Nat) : List D := (figs n).map kt
theorem kt_snoc (r : List Nat) (f : Nat) (hr : r.length < 100) : addRO [.v (kt r), .v (.tg .r [.int (f : Int)])] = some (.v (kt (r ++ [f]))) := by
  rw [addRO_at, if_pos ⟨by rw [sizeLine_eq]; simp [df]; omega, fun _ => rfl, fun _ _ => rfl⟩]
  simp [df]
def dbl (rs : List (List Nat)) : List (List Nat) := rs.flatMap fun r => [r ++ [0], r ++ [1]]
theorem dbl_len (rs : List (List Nat)) : (dbl rs).length = 2 * rs.length := by
  induction rs with
  | nil => rfl
  | cons r rs ih =>
    show ([r ++ [0], r ++ [1]] ++ dbl rs).length = _
    rw [List.length_append, ih, List.length_cons]
    simp
    omega
theorem dbl_snoc (rs : List (List Nat)) (r : List Nat) : dbl (rs ++ [r]) = dbl rs ++ [r ++ [0], r ++ [1]] := by simp [dbl]
abbrev sk (rs : List (List Nat)) : List Sl := rs.map fun r => .v (kt r)
theorem sk_vs (rs : List (List Nat)) : vsOf (sk rs) = some (rs.map kt) := by
  have := vsOf_map (rs.map kt)
  rw [List.map_map] at this
  exact this
theorem sk_d (rs : List (List Nat)) : toDs (sk rs) = some (rs.map kt) := by
  have := toDs_v (rs.map kt)
  rw [List.map_map] at this
  exact this
theorem l0_fig_eq {X R K : Sl} {rs : List (List Nat)} {r : List Nat} (hr : r.length < 100) (hz : rs.length < 1000) :
    l0__law_figures [X, R, K, .o (sk (dbl rs)), .v (kt r)] = .ok .nx [X, R, K, .o (sk (dbl (rs ++ [r]))), .v (kt r)] := by
  have e0 := kt_snoc r 0 hr
  have e1 := kt_snoc r 1 hr
  have e2 := sk_vs (dbl rs)
  have hl : ((dbl rs).map kt).length + 2 ≤ sizeLine := by rw [sizeLine_eq, List.length_map, dbl_len]; omega
  have e3 : (((dbl rs).map kt ++ [kt (r ++ [0]), kt (r ++ [1])]).map Sl.v) = sk (dbl (rs ++ [r])) := by
    rw [dbl_snoc]
    simp
  have e0 : addRO [.v (kt r), .v (.tg .r [.int 0])] = some (.v (kt (r ++ [0]))) := e0
  have e1 : addRO [.v (kt r), .v (.tg .r [.int 1])] = some (.v (kt (r ++ [1]))) := e1
  generalize kt r = K1 at *
  generalize kt (r ++ [0]) = K2 at *
  generalize kt (r ++ [1]) = K3 at *
  generalize sk (dbl rs) = S0 at *
  generalize (dbl rs).map kt = M0 at *
  have e4 : catO [.o S0, .o [.v K2, .v K3]] = some (.o (sk (dbl (rs ++ [r])))) := by
    rw [catO_at, e2, Option.bind_some]
    show (if M0.length + 2 ≤ sizeLine then _ else _) = _
    rw [if_pos hl, e3]
  simp [l0__law_figures, -addRO_at, -catO_at, e0, e1, e4]
theorem fig_loop {n m : Nat} (hm : m < 9) (X R K s4 : Sl) : ∃ t4, forS (tgN 4) l0__law_figures (fd m) [X, R, K, .o [], s4] = .ok .nx [X, R, K, .o (sk (figs (m + 1))), t4] := by
  have h256 : 2 ^ m ≤ 256 := Nat.pow_le_pow_right (n := 2) (by decide) (show m ≤ 8 by omega)
  obtain ⟨e2, h3, t4, h4⟩ := forS_inv (tg := tgN 4) (body := l0__law_figures) (fun i e => ∃ t4, e = [X, R, K, .o (sk (dbl ((figs m).take i))), t4]) (fd m) 0 [X, R, K, .o [], s4] ⟨s4, rfl⟩ (fun i d e hd ⟨t4, he⟩ => by
    subst he
    rw [Nat.zero_add]
    rw [List.getElem?_map] at hd
    obtain ⟨r, hr, rfl⟩ := Option.map_eq_some_iff.mp hd
    have hi := (List.getElem?_eq_some_iff.mp hr).1
    rw [figs_len] at hi
    have e := figs_get hi
    rw [hr] at e
    cases e
    refine ⟨_, _, rfl, l0_fig_eq (by rw [fig_len]; omega) (by rw [List.length_take, figs_len]; omega), ?_⟩
    rw [List.take_add_one, hr]
    exact ⟨_, rfl⟩)
  subst h4
  refine ⟨t4, ?_⟩
  rw [h3, Nat.zero_add]
  have : (figs m).take (fd m).length = figs m := List.take_of_length_le (by simp)
  rw [this]
  show Rs.ok Out.nx [X, R, K, .o (sk (dbl (figs m))), t4] = _
  rw [show dbl (figs m) = figs (m + 1) from (figs_succ m).symm]
theorem figures_eq {n : Nat} (h : 0 < n) (hn : n < 9) : n__law_figures [I (n : Int)] = .ret (.v (.lst (fd n))) [] := by
  obtain ⟨e2, h3, h4⟩ := forS_inv (tg := tgN 2) (body := l1__law_figures) (fun i e => ∃ R s2 s3 s4, e = [I (n : Int), R, s2, s3, s4] ∧ toD R = some (.lst (fd i)) ∧ R ≠ .u ∧ (0 < i → R = .v (.lst (fd i)))) (rangeD 0 n) 0 [I (n : Int), .o [.v (kt [])], .u, .u, .u] ⟨_, _, _, _, rfl, rfl, (fun z => nomatch z), fun z => absurd z (by decide)⟩ (fun i d e hd ⟨R, s2, s3, s4, he, h1, h1u, h2⟩ => by
    subst he
    rw [Nat.zero_add] at *
    obtain ⟨hi, rfl⟩ := range_get hd
    obtain ⟨t4, h5⟩ := fig_loop (n := n) (m := i) (by omega) (I (n : Int)) (.v (.lst (fd i))) (I (i : Int)) s4
    have h6 := sk_d (figs (i + 1))
    have g1 : gt [I (n : Int), R, I (i : Int), .o [], s4] 1 = some R := by
      cases R with
      | u => exact absurd rfl h1u
      | _ => rfl
    refine ⟨_, [I (n : Int), .v (.lst (fd (i + 1))), I (i : Int), .v (.lst (fd (i + 1))), t4], rfl, ?_, _, _, _, _, rfl, rfl, (fun z => nomatch z), fun _ => rfl⟩
    generalize sk (figs (i + 1)) = S1 at *
    generalize (i : Int) = I' at *
    generalize (n : Int) = N' at *
    have g2 : forE (seqI (vVar 1)) (tgN 4) l0__law_figures [I N', R, I I', .o [], s4] = .ok .nx [I N', .v (.lst (fd i)), I I', .o S1, t4] := by
      rw [forE_at, seqI_at, vVar_at, g1, Option.bind_some, h1]
      show forS (tgN 4) l0__law_figures (fd i) [I N', .v (.lst (fd i)), I I', .o [], s4] = _
      exact h5
    simp [l1__law_figures, -forE_at, g2, h6])
  rw [Nat.zero_add, range_len] at h4
  obtain ⟨R, s2, s3, s4, he, h1, h1u, h2⟩ := h4
  subst he
  have := h2 h
  subst this
  have e8 : rngB (n : Int) = true := rngB_nat (by omega)
  have e9 : ((n : Int)).toNat = n := rfl
  generalize (n : Int) = N' at *
  have e10 : n__law_figures [I N'] = FR.fin [false] ((forS (tgN 2) l1__law_figures (rangeD 0 n) [I N', .o [.v (kt [])], .u, .u, .u]).goOn (seqS (movS 1) skipS)) := by
    simp [n__law_figures, den_at, b__law_figures, List.replicate, e8, e9]
    rfl
  rw [e10, h3]
  rfl
end W


set_option maxHeartbeats 1000000
namespace W
open PySem PySem.Spec PyProof.Rows L2 DL N4 Bt
theorem sIx_at {n d a : Nat} (h : a ≤ n) : HT.sIx n d (some (a : Int)) = a := by
  rw [HT.sIx_nat]
  omega
theorem cut_lo {α : Type} {xs : List α} {a : Nat} (h : a ≤ xs.length) : DL.cutD xs none (some (a : Int)) = xs.take a := by
  unfold DL.cutD
  rw [sIx_at h]
  simp [HT.sIx]
theorem cut_hi {α : Type} {xs : List α} {a : Nat} (h : a ≤ xs.length) : DL.cutD xs (some (a : Int)) none = xs.drop a := by
  unfold DL.cutD
  rw [sIx_at h, HT.sIx_none]
  exact List.take_of_length_le (by rw [List.length_drop]; exact Nat.le_refl _)
theorem set_cut {α : Type} {xs : List α} {a : Nat} {x : α} (h : a < xs.length) : xs.take a ++ ([x] ++ xs.drop (a + 1)) = xs.set a x := by
  rw [List.set_eq_take_append_cons_drop, if_pos h]
  rfl
end W


set_option maxHeartbeats 1000000
namespace W
open PySem PySem.Spec PyProof.Rows L2 DL N4 Bt
@[simp] theorem toD_t (ks : List (List Key)) (xs : List D) : toD (.t ks xs) = some (.dt ks xs) := rfl
theorem eq_str {x y : Str} (b : Bool) (h : (SeqAt.shaped (.str x) && SeqAt.shaped (.str y) && ((x == y) == b)) = true) : eqS false [.v (.str x), .v (.str y)] = some (.v (.bl b)) := by
  rw [Bool.and_eq_true, Bool.and_eq_true, beq_iff_eq] at h
  have h3 : PyData.eqv (.str x) (.str y) = (x == y) := by simp [PyData.eqv]
  show (if SeqAt.shaped (.str x) = true ∧ SeqAt.shaped (.str y) = true then some (Sl.v (.bl (if false = true then !PyData.eqv (.str x) (.str y) else PyData.eqv (.str x) (.str y)))) else none) = _
  rw [if_pos h.1, h3, if_neg Bool.false_ne_true, h.2]
theorem w_XX : eqS false [.v (.str "X"), .v (.str "X")] = some (.v (.bl true)) := eq_str _ (by decide +kernel)
theorem w_tX : eqS false [.v (.str "turn"), .v (.str "X")] = some (.v (.bl false)) := eq_str _ (by decide +kernel)
theorem w_tt : eqS false [.v (.str "turn"), .v (.str "turn")] = some (.v (.bl true)) := eq_str _ (by decide +kernel)
theorem w_HX : eqS false [.v (.str "H"), .v (.str "X")] = some (.v (.bl false)) := eq_str _ (by decide +kernel)
theorem w_Ht : eqS false [.v (.str "H"), .v (.str "turn")] = some (.v (.bl false)) := eq_str _ (by decide +kernel)
theorem w_HH : eqS false [.v (.str "H"), .v (.str "H")] = some (.v (.bl true)) := eq_str _ (by decide +kernel)
theorem w_CX : eqS false [.v (.str "CZ"), .v (.str "X")] = some (.v (.bl false)) := eq_str _ (by decide +kernel)
theorem w_Ct : eqS false [.v (.str "CZ"), .v (.str "turn")] = some (.v (.bl false)) := eq_str _ (by decide +kernel)
theorem w_CH : eqS false [.v (.str "CZ"), .v (.str "H")] = some (.v (.bl false)) := eq_str _ (by decide +kernel)
/-- a field's dict -/
abbrev fdt (n : Nat) (us : List F) : D := .dt ((figs n).map kf) (us.map lf)
abbrev fld (qs : List Int) (n : Nat) (us : List F) : D := .tup [.tg .f (qs.map .int), fdt n us]
theorem lmap_get {us : List F} {i : Nat} (h : i < us.length) : (us.map lf)[i]? = some (lf (us.getD i z0)) := by
  rw [List.getElem?_map, getD_get h]
  rfl
theorem row_get {n j : Nat} {k : TK} {us : List F} (hl : us.length = 2 ^ n) (hj : j < 2 ^ n) : dgetO [.v (fdt n us), .v (.tg k (df (fig n j)))] = some (.v (lf (us.getD j z0))) := by
  rw [dgetO_dt, keysD_df, Option.bind_some, kGet_at (kfs_nodup n) (j := j) (by rw [List.getElem?_map, figs_get hj]; rfl) (lmap_get (us := us) (i := j) (by omega))]
  rfl
theorem put_row {n i : Nat} {us : List F} {x : D} (hi : i < 2 ^ n) : kPut (((figs n).take i).map kf) ((us.take i).map lf) (kf (fig n i)) x = (((figs n).take (i + 1)).map kf, (us.take i).map lf ++ [x]) := by
  rw [kPut_new, List.take_add_one, figs_get hi]
  · simp
  · intro z
    obtain ⟨r, h1, h2⟩ := List.mem_map.mp z
    have h3 := kf_inj h2
    subst h3
    obtain ⟨j, hj, e⟩ := List.mem_take_iff_getElem.mp h1
    have hj2 : j < i := by omega
    have e2 := figs_get (n := n) (i := j) (by omega)
    have e3 : (figs n)[j]? = some (fig n i) := by rw [List.getElem?_eq_getElem (by omega), e]
    rw [e2] at e3
    have := fig_inj n j i (by omega) hi (Option.some.inj e3)
    omega
theorem lsl_snoc {n i : Nat} (f : Nat → F) (h : i < n) : ((each n f).take i).map lf ++ [lf (f i)] = ((each n f).take (i + 1)).map lf := by
  rw [each_take f h, List.map_append]
  rfl
theorem l0_field_eq {Q : Sl} {n i : Nat} {us : List F} (hn : n < 9) (hl : us.length = 2 ^ n) (hi : i < 2 ^ n) :
    l0__law_field [Q, .v (.lst (us.map lf)), .v (.lst (fd n)), .t (((figs n).take i).map kf) ((us.take i).map lf), I (i : Int)] = .ok .nx [Q, .v (.lst (us.map lf)), .v (.lst (fd n)), .t (((figs n).take (i + 1)).map kf) ((us.take (i + 1)).map lf), I (i : Int)] := by
  have h256 : 2 ^ n ≤ 256 := Nat.pow_le_pow_right (n := 2) (by decide) (show n ≤ 8 by omega)
  have g1 := atI_of (lmap_get (us := us) (i := i) (by omega))
  have g2 : atI (fd n) (i : Int) = some (kt (fig n i)) := atI_of (by rw [List.getElem?_map, figs_get hi]; rfl)
  have p1 := put_row (us := us) (x := lf (us.getD i z0)) hi
  have e1 : (us.take i).map lf ++ [lf (us.getD i z0)] = (us.take (i + 1)).map lf := by
    rw [List.take_add_one, getD_get (by omega), List.map_append]
    rfl
  rw [e1] at p1
  have k1 := keysD_df (fig n i)
  have k2 : keyT (.v (kt (fig n i))) = some (kf (fig n i)) := k1
  have sz : (((figs n).take i).map kf).length < sizeLine := by rw [sizeLine_eq, List.length_map, List.length_take, figs_len]; omega
  generalize kt (fig n i) = K at *
  generalize kf (fig n i) = K2 at *
  generalize lf (us.getD i z0) = U at *
  generalize ((figs n).take i).map kf = KS at *
  generalize (us.take i).map lf = XS at *
  generalize (i : Int) = I' at *
  simp [l0__law_field, g1, g2, k2, p1, sz, -keyT_at]
theorem field_eq {k : TK} {qs : List Int} {n : Nat} {us : List F} (hq : qs.length = n) (h0 : 0 < n) (hn : n < 9) (hl : us.length = 2 ^ n) : n__law_field [.v (.tg k (qs.map .int)), .v (.lst (us.map lf))] = .ret (.v (.tup [.tg k (qs.map .int), fdt n us])) [] := by
  have h256 : 2 ^ n ≤ 256 := Nat.pow_le_pow_right (n := 2) (by decide) (show n ≤ 8 by omega)
  obtain ⟨e2, h3, s4, h4⟩ := forS_inv (tg := tgN 4) (body := l0__law_field) (fun i e => ∃ s4, e = [.v (.tg k (qs.map .int)), .v (.lst (us.map lf)), .v (.lst (fd n)), .t (((figs n).take i).map kf) ((us.take i).map lf), s4]) (rangeD 0 (2 ^ n)) 0
    [.v (.tg k (qs.map .int)), .v (.lst (us.map lf)), .v (.lst (fd n)), .t [] [], .u] ⟨.u, rfl⟩ (fun i d e hd ⟨s4, he⟩ => by
      subst he
      rw [Nat.zero_add]
      obtain ⟨hi, rfl⟩ := range_get hd
      exact ⟨_, _, rfl, l0_field_eq hn hl hi, _, rfl⟩)
  subst h4
  rw [Nat.zero_add, range_len, List.take_of_length_le (by rw [figs_len]; omega), List.take_of_length_le (by omega)] at h3
  have f1 := figures_eq h0 hn
  have e5 : ((qs.length : Nat) : Int) = ((n : Nat) : Int) := by rw [hq]
  have e6 : (((fd n).length : Nat) : Int) = ((2 ^ n : Nat) : Int) := by simp [figs_len]
  have e8 : rngB ((2 ^ n : Nat) : Int) = true := rngB_nat (by omega)
  have e9 : (((2 ^ n : Nat) : Int)).toNat = 2 ^ n := rfl
  show _ = FR.ret (.v (.tup [.tg k (qs.map .int), .dt ((figs n).map kf) (us.map lf)])) []
  generalize fd n = FD at *
  generalize (figs n).map kf = KS at *
  generalize us.map lf = US at *
  generalize ((2 ^ n : Nat) : Int) = S2 at *
  generalize ((n : Nat) : Int) = S1 at *
  simp [n__law_field, den_at, b__law_field, List.replicate, e5, f1, e6, e8, e9, h3]
end W


set_option maxHeartbeats 1000000
namespace W
open PySem PySem.Spec PyProof.Rows L2 DL N4 Bt
/-! the law's numbers -/
def lMul (t : Int) (u : F) : F := (ml (un t) u.1, u.2)
def lNeg (u : F) : F := (ng u.1, u.2)
def lAdd (u v : F) : F := (N4.ad (sm (2 ^ (max u.2 v.2 - u.2)) u.1) (sm (2 ^ (max u.2 v.2 - v.2)) v.1), max u.2 v.2)
def lRoot (u : F) : F := (rt u.1, u.2 + 1)
theorem lMul_eq {u : F} {L : Nat} (t : Int) (h : Sm L u) (hL : L ≤ 1000000) : n__law_by [.v (ln (un t) 0), .v (lf u)] = .ret (.v (lf (lMul t u))) [] := by
  have := by_eq (un t) u.1 0 (u.2 : Int) 1 L (bd_un t) h.b (by omega)
  rw [Int.zero_add] at this
  exact this
theorem lNeg_eq (u : F) : n__law_minus [.v (lf u)] = .ret (.v (lf (lNeg u))) [] := minus_eq u.1 u.2
theorem lAdd_eq {u v : F} {L : Nat} (h : Sm L u) (k : Sm L v) (hL : L ≤ 1000000) : n__law_plus [.v (lf u), .v (lf v)] = .ret (.v (lf (lAdd u v))) [] := by
  have h1 := h.p
  have h2 := k.p
  exact plus_eq u v L L h.b k.b (by omega) (by omega)
theorem lRoot_eq {u : F} {L : Nat} (h : Sm L u) (hL : L ≤ 1000000) : n__law_root [.v (lf u), I 1] = .ret (.v (lf (lRoot u))) [] := root_eq u 1 L h.b (by decide) hL
theorem sm_lMul {u : F} {L N : Nat} (t : Int) (h : Sm L u) (hN : L + 3 ≤ N) : Sm N (lMul t u) := ⟨((bd_un t).ml h.b).mono (by omega), Nat.le_trans h.p (by omega)⟩
theorem sm_lNeg {u : F} {L : Nat} (h : Sm L u) : Sm L (lNeg u) := ⟨h.b.ng, h.p⟩
theorem sm_lAdd {u v : F} {L N : Nat} (h : Sm L u) (k : Sm L v) (hN : 3 * L + 1 ≤ N) : Sm N (lAdd u v) := by
  have h1 := h.p
  have h2 := k.p
  refine ⟨?_, by show max u.2 v.2 ≤ N; omega⟩
  show Bd N (N4.ad _ _)
  rw [← rtn_two, ← rtn_two]
  exact (((h.b.rtn _).mono (n := 3 * L) (by omega)).ad ((k.b.rtn _).mono (n := 3 * L) (by omega))).mono (by omega)
theorem sm_lRoot {u : F} {L N : Nat} (h : Sm L u) (hN : L + 1 ≤ N) : Sm N (lRoot u) := ⟨h.b.rt.mono hN, by have := h.p; show u.2 + 1 ≤ N; omega⟩
/-! a row of a gate -/
theorem ix_fig {n a i : Nat} (hn : n < 6) (ha : a < n) (hi : i < 2 ^ n) : ixS [.v (kt (fig n i)), I (a : Int)] = some (I ((bit (n - 1 - a) i : Nat) : Int)) := by
  have f1 := (fin1 n hn a ha i hi).1
  have e : (df (fig n i))[a]? = some (.int ((bit (n - 1 - a) i : Nat) : Int)) := by
    unfold df
    rw [List.getElem?_map, f1]
    rfl
  show ixS [.v (.tg .r (df (fig n i))), I (a : Int)] = _
  rw [ixS_tup, atI_of e]
  rfl
theorem pick0 {A C : D} : ixS [.o [.v A, .v C], I 0] = some (.v A) := by simp [ixS_o, atI0]
theorem pick1 {A C : D} : ixS [.o [.v A, .v C], I 1] = some (.v C) := by simp [ixS_o, atI1]
theorem put_ou {n i : Nat} {ou : List F} (hi : i < 2 ^ n) (hou : ou.length = i) (z : F) : kPut (((figs n).take i).map kf) (ou.map lf) (kf (fig n i)) (lf z) = (((figs n).take (i + 1)).map kf, (ou ++ [z]).map lf) := by
  have h := put_row (us := ou) (x := lf z) hi
  have ht : ou.take i = ou := List.take_of_length_le (by omega)
  rw [ht] at h
  rw [h, List.map_append]
  rfl
end W


set_option maxHeartbeats 1000000
namespace W
open PySem PySem.Spec PyProof.Rows L2 DL N4 Bt
end W


set_option maxHeartbeats 1000000
namespace W
open PySem PySem.Spec PyProof.Rows L2 DL N4 Bt
/-- data that the law's own eye takes for the same, n deep -/
def Ex : Nat → D → D → Prop
  | 0, _, _ => False
  | n + 1, d, e => (∃ i, d = .int i ∧ e = .int i) ∨ (d = .non ∧ e = .non) ∨ (∃ b, d = .bl b ∧ e = .bl b) ∨ (∃ x, d = .str x ∧ e = .str x ∧ SeqAt.shaped (.str x) = true) ∨
      (∃ k k' xs ys, d = .tg k xs ∧ e = .tg k' ys ∧ xs.length = ys.length ∧ xs.length ≤ 1000000 ∧ ∀ (i : Nat) x y, xs[i]? = some x → ys[i]? = some y → Ex n x y) ∨
      (∃ xs ys, d = .lst xs ∧ e = .lst ys ∧ xs.length = ys.length ∧ xs.length ≤ 1000000 ∧ ∀ (i : Nat) x y, xs[i]? = some x → ys[i]? = some y → Ex n x y)
theorem bls_all : ∀ {rs : List Sl}, (∀ (i : Nat) (r : Sl), rs[i]? = some r → r = .v (.bl true)) → allO [.o rs] = some (.v (.bl true))
  | rs, h => by
    have e : rs = (List.replicate rs.length (D.bl true)).map .v := by
      refine List.ext_getElem? fun i => ?_
      by_cases hi : i < rs.length
      · rw [List.getElem?_eq_getElem hi, h i _ (List.getElem?_eq_getElem hi)]
        simp [hi]
      · rw [List.getElem?_eq_none (by omega), List.getElem?_eq_none (by simp; omega)]
    have e2 : blsD (List.replicate rs.length (D.bl true)) = some (List.replicate rs.length true) := by
      have := blsD_map (List.replicate rs.length true)
      rw [List.map_replicate] at this
      exact this
    unfold allO
    rw [one_one, listV_o', e, vsOf_map, Option.bind_some, e2]
    simp
theorem ex_comp {n : Nat} {x y : Sl} {xs ys : List D} (hx : ∀ (i : Nat) d, xs[i]? = some d → ixS [x, I (i : Int)] = some (.v d)) (hy : ∀ (i : Nat) d, ys[i]? = some d → ixS [y, I (i : Int)] = some (.v d)) (gx : ∀ e, gt (x :: e) 0 = some x) (gy : ∀ e, gt (y :: e) 0 = some y) (hl : xs.length = ys.length)
    (h : ∀ (i : Nat) a b, xs[i]? = some a → ys[i]? = some b → r__law_exact n [.v a, .v b] = .ret (.v (.bl true)) []) :
    ∃ rs, lcG (tgN 2) yesT (e0__law_exact (r__law_exact n)) [2] (rangeD 0 xs.length) [] [x, y, .u, .u] = .ok (.o rs) [x, y, .u, .u] ∧ allO [.o rs] = some (.v (.bl true)) := by
  obtain ⟨rs, e2, h3, k1, k2, k3⟩ := lcG_inv (tg := tgN 2) (f := e0__law_exact (r__law_exact n)) (own := [2]) (fun _ e => e = [x, y, .u, .u]) (fun _ r => r = .v (.bl true)) (rangeD 0 xs.length) 0 [] [x, y, .u, .u] rfl (fun i d e hd he => by
    subst he
    obtain ⟨hi, rfl⟩ := range_get hd
    have a1 := List.getElem?_eq_getElem hi
    have b1 := List.getElem?_eq_getElem (l := ys) (i := i) (by omega)
    have c1 := hx i _ a1
    have c2 := hy i _ b1
    have c3 := h i _ _ a1 b1
    refine ⟨_, .v (.bl true), [x, y, I (i : Int), .u], rfl, ?_, rfl, rfl⟩
    generalize xs[i] = A at *
    generalize ys[i] = C at *
    generalize (i : Int) = I' at *
    simp [e0__law_exact, gx, gy, c1, c2, c3])
  subst k3
  rw [List.nil_append] at h3
  exact ⟨rs, h3, bls_all fun i r hr => k2 i r hr⟩
theorem ex_ok : ∀ (n : Nat) (d e : D), Ex n d e → r__law_exact n [.v d, .v e] = .ret (.v (.bl true)) []
  | 0, _, _, h => h.elim
  | n + 1, d, e, h => by
    rcases h with ⟨i, rfl, rfl⟩ | ⟨rfl, rfl⟩ | ⟨b, rfl, rfl⟩ | ⟨x, rfl, rfl, hx⟩ | ⟨k, k', xs, ys, rfl, rfl, hl, hz, h⟩ | ⟨xs, ys, rfl, rfl, hl, hz, h⟩
    · exact ex_int n i
    · have k1 : kitB "NoneType" "tuple" = some false := by rfl
      have k4 : kitB "NoneType" "list" = some false := by rfl
      rw [r__law_exact]
      simp [den_at, b__law_exact, List.replicate, isiS, isiS2, isiO, isiO2, tyNm, k1, k4, one, isN]
    · have k1 : kitB "bool" "tuple" = some false := by rfl
      have k4 : kitB "bool" "list" = some false := by rfl
      have k2 : kitB "bool" "int" = some true := by rfl
      have k3 : kitB "bool" "bool" = some true := by rfl
      have k5 : kitB "bool" "str" = some false := by rfl
      rw [r__law_exact]
      simp [den_at, b__law_exact, List.replicate, isiS, isiS2, isiO, isiO2, tyNm, k1, k2, k3, k4, k5, one, isN]
    · have k1 : kitB "str" "tuple" = some false := by rfl
      have k4 : kitB "str" "list" = some false := by rfl
      have k2 : kitB "str" "int" = some false := by rfl
      have k3 : kitB "str" "bool" = some false := by rfl
      have k5 : kitB "str" "str" = some true := by rfl
      have e1 : eqS false [.v (.str x), .v (.str x)] = some (.v (.bl true)) := eq_str true (by rw [hx]; simp)
      rw [r__law_exact]
      simp [den_at, b__law_exact, List.replicate, isiS, isiS2, isiO, isiO2, tyNm, k1, k2, k3, k4, k5, one, isN, e1]
    · have k1 : kitB "tuple" "tuple" = some true := by rfl
      have k4 : kitB "tuple" "list" = some false := by rfl
      obtain ⟨rs, h1, h2⟩ := ex_comp (n := n) (x := .v (.tg k xs)) (y := .v (.tg k' ys)) (fun i d hd => by rw [ixS_tup, atI_of hd]; rfl) (fun i d hd => by rw [ixS_tup, atI_of hd]; rfl) (fun _ => rfl) (fun _ => rfl) hl fun i a b ha hb => ex_ok n a b (h i a b ha hb)
      have e8 : rngB ((xs.length : Nat) : Int) = true := rngB_nat (by omega)
      have hsz : (rangeD 0 xs.length).length ≤ sizeLine := by rw [sizeLine_eq, range_len]; omega
      rw [r__law_exact]
      simp [den_at, b__law_exact, List.replicate, isiS, isiS2, isiO, isiO2, tyNm, k1, k4, one, isN, ← hl, e8, hsz, h1, h2]
    · have k1 : kitB "list" "tuple" = some false := by rfl
      have k4 : kitB "list" "list" = some true := by rfl
      obtain ⟨rs, h1, h2⟩ := ex_comp (n := n) (x := .v (.lst xs)) (y := .v (.lst ys)) (fun i d hd => by rw [ixS_lst, atI_of hd]; rfl) (fun i d hd => by rw [ixS_lst, atI_of hd]; rfl) (fun _ => rfl) (fun _ => rfl) hl fun i a b ha hb => ex_ok n a b (h i a b ha hb)
      have e8 : rngB ((xs.length : Nat) : Int) = true := rngB_nat (by omega)
      have hsz : (rangeD 0 xs.length).length ≤ sizeLine := by rw [sizeLine_eq, range_len]; omega
      rw [r__law_exact]
      simp [den_at, b__law_exact, List.replicate, isiS, isiS2, isiO, isiO2, tyNm, k1, k4, one, isN, ← hl, e8, hsz, h1, h2]
end W


set_option maxHeartbeats 1000000
namespace W
open PySem PySem.Spec PyProof.Rows L2 DL N4 Bt
/-! the same number, the program's and the law's -/
structure Ap (A u : F) : Prop where
  c : Cn A
  e : Eq2 A (u.1, 2 * u.2)
theorem ap_neg {A u : F} (h : Ap A u) : Ap (pNeg A) (lNeg u) := ⟨h.c.ng, eq_ng h.e⟩
theorem ap_add {A u C v : F} (h : Ap A u) (k : Ap C v) : Ap (pAdd A C) (lAdd u v) := by
  have n1 := nf_ok (sumN A C).2 (sumN A C).1
  refine ⟨n1.1, ?_⟩
  have e0 : Eq2 (pAdd A C) (sumAt (max A.2 C.2) A C) := n1.2
  refine e0.trans ?_
  have := eq_sum (m := max A.2 C.2) (n := 2 * max u.2 v.2) h.e k.e (by omega) (by omega) (by simp only; omega) (by simp only; omega)
  have e1 : ∀ a b : Nat, 2 * a - 2 * b = 2 * (a - b) := fun a b => by omega
  unfold sumAt at this
  simp only [e1, rtn_two] at this
  exact this
theorem ap_mul {A u : F} (t : Int) (h : Ap A u) : Ap (pMul (un t, 0) A) (lMul t u) := by
  have n1 := nf_ok (0 + A.2) (ml (un t) A.1)
  refine ⟨n1.1, ?_⟩
  have e0 : Eq2 (pMul (un t, 0) A) (ml (un t) A.1, 0 + A.2) := n1.2
  refine e0.trans ?_
  have := eq_ml (Eq2.refl (un t, 0)) h.e
  simp only [Nat.zero_add] at this ⊢
  exact this
theorem ap_sc {A u : F} (h : Ap A u) : Ap (pSc A) (lRoot u) := by
  have n1 := nf_ok (A.2 + 1) A.1
  refine ⟨n1.1, n1.2.trans ?_⟩
  have e := h.e
  unfold Eq2 at e ⊢
  simp only [lRoot] at e ⊢
  have e2 : 2 * (u.2 + 1) = 2 * u.2 + 1 + 1 := by omega
  rw [e2, rtn_succ, rtn_succ, e, rtn_succ]
  have e3 : rtn A.2 (rt u.1) = rt (rtn A.2 u.1) := by rw [← rtn_succ]; rfl
  rw [e3]
theorem ap_is {A u : F} {L : Nat} (h : Ap A u) (hA : Sm L A) (hu : Sm L u) (hL : L < 1000000) : n__law_is [.v (tf2 A), .v (lf u)] = .ret (.v (.bl true)) [] := by
  have h1 := hA.p
  have h2 := hu.p
  exact is_eq A u L L h.c (same_of h.e) hA.b hu.b (by omega) (by omega) hL hL
/-- a state and a field that tell the same -/
structure Fr (n L : Nat) (as us : List F) : Prop where
  la : as.length = 2 ^ n
  lu : us.length = 2 ^ n
  ap : ∀ i < 2 ^ n, Ap (as.getD i z0) (us.getD i z0)
  sa : ∀ A ∈ as, Sm L A
  su : ∀ A ∈ us, Sm L A
theorem Fr.each {n L : Nat} {f g : Nat → F} (h : ∀ i < 2 ^ n, Ap (f i) (g i)) (k : ∀ i < 2 ^ n, Sm L (f i)) (l : ∀ i < 2 ^ n, Sm L (g i)) : Fr n L (each (2 ^ n) f) (W.each (2 ^ n) g) :=
  ⟨each_len _ _, each_len _ _, fun i hi => by rw [each_getD _ hi, each_getD _ hi]; exact h i hi, each_sm k, each_sm l⟩
/-! the list of a field's numbers -/
abbrev ul (us : List F) : List Sl := us.map fun u => .v (lf u)
theorem row_eq {n : Nat} {qs : List Int} {us : List F} (hq : qs.length = n) (h0 : 0 < n) (hn : n < 9) (hl : us.length = 2 ^ n) : n__law_row [.v (fld qs n us)] = .ret (.o (ul us)) [] := by
  have h256 : 2 ^ n ≤ 256 := Nat.pow_le_pow_right (n := 2) (by decide) (show n ≤ 8 by omega)
  obtain ⟨rs, e2, h3, k1, k2, k3⟩ := lcG_inv (tg := tgN 1) (f := e0__law_row) (own := [1]) (fun _ e => e = [.v (fld qs n us), .u]) (fun i r => r = .v (lf (us.getD i z0))) (fd n) 0 [] [.v (fld qs n us), .u] rfl (fun i d e hd he => by
    subst he
    rw [Nat.zero_add]
    rw [List.getElem?_map] at hd
    obtain ⟨r, hr, rfl⟩ := Option.map_eq_some_iff.mp hd
    have hi := (List.getElem?_eq_some_iff.mp hr).1
    rw [figs_len] at hi
    have e := figs_get hi
    rw [hr] at e
    cases e
    have g := row_get (k := .r) (us := us) hl hi
    refine ⟨_, .v (lf (us.getD i z0)), [.v (fld qs n us), .v (kt (fig n i))], rfl, ?_, rfl, rfl⟩
    show e0__law_row [.v (.tup [.tg .f (qs.map .int), fdt n us]), .v (.tg .r (df (fig n i)))] = _
    show _ = Rs.ok _ [.v (.tup [.tg .f (qs.map .int), fdt n us]), .v (.tg .r (df (fig n i)))]
    generalize fdt n us = FT at *
    generalize df (fig n i) = DF at *
    generalize lf (us.getD i z0) = U at *
    simp [e0__law_row, atI1, g])
  subst k3
  rw [List.nil_append] at h3
  have hrs : rs = ul us := by
    refine List.ext_getElem? fun i => ?_
    by_cases hi : i < 2 ^ n
    · have hl2 : i < rs.length := by rw [k1]; simp [figs_len]; omega
      have := k2 i _ (List.getElem?_eq_getElem hl2)
      rw [Nat.zero_add] at this
      rw [List.getElem?_eq_getElem hl2, this, List.getElem?_map, getD_get (by omega)]
      rfl
    · rw [List.getElem?_eq_none (by rw [k1]; simp [figs_len]; omega), List.getElem?_eq_none (by simp; omega)]
  subst hrs
  have f1 := figures_eq h0 hn
  have e5 : ((qs.length : Nat) : Int) = ((n : Nat) : Int) := by rw [hq]
  have hsz : (fd n).length ≤ sizeLine := by rw [sizeLine_eq, List.length_map, figs_len]; omega
  generalize ul us = U at *
  show n__law_row [.v (.tup [.tg .f (qs.map .int), fdt n us])] = _
  have h3 : lcG (tgN 1) yesT e0__law_row [1] (fd n) [] [.v (.tup [.tg .f (qs.map .int), fdt n us]), .u] = .ok (.o U) [.v (.tup [.tg .f (qs.map .int), fdt n us]), .u] := h3
  generalize fdt n us = FT at *
  generalize fd n = FD at *
  generalize ((n : Nat) : Int) = S1 at *
  simp [n__law_row, den_at, b__law_row, List.replicate, atI0, e5, f1, hsz, h3]
theorem ex_ints (m : Nat) {k k' : TK} {qs : List Int} (h : qs.length ≤ 1000000) : Ex (m + 2) (.tg k (qs.map .int)) (.tg k' (qs.map .int)) :=
  .inr (.inr (.inr (.inr (.inl ⟨k, k', _, _, rfl, rfl, rfl, by rw [List.length_map]; exact h, fun i x y hx hy => by
    rw [hx] at hy
    cases hy
    rw [List.getElem?_map] at hx
    obtain ⟨z, _, rfl⟩ := Option.map_eq_some_iff.mp hx
    exact .inl ⟨z, rfl, rfl⟩⟩))))
theorem same_field_eq {n L : Nat} {qs : List Int} {as us : List F} (hq : qs.length = n) (h0 : 0 < n) (hn : n < 9) (h : Fr n L as us) (hL : L < 1000000) : n__law_same_field [.v (st .f qs as), .v (fld qs n us)] = .ret (.v (.bl true)) [] := by
  have h256 : 2 ^ n ≤ 256 := Nat.pow_le_pow_right (n := 2) (by decide) (show n ≤ 8 by omega)
  have la := h.la
  have lu := h.lu
  have r1 := row_eq hq h0 hn lu
  have x1 : n__law_exact [.v (.tg .f (qs.map .int)), .v (.tg .f (qs.map .int))] = .ret (.v (.bl true)) [] := ex_ok 6 _ _ (ex_ints 4 (by omega))
  obtain ⟨rs, e2, h3, k1, k2, k3⟩ := lcG_inv (tg := tgN 3) (f := e0__law_same_field) (own := [3]) (fun _ e => e = [.v (st .f qs as), .v (fld qs n us), .o (ul us), .u]) (fun _ r => r = .v (.bl true)) (rangeD 0 (2 ^ n)) 0 [] [.v (st .f qs as), .v (fld qs n us), .o (ul us), .u] rfl (fun i d e hd he => by
    subst he
    obtain ⟨hi, rfl⟩ := range_get hd
    have g1 := atI_of (map_get (as := as) (i := i) (by omega))
    have g2 := atI_of (lmap_get (us := us) (i := i) (by omega))
    have z := ap_is (h.ap i hi) (get_sm h.sa (by omega)) (get_sm h.su (by omega)) hL
    have v1 : vsOf (ul us) = some (us.map lf) := by
      have := vsOf_map (us.map lf)
      rw [List.map_map] at this
      exact this
    refine ⟨_, .v (.bl true), [.v (st .f qs as), .v (fld qs n us), .o (ul us), I (i : Int)], rfl, ?_, rfl, rfl⟩
    have v2 : ixS [.o (ul us), I (i : Int)] = some (.v (lf (us.getD i z0))) := by
      rw [ixS_o, v1, Option.bind_some, g2]
      rfl
    generalize fld qs n us = FL at *
    generalize ul us = U at *
    generalize lf (us.getD i z0) = LU at *
    generalize as.getD i z0 = A at *
    generalize (i : Int) = I' at *
    simp [e0__law_same_field, atI1, g1, v2, z])
  subst k3
  rw [List.nil_append] at h3
  have all := bls_all (rs := rs) fun i r hr => k2 i r hr
  have e5 : (((ul us).length : Nat) : Int) = ((2 ^ n : Nat) : Int) := by simp [lu]
  have e6 : (((as.map tf2).length : Nat) : Int) = ((2 ^ n : Nat) : Int) := by simp [la]
  have e8 : rngB ((2 ^ n : Nat) : Int) = true := rngB_nat (by omega)
  have e9 : (((2 ^ n : Nat) : Int)).toNat = 2 ^ n := rfl
  have hsz : (rangeD 0 (2 ^ n)).length ≤ sizeLine := by rw [sizeLine_eq, range_len]; omega
  have kt1 : kitB "tuple" "tuple" = some true := by rfl
  show n__law_same_field [.v (.tup [.tg .f (qs.map .int), .tup (as.map tf2)]), .v (.tup [.tg .f (qs.map .int), fdt n us])] = _
  have r1 : n__law_row [.v (.tup [.tg .f (qs.map .int), fdt n us])] = .ret (.o (ul us)) [] := r1
  have h3 : lcG (tgN 3) yesT e0__law_same_field [3] (rangeD 0 (2 ^ n)) [] [.v (.tup [.tg .f (qs.map .int), .tup (as.map tf2)]), .v (.tup [.tg .f (qs.map .int), fdt n us]), .o (ul us), .u] = .ok (.o rs) [.v (.tup [.tg .f (qs.map .int), .tup (as.map tf2)]), .v (.tup [.tg .f (qs.map .int), fdt n us]), .o (ul us), .u] := h3
  generalize fdt n us = FT at *
  generalize ul us = U at *
  generalize as.map tf2 = AS at *
  generalize qs.map D.int = QS at *
  generalize ((2 ^ n : Nat) : Int) = S1 at *
  simp [n__law_same_field, den_at, b__law_same_field, List.replicate, isiS, isiO, tyNm, kt1, one, atI0, atI1, x1, r1, e5, e6, e8, e9, hsz, h3, all]
end W


set_option maxHeartbeats 1000000
namespace W
open PySem PySem.Spec PyProof.Rows L2 DL N4 Bt
theorem each_congr {n : Nat} {f g : Nat → F} (h : ∀ i < n, f i = g i) : each n f = each n g := List.map_congr_left fun i hi => h i (List.mem_range.mp hi)
theorem bits {n s i : Nat} (hn : n < 6) (hs : s < n) (hi : i < 2 ^ n) : bit s i < 2 ∧ (bit s i = 1 → setb s 1 i = i ∧ setb s 0 i = i ^^^ 2 ^ s) ∧ (¬ bit s i = 1 → setb s 0 i = i ∧ setb s 1 i = i ^^^ 2 ^ s) := by
  have h64 := pow6 hn
  obtain ⟨h1, h2, _⟩ := fin3 s (by omega) i (by omega)
  have hb : bit s i < 2 := Nat.mod_lt _ (by decide)
  refine ⟨hb, fun h => ?_, fun h => ?_⟩
  · rw [h] at h1 h2
    exact ⟨h1, h2⟩
  · have : bit s i = 0 := by omega
    rw [this] at h1 h2
    exact ⟨h1, h2⟩
section
variable {n a L : Nat} {qs : List Int} {q : Int} {as us : List F}
def lTF (t : Int) (s : Nat) (us : List F) (i : Nat) : F := if bit s i = 1 then lMul t (us.getD i z0) else us.getD i z0
def lHF (s : Nat) (us : List F) (i : Nat) : F := if bit s i = 1 then lRoot (lAdd (us.getD (i ^^^ 2 ^ s) z0) (lNeg (us.getD i z0))) else lRoot (lAdd (us.getD i z0) (us.getD (i ^^^ 2 ^ s) z0))
def lCF (s u : Nat) (us : List F) (i : Nat) : F := if bit s i = 1 ∧ bit u i = 1 then lNeg (us.getD i z0) else us.getD i z0
theorem frX (hs : a < n) (h6 : n < 6) (h : Fr n L as us) : Fr n L (each (2 ^ n) (xF a as)) (each (2 ^ n) (xF a us)) :=
  .each (fun i hi => h.ap _ (xor_lt n h6 a hs i hi)) (fun i hi => get_sm h.sa (by rw [h.la]; exact xor_lt n h6 a hs i hi)) fun i hi => get_sm h.su (by rw [h.lu]; exact xor_lt n h6 a hs i hi)
theorem frT (t : Int) (h : Fr n L as us) : Fr n (L + 3) (each (2 ^ n) (turnF t a as)) (each (2 ^ n) (lTF t a us)) := by
  refine .each (fun i hi => ?_) (fun i hi => sm_turn h.sa (by rw [h.la]; exact hi) (by omega)) fun i hi => ?_
  · unfold turnF lTF
    split
    · exact ap_mul t (h.ap i hi)
    · exact h.ap i hi
  · have := get_sm h.su (i := i) (by rw [h.lu]; exact hi)
    unfold lTF
    split
    · exact sm_lMul t this (by omega)
    · exact this.mono (by omega)
theorem frH (hs : a < n) (h6 : n < 6) (h : Fr n L as us) : Fr n (3 * L + 2) (each (2 ^ n) (hadF a as)) (each (2 ^ n) (lHF a us)) := by
  refine .each (fun i hi => ?_) (fun i hi => sm_had h.sa h6 h.la hs hi (by omega)) fun i hi => ?_
  · have h1 := h.ap i hi
    have h2 := h.ap _ (xor_lt n h6 a hs i hi)
    unfold hadF lHF
    split
    · exact ap_sc (ap_add h2 (ap_neg h1))
    · exact ap_sc (ap_add h1 h2)
  · have h1 := get_sm h.su (i := i) (by rw [h.lu]; exact hi)
    have h2 := get_sm h.su (i := i ^^^ 2 ^ a) (by rw [h.lu]; exact xor_lt n h6 a hs i hi)
    unfold lHF
    split
    · exact sm_lRoot (sm_lAdd h2 (sm_lNeg h1) (Nat.le_refl _)) (by omega)
    · exact sm_lRoot (sm_lAdd h1 h2 (Nat.le_refl _)) (by omega)
theorem frC {b : Nat} (h : Fr n L as us) : Fr n L (each (2 ^ n) (czF a b as)) (each (2 ^ n) (lCF a b us)) := by
  refine .each (fun i hi => ?_) (fun i hi => ?_) fun i hi => ?_
  · unfold czF lCF
    split
    · exact ap_neg (h.ap i hi)
    · exact h.ap i hi
  · have := get_sm h.sa (i := i) (by rw [h.la]; exact hi)
    unfold czF
    split
    · exact sm_neg this
    · exact this
  · have := get_sm h.su (i := i) (by rw [h.lu]; exact hi)
    unfold lCF
    split
    · exact sm_lNeg this
    · exact this
end
end W


set_option maxHeartbeats 1000000
namespace W
open PySem PySem.Spec PyProof.Rows L2 DL N4 Bt
def lFF (s : Nat) (us : List F) (i : Nat) : F := lRoot (us.getD (rmb s i) z0)
theorem frF' {n a L : Nat} {as us : List F} (ha : a < n + 1) (h6 : n < 5) (h : Fr n L as us) : Fr (n + 1) (L + 1) (each (2 ^ (n + 1)) (frF (n - a) as)) (each (2 ^ (n + 1)) (lFF (n - a) us)) := by
  have hr : ∀ i < 2 ^ (n + 1), rmb (n - a) i < 2 ^ n := fun i hi => by
    have := (fin1 (n + 1) (by omega) a ha i hi).2.2.1
    have e9 : n + 1 - 1 - a = n - a := by omega
    rw [e9, Nat.add_sub_cancel] at this
    exact this
  exact .each (fun i hi => ap_sc (h.ap _ (hr i hi))) (fun i hi => sm_sc (get_sm h.sa (by rw [h.la]; exact hr i hi)) (by omega)) fun i hi => sm_lRoot (get_sm h.su (by rw [h.lu]; exact hr i hi)) (by omega)
end W


set_option maxHeartbeats 1000000
namespace W
open PySem PySem.Spec PyProof.Rows L2 DL N4 Bt
theorem v_X_X : eqS false [.v (.str "X"), .v (.str "X")] = some (.v (.bl true)) := eq_str _ (by decide +kernel)
theorem v_Z_X : eqS false [.v (.str "Z"), .v (.str "X")] = some (.v (.bl false)) := eq_str _ (by decide +kernel)
theorem v_Z_Z : eqS false [.v (.str "Z"), .v (.str "Z")] = some (.v (.bl true)) := eq_str _ (by decide +kernel)
theorem v_turn_X : eqS false [.v (.str "turn"), .v (.str "X")] = some (.v (.bl false)) := eq_str _ (by decide +kernel)
theorem v_turn_Z : eqS false [.v (.str "turn"), .v (.str "Z")] = some (.v (.bl false)) := eq_str _ (by decide +kernel)
theorem v_turn_turn : eqS false [.v (.str "turn"), .v (.str "turn")] = some (.v (.bl true)) := eq_str _ (by decide +kernel)
theorem v_H_X : eqS false [.v (.str "H"), .v (.str "X")] = some (.v (.bl false)) := eq_str _ (by decide +kernel)
theorem v_H_Z : eqS false [.v (.str "H"), .v (.str "Z")] = some (.v (.bl false)) := eq_str _ (by decide +kernel)
theorem v_H_turn : eqS false [.v (.str "H"), .v (.str "turn")] = some (.v (.bl false)) := eq_str _ (by decide +kernel)
theorem v_H_H : eqS false [.v (.str "H"), .v (.str "H")] = some (.v (.bl true)) := eq_str _ (by decide +kernel)
theorem v_J_X : eqS false [.v (.str "J"), .v (.str "X")] = some (.v (.bl false)) := eq_str _ (by decide +kernel)
theorem v_J_Z : eqS false [.v (.str "J"), .v (.str "Z")] = some (.v (.bl false)) := eq_str _ (by decide +kernel)
theorem v_J_turn : eqS false [.v (.str "J"), .v (.str "turn")] = some (.v (.bl false)) := eq_str _ (by decide +kernel)
theorem v_J_H : eqS false [.v (.str "J"), .v (.str "H")] = some (.v (.bl false)) := eq_str _ (by decide +kernel)
theorem v_J_J : eqS false [.v (.str "J"), .v (.str "J")] = some (.v (.bl true)) := eq_str _ (by decide +kernel)
theorem v_CZ_X : eqS false [.v (.str "CZ"), .v (.str "X")] = some (.v (.bl false)) := eq_str _ (by decide +kernel)
theorem v_CZ_Z : eqS false [.v (.str "CZ"), .v (.str "Z")] = some (.v (.bl false)) := eq_str _ (by decide +kernel)
theorem v_CZ_turn : eqS false [.v (.str "CZ"), .v (.str "turn")] = some (.v (.bl false)) := eq_str _ (by decide +kernel)
theorem v_CZ_H : eqS false [.v (.str "CZ"), .v (.str "H")] = some (.v (.bl false)) := eq_str _ (by decide +kernel)
theorem v_CZ_J : eqS false [.v (.str "CZ"), .v (.str "J")] = some (.v (.bl false)) := eq_str _ (by decide +kernel)
theorem v_CZ_CZ : eqS false [.v (.str "CZ"), .v (.str "CZ")] = some (.v (.bl true)) := eq_str _ (by decide +kernel)
theorem v_N_X : eqS false [.v (.str "N"), .v (.str "X")] = some (.v (.bl false)) := eq_str _ (by decide +kernel)
theorem v_N_Z : eqS false [.v (.str "N"), .v (.str "Z")] = some (.v (.bl false)) := eq_str _ (by decide +kernel)
theorem v_N_turn : eqS false [.v (.str "N"), .v (.str "turn")] = some (.v (.bl false)) := eq_str _ (by decide +kernel)
theorem v_N_H : eqS false [.v (.str "N"), .v (.str "H")] = some (.v (.bl false)) := eq_str _ (by decide +kernel)
theorem v_N_J : eqS false [.v (.str "N"), .v (.str "J")] = some (.v (.bl false)) := eq_str _ (by decide +kernel)
theorem v_N_CZ : eqS false [.v (.str "N"), .v (.str "CZ")] = some (.v (.bl false)) := eq_str _ (by decide +kernel)
section
variable {n a L : Nat} {qs : List Int} {q t : Int} {as us : List F}
/-- a law's turn stands here -/
abbrev En (X s k3 k4 k5 : Sl) (fd td : D) (o7 j8 : Sl) (w : Str) (q t : Int) (gd : D) (o13 n14 m15 d16 : Sl) : DL.Env := [X, s, k3, k4, k5, .v fd, .v td, o7, j8, .v (.str w), I q, I t, .v gd, o13, n14, m15, d16]
variable (X s k3 k4 k5 o7 j8 o13 n14 m15 d16 : Sl)
end
end W


set_option maxHeartbeats 1000000
namespace W
open PySem PySem.Spec PyProof.Rows L2 DL N4 Bt
theorem any_ints (qs : List Int) (x : Int) : ((qs.map D.int).any fun y => eqF y (.int x)) = decide (x ∈ qs) := by
  rw [Bool.eq_iff_iff, List.any_eq_true, decide_eq_true_eq]
  constructor
  · rintro ⟨y, hy, e⟩
    obtain ⟨z, hz, rfl⟩ := List.mem_map.mp hy
    have : (z == x) = true := e
    rw [beq_iff_eq] at this
    exact this ▸ hz
  · exact fun h => ⟨.int x, List.mem_map.mpr ⟨x, h, rfl⟩, beq_self_eq_true x⟩
theorem nin_ints {k : TK} (qs : List Int) (x : Int) : inS true [.v (.int x), .v (.tg k (qs.map .int))] = some (.v (.bl (!decide (x ∈ qs)))) := by
  show (seqV (.v (.tg k (qs.map .int)))).bind (fun ds => if flatD (.int x) = true ∧ ds.all flatD = true then some (Sl.v (.bl (if true = true then !(ds.any fun y => eqF y (.int x)) else ds.any fun y => eqF y (.int x)))) else none) = _
  rw [seqV_tup, Option.bind_some, if_pos ⟨rfl, flat_ints qs⟩, if_pos rfl, any_ints]
/-- a draw from a list of ints -/
theorem pick_ints {rs : List Int} {d : Int} (h0 : 0 ≤ d) (h1 : d < rs.length) : ∃ r ∈ rs, ixS [.o (rs.map fun i => .v (.int i)), I d] = some (I r) := by
  obtain ⟨j, rfl⟩ : ∃ j : Nat, d = j := ⟨d.toNat, by omega⟩
  have hj : j < rs.length := by omega
  refine ⟨rs[j], List.getElem_mem hj, ?_⟩
  rw [ixS_o, vsOf_ints, Option.bind_some, atI_of (d := .int rs[j]) (by rw [List.getElem?_map, List.getElem?_eq_getElem hj]; rfl)]
  rfl
theorem pick_tup {k : TK} {rs : List Int} {d : Int} (h0 : 0 ≤ d) (h1 : d < rs.length) : ∃ (a : Nat) (r : Int), rs[a]? = some r ∧ ixS [.v (.tg k (rs.map .int)), I d] = some (I r) := by
  obtain ⟨j, rfl⟩ : ∃ j : Nat, d = j := ⟨d.toNat, by omega⟩
  have hj : j < rs.length := by omega
  refine ⟨j, rs[j], List.getElem?_eq_getElem hj, ?_⟩
  rw [ixS_tup, atI_of (d := .int rs[j]) (by rw [List.getElem?_map, List.getElem?_eq_getElem hj]; rfl)]
  rfl
theorem others_len {qs : List Int} {q : Int} (hq : qs.Nodup) (h : q ∈ qs) : (qs.filter fun x => x != q).length = qs.length - 1 := by
  rw [← List.Nodup.erase_eq_filter hq, List.length_erase_of_mem h]
theorem filter_add {α : Type} (p : α → Bool) : ∀ l : List α, (l.filter p).length + (l.filter fun x => !p x).length = l.length
  | [] => rfl
  | x :: l => by
    have ih := filter_add p l
    cases h : p x <;> simp [h] <;> omega
theorem new_len {qs : List Int} {m : Nat} (hq : qs.Nodup) (h : ∀ x ∈ qs, 0 ≤ x ∧ x < m) : (((List.range m).map fun (i : Nat) => (i : Int)).filter fun x => !decide (x ∈ qs)).length = m - qs.length := by
  generalize hR : (List.range m).map (fun (i : Nat) => (i : Int)) = R
  have hl : R.length = m := by rw [← hR]; simp
  have nd : R.Nodup := by
    rw [← hR]
    exact List.pairwise_map.mpr (List.nodup_range.imp fun h z => h (Int.ofNat.inj z))
  have hm : ∀ x, x ∈ R ↔ 0 ≤ x ∧ x < m := fun x => by
    rw [← hR, List.mem_map]
    constructor
    · rintro ⟨i, hi, rfl⟩
      have := List.mem_range.mp hi
      omega
    · rintro ⟨h1, h2⟩
      exact ⟨x.toNat, List.mem_range.mpr (by omega), by omega⟩
  have p : (R.filter fun x => decide (x ∈ qs)).Perm qs := (List.perm_ext_iff_of_nodup (nd.sublist (List.filter_sublist)) hq).mpr fun x => by
    rw [List.mem_filter, decide_eq_true_eq, hm]
    exact ⟨fun z => z.2, fun z => ⟨h x z, z⟩⟩
  have e := filter_add (fun x => decide (x ∈ qs)) R
  rw [p.length_eq, hl] at e
  omega
section
variable {n a L B m : Nat} {qs ns : List Int} {q t : Int} {as us : List F}
variable (s k3 k4 k5 o7 j8 o13 n14 m15 d16 : Sl)
end
end W


set_option maxHeartbeats 1000000
namespace W
open PySem PySem.Spec PyProof.Rows L2 DL N4 Bt
/-- what stands ahead of each turn -/
structure Inn (L n : Nat) (qs : List Int) (as us : List F) : Prop where
  nd : qs.Nodup
  len : qs.length = n
  r : ∀ x ∈ qs, 0 ≤ x ∧ x < 24
  n0 : 0 < n
  n4 : n ≤ 4
  f : Fr n L as us
theorem Fr.mono {n L M : Nat} {as us : List F} (h : Fr n L as us) (le : L ≤ M) : Fr n M as us := ⟨h.la, h.lu, h.ap, fun A hA => (h.sa A hA).mono le, fun A hA => (h.su A hA).mono le⟩
theorem pick7 {d : Int} (h0 : 0 ≤ d) (h1 : d < 7) : ∃ w : Str, (w = "X" ∨ w = "Z" ∨ w = "turn" ∨ w = "H" ∨ w = "J" ∨ w = "CZ" ∨ w = "N") ∧ ixS [.o [.v (.str "X"), .v (.str "Z"), .v (.str "turn"), .v (.str "H"), .v (.str "J"), .v (.str "CZ"), .v (.str "N")], I d] = some (.v (.str w)) := by
  obtain h | h | h | h | h | h | h : d = 0 ∨ d = 1 ∨ d = 2 ∨ d = 3 ∨ d = 4 ∨ d = 5 ∨ d = 6 := by omega
  all_goals subst h
  · exact ⟨_, .inl rfl, by simp [ixS_o, atI, ixN]⟩
  · exact ⟨_, .inr (.inl rfl), by simp [ixS_o, atI, ixN]⟩
  · exact ⟨_, .inr (.inr (.inl rfl)), by simp [ixS_o, atI, ixN]⟩
  · exact ⟨_, .inr (.inr (.inr (.inl rfl))), by simp [ixS_o, atI, ixN]⟩
  · exact ⟨_, .inr (.inr (.inr (.inr (.inl rfl)))), by simp [ixS_o, atI, ixN]⟩
  · exact ⟨_, .inr (.inr (.inr (.inr (.inr (.inl rfl))))), by simp [ixS_o, atI, ixN]⟩
  · exact ⟨_, .inr (.inr (.inr (.inr (.inr (.inr rfl))))), by simp [ixS_o, atI, ixN]⟩
end W


set_option maxHeartbeats 1000000
namespace W
open PySem PySem.Spec PyProof.Rows L2 DL N4 Bt
theorem choose_us {P : F → Prop} : ∀ {rs : List Sl}, (∀ (i : Nat) (r : Sl), rs[i]? = some r → ∃ u, r = .v (lf u) ∧ P u) → ∃ us, rs = ul us ∧ ∀ u ∈ us, P u
  | [], _ => ⟨[], rfl, fun u z => nomatch z⟩
  | r :: rs, h => by
    obtain ⟨u, e, hu⟩ := h 0 r rfl
    obtain ⟨us, e2, h2⟩ := choose_us (rs := rs) fun i x hx => h (i + 1) x (by simpa using hx)
    refine ⟨u :: us, by rw [e, e2]; rfl, fun v hv => ?_⟩
    rcases List.mem_cons.mp hv with z | z
    · rw [z]; exact hu
    · exact h2 v z
theorem state_eq {B m n : Nat} {k : TK} {ns qs : List Int} (S : ScOk B ns) {s : Sl} (h : StOk B m s) (hm : m < 700000) (hn : qs.length = n) (h4 : n ≤ 4) :
    ∃ us s', n__law_state [s, .v (scr ns), .v (.tg k (qs.map .int))] = .ret (.o (ul us)) [s'] ∧ us.length = 2 ^ n ∧ (∀ u ∈ us, Bd 30 u.1 ∧ u.2 ≤ 5) ∧ StOk B (m + 11 * 2 ^ n) s' := by
  have h16 : 2 ^ n ≤ 16 := Nat.pow_le_pow_right (n := 2) (by decide) h4
  obtain ⟨rs, e2, h3, k1, k2, s', k3, k4⟩ := lcG_inv (tg := tgN 3) (f := e0__law_state) (own := [3]) (fun i e => ∃ s', e = [s', .v (scr ns), .v (.tg k (qs.map .int)), .u] ∧ StOk B (m + 11 * i) s') (fun _ r => ∃ u, r = .v (lf u) ∧ Bd 30 u.1 ∧ u.2 ≤ 5) (rangeD 0 (2 ^ n)) 0 [] [s, .v (scr ns), .v (.tg k (qs.map .int)), .u] ⟨s, rfl, h⟩ (fun i d e hd ⟨s1, he, hs1⟩ => by
    subst he
    rw [Nat.zero_add] at *
    obtain ⟨hi, rfl⟩ := range_get hd
    obtain ⟨u, s2, a1, a2, a3, h2⟩ := number_eq S hs1 (by omega)
    obtain ⟨c0, c0', rfl, _⟩ := id hs1
    obtain ⟨c1, c1', rfl, _⟩ := id h2
    refine ⟨_, .v (lf u), [.o [I c1, I c1'], .v (scr ns), .v (.tg k (qs.map .int)), I (i : Int)], rfl, ?_, ⟨u, rfl, a2, a3⟩, .o [I c1, I c1'], rfl, ?_⟩
    · generalize lf u = LU at *
      generalize (i : Int) = I' at *
      simp [e0__law_state, a1]
    · have : m + 11 * (i + 1) = m + 11 * i + 11 := by omega
      rw [this]
      exact h2)
  subst k3
  rw [Nat.zero_add, range_len] at k4
  obtain ⟨us, hus, hP⟩ := choose_us k2
  subst hus
  rw [List.nil_append] at h3
  refine ⟨us, s', ?_, by simpa [range_len] using k1, hP, k4⟩
  obtain ⟨c0, c0', rfl, _⟩ := id h
  obtain ⟨c1, c1', rfl, _⟩ := id k4
  have e5 : ((qs.length : Nat) : Int) = ((n : Nat) : Int) := by rw [hn]
  have e7 := shl1 (s := n) (by omega)
  have e8 : rngB ((2 ^ n : Nat) : Int) = true := rngB_nat (by omega)
  have e9 : (((2 ^ n : Nat) : Int)).toNat = 2 ^ n := rfl
  have hsz : (rangeD 0 (2 ^ n)).length ≤ sizeLine := by rw [sizeLine_eq, range_len]; omega
  generalize ul us = U at *
  generalize ((2 ^ n : Nat) : Int) = S2 at *
  generalize ((n : Nat) : Int) = S1 at *
  simp [n__law_state, den_at, b__law_state, List.replicate, e5, e7, e8, e9, hsz, h3]
theorem ddI_le : ∀ l : List Int, (ddI l).length ≤ l.length
  | [] => Nat.le_refl _
  | x :: l => by
    have := ddI_le l
    unfold ddI
    split
    · rw [List.length_cons]; omega
    · rw [List.length_cons, List.length_cons]; omega
theorem qubits_eq {B m : Nat} {ns : List Int} (S : ScOk B ns) {s : Sl} (h : StOk B m s) (hm : m < 700000) :
    ∃ (qs : List Int) (s' : Sl), n__law_qubits [s, .v (scr ns), I 3] = .ret (.v (.tg .f (qs.map .int))) [s'] ∧ qs.Nodup ∧ 0 < qs.length ∧ qs.length ≤ 3 ∧ (∀ x ∈ qs, 0 ≤ x ∧ x < 24) ∧ StOk B (m + 7) s' := by
  obtain ⟨d, s1, e1, d0, d1, h1⟩ := draw_eq S h (by omega) 3 (by decide) (by decide)
  obtain ⟨c, rfl⟩ : ∃ c : Nat, d = c := ⟨d.toNat, by omega⟩
  obtain ⟨e2, h3, s', ls, s4, k3, k4, k5, k6⟩ := forS_inv (tg := tgN 4) (body := l0__law_qubits) (fun i e => ∃ (s' : Sl) (ls : List Int) (s4 : Sl), e = [s', .v (scr ns), I 3, .o (ls.map fun i => .v (.int i)), s4] ∧ ls.length = i ∧ (∀ x ∈ ls, 0 ≤ x ∧ x < 24) ∧ StOk B (m + 1 + 2 * i) s') (rangeD 0 (1 + c)) 0
    [s1, .v (scr ns), I 3, .o [], .u] ⟨s1, [], .u, rfl, rfl, (fun x z => nomatch z), h1⟩ (fun i d e hd ⟨s2, ls, s4, he, k1, k2, hs2⟩ => by
      subst he
      rw [Nat.zero_add] at *
      obtain ⟨hi, rfl⟩ := range_get hd
      obtain ⟨x, s3, a1, a2, a3, h2⟩ := draw_eq S hs2 (by omega) 24 (by decide) (by decide)
      obtain ⟨y, s5, b1, b2, b3, h4⟩ := draw_eq S h2 (by omega) 3 (by decide) (by decide)
      obtain ⟨r, hr, er⟩ := pick_ints (rs := [(i : Int), 23 - (i : Int), x]) b2 (by simpa using b3)
      have hr24 : 0 ≤ r ∧ r < 24 := by
        rcases List.mem_cons.mp hr with z | z
        · omega
        · rcases List.mem_cons.mp z with z | z
          · omega
          · rw [List.mem_singleton.mp z]; omega
      refine ⟨_, _, rfl, ?_, s5, ls ++ [r], I (i : Int), rfl, by simp [k1], fun z hz => ?_, ?_⟩
      · obtain ⟨c0, c0', rfl, _⟩ := id hs2
        obtain ⟨c1, c1', rfl, _⟩ := id h2
        obtain ⟨c2, c2', rfl, _⟩ := id h4
        have er : ixS [.o [I (i : Int), I (23 - (i : Int)), I x], I y] = some (I r) := er
        have sz : ls.length < sizeLine := by rw [sizeLine_eq]; omega
        generalize (i : Int) = I' at *
        simp [l0__law_qubits, a1, b1, er, DL.listAt, appO, sz]
      · rcases List.mem_append.mp hz with z | z
        · exact k2 _ z
        · rw [List.mem_singleton.mp z]; exact hr24
      · have : m + 1 + 2 * (i + 1) = m + 1 + 2 * i + 1 + 1 := by omega
        rw [this]
        exact h4)
  subst k3
  rw [Nat.zero_add, range_len] at k4 k6
  have hne : ls ≠ [] := fun z => by rw [z] at k4; simp at k4; omega
  have hlen : (srtS ls).length ≤ 3 := by
    have := ddI_le ls
    unfold srtS
    rw [srt_len]
    omega
  have hpos : 0 < (srtS ls).length := by
    cases hls : ls with
    | nil => exact absurd hls hne
    | cons x l =>
      have : x ∈ srtS ls := (srtS_mem ls x).mpr (by rw [hls]; exact List.mem_cons_self)
      rw [← hls]
      exact List.length_pos_of_mem this
  have fin : ∃ n, n ≤ m + 7 ∧ StOk B n s' := ⟨_, by omega, k6⟩
  refine ⟨srtS ls, s', ?_, (srtS_lt ls).imp (fun h => by omega), hpos, hlen, fun x hx => k5 x ((srtS_mem ls x).mp hx), ?_⟩
  · obtain ⟨c0, c0', rfl, _⟩ := id h
    obtain ⟨c1, c1', rfl, _⟩ := id h1
    obtain ⟨c2, c2', rfl, _⟩ := id k6
    have e8 : rngB (1 + (c : Int)) = true := by
      rw [show 1 + (c : Int) = ((1 + c : Nat) : Int) by omega]
      exact rngB_nat (by omega)
    have e9 : (1 + (c : Int)).toNat = 1 + c := by omega
    have es : srtSO (.o (ls.map fun i => .v (.int i))) = some (.o ((srtS ls).map fun i => .v (.int i))) := by
      rw [srtSO_o, vsOf_ints, Option.bind_some, intsD_map, Option.bind_some, if_pos (by omega)]
    have et := tupF_ints (srtS ls)
    generalize (srtS ls).map D.int = T0 at *
    generalize ((srtS ls).map fun i => Sl.v (.int i)) = T1 at *
    generalize (ls.map fun i => Sl.v (.int i)) = T2 at *
    simp [n__law_qubits, den_at, b__law_qubits, List.replicate, e1, e8, e9, h3, es, et]
  · obtain ⟨k, c, e, h1, h2, h3⟩ := k6
    exact ⟨k, c, e, h1, by omega, h3⟩
end W


set_option maxHeartbeats 1000000
namespace W
open PySem PySem.Spec PyProof.Rows L2 DL N4 Bt
theorem ex_tf2 (m : Nat) (u : F) : Ex (m + 2) (tf2 u) (tf2 u) := .inr (.inr (.inr (.inr (.inl ⟨.w, .w, _, _, rfl, rfl, rfl, by simp, fun i x y hx hy => by
  rw [hx] at hy
  cases hy
  have : x = .int u.1.a ∨ x = .int u.1.b ∨ x = .int u.1.c ∨ x = .int u.1.d ∨ x = .int (u.2 : Int) := by simpa using List.mem_of_getElem? hx
  rcases this with z | z | z | z | z <;> exact .inl ⟨_, z, z⟩⟩))))
theorem ex_st (m : Nat) {k k' : TK} {qs : List Int} {as : List F} (h : qs.length ≤ 1000000) (h2 : as.length ≤ 1000000) : Ex (m + 4) (st k qs as) (st k' qs as) :=
  .inr (.inr (.inr (.inr (.inl ⟨.w, .w, _, _, rfl, rfl, rfl, by simp, fun i x y hx hy => by
    match i, hx, hy with
    | 0, hx, hy => cases hx; cases hy; exact ex_ints (m + 1) h
    | 1, hx, hy =>
      cases hx; cases hy
      exact .inr (.inr (.inr (.inr (.inl ⟨.w, .w, _, _, rfl, rfl, rfl, by rw [List.length_map]; exact h2, fun j a b ha hb => by
        rw [ha] at hb
        cases hb
        rw [List.getElem?_map] at ha
        obtain ⟨u, _, rfl⟩ := Option.map_eq_some_iff.mp ha
        exact ex_tf2 m u⟩))))
    | i + 2, hx, _ => simp at hx⟩))))
theorem told_fr {n : Nat} {us : List F} (hl : us.length = 2 ^ n) (h : ∀ u ∈ us, Bd 30 u.1 ∧ u.2 ≤ 5) : Fr n 100 (us.map fun u => nf (2 * u.2) u.1) us := by
  have su : ∀ A ∈ us, Sm 100 A := fun A hA => ⟨(h A hA).1.mono (by decide), by have := (h A hA).2; omega⟩
  refine ⟨by rw [List.length_map]; exact hl, hl, fun i hi => ?_, fun A hA => ?_, su⟩
  · have e : (us.map fun u => nf (2 * u.2) u.1).getD i z0 = nf (2 * (us.getD i z0).2) (us.getD i z0).1 := by
      rw [List.getD_eq_getElem?_getD, List.getElem?_map, getD_get (by omega)]
      rfl
    rw [e]
    exact ⟨(nf_ok _ _).1, (nf_ok _ _).2⟩
  · obtain ⟨u, hu, rfl⟩ := List.mem_map.mp hA
    have h1 := nf_le (2 * u.2) u.1
    have h2 := (h u hu).2
    exact ⟨((h u hu).1.nf _).mono (by decide), by omega⟩
end W


set_option maxHeartbeats 1000000
namespace W
open PySem PySem.Spec PyProof.Rows L2 DL N4 Bt
/-! values of the program's and of the law's numbers -/
theorem ap_iff {A u : F} : Ap A u ↔ Cn A ∧ vP A = vL u := ⟨fun h => ⟨h.c, (eq2_iff.mp h.e).trans (vP_L u)⟩, fun h => ⟨h.1, eq2_iff.mpr (h.2.trans (vP_L u).symm)⟩⟩
theorem up_r {m n : Nat} (h : n ≤ m) : KK.s ^ (m - n) * KK.r ^ m = KK.r ^ n := by
  have e : m = (m - n) + n := by omega
  have h1 := KK.sr_pow (m - n)
  have h2 : KK.r ^ m = KK.r ^ (m - n) * KK.r ^ n := by rw [← KK.pow_add']; exact congrArg _ e
  rw [h2]
  grind
theorem up_h {m n : Nat} (h : n ≤ m) : KK.s ^ (2 * (m - n)) * KK.h ^ m = KK.h ^ n := by
  rw [← KK.rr_pow, ← KK.rr_pow]
  have := up_r (m := 2 * m) (n := 2 * n) (by omega)
  have e : 2 * m - 2 * n = 2 * (m - n) := by omega
  rw [e] at this
  exact this
theorem vP_add (A C : F) : vP (pAdd A C) = vP A + vP C := by
  unfold pAdd sumN
  rw [vP_nf]
  simp only [em_ad, em_rtn]
  have h1 := up_r (m := max A.2 C.2) (n := A.2) (by omega)
  have h2 := up_r (m := max A.2 C.2) (n := C.2) (by omega)
  unfold vP
  grind
theorem vP_neg (A : F) : vP (pNeg A) = -vP A := by
  unfold pNeg vP
  simp only [em_ng]
  grind
theorem vP_mul (A C : F) : vP (pMul A C) = vP A * vP C := by
  unfold pMul
  rw [vP_nf, em_ml, KK.pow_add']
  unfold vP
  grind
theorem vP_sc (A : F) : vP (pSc A) = vP A * KK.r := by
  unfold pSc
  rw [vP_nf, Lean.Grind.Semiring.pow_succ]
  unfold vP
  grind
def pS2 (A : F) : F := nf (A.2 + 2) A.1
theorem vP_s2 (A : F) : vP (pS2 A) = vP A * KK.h := by
  unfold pS2
  rw [vP_nf, Lean.Grind.Semiring.pow_succ, Lean.Grind.Semiring.pow_succ, ← KK.r_r]
  unfold vP
  grind
def pCj (A : F) : F := (cj A.1, A.2)
theorem vP_cj (A : F) : vP (pCj A) = KK.conj (vP A) := by
  unfold pCj vP
  simp only [em_cj, KK.conj_mul, KK.pow_conj, KK.conj_r]
theorem vL_neg (u : F) : vL (lNeg u) = -vL u := by
  unfold lNeg vL
  simp only [em_ng]
  grind
theorem vL_add (u v : F) : vL (lAdd u v) = vL u + vL v := by
  unfold lAdd vL
  simp only [em_ad, em_sm]
  have h1 := up_h (m := max u.2 v.2) (n := u.2) (by omega)
  have h2 := up_h (m := max u.2 v.2) (n := v.2) (by omega)
  grind
def lBy (u v : F) : F := (ml u.1 v.1, u.2 + v.2)
theorem vL_by (u v : F) : vL (lBy u v) = vL u * vL v := by
  unfold lBy vL
  simp only [em_ml, KK.pow_add']
  grind
def lBar (u : F) : F := (cj u.1, u.2)
theorem vL_bar (u : F) : vL (lBar u) = KK.conj (vL u) := by
  unfold lBar vL
  simp only [em_cj, KK.conj_mul, KK.pow_conj, KK.conj_h]
theorem s_h : KK.s * KK.h = KK.r := by
  have := KK.s_r
  have := KK.r_r
  grind
theorem vL_root (u : F) : vL (lRoot u) = vL u * KK.r := by
  unfold lRoot vL
  simp only [em_rt, Lean.Grind.Semiring.pow_succ]
  have := s_h
  grind
def lR2 (u : F) : F := (rtn 2 u.1, u.2 + 2)
theorem vL_r2 (u : F) : vL (lR2 u) = vL u * KK.h := by
  unfold lR2 vL
  simp only [em_rtn, Lean.Grind.Semiring.pow_succ, Lean.Grind.Semiring.pow_zero]
  have := s_h
  have := KK.s_r
  have := KK.r_r
  grind
theorem vL_own (A : F) : vL (ownN A) = vP A := by
  rw [← vP_L]
  unfold ownN
  split
  · rename_i h
    have e : 2 * ((A.2 + 1) / 2) = A.2 + 1 := by omega
    unfold vP
    simp only [e, em_rt, Lean.Grind.Semiring.pow_succ]
    have := KK.s_r
    grind
  · have e : 2 * (A.2 / 2) = A.2 := by omega
    unfold vP
    simp only [e]
theorem like_iff (u v : F) : sm (2 ^ (max u.2 v.2 - u.2)) u.1 = sm (2 ^ (max u.2 v.2 - v.2)) v.1 ↔ vL u = vL v := by
  have h1 := up_h (m := max u.2 v.2) (n := u.2) (by omega)
  have h2 := up_h (m := max u.2 v.2) (n := v.2) (by omega)
  have h3 : KK.s ^ (2 * max u.2 v.2) * KK.h ^ max u.2 v.2 = 1 := by rw [← KK.rr_pow, KK.sr_pow]
  unfold vL
  constructor
  · intro e
    have e := congrArg em e
    rw [em_sm, em_sm] at e
    rw [← h1, ← h2]
    grind
  · intro e
    refine em_inj ?_
    rw [em_sm, em_sm]
    rw [← h1, ← h2] at e
    grind
theorem like_v {u v : F} {L : Nat} (h : Sm L u) (k : Sm L v) (hL : L ≤ 1000000) : ∃ b, n__law_like [.v (lf u), .v (lf v)] = .ret (.v (.bl b)) [] ∧ (b = true ↔ vL u = vL v) := by
  have h1 := h.p
  have h2 := k.p
  exact ⟨_, like_eq u v L L h.b k.b (by omega) (by omega), by rw [decide_eq_true_iff]; exact like_iff u v⟩
theorem like_t {u v : F} {L : Nat} (h : Sm L u) (k : Sm L v) (hL : L ≤ 1000000) (e : vL u = vL v) : n__law_like [.v (lf u), .v (lf v)] = .ret (.v (.bl true)) [] := by
  obtain ⟨b, h1, h2⟩ := like_v h k hL
  rw [h1, h2.mpr e]
theorem lBy_eq {u v : F} {L : Nat} (h : Sm L u) (k : Sm L v) (hL : L ≤ 1000000) : n__law_by [.v (lf u), .v (lf v)] = .ret (.v (lf (lBy u v))) [] := by
  have := by_eq u.1 v.1 (u.2 : Int) (v.2 : Int) L L h.b k.b (by omega)
  rw [← Int.natCast_add] at this
  exact this
theorem lBar_eq (u : F) : n__law_bar [.v (lf u)] = .ret (.v (lf (lBar u))) [] := bar_eq u.1 u.2
theorem lR2_eq {u : F} {L : Nat} (h : Sm L u) (hL : L ≤ 1000000) : n__law_root [.v (lf u), I 2] = .ret (.v (lf (lR2 u))) [] := root_eq u 2 L h.b (by decide) hL
theorem sm_lBy {u v : F} {L M N : Nat} (h : Sm L u) (k : Sm M v) (hN : L + M + 2 ≤ N) : Sm N (lBy u v) := ⟨(h.b.ml k.b).mono hN, by have := h.p; have := k.p; show u.2 + v.2 ≤ N; omega⟩
theorem sm_lBar {u : F} {L : Nat} (h : Sm L u) : Sm L (lBar u) := ⟨h.b.cj, h.p⟩
theorem sm_lR2 {u : F} {L N : Nat} (h : Sm L u) (hN : L + 2 ≤ N) : Sm N (lR2 u) := ⟨(h.b.rtn 2).mono hN, by have := h.p; show u.2 + 2 ≤ N; omega⟩
theorem sm_s2 {A : F} {L N : Nat} (h : Sm L A) (hN : L + 2 ≤ N) : Sm N (pS2 A) := ⟨(h.b.mono (by omega)).nf _, Nat.le_trans (nf_le _ _) (by have := h.p; omega)⟩
theorem sm_cj {A : F} {L : Nat} (h : Sm L A) : Sm L (pCj A) := ⟨h.b.cj, h.p⟩
theorem sm_own {A : F} {L N : Nat} (h : Sm L A) (hN : L + 1 ≤ N) : Sm N (ownN A) := by
  have := h.p
  unfold ownN
  split
  · exact ⟨h.b.rt.mono hN, by simp only; omega⟩
  · exact ⟨h.b.mono (by omega), by simp only; omega⟩
theorem cn_nf (n : Nat) (x : Q) : Cn (nf n x) := (nf_ok n x).1
theorem lOwn_eq {A : F} {L : Nat} (h : Sm L A) (hL : L ≤ 1000000) : n__law_own [.v (tf2 A)] = .ret (.v (lf (ownN A))) [] := own_eq A (by have := h.p; omega)
theorem pCj_eq (A : F) : n_conjugate [.v (tf2 A)] = .ret (.v (tf2 (pCj A))) [] := conj_eq A.1 A.2
theorem pS2_eq {A : F} (h : A.2 < 2 ^ 28) : n_scaled [.v (tf2 A), I 2] = .ret (.v (tf2 (pS2 A))) [] := by
  have := scaled_eq A.1 A.2 2 (by omega)
  have e : ((A.2 : Int) + 2) = ((A.2 + 2 : Nat) : Int) := by omega
  rw [e, exI_nat] at this
  exact this
end W


set_option maxHeartbeats 1000000
namespace W
open PySem PySem.Spec PyProof.Rows L2 DL N4 Bt
/-! the states of planes -/
def pn (p : Nat) : Str := if p = 0 then "XY" else if p = 1 then "XZ" else "YZ"
theorem un_mod (t : Int) : un t = un (t % 8) := by
  unfold un
  have h1 : t % 8 % 8 = t % 8 := by omega
  have h2 : t % 8 % 4 = t % 4 := by omega
  rw [h1, h2]
theorem mod8 (t : Int) : ∃ r : Nat, r < 8 ∧ t % 8 = (r : Int) := ⟨(t % 8).toNat, by omega, by omega⟩
abbrev Wv (t : Int) : KK := em (un t)
def ii : KK := ⟨0, 0, 1, 0⟩
theorem ii_ii : ii * ii = -1 := by
  show KK.mul ii ii = KK.neg (KK.nat 1)
  apply KK.ext <;> simp only [KK.mul, ii, KK.neg, KK.nat] <;> grind
theorem ii_cj : KK.conj ii = -ii := by
  show KK.conj ii = KK.neg ii
  apply KK.ext <;> simp only [KK.conj, ii, KK.neg] <;> grind
theorem W2 : Wv 2 = ii := rfl
theorem W_unit (t : Int) : Wv t * KK.conj (Wv t) = 1 := by
  have h : ∀ r < 8, ml (un ((r : Nat) : Int)) (cj (un ((r : Nat) : Int))) = ⟨1, 0, 0, 0⟩ := by decide
  obtain ⟨r, hr, e⟩ := mod8 t
  unfold Wv
  rw [un_mod t, e, ← em_cj, ← em_ml, h r hr]
  rfl
theorem W_neg (t : Int) : Wv (-t) = KK.conj (Wv t) := by
  have h : ∀ r < 8, un ((-((r : Nat) : Int)) % 8) = cj (un ((r : Nat) : Int)) := by decide
  obtain ⟨r, hr, e⟩ := mod8 t
  unfold Wv
  have e2 : (-t) % 8 = (-((r : Nat) : Int)) % 8 := by omega
  rw [un_mod t, un_mod (-t), e2, e, ← em_cj, h r hr]
theorem W_4 (t : Int) : Wv (t + 4) = -Wv t := by
  have h : ∀ r < 8, un ((((r : Nat) : Int) + 4) % 8) = ng (un ((r : Nat) : Int)) := by decide
  obtain ⟨r, hr, e⟩ := mod8 t
  unfold Wv
  have e2 : (t + 4) % 8 = (((r : Nat) : Int) + 4) % 8 := by omega
  rw [un_mod t, un_mod (t + 4), e2, e, ← em_ng, h r hr]
theorem W_add2 (t : Int) : Wv (2 + t) = ii * Wv t := by
  have h : ∀ r < 8, un ((2 + ((r : Nat) : Int)) % 8) = ml ⟨0, 0, 1, 0⟩ (un ((r : Nat) : Int)) := by decide
  obtain ⟨r, hr, e⟩ := mod8 t
  unfold Wv
  have e2 : (2 + t) % 8 = (2 + ((r : Nat) : Int)) % 8 := by omega
  rw [un_mod t, un_mod (2 + t), e2, e, h r hr, em_ml]
  rfl
def loK (p : Nat) (W : KK) : KK := if p = 0 then KK.r else (1 + W) * KK.h
def hiK (p : Nat) (W : KK) : KK := if p = 0 then W * KK.r else if p = 1 then ii * ((1 - W) * KK.h) else (1 - W) * KK.h
abbrev unF (t : Int) : F := (un t, 0)
def plo (p : Nat) (t : Int) : F := if p = 0 then pSc oneF else pS2 (pAdd oneF (unF t))
def phi (p : Nat) (t : Int) : F := if p = 0 then pSc (unF t) else if p = 1 then pMul (unF 2) (pS2 (pAdd oneF (pNeg (unF t)))) else pS2 (pAdd oneF (pNeg (unF t)))
def iiF : F := (⟨0, 0, 1, 0⟩, 0)
def llo (p : Nat) (t : Int) : F := if p = 0 then lRoot oneF else lR2 (lAdd oneF (unF t))
def lhi (p : Nat) (t : Int) : F := if p = 0 then lRoot (unF t) else if p = 1 then lBy iiF (lR2 (lAdd oneF (lNeg (unF t)))) else lR2 (lAdd oneF (lNeg (unF t)))
theorem vP_one : vP oneF = 1 := by
  unfold vP oneF
  show em ⟨1, 0, 0, 0⟩ * KK.r ^ 0 = 1
  rw [Lean.Grind.Semiring.pow_zero, show em ⟨1, 0, 0, 0⟩ = 1 from rfl]
  grind
theorem vL_one : vL oneF = 1 := by
  unfold vL oneF
  show em ⟨1, 0, 0, 0⟩ * KK.h ^ 0 = 1
  rw [Lean.Grind.Semiring.pow_zero, show em ⟨1, 0, 0, 0⟩ = 1 from rfl]
  grind
theorem vP_un (t : Int) : vP (unF t) = Wv t := by
  show em (un t) * KK.r ^ 0 = _
  rw [Lean.Grind.Semiring.pow_zero]
  grind
theorem vL_un (t : Int) : vL (unF t) = Wv t := by
  show em (un t) * KK.h ^ 0 = _
  rw [Lean.Grind.Semiring.pow_zero]
  grind
theorem vL_ii : vL iiF = ii := by
  show ii * KK.h ^ 0 = _
  rw [Lean.Grind.Semiring.pow_zero]
  grind
theorem vP_lo (p : Nat) (t : Int) : vP (plo p t) = loK p (Wv t) := by
  unfold plo loK
  split
  · rw [vP_sc, vP_one]; grind
  · rw [vP_s2, vP_add, vP_one, vP_un]
theorem vL_lo (p : Nat) (t : Int) : vL (llo p t) = loK p (Wv t) := by
  unfold llo loK
  split
  · rw [vL_root, vL_one]; grind
  · rw [vL_r2, vL_add, vL_one, vL_un]
theorem vP_hi (p : Nat) (t : Int) : vP (phi p t) = hiK p (Wv t) := by
  unfold phi hiK
  split
  · rw [vP_sc, vP_un]
  · split
    · rw [vP_mul, vP_un, W2, vP_s2, vP_add, vP_one, vP_neg, vP_un]; grind
    · rw [vP_s2, vP_add, vP_one, vP_neg, vP_un]; grind
theorem vL_hi (p : Nat) (t : Int) : vL (lhi p t) = hiK p (Wv t) := by
  unfold lhi hiK
  split
  · rw [vL_root, vL_un]
  · split
    · rw [vL_by, vL_ii, vL_r2, vL_add, vL_one, vL_neg, vL_un]; grind
    · rw [vL_r2, vL_add, vL_one, vL_neg, vL_un]; grind
/-! laws of the field -/
theorem cj_lo (p : Nat) (t : Int) : KK.conj (loK p (Wv t)) = loK p (KK.conj (Wv t)) := by
  unfold loK
  split
  · exact KK.conj_r
  · rw [KK.conj_mul, KK.conj_add, KK.conj_1, KK.conj_h]
theorem cj_hi (p : Nat) (t : Int) : KK.conj (hiK p (Wv t)) = (if p = 1 then -1 else 1) * hiK p (KK.conj (Wv t)) := by
  have e : ∀ x : KK, (1 : KK) - x = 1 + -x := fun x => by grind
  unfold hiK
  split
  · rename_i h
    rw [if_neg (by omega), KK.conj_mul, KK.conj_r]; grind
  · split
    · rename_i h
      rw [KK.conj_mul, KK.conj_mul, e, KK.conj_add, KK.conj_neg, KK.conj_1, KK.conj_h, ii_cj]; grind
    · rw [e, KK.conj_mul, KK.conj_add, KK.conj_neg, KK.conj_1, KK.conj_h]; grind
section
variable (p : Nat) (t : Int)
theorem len1 : loK p (Wv t) * KK.conj (loK p (Wv t)) + hiK p (Wv t) * KK.conj (hiK p (Wv t)) = 1 := by
  rw [cj_lo, cj_hi]
  have h1 := W_unit t
  have h2 := KK.r_r
  have h3 := KK.h_2
  have h4 := ii_ii
  unfold loK hiK
  split
  · rw [if_neg (by omega)]; grind
  · split <;> grind
theorem lo4 : loK p (Wv (t + 4)) = loK p (-Wv t) := by rw [W_4]
theorem hi4 : hiK p (Wv (t + 4)) = hiK p (-Wv t) := by rw [W_4]
theorem cross0 : KK.conj (loK p (Wv t)) * loK p (Wv (t + 4)) + KK.conj (hiK p (Wv t)) * hiK p (Wv (t + 4)) = 0 := by
  rw [cj_lo, cj_hi, lo4, hi4]
  have h1 := W_unit t
  have h2 := KK.r_r
  have h3 := KK.h_2
  have h4 := ii_ii
  unfold loK hiK
  split
  · rw [if_neg (by omega)]; grind
  · split <;> grind
end
end W


set_option maxHeartbeats 1000000
namespace W
open PySem PySem.Spec PyProof.Rows L2 DL N4 Bt
section
variable (p : Nat) (t : Int)
theorem two1 (x y : KK) :
    (KK.conj (loK p (Wv t)) * x + KK.conj (hiK p (Wv t)) * y) * KK.conj (KK.conj (loK p (Wv t)) * x + KK.conj (hiK p (Wv t)) * y) +
    (KK.conj (loK p (Wv (t + 4))) * x + KK.conj (hiK p (Wv (t + 4))) * y) * KK.conj (KK.conj (loK p (Wv (t + 4))) * x + KK.conj (hiK p (Wv (t + 4))) * y) = x * KK.conj x + y * KK.conj y := by
  simp only [KK.conj_add, KK.conj_mul, KK.conj_conj]
  rw [cj_lo, cj_hi, cj_lo, cj_hi, lo4, hi4, W_4, KK.conj_neg]
  have h1 := W_unit t
  have h2 := KK.r_r
  have h3 := KK.h_2
  have h4 := ii_ii
  generalize KK.conj x = x'
  generalize KK.conj y = y'
  unfold loK hiK
  split
  · rw [if_neg (by omega)]; grind
  · split <;> grind
/-- turns behind an X, behind a Z, and the units -/
def byX (p : Nat) (t : Int) : Int := if p = 0 then 0 - t else if p = 1 then 4 - t else t + 4
def byZ (p : Nat) (t : Int) : Int := if p = 0 then t + 4 else 0 - t
def uX (p : Nat) (t : Int) : Int := if p = 0 then -t else if p = 1 then 2 + -t else 0
def uZ (p : Nat) (t : Int) : Int := if p = 0 then 0 else -t
theorem W_0 : Wv 0 = 1 := rfl
theorem W_4m : Wv (4 - t) = -KK.conj (Wv t) := by
  have : 4 - t = -t + 4 := by omega
  rw [this, W_4, W_neg]
theorem W_0m : Wv (0 - t) = KK.conj (Wv t) := by
  have : 0 - t = -t := by omega
  rw [this, W_neg]
theorem behindX (x y : KK) : Wv (uX p t) * (KK.conj (loK p (Wv (byX p t))) * x + KK.conj (hiK p (Wv (byX p t))) * y) = KK.conj (loK p (Wv t)) * y + KK.conj (hiK p (Wv t)) * x := by
  simp only [cj_lo, cj_hi]
  have h1 := W_unit t
  have h4 := ii_ii
  unfold byX uX
  by_cases h0 : p = 0
  · simp only [if_pos h0, W_neg, W_0m, KK.conj_conj]
    unfold loK hiK
    simp only [if_pos h0, if_neg (show ¬ p = 1 by omega)]
    grind
  · by_cases h5 : p = 1
    · simp only [if_neg h0, if_pos h5, W_add2, W_neg, W_4m, KK.conj_neg, KK.conj_conj]
      unfold loK hiK
      simp only [if_neg h0, if_pos h5]
      grind
    · simp only [if_neg h0, if_neg h5, W_0, W_4, KK.conj_neg]
      unfold loK hiK
      simp only [if_neg h0, if_neg h5]
      grind
theorem behindZ (x y : KK) : Wv (uZ p t) * (KK.conj (loK p (Wv (byZ p t))) * x + KK.conj (hiK p (Wv (byZ p t))) * y) = KK.conj (loK p (Wv t)) * x + KK.conj (hiK p (Wv t)) * -y := by
  simp only [cj_lo, cj_hi]
  have h1 := W_unit t
  have h4 := ii_ii
  unfold byZ uZ
  by_cases h0 : p = 0
  · simp only [if_pos h0, W_0, W_4, KK.conj_neg]
    unfold loK hiK
    simp only [if_pos h0, if_neg (show ¬ p = 1 by omega)]
    grind
  · simp only [if_neg h0, W_neg, W_0m, KK.conj_conj]
    unfold loK hiK
    by_cases h5 : p = 1
    · simp only [if_neg h0, if_pos h5]
      grind
    · simp only [if_neg h0, if_neg h5]
      grind
end
/-! the program's and the law's functions -/
theorem s_0 : eqS false [.v (.str "XY"), .v (.str "XY")] = some (.v (.bl true)) := eq_str _ (by decide +kernel)
theorem s_1 : eqS false [.v (.str "XZ"), .v (.str "XY")] = some (.v (.bl false)) := eq_str _ (by decide +kernel)
theorem s_2 : eqS false [.v (.str "YZ"), .v (.str "XY")] = some (.v (.bl false)) := eq_str _ (by decide +kernel)
theorem s_3 : eqS false [.v (.str "XZ"), .v (.str "XZ")] = some (.v (.bl true)) := eq_str _ (by decide +kernel)
theorem s_4 : eqS false [.v (.str "YZ"), .v (.str "XZ")] = some (.v (.bl false)) := eq_str _ (by decide +kernel)
theorem unit_F (t : Int) : n_unit [I t] = .ret (.v (tf2 (unF t))) [] := unit_eq t
theorem sm_one : Sm 1 oneF := ⟨⟨by decide, by decide, by decide, by decide⟩, Nat.zero_le _⟩
theorem sm_ii : Sm 1 iiF := ⟨⟨by decide, by decide, by decide, by decide⟩, Nat.zero_le _⟩
theorem sm_plo (p : Nat) (t : Int) : Sm 5 (plo p t) := by
  unfold plo
  split
  · exact sm_sc sm_one (by omega)
  · exact sm_s2 (sm_add (N := 3) sm_one (sm_un t) (by omega)) (by omega)
theorem sm_phi (p : Nat) (t : Int) : Sm 8 (phi p t) := by
  unfold phi
  split
  · exact sm_sc (sm_un t) (by omega)
  · split
    · exact sm_mul (sm_un 2) (sm_s2 (N := 5) (sm_add (N := 3) sm_one (sm_neg (sm_un t)) (by omega)) (by omega)) (by omega)
    · exact sm_s2 (sm_add (N := 3) sm_one (sm_neg (sm_un t)) (by omega)) (by omega)
theorem sm_llo (p : Nat) (t : Int) : Sm 6 (llo p t) := by
  unfold llo
  split
  · exact sm_lRoot sm_one (by omega)
  · exact sm_lR2 (sm_lAdd (N := 4) sm_one (sm_un t) (by omega)) (by omega)
theorem sm_lhi (p : Nat) (t : Int) : Sm 9 (lhi p t) := by
  unfold lhi
  split
  · exact sm_lRoot (sm_un t) (by omega)
  · split
    · exact sm_lBy sm_ii (sm_lR2 (N := 6) (sm_lAdd (N := 4) sm_one (sm_lNeg (sm_un t)) (by omega)) (by omega)) (by omega)
    · exact sm_lR2 (sm_lAdd (N := 4) sm_one (sm_lNeg (sm_un t)) (by omega)) (by omega)
theorem cn_plo (p : Nat) (t : Int) : Cn (plo p t) := by
  unfold plo
  split <;> exact cn_nf _ _
theorem cn_phi (p : Nat) (t : Int) : Cn (phi p t) := by
  unfold phi
  split
  · exact cn_nf _ _
  · split <;> exact cn_nf _ _
theorem plane_eq {p : Nat} (hp : p < 3) (t : Int) : n_plane_state [.v (.str (pn p)), I t] = .ret (.v (.tup [tf2 (plo p t), tf2 (phi p t)])) [] := by
  have a1 := unit_F t
  have a2 := pSc_eq (A := oneF) (by decide)
  have a3 := pSc_eq (A := unF t) (Nat.two_pow_pos 28)
  have a4 := pAdd_eq (A := oneF) (C := unF t) (by decide) (Nat.two_pow_pos 28)
  have a5 := pNeg_eq (unF t)
  have a6 := pAdd_eq (A := oneF) (C := pNeg (unF t)) (by decide) (Nat.two_pow_pos 28)
  have b1 : Sm 3 (pAdd oneF (unF t)) := sm_add sm_one (sm_un t) (by omega)
  have b2 : Sm 3 (pAdd oneF (pNeg (unF t))) := sm_add sm_one (sm_neg (sm_un t)) (by omega)
  have a7 := pS2_eq (A := pAdd oneF (unF t)) (by have := b1.p; omega)
  have a8 := pS2_eq (A := pAdd oneF (pNeg (unF t))) (by have := b2.p; omega)
  have a9 := pMul_eq (sm_un 2) (sm_s2 (N := 5) b2 (by omega)) (by omega) (by omega)
  have a10 := unit_F 2
  have ko : K_ONE = tf2 oneF := rfl
  have ki : K_IMAGINARY = .int 2 := rfl
  unfold plo phi
  match p, hp with
  | 0, _ =>
    simp only [pn, if_true]
    generalize tf2 (pSc oneF) = X1 at *
    generalize tf2 (pSc (unF t)) = X2 at *
    generalize tf2 (unF t) = X3 at *
    simp [n_plane_state, den_at, b_plane_state, List.replicate, a1, s_0, ko, a2, a3]
  | 1, _ =>
    simp only [pn, if_true, if_false, show ¬ (1 : Nat) = 0 by omega]
    generalize tf2 (pMul (unF 2) (pS2 (pAdd oneF (pNeg (unF t))))) = X1 at *
    generalize tf2 (pS2 (pAdd oneF (pNeg (unF t)))) = X2 at *
    generalize tf2 (pS2 (pAdd oneF (unF t))) = X3 at *
    generalize tf2 (pAdd oneF (pNeg (unF t))) = X4 at *
    generalize tf2 (pAdd oneF (unF t)) = X5 at *
    generalize tf2 (pNeg (unF t)) = X6 at *
    generalize tf2 (unF t) = X7 at *
    generalize tf2 (unF 2) = X8 at *
    simp [n_plane_state, den_at, b_plane_state, List.replicate, a1, s_1, s_3, ko, ki, a4, a5, a6, a7, a8, a9, a10]
  | 2, _ =>
    simp only [pn, if_true, if_false, show ¬ (2 : Nat) = 0 by omega, show ¬ (2 : Nat) = 1 by omega]
    generalize tf2 (pMul (unF 2) (pS2 (pAdd oneF (pNeg (unF t))))) = X1 at *
    generalize tf2 (pS2 (pAdd oneF (pNeg (unF t)))) = X2 at *
    generalize tf2 (pS2 (pAdd oneF (unF t))) = X3 at *
    generalize tf2 (pAdd oneF (pNeg (unF t))) = X4 at *
    generalize tf2 (pAdd oneF (unF t)) = X5 at *
    generalize tf2 (pNeg (unF t)) = X6 at *
    generalize tf2 (unF t) = X7 at *
    generalize tf2 (unF 2) = X8 at *
    simp [n_plane_state, den_at, b_plane_state, List.replicate, a1, s_2, s_4, ko, ki, a4, a5, a6, a7, a8, a9, a10]
theorem lw_F (t : Int) (ht : t.natAbs < 2 ^ 60) : n__law_w [I t] = .ret (.v (lf (unF t))) [] := w_eq t ht
theorem lplane_eq {p : Nat} (hp : p < 3) (t : Int) (ht : t.natAbs < 2 ^ 60) : n__law_plane [.v (.str (pn p)), I t] = .ret (.v (.tup [lf (llo p t), lf (lhi p t)])) [] := by
  have a1 := lw_F t ht
  have a2 := lRoot_eq sm_one (by omega)
  have a3 := lRoot_eq (sm_un t) (by omega)
  have a4 := lAdd_eq sm_one (sm_un t) (by omega)
  have a5 := lNeg_eq (unF t)
  have a6 := lAdd_eq sm_one (sm_lNeg (sm_un t)) (by omega)
  have b1 : Sm 4 (lAdd oneF (unF t)) := sm_lAdd sm_one (sm_un t) (by omega)
  have b2 : Sm 4 (lAdd oneF (lNeg (unF t))) := sm_lAdd sm_one (sm_lNeg (sm_un t)) (by omega)
  have a7 := lR2_eq b1 (by omega)
  have a8 := lR2_eq b2 (by omega)
  have a9 := lBy_eq (sm_ii.mono (show 1 ≤ 6 by omega)) (sm_lR2 (N := 6) b2 (by omega)) (by omega)
  have ko : D.tup [.lst [.int 1, .int 0, .int 0, .int 0], .int 0] = lf oneF := rfl
  have ki : D.tup [.lst [.int 0, .int 0, .int 1, .int 0], .int 0] = lf iiF := rfl
  unfold llo lhi
  match p, hp with
  | 0, _ =>
    simp only [pn, if_true]
    rw [← ko] at a2
    generalize lf (lRoot oneF) = X1 at *
    generalize lf (lRoot (unF t)) = X2 at *
    generalize lf (unF t) = X3 at *
    simp [n__law_plane, den_at, b__law_plane, List.replicate, a1, s_0, a2, a3]
  | 1, _ =>
    simp only [pn, if_true, if_false, show ¬ (1 : Nat) = 0 by omega]
    rw [← ko] at a4 a6
    rw [← ki] at a9
    generalize lf (lBy iiF (lR2 (lAdd oneF (lNeg (unF t))))) = X1 at *
    generalize lf (lR2 (lAdd oneF (lNeg (unF t)))) = X2 at *
    generalize lf (lR2 (lAdd oneF (unF t))) = X3 at *
    generalize lf (lAdd oneF (lNeg (unF t))) = X4 at *
    generalize lf (lAdd oneF (unF t)) = X5 at *
    generalize lf (lNeg (unF t)) = X6 at *
    generalize lf (unF t) = X7 at *
    simp [n__law_plane, den_at, b__law_plane, List.replicate, a1, s_1, s_3, a4, a5, a6, a7, a8, a9]
  | 2, _ =>
    simp only [pn, if_true, if_false, show ¬ (2 : Nat) = 0 by omega, show ¬ (2 : Nat) = 1 by omega]
    rw [← ko] at a4 a6
    generalize lf (lR2 (lAdd oneF (lNeg (unF t)))) = X2 at *
    generalize lf (lR2 (lAdd oneF (unF t))) = X3 at *
    generalize lf (lAdd oneF (lNeg (unF t))) = X4 at *
    generalize lf (lAdd oneF (unF t)) = X5 at *
    generalize lf (lNeg (unF t)) = X6 at *
    generalize lf (unF t) = X7 at *
    simp [n__law_plane, den_at, b__law_plane, List.replicate, a1, s_2, s_4, a4, a5, a6, a7, a8]
end W


set_option maxHeartbeats 1000000
namespace W
open PySem PySem.Spec PyProof.Rows L2 DL N4 Bt
/-! the program's finding of a qubit -/
/-- the place i with a bit put in at s -/
def insb (s f i : Nat) : Nat := i / 2 ^ s * 2 ^ (s + 1) + f * 2 ^ s + i % 2 ^ s
theorem ins_int : ∀ s < 5, ∀ i < 16, (((i : Nat) : Int) / 2 ^ s) * 2 ^ (s + 1) + ((i : Nat) : Int) % ((2 ^ s : Nat) : Int) = ((insb s 0 i : Nat) : Int) ∧ ((insb s 0 i : Nat) : Int) + ((2 ^ s : Nat) : Int) = ((insb s 1 i : Nat) : Int) ∧ (0 : Int) < ((2 ^ s : Nat) : Int) := by decide +kernel
theorem ins_lt : ∀ n < 5, ∀ s < n, ∀ i < 2 ^ (n - 1), insb s 0 i < 2 ^ n ∧ insb s 1 i < 2 ^ n := by decide +kernel
def prF (lo hi : F) (s : Nat) (as : List F) (i : Nat) : F := pAdd (pMul lo (as.getD (insb s 0 i) z0)) (pMul hi (as.getD (insb s 1 i) z0))
theorem shl_small1 {i : Int} {s : Nat} (hi : i.natAbs < 2 ^ 20) (hs : s < 63) : shlO [I i, I ((s : Int) + 1)] = some (I (i * 2 ^ (s + 1))) := by
  have := shl_small (s := s + 1) hi (by omega)
  rw [Int.natCast_add] at this
  exact this
theorem l1_project_eq {k : TK} {qs : List Int} {q1 q2 q3 t7 t11 : Sl} {as : List F} {lo hi : F} {n s i L : Nat} (hn : n < 5) (hs : s < n) (hl : as.length = 2 ^ n) (hi' : i < 2 ^ (n - 1)) (hL : L ≤ 100000) (hsm : ∀ A ∈ as, Sm L A) (h1 : Sm 8 lo) (h2 : Sm 8 hi) (t10 : Sl) (acc : List Sl) (hacc : acc.length < 64) :
    ∃ t, l1_project [.v (st k qs as), q1, q2, q3, I (s : Int), .v (tf2 lo), .v (tf2 hi), t7, .o acc, I (i : Int), t10, t11] = .ok .nx [.v (st k qs as), q1, q2, q3, I (s : Int), .v (tf2 lo), .v (tf2 hi), t7, .o (acc ++ [.v (tf2 (prF lo hi s as i))]), I (i : Int), t, t11] := by
  have h16 : 2 ^ (n - 1) ≤ 8 := Nat.pow_le_pow_right (n := 2) (by decide) (show n - 1 ≤ 3 by omega)
  obtain ⟨e1, e2, e3⟩ := ins_int s (by omega) i (by omega)
  obtain ⟨l1, l2⟩ := ins_lt n hn s hs i hi'
  have z1 := shrO_at (i := i) (s := s)
  have z2 := shl_small1 (i := (i : Int) / 2 ^ s) (s := s) (by
    have : (0 : Int) ≤ (i : Int) / 2 ^ s := Int.ediv_nonneg (by omega) (Int.le_of_lt (Int.pow_pos (by decide)))
    have := Int.ediv_le_self (a := (i : Int)) (2 ^ s) (by omega)
    omega) (by omega)
  have z3 := shl1 (s := s) (by omega)
  have m1 : modC (i : Int) ((2 ^ s : Nat) : Int) = true := decide_eq_true e3
  have z4 : modO [I (i : Int), I ((2 ^ s : Nat) : Int)] = some (I ((i : Int) % ((2 ^ s : Nat) : Int))) := by
    show i2 modC _ _ = _
    rw [i2_int, if_pos m1]
  have g1 := atI_of (map_get (as := as) (i := insb s 0 i) (by omega))
  have g2 := atI_of (map_get (as := as) (i := insb s 1 i) (by omega))
  have s1 := get_sm hsm (i := insb s 0 i) (by omega)
  have s2 := get_sm hsm (i := insb s 1 i) (by omega)
  refine ⟨I ((insb s 0 i : Nat) : Int), ?_⟩
  unfold prF
  generalize as.getD (insb s 0 i) z0 = A at *
  generalize as.getD (insb s 1 i) z0 = C at *
  have z5 := pMul_eq h1 s1 (by omega) (by omega)
  have z6 := pMul_eq h2 s2 (by omega) (by omega)
  have b1 : Sm (L + 10) (pMul lo A) := sm_mul h1 s1 (by omega)
  have b2 : Sm (L + 10) (pMul hi C) := sm_mul h2 s2 (by omega)
  have z7 := pAdd_eq (A := pMul lo A) (C := pMul hi C) (by have := b1.p; omega) (by have := b2.p; omega)
  generalize pAdd (pMul lo A) (pMul hi C) = B3 at *
  generalize pMul lo A = B1 at *
  generalize pMul hi C = B2 at *
  generalize tf2 B1 = B1 at *
  generalize tf2 B2 = B2 at *
  generalize tf2 B3 = B3 at *
  generalize tf2 A = A at *
  generalize tf2 C = C at *
  generalize tf2 lo = lo at *
  generalize tf2 hi = hi at *
  generalize ((insb s 0 i : Nat) : Int) = J at *
  generalize ((insb s 1 i : Nat) : Int) = J1 at *
  generalize ((i : Int) / 2 ^ s) = U at *
  generalize U * 2 ^ (s + 1) = V at *
  generalize ((2 ^ s : Nat) : Int) = S2 at *
  generalize ((i : Int) % S2) = W' at *
  generalize (i : Int) = I' at *
  generalize (s : Int) = S1 at *
  have sz : acc.length < sizeLine := by rw [sizeLine_eq]; omega
  simp [l1_project, -i2_int, z1, z2, z3, z4, e1, e2, atI1, g1, g2, z5, z6, z7, DL.listAt, appO, sz]
theorem proj_eq {qs : List Int} {as : List F} {q t : Int} {a n p L : Nat} (hp : p < 3) (hq : qs.Nodup) (ha : qs[a]? = some q) (hn : qs.length = n) (h5 : n < 5) (hl : as.length = 2 ^ n) (hL : L ≤ 100000) (hsm : ∀ A ∈ as, Sm L A) :
    n_project [.v (st .f qs as), I q, .v (.str (pn p)), I t] = .ret (.v (st .f (qs.filter fun x => x != q) (each (2 ^ (n - 1)) (prF (pCj (plo p t)) (pCj (phi p t)) (n - 1 - a) as)))) [] := by
  have hal := (List.getElem?_eq_some_iff.mp ha).1
  have a1 := shift_eq as hq ha (by omega)
  rw [hn] at a1
  have a2 := plane_eq hp t
  have a3 := pCj_eq (plo p t)
  have a4 := pCj_eq (phi p t)
  have c1 := (sm_cj (sm_plo p t)).mono (N := 8) (by omega)
  have c2 := sm_cj (sm_phi p t)
  generalize pCj (plo p t) = lo at *
  generalize pCj (phi p t) = hi at *
  have h16 : 2 ^ (n - 1) ≤ 8 := Nat.pow_le_pow_right (n := 2) (by decide) (show n - 1 ≤ 3 by omega)
  have hnn : n = (n - 1) + 1 := by omega
  have h2n : 2 ^ n = 2 ^ (n - 1) * 2 := by rw [hnn, Nat.pow_succ, Nat.add_sub_cancel]
  obtain ⟨e2, h3, t10, h4⟩ := forS_inv (tg := tgN 9) (body := l1_project) (fun m e => ∃ s9 s10, e = [.v (st .f qs as), I q, .v (.str (pn p)), I t, I ((n - 1 - a : Nat) : Int), .v (tf2 lo), .v (tf2 hi), .u, .o (sl ((each (2 ^ (n - 1)) (prF lo hi (n - 1 - a) as)).take m)), s9, s10, .u])
    (rangeD 0 (2 ^ (n - 1))) 0 [.v (st .f qs as), I q, .v (.str (pn p)), I t, I ((n - 1 - a : Nat) : Int), .v (tf2 lo), .v (tf2 hi), .u, .o [], .u, .u, .u] ⟨.u, .u, rfl⟩ (fun i d e hd ⟨s9, s10, he⟩ => by
      obtain ⟨hi', rfl⟩ := range_get hd
      subst he
      rw [Nat.zero_add]
      obtain ⟨t, e1⟩ := l1_project_eq (k := .f) (qs := qs) (q1 := I q) (q2 := .v (.str (pn p))) (q3 := I t) (t7 := .u) (t11 := .u) h5 (by omega : n - 1 - a < n) hl hi' hL hsm c1 c2 s10 (sl ((each (2 ^ (n - 1)) (prF lo hi (n - 1 - a) as)).take i)) (by rw [sl_len _ hi']; omega)
      refine ⟨_, _, rfl, e1, ?_⟩
      rw [← sl_snoc _ hi']
      exact ⟨_, _, rfl⟩)
  obtain ⟨s10, h4⟩ := h4
  subst h4
  rw [Nat.zero_add, range_len, List.take_of_length_le (by rw [each_len]; omega)] at h3
  have ht2 := tup_sl (each (2 ^ (n - 1)) (prF lo hi (n - 1 - a) as))
  generalize each (2 ^ (n - 1)) (prF lo hi (n - 1 - a) as) = out at *
  have e5 : (((as.map tf2).length : Nat) : Int) = ((2 ^ n : Nat) : Int) := by simp [hl]
  have e5' : ((as.length : Nat) : Int) = ((2 ^ n : Nat) : Int) := by rw [hl]
  have e6 : ((2 ^ n : Nat) : Int) / 2 = ((2 ^ (n - 1) : Nat) : Int) := by rw [h2n]; omega
  have e8 : rngB ((2 ^ (n - 1) : Nat) : Int) = true := rngB_nat (by omega)
  have e9 : (((2 ^ (n - 1) : Nat) : Int)).toNat = 2 ^ (n - 1) := rfl
  have z6 : fdivO [I ((2 ^ n : Nat) : Int), I 2] = some (I ((2 ^ (n - 1) : Nat) : Int)) := by
    rw [← e6]
    rfl
  let env : DL.Env := [.v (.tup [.tg .f (qs.map .int), .tup (as.map tf2)]), I q, .v (.str (pn p)), I t, I ((n - 1 - a : Nat) : Int), .v (tf2 lo), .v (tf2 hi), .u, .o (sl out), t10, s10, .u]
  have lc := lcG_filter (tg := tgN 11) (c := tstB (opS (eqS true) [(.nm 11), (.nm 1)])) (f := e0_project) (own := [11]) (e := [.v (.tup [.tg .f (qs.map .int), .tup (as.map tf2)]), I q, .v (.str (pn p)), I t, I ((n - 1 - a : Nat) : Int), .v (tf2 lo), .v (tf2 hi), .u, .o (sl out), t10, s10, .u])
    (fun d => match d with | .int x => x != q | _ => false) (fun d => .v d) (qs.map .int) [] (fun d hd => by
      obtain ⟨x, _, rfl⟩ := List.mem_map.mp hd
      generalize tf2 lo = lo at *
      generalize tf2 hi = hi at *
      refine ⟨[.v (.tup [.tg .f (qs.map .int), .tup (as.map tf2)]), I q, .v (.str (pn p)), I t, I ((n - 1 - a : Nat) : Int), .v lo, .v hi, .u, .o (sl out), t10, s10, I x], [.v (.tup [.tg .f (qs.map .int), .tup (as.map tf2)]), I q, .v (.str (pn p)), I t, I ((n - 1 - a : Nat) : Int), .v lo, .v hi, .u, .o (sl out), t10, s10, I x], rfl, ?_, fun _ => rfl, fun _ => ⟨[.v (.tup [.tg .f (qs.map .int), .tup (as.map tf2)]), I q, .v (.str (pn p)), I t, I ((n - 1 - a : Nat) : Int), .v lo, .v hi, .u, .o (sl out), t10, s10, I x], rfl, rfl⟩⟩
      simp [bne])
  have e3 : (((qs.map D.int).filter fun d => match d with | .int x => x != q | _ => false).map fun d => Sl.v d) = (qs.filter fun x => x != q).map fun i => .v (.int i) := by
    rw [List.filter_map, List.map_map]
    rfl
  rw [List.nil_append, e3] at lc
  have tf := tupF_ints (qs.filter fun x => x != q)
  have sz : qs.length ≤ sizeLine := by rw [sizeLine_eq]; omega
  show n_project [.v (.tup [.tg .f (qs.map .int), .tup (as.map tf2)]), I q, .v (.str (pn p)), I t] = .ret (.v (.tup [.tg .f ((qs.filter fun x => x != q).map D.int), .tup (out.map tf2)])) []
  generalize ((qs.filter fun x => x != q).map fun i => Sl.v (.int i)) = FI at *
  generalize ((qs.filter fun x => x != q).map D.int) = FI2 at *
  have h3 : forS (tgN 9) l1_project (rangeD 0 (2 ^ (n - 1))) [.v (.tup [.tg .f (qs.map .int), .tup (as.map tf2)]), I q, .v (.str (pn p)), I t, I ((n - 1 - a : Nat) : Int), .v (tf2 lo), .v (tf2 hi), .u, .o [], .u, .u, .u] = .ok .nx [.v (.tup [.tg .f (qs.map .int), .tup (as.map tf2)]), I q, .v (.str (pn p)), I t, I ((n - 1 - a : Nat) : Int), .v (tf2 lo), .v (tf2 hi), .u, .o (sl out), t10, s10, .u] := h3
  have a1 : n_shift_of [.v (.tup [.tg .f (qs.map .int), .tup (as.map tf2)]), I q] = .ret (I ((n - 1 - a : Nat) : Int)) [] := a1
  generalize sl out = SO at *
  generalize out.map tf2 = OUT at *
  generalize tf2 (plo p t) = P1 at *
  generalize tf2 (phi p t) = P2 at *
  generalize tf2 lo = lo at *
  generalize tf2 hi = hi at *
  generalize ((n - 1 - a : Nat) : Int) = S3 at *
  generalize ((2 ^ (n - 1) : Nat) : Int) = S2 at *
  generalize ((2 ^ n : Nat) : Int) = S1 at *
  generalize pn p = PN at *
  have sz2 : 2 ≤ sizeLine := by rw [sizeLine_eq]; omega
  simp [n_project, den_at, b_project, List.replicate, -i2_int, sz2, a1, a2, e2_project, a3, a4, atI0, atI1, e5', z6, e8, e9, h3, sz, lc, tf, ht2]
end W


set_option maxHeartbeats 1000000
namespace W
open PySem PySem.Spec PyProof.Rows L2 DL N4 Bt
/-! the law's finding of a qubit -/
theorem ins_fig : ∀ n < 5, ∀ a < n, ∀ i < 2 ^ (n - 1), ∀ f < 2, (fig (n - 1) i).take a ++ f :: (fig (n - 1) i).drop a = fig n (insb (n - 1 - a) f i) := by decide +kernel
theorem df_take (r : List Nat) (a : Nat) : (df r).take a = df (r.take a) := by simp [df]
theorem df_drop (r : List Nat) (a : Nat) : (df r).drop a = df (r.drop a) := by simp [df]
theorem figs0_eq : n__law_figures [I 0] = .ret (.o [.v (kt [])]) [] := by
  have e8 : rngB 0 = true := rngB_lit (by decide)
  have e9 : (0 : Int).toNat = 0 := rfl
  have r0 : rangeD 0 0 = [] := rfl
  have dd : df [] = [] := rfl
  simp [n__law_figures, den_at, b__law_figures, List.replicate, e8, r0, dd]
theorem figs_all {n : Nat} (hn : n < 9) : ∃ r, n__law_figures [I (n : Int)] = .ret r [] ∧ toD r = some (.lst (fd n)) := by
  rcases Nat.eq_zero_or_pos n with h | h
  · subst h
    exact ⟨_, figs0_eq, rfl⟩
  · exact ⟨_, figures_eq h hn, rfl⟩
def fdF (lo hi : F) (s : Nat) (us : List F) (i : Nat) : F := lAdd (lBy (lBar lo) (us.getD (insb s 0 i) z0)) (lBy (lBar hi) (us.getD (insb s 1 i) z0))
theorem l0_found_eq {n a i L : Nat} {X q2 q3 q4 x11 y12 : Sl} {q : Int} {us ou : List F} {lo hi : F} (hn : n < 5) (ha : a < n) (hi' : i < 2 ^ (n - 1)) (hl : us.length = 2 ^ n) (hsm : ∀ A ∈ us, Sm L A) (hL : L ≤ 10000) (h1 : Sm 9 lo) (h2 : Sm 9 hi) (hou : ou.length = i) :
    ∃ t u, l0__law_found [X, I q, q2, q3, q4, .v (fdt n us), I (a : Int), .v (lf lo), .v (lf hi), .t (((figs (n - 1)).take i).map kf) (ou.map lf), .v (kt (fig (n - 1) i)), x11, y12] =
      .ok .nx [X, I q, q2, q3, q4, .v (fdt n us), I (a : Int), .v (lf lo), .v (lf hi), .t (((figs (n - 1)).take (i + 1)).map kf) ((ou ++ [fdF lo hi (n - 1 - a) us i]).map lf), .v (kt (fig (n - 1) i)), t, u] := by
  have h16 : 2 ^ (n - 1) ≤ 8 := Nat.pow_le_pow_right (n := 2) (by decide) (show n - 1 ≤ 3 by omega)
  obtain ⟨l1, l2⟩ := ins_lt n hn (n - 1 - a) (by omega) i hi'
  have f1 := ins_fig n hn a ha i hi' 0 (by omega)
  have f2 := ins_fig n hn a ha i hi' 1 (by omega)
  have fl : (df (fig (n - 1) i)).length = n - 1 := by simp [df, fig_len]
  have c1 := cut_lo (xs := df (fig (n - 1) i)) (a := a) (by omega)
  have c2 := cut_hi (xs := df (fig (n - 1) i)) (a := a) (by omega)
  have g1 := row_get (k := .w) (us := us) hl l1
  have g2 := row_get (k := .w) (us := us) hl l2
  have d1 : (df (fig (n - 1) i)).take a ++ .int 0 :: (df (fig (n - 1) i)).drop a = df (fig n (insb (n - 1 - a) 0 i)) := by
    rw [← f1, df_take, df_drop]
    simp [df]
  have d2 : (df (fig (n - 1) i)).take a ++ .int 1 :: (df (fig (n - 1) i)).drop a = df (fig n (insb (n - 1 - a) 1 i)) := by
    rw [← f2, df_take, df_drop]
    simp [df]
  have s1 := get_sm hsm (i := insb (n - 1 - a) 0 i) (by omega)
  have s2 := get_sm hsm (i := insb (n - 1 - a) 1 i) (by omega)
  refine ⟨.v (lf (us.getD (insb (n - 1 - a) 0 i) z0)), .v (lf (us.getD (insb (n - 1 - a) 1 i) z0)), ?_⟩
  have p1 := put_ou (n := n - 1) (i := i) (ou := ou) hi' hou (fdF lo hi (n - 1 - a) us i)
  unfold fdF at p1 ⊢
  generalize us.getD (insb (n - 1 - a) 0 i) z0 = A at *
  generalize us.getD (insb (n - 1 - a) 1 i) z0 = C at *
  have z1 := lBar_eq lo
  have z2 := lBar_eq hi
  have z3 := lBy_eq ((sm_lBar h1).mono (N := L + 9) (by omega)) (s1.mono (N := L + 9) (by omega)) (by omega)
  have z4 := lBy_eq ((sm_lBar h2).mono (N := L + 9) (by omega)) (s2.mono (N := L + 9) (by omega)) (by omega)
  have b1 : Sm (L + 11) (lBy (lBar lo) A) := sm_lBy (sm_lBar h1) s1 (by omega)
  have b2 : Sm (L + 11) (lBy (lBar hi) C) := sm_lBy (sm_lBar h2) s2 (by omega)
  have z5 := lAdd_eq b1 b2 (by omega)
  have k2 : keyT (.v (kt (fig (n - 1) i))) = some (kf (fig (n - 1) i)) := keysD_df (fig (n - 1) i)
  have sz : (((figs (n - 1)).take i).map kf).length < sizeLine := by rw [sizeLine_eq, List.length_map, List.length_take, figs_len]; omega
  have lt : ((df (fig (n - 1) i)).take a).length ≤ n - 1 := by rw [List.length_take]; omega
  have ld : ((df (fig (n - 1) i)).drop a).length ≤ n - 1 := by rw [List.length_drop]; omega
  have lz : ((df (fig (n - 1) i)).take a).length + 1 ≤ sizeLine := by rw [sizeLine_eq]; omega
  have lz2 : ((df (fig (n - 1) i)).take a).length + 1 + ((df (fig (n - 1) i)).drop a).length ≤ sizeLine := by rw [sizeLine_eq]; omega
  have k2 : keyT (.v (.tg .r (df (fig (n - 1) i)))) = some (kf (fig (n - 1) i)) := k2
  show l0__law_found [X, I q, q2, q3, q4, .v (fdt n us), I (a : Int), .v (lf lo), .v (lf hi), .t (((figs (n - 1)).take i).map kf) (ou.map lf), .v (.tg .r (df (fig (n - 1) i))), x11, y12] = .ok .nx [X, I q, q2, q3, q4, .v (fdt n us), I (a : Int), .v (lf lo), .v (lf hi), .t (((figs (n - 1)).take (i + 1)).map kf) ((ou ++ [lAdd (lBy (lBar lo) A) (lBy (lBar hi) C)]).map lf), .v (.tg .r (df (fig (n - 1) i))), .v (lf A), .v (lf C)]
  generalize lAdd (lBy (lBar lo) A) (lBy (lBar hi) C) = R5 at *
  generalize (ou ++ [R5]).map lf = OU2 at *
  generalize lf R5 = R5 at *
  generalize lf (lBy (lBar lo) A) = R3 at *
  generalize lf (lBy (lBar hi) C) = R4 at *
  generalize lf (lBar lo) = R1 at *
  generalize lf (lBar hi) = R2 at *
  generalize lf lo = lo at *
  generalize lf hi = hi at *
  generalize lf A = A at *
  generalize lf C = C at *
  generalize kf (fig (n - 1) i) = KF at *
  generalize df (fig n (insb (n - 1 - a) 0 i)) = D0 at *
  generalize df (fig n (insb (n - 1 - a) 1 i)) = D1 at *
  generalize df (fig (n - 1) i) = DF at *
  generalize ((figs (n - 1)).take i).map kf = KS at *
  generalize ((figs (n - 1)).take (i + 1)).map kf = KS2 at *
  generalize ou.map lf = OU at *
  generalize fdt n us = FT at *
  generalize DF.take a = T1 at *
  generalize DF.drop a = T2 at *
  generalize (a : Int) = I' at *
  simp [l0__law_found, c1, c2, lz, lz2, d1, d2, g1, g2, z1, z2, z3, z4, z5, k2, p1, sz, -keyT_at]
theorem found_eq {n a p L : Nat} {q t : Int} {qs : List Int} {us : List F} (hp : p < 3) (hq : qs.Nodup) (hqa : qs[a]? = some q) (hqn : qs.length = n) (hn : n < 5) (hl : us.length = 2 ^ n) (hsm : ∀ A ∈ us, Sm L A) (hL : L ≤ 10000) (ht : t.natAbs < 2 ^ 60) :
    n__law_found [.v (fld qs n us), I q, .v (.str (pn p)), I t] = .ret (.v (.tup [.tup ((qs.take a ++ qs.drop (a + 1)).map .int), fdt (n - 1) (each (2 ^ (n - 1)) (fdF (llo p t) (lhi p t) (n - 1 - a) us))])) [] := by
  have hal := (List.getElem?_eq_some_iff.mp hqa).1
  rw [hqn] at hal
  have a1 := lplane_eq hp t ht
  have c1 := (sm_llo p t).mono (N := 9) (by omega)
  have c2 := sm_lhi p t
  have hidx := idx_int (k := .f) hq hqa
  generalize llo p t = lo at *
  generalize lhi p t = hi at *
  have h16 : 2 ^ (n - 1) ≤ 8 := Nat.pow_le_pow_right (n := 2) (by decide) (show n - 1 ≤ 3 by omega)
  obtain ⟨e2, h3, s10, s11, s12, h4⟩ := forS_inv (tg := tgN 10) (body := l0__law_found) (fun i e => ∃ s10 s11 s12, e = [.v (fld qs n us), I q, .v (.str (pn p)), I t, .v (.tg .f (qs.map .int)), .v (fdt n us), I (a : Int), .v (lf lo), .v (lf hi), .t (((figs (n - 1)).take i).map kf) (((each (2 ^ (n - 1)) (fdF lo hi (n - 1 - a) us)).take i).map lf), s10, s11, s12]) (fd (n - 1)) 0
    [.v (fld qs n us), I q, .v (.str (pn p)), I t, .v (.tg .f (qs.map .int)), .v (fdt n us), I (a : Int), .v (lf lo), .v (lf hi), .t [] [], .u, .u, .u] ⟨.u, .u, .u, rfl⟩ (fun i d e hd ⟨s10, s11, s12, he⟩ => by
      subst he
      rw [Nat.zero_add]
      rw [List.getElem?_map] at hd
      obtain ⟨r, hr, rfl⟩ := Option.map_eq_some_iff.mp hd
      have hi' := (List.getElem?_eq_some_iff.mp hr).1
      rw [figs_len] at hi'
      have e := figs_get hi'
      rw [hr] at e
      cases e
      obtain ⟨t11, t12, e1⟩ := l0_found_eq (X := .v (fld qs n us)) (q := q) (q2 := .v (.str (pn p))) (q3 := I t) (q4 := .v (.tg .f (qs.map .int))) (x11 := s11) (y12 := s12) hn hal hi' hl hsm hL c1 c2 (ou := (each (2 ^ (n - 1)) (fdF lo hi (n - 1 - a) us)).take i) (by rw [List.length_take, each_len]; omega)
      refine ⟨_, _, rfl, e1, .v (kt (fig (n - 1) i)), t11, t12, ?_⟩
      rw [← each_take _ hi'])
  subst h4
  rw [Nat.zero_add, List.length_map, figs_len, List.take_of_length_le (by rw [figs_len]; omega), List.take_of_length_le (by rw [each_len]; omega)] at h3
  obtain ⟨rf, f1, f2⟩ := figs_all (n := n - 1) (by omega)
  have e5 : ((qs.length : Nat) : Int) - 1 = ((n - 1 : Nat) : Int) := by omega
  have k1 := cut_lo (xs := qs.map D.int) (a := a) (by rw [List.length_map]; omega)
  have k2 := cut_hi (xs := qs.map D.int) (a := a + 1) (by rw [List.length_map]; omega)
  have k3 : ((a : Nat) : Int) + 1 = ((a + 1 : Nat) : Int) := by omega
  have lz : ((qs.map D.int).take a).length + ((qs.map D.int).drop (a + 1)).length ≤ sizeLine := by
    rw [sizeLine_eq, List.length_take, List.length_drop, List.length_map]; omega
  have hout : (qs.map D.int).take a ++ (qs.map D.int).drop (a + 1) = (qs.take a ++ qs.drop (a + 1)).map D.int := by
    rw [List.map_append, List.map_take, List.map_drop]
  show n__law_found [.v (.tup [.tg .f (qs.map .int), fdt n us]), I q, .v (.str (pn p)), I t] = .ret (.v (.tup [.tup ((qs.take a ++ qs.drop (a + 1)).map .int), .dt ((figs (n - 1)).map kf) ((each (2 ^ (n - 1)) (fdF lo hi (n - 1 - a) us)).map lf)])) []
  have h3 : forS (tgN 10) l0__law_found (fd (n - 1)) [.v (.tup [.tg .f (qs.map .int), fdt n us]), I q, .v (.str (pn p)), I t, .v (.tg .f (qs.map .int)), .v (fdt n us), I (a : Int), .v (lf lo), .v (lf hi), .t [] [], .u, .u, .u] = .ok .nx [.v (.tup [.tg .f (qs.map .int), fdt n us]), I q, .v (.str (pn p)), I t, .v (.tg .f (qs.map .int)), .v (fdt n us), I (a : Int), .v (lf lo), .v (lf hi), .t ((figs (n - 1)).map kf) ((each (2 ^ (n - 1)) (fdF lo hi (n - 1 - a) us)).map lf), s10, s11, s12] := h3
  rw [← hout]
  generalize fdt n us = FT at *
  generalize fd (n - 1) = FD at *
  generalize (figs (n - 1)).map kf = KS at *
  generalize (each (2 ^ (n - 1)) (fdF lo hi (n - 1 - a) us)).map lf = XS at *
  generalize lf lo = lo at *
  generalize lf hi = hi at *
  generalize pn p = PN at *
  have hfor : forE (seqI (callS [false] n__law_figures [(.ex (opS subO [(.ex (opS lenO [(.nm 4)])), (.ex (vC (.int 1)))]))])) (tgN 10) l0__law_found [.v (.tup [.tg .f (qs.map .int), FT]), I q, .v (.str PN), I t, .v (.tg .f (qs.map .int)), .v FT, I (a : Int), .v lo, .v hi, .t [] [], .u, .u, .u] = .ok .nx [.v (.tup [.tg .f (qs.map .int), FT]), I q, .v (.str PN), I t, .v (.tg .f (qs.map .int)), .v FT, I (a : Int), .v lo, .v hi, .t KS XS, s10, s11, s12] := by
    generalize ((n - 1 : Nat) : Int) = N1 at *
    rw [forE_at, seqI_at]
    simp [e5, f1, f2, h3]
  generalize ((a + 1 : Nat) : Int) = A2 at *
  generalize (a : Int) = I' at *
  generalize (qs.map D.int) = QS at *
  rw [List.length_take, List.length_drop] at lz
  simp [n__law_found, den_at, b__law_found, List.replicate, -forE_at, -idxO_t, hfor, hidx, a1, k1, k2, k3, lz]
end W


set_option maxHeartbeats 1000000
namespace W
open PySem PySem.Spec PyProof.Rows L2 DL N4 Bt
theorem filter_cut : ∀ {qs : List Int} {a : Nat} {q : Int}, qs.Nodup → qs[a]? = some q → (qs.filter fun x => x != q) = qs.take a ++ qs.drop (a + 1)
  | [], a, q, _, h => by simp at h
  | x :: qs, 0, q, hn, h => by
    simp at h
    subst h
    obtain ⟨h1, h2⟩ := List.nodup_cons.mp hn
    have : (qs.filter fun y => y != x) = qs := List.filter_eq_self.mpr fun y hy => by
      simp only [bne_iff_ne]
      intro z
      subst z
      exact h1 hy
    simp [this]
  | x :: qs, a + 1, q, hn, h => by
    simp at h
    obtain ⟨h1, h2⟩ := List.nodup_cons.mp hn
    have ih := filter_cut h2 h
    have hx : (x != q) = true := by
      simp only [bne_iff_ne]
      intro z
      subst z
      exact h1 (List.mem_of_getElem? h)
    rw [List.filter_cons, if_pos hx, ih]
    rfl
abbrev fldw (qs : List Int) (n : Nat) (us : List F) : D := .tup [.tup (qs.map .int), fdt n us]
theorem rowk_eq {n : Nat} {qs : List Int} {us : List F} (hq : qs.length = n) (hn : n < 9) (hl : us.length = 2 ^ n) : n__law_row [.v (fldw qs n us)] = .ret (.o (ul us)) [] := by
  have h256 : 2 ^ n ≤ 256 := Nat.pow_le_pow_right (n := 2) (by decide) (show n ≤ 8 by omega)
  obtain ⟨rs, e2, h3, k1, k2, k3⟩ := lcG_inv (tg := tgN 1) (f := e0__law_row) (own := [1]) (fun _ e => e = [.v (fldw qs n us), .u]) (fun i r => r = .v (lf (us.getD i z0))) (fd n) 0 [] [.v (fldw qs n us), .u] rfl (fun i d e hd he => by
    subst he
    rw [Nat.zero_add]
    rw [List.getElem?_map] at hd
    obtain ⟨r, hr, rfl⟩ := Option.map_eq_some_iff.mp hd
    have hi := (List.getElem?_eq_some_iff.mp hr).1
    rw [figs_len] at hi
    have e := figs_get hi
    rw [hr] at e
    cases e
    have g := row_get (k := .r) (us := us) hl hi
    refine ⟨_, .v (lf (us.getD i z0)), [.v (fldw qs n us), .v (kt (fig n i))], rfl, ?_, rfl, rfl⟩
    show e0__law_row [.v (.tup [.tup (qs.map .int), fdt n us]), .v (.tg .r (df (fig n i)))] = _
    show _ = Rs.ok _ [.v (.tup [.tup (qs.map .int), fdt n us]), .v (.tg .r (df (fig n i)))]
    generalize fdt n us = FT at *
    generalize df (fig n i) = DF at *
    generalize lf (us.getD i z0) = U at *
    simp [e0__law_row, atI1, g])
  subst k3
  rw [List.nil_append] at h3
  have hrs : rs = ul us := by
    refine List.ext_getElem? fun i => ?_
    by_cases hi : i < 2 ^ n
    · have hl2 : i < rs.length := by rw [k1]; simp [figs_len]; omega
      have := k2 i _ (List.getElem?_eq_getElem hl2)
      rw [Nat.zero_add] at this
      rw [List.getElem?_eq_getElem hl2, this, List.getElem?_map, getD_get (by omega)]
      rfl
    · rw [List.getElem?_eq_none (by rw [k1]; simp [figs_len]; omega), List.getElem?_eq_none (by simp; omega)]
  subst hrs
  obtain ⟨rf, f1, f2⟩ := figs_all hn
  have e5 : ((qs.length : Nat) : Int) = ((n : Nat) : Int) := by rw [hq]
  have hsz : (fd n).length ≤ sizeLine := by rw [sizeLine_eq, List.length_map, figs_len]; omega
  generalize ul us = U at *
  show n__law_row [.v (.tup [.tup (qs.map .int), fdt n us])] = _
  have h3 : lcG (tgN 1) yesT e0__law_row [1] (fd n) [] [.v (.tup [.tup (qs.map .int), fdt n us]), .u] = .ok (.o U) [.v (.tup [.tup (qs.map .int), fdt n us]), .u] := h3
  generalize fdt n us = FT at *
  generalize fd n = FD at *
  generalize ((n : Nat) : Int) = S1 at *
  simp [n__law_row, den_at, b__law_row, List.replicate, atI0, e5, f1, f2, hsz, h3]
theorem samek_eq {n L : Nat} {qs : List Int} {as us : List F} (hq : qs.length = n) (hn : n < 9) (h : Fr n L as us) (hL : L < 1000000) : n__law_same_field [.v (st .f qs as), .v (fldw qs n us)] = .ret (.v (.bl true)) [] := by
  have h256 : 2 ^ n ≤ 256 := Nat.pow_le_pow_right (n := 2) (by decide) (show n ≤ 8 by omega)
  have la := h.la
  have lu := h.lu
  have r1 := rowk_eq hq hn lu
  have x1 : n__law_exact [.v (.tup (qs.map .int)), .v (.tg .f (qs.map .int))] = .ret (.v (.bl true)) [] := ex_ok 6 _ _ (ex_ints 4 (by omega))
  obtain ⟨rs, e2, h3, k1, k2, k3⟩ := lcG_inv (tg := tgN 3) (f := e0__law_same_field) (own := [3]) (fun _ e => e = [.v (st .f qs as), .v (fldw qs n us), .o (ul us), .u]) (fun _ r => r = .v (.bl true)) (rangeD 0 (2 ^ n)) 0 [] [.v (st .f qs as), .v (fldw qs n us), .o (ul us), .u] rfl (fun i d e hd he => by
    subst he
    obtain ⟨hi, rfl⟩ := range_get hd
    have g1 := atI_of (map_get (as := as) (i := i) (by omega))
    have g2 := atI_of (lmap_get (us := us) (i := i) (by omega))
    have z := ap_is (h.ap i hi) (get_sm h.sa (by omega)) (get_sm h.su (by omega)) hL
    have v1 : vsOf (ul us) = some (us.map lf) := by
      have := vsOf_map (us.map lf)
      rw [List.map_map] at this
      exact this
    refine ⟨_, .v (.bl true), [.v (st .f qs as), .v (fldw qs n us), .o (ul us), I (i : Int)], rfl, ?_, rfl, rfl⟩
    have v2 : ixS [.o (ul us), I (i : Int)] = some (.v (lf (us.getD i z0))) := by
      rw [ixS_o, v1, Option.bind_some, g2]
      rfl
    generalize fldw qs n us = FL at *
    generalize ul us = U at *
    generalize lf (us.getD i z0) = LU at *
    generalize as.getD i z0 = A at *
    generalize (i : Int) = I' at *
    simp [e0__law_same_field, atI1, g1, v2, z])
  subst k3
  rw [List.nil_append] at h3
  have all := bls_all (rs := rs) fun i r hr => k2 i r hr
  have e5 : (((ul us).length : Nat) : Int) = ((2 ^ n : Nat) : Int) := by simp [lu]
  have e6 : (((as.map tf2).length : Nat) : Int) = ((2 ^ n : Nat) : Int) := by simp [la]
  have e8 : rngB ((2 ^ n : Nat) : Int) = true := rngB_nat (by omega)
  have e9 : (((2 ^ n : Nat) : Int)).toNat = 2 ^ n := rfl
  have hsz : (rangeD 0 (2 ^ n)).length ≤ sizeLine := by rw [sizeLine_eq, range_len]; omega
  have kt1 : kitB "tuple" "tuple" = some true := by rfl
  have tf : tupleF [.v (.tup (qs.map .int))] = some (.v (.tup (qs.map .int))) := rfl
  show n__law_same_field [.v (.tup [.tg .f (qs.map .int), .tup (as.map tf2)]), .v (.tup [.tup (qs.map .int), fdt n us])] = _
  have r1 : n__law_row [.v (.tup [.tup (qs.map .int), fdt n us])] = .ret (.o (ul us)) [] := r1
  have h3 : lcG (tgN 3) yesT e0__law_same_field [3] (rangeD 0 (2 ^ n)) [] [.v (.tup [.tg .f (qs.map .int), .tup (as.map tf2)]), .v (.tup [.tup (qs.map .int), fdt n us]), .o (ul us), .u] = .ok (.o rs) [.v (.tup [.tg .f (qs.map .int), .tup (as.map tf2)]), .v (.tup [.tup (qs.map .int), fdt n us]), .o (ul us), .u] := h3
  generalize fdt n us = FT at *
  generalize ul us = U at *
  generalize as.map tf2 = AS at *
  generalize qs.map D.int = QS at *
  generalize ((2 ^ n : Nat) : Int) = S1 at *
  simp [n__law_same_field, den_at, b__law_same_field, List.replicate, isiS, isiO, tyNm, kt1, one, atI0, atI1, x1, tf, r1, e5, e6, e8, e9, hsz, h3, all]
/-! the two states are the same, and their values -/
abbrev uv (us : List F) (i : Nat) : KK := vL (us.getD i z0)
def prK (p : Nat) (t : Int) (s : Nat) (us : List F) (i : Nat) : KK := KK.conj (loK p (Wv t)) * uv us (insb s 0 i) + KK.conj (hiK p (Wv t)) * uv us (insb s 1 i)
theorem vL_fd (p : Nat) (t : Int) (s : Nat) (us : List F) (i : Nat) : vL (fdF (llo p t) (lhi p t) s us i) = prK p t s us i := by
  unfold fdF prK
  rw [vL_add, vL_by, vL_by, vL_bar, vL_bar, vL_lo, vL_hi]
theorem vP_pr (p : Nat) (t : Int) (s : Nat) (as : List F) (i : Nat) : vP (prF (pCj (plo p t)) (pCj (phi p t)) s as i) = KK.conj (loK p (Wv t)) * vP (as.getD (insb s 0 i) z0) + KK.conj (hiK p (Wv t)) * vP (as.getD (insb s 1 i) z0) := by
  unfold prF
  rw [vP_add, vP_mul, vP_mul, vP_cj, vP_cj, vP_lo, vP_hi]
theorem sm_pr {p n s i L : Nat} {t : Int} {as : List F} (hsm : ∀ A ∈ as, Sm L A) (hl : as.length = 2 ^ n) (l1 : insb s 0 i < 2 ^ n) (l2 : insb s 1 i < 2 ^ n) {N : Nat} (hN : 2 * L + 25 ≤ N) : Sm N (prF (pCj (plo p t)) (pCj (phi p t)) s as i) :=
  sm_add (L := L + 12) (sm_mul ((sm_cj (sm_plo p t)).mono (N := 8) (by omega)) (get_sm hsm (by omega)) (by omega)) (sm_mul (sm_cj (sm_phi p t)) (get_sm hsm (by omega)) (by omega)) (by omega)
theorem sm_fd {p n s i L : Nat} {t : Int} {us : List F} (hsm : ∀ A ∈ us, Sm L A) (hl : us.length = 2 ^ n) (l1 : insb s 0 i < 2 ^ n) (l2 : insb s 1 i < 2 ^ n) {N : Nat} (hN : 3 * L + 40 ≤ N) : Sm N (fdF (llo p t) (lhi p t) s us i) :=
  sm_lAdd (L := L + 12) (sm_lBy ((sm_lBar (sm_llo p t)).mono (N := 9) (by omega)) (get_sm hsm (by omega)) (by omega)) (sm_lBy (sm_lBar (sm_lhi p t)) (get_sm hsm (by omega)) (by omega)) (by omega)
theorem frP {n a L p : Nat} {t : Int} {as us : List F} (hn : n < 5) (ha : a < n) (h : Fr n L as us) : Fr (n - 1) (3 * L + 40) (each (2 ^ (n - 1)) (prF (pCj (plo p t)) (pCj (phi p t)) (n - 1 - a) as)) (each (2 ^ (n - 1)) (fdF (llo p t) (lhi p t) (n - 1 - a) us)) :=
  Fr.each (fun i hi => by
    obtain ⟨l1, l2⟩ := ins_lt n hn (n - 1 - a) (by omega) i hi
    refine ap_iff.mpr ⟨cn_nf _ _, ?_⟩
    rw [vP_pr, vL_fd, (ap_iff.mp (h.ap _ l1)).2, (ap_iff.mp (h.ap _ l2)).2]
    rfl) (fun i hi => by
    obtain ⟨l1, l2⟩ := ins_lt n hn (n - 1 - a) (by omega) i hi
    exact sm_pr h.sa h.la l1 l2 (by omega)) (fun i hi => by
    obtain ⟨l1, l2⟩ := ins_lt n hn (n - 1 - a) (by omega) i hi
    exact sm_fd h.su h.lu l1 l2 (by omega))
end W


set_option maxHeartbeats 1000000
namespace W
open PySem PySem.Spec PyProof.Rows L2 DL N4 Bt
/-! sums of squares -/
def sumK (m : Nat) (f : Nat → KK) : KK := (List.range m).foldl (fun acc i => acc + f i) 0
theorem foldK (f : Nat → KK) : ∀ (l : List Nat) (z : KK), l.foldl (fun acc i => acc + f i) z = z + l.foldl (fun acc i => acc + f i) 0
  | [], z => by
    show z = z + 0
    grind
  | i :: l, z => by
    show l.foldl (fun acc i => acc + f i) (z + f i) = z + l.foldl (fun acc i => acc + f i) (0 + f i)
    rw [foldK f l (z + f i), foldK f l (0 + f i)]
    grind
theorem fold_add (f g : Nat → KK) : ∀ (l : List Nat), l.foldl (fun acc i => acc + (f i + g i)) 0 = l.foldl (fun acc i => acc + f i) 0 + l.foldl (fun acc i => acc + g i) 0
  | [] => by
    show (0 : KK) = 0 + 0
    grind
  | i :: l => by
    show l.foldl (fun acc i => acc + (f i + g i)) (0 + (f i + g i)) = l.foldl (fun acc i => acc + f i) (0 + f i) + l.foldl (fun acc i => acc + g i) (0 + g i)
    rw [foldK (fun i => f i + g i), foldK f l (0 + f i), foldK g l (0 + g i), fold_add f g l]
    grind
theorem sumK_add (m : Nat) (f g : Nat → KK) : sumK m (fun i => f i + g i) = sumK m f + sumK m g := fold_add f g _
theorem sumK_congr {m : Nat} {f g : Nat → KK} (h : ∀ i < m, f i = g i) : sumK m f = sumK m g := by
  have : ∀ (l : List Nat) (z : KK), (∀ i ∈ l, i < m) → l.foldl (fun acc i => acc + f i) z = l.foldl (fun acc i => acc + g i) z := by
    intro l
    induction l with
    | nil => intro z _; rfl
    | cons i l ih =>
      intro z hl
      show l.foldl (fun acc i => acc + f i) (z + f i) = l.foldl (fun acc i => acc + g i) (z + g i)
      rw [h i (hl i List.mem_cons_self), ih _ fun j hj => hl j (List.mem_cons_of_mem _ hj)]
  exact this _ 0 fun i hi => List.mem_range.mp hi
theorem pair_sum (f : Nat → KK) : ∀ (n s : Nat), 0 < n → n < 4 → s < n → sumK (2 ^ n) f = sumK (2 ^ (n - 1)) fun i => f (insb s 0 i) + f (insb s 1 i)
  | 1, 0, _, _, _ => by
    show 0 + f 0 + f 1 = 0 + (f 0 + f 1)
    grind
  | 2, 0, _, _, _ => by
    show 0 + f 0 + f 1 + f 2 + f 3 = 0 + (f 0 + f 1) + (f 2 + f 3)
    grind
  | 2, 1, _, _, _ => by
    show 0 + f 0 + f 1 + f 2 + f 3 = 0 + (f 0 + f 2) + (f 1 + f 3)
    grind
  | 3, 0, _, _, _ => by
    show 0 + f 0 + f 1 + f 2 + f 3 + f 4 + f 5 + f 6 + f 7 = 0 + (f 0 + f 1) + (f 2 + f 3) + (f 4 + f 5) + (f 6 + f 7)
    grind
  | 3, 1, _, _, _ => by
    show 0 + f 0 + f 1 + f 2 + f 3 + f 4 + f 5 + f 6 + f 7 = 0 + (f 0 + f 2) + (f 1 + f 3) + (f 4 + f 6) + (f 5 + f 7)
    grind
  | 3, 2, _, _, _ => by
    show 0 + f 0 + f 1 + f 2 + f 3 + f 4 + f 5 + f 6 + f 7 = 0 + (f 0 + f 4) + (f 1 + f 5) + (f 2 + f 6) + (f 3 + f 7)
    grind
  | 0, _, h, _, _ => absurd h (by omega)
  | 1, s + 1, _, _, h => absurd h (by omega)
  | 2, s + 2, _, _, h => absurd h (by omega)
  | 3, s + 3, _, _, h => absurd h (by omega)
  | n + 4, _, _, h, _ => absurd h (by omega)
/-- a number of bounded value and depth -/
structure Vb (B M : Nat) (u : F) : Prop where
  b : Bd (B + u.2) u.1
  p : u.2 ≤ M
theorem Vb.sm {B M N : Nat} {u : F} (h : Vb B M u) (hN : B + M ≤ N) : Sm N u := ⟨h.b.mono (by have := h.p; omega), by have := h.p; omega⟩
theorem Vb.of {L : Nat} {u : F} (h : Sm L u) : Vb L L u := ⟨h.b.mono (by omega), h.p⟩
theorem Vb.mono {B B' M : Nat} {u : F} (h : Vb B M u) (le : B ≤ B') : Vb B' M u := ⟨h.b.mono (by omega), h.p⟩
theorem Bd.sm2 {n : Nat} (k : Nat) {x : Q} (h : Bd n x) : Bd (n + k) (sm (2 ^ k) x) := by
  have e : ∀ i : Int, i.natAbs < 2 ^ n → ((2 : Int) ^ k * i).natAbs < 2 ^ (n + k) := fun i hi => by
    rw [Int.natAbs_mul, Int.natAbs_pow, Nat.pow_add, Nat.mul_comm]
    exact Nat.mul_lt_mul_of_pos_right hi (Nat.two_pow_pos k)
  exact ⟨e _ h.1, e _ h.2, e _ h.3, e _ h.4⟩
theorem vb_add {B M : Nat} {u v : F} (h : Vb B M u) (k : Vb B M v) : Vb (B + 1) M (lAdd u v) := by
  have h1 := h.p
  have h2 := k.p
  refine ⟨?_, by show max u.2 v.2 ≤ M; omega⟩
  show Bd (B + 1 + max u.2 v.2) (N4.ad _ _)
  have := ((Bd.sm2 (max u.2 v.2 - u.2) h.b).mono (n := B + max u.2 v.2) (by omega)).ad ((Bd.sm2 (max u.2 v.2 - v.2) k.b).mono (n := B + max u.2 v.2) (by omega))
  exact this.mono (by omega)
def nrm (u : F) : F := lBy u (lBar u)
theorem vL_nrm (u : F) : vL (nrm u) = vL u * KK.conj (vL u) := by
  unfold nrm
  rw [vL_by, vL_bar]
theorem sm_nrm {u : F} {L : Nat} (h : Sm L u) : Sm (2 * L + 2) (nrm u) := sm_lBy h (sm_lBar h) (by omega)
def lSum (us : List F) (z : F) : F := us.foldl (fun acc u => lAdd acc (nrm u)) z
theorem vL_z0 : vL z0 = 0 := by
  show em zr * KK.h ^ 0 = 0
  rw [show em zr = 0 from rfl]
  grind
theorem vL_sum : ∀ (us : List F) (z : F), vL (lSum us z) = us.foldl (fun acc u => acc + vL u * KK.conj (vL u)) (vL z)
  | [], z => rfl
  | u :: us, z => by
    show vL (lSum us (lAdd z (nrm u))) = us.foldl (fun acc u => acc + vL u * KK.conj (vL u)) (vL z + vL u * KK.conj (vL u))
    rw [vL_sum us, vL_add, vL_nrm]
theorem fold_get (z : KK) : ∀ (us : List F), us.foldl (fun acc u => acc + vL u * KK.conj (vL u)) z = (List.range us.length).foldl (fun acc i => acc + uv us i * KK.conj (uv us i)) z
  | us => by
    have e : us = (List.range us.length).map fun i => us.getD i z0 := by
      refine List.ext_getElem? fun i => ?_
      by_cases hi : i < us.length
      · rw [List.getElem?_map, List.getElem?_range hi, getD_get hi]
        rfl
      · rw [List.getElem?_eq_none (by omega), List.getElem?_eq_none (by simp; omega)]
    have e2 := List.foldl_map (f := fun i => us.getD i z0) (g := fun (acc : KK) u => acc + vL u * KK.conj (vL u)) (l := List.range us.length) (init := z)
    rw [← e] at e2
    exact e2
theorem vL_lsum {n : Nat} {us : List F} (h : us.length = 2 ^ n) : vL (lSum us z0) = sumK (2 ^ n) fun i => uv us i * KK.conj (uv us i) := by
  rw [vL_sum, fold_get, h, vL_z0]
  rfl
theorem vb_sum {L M : Nat} (hM : 2 * L + 2 ≤ M) : ∀ (us : List F) (z : F) (B : Nat), (∀ u ∈ us, Sm L u) → M ≤ B → Vb B M z → Vb (B + us.length) M (lSum us z)
  | [], z, B, _, _, h => h
  | u :: us, z, B, hu, hB, h => by
    have h1 : Vb B M (nrm u) := by
      have := Vb.of ((sm_nrm (hu u List.mem_cons_self)).mono hM)
      exact this.mono hB
    have := vb_sum hM us _ (B + 1) (fun x hx => hu x (List.mem_cons_of_mem _ hx)) (by omega) (vb_add h h1)
    rw [List.length_cons, show B + (us.length + 1) = B + 1 + us.length by omega]
    exact this
theorem nrm_eq {u : F} {L : Nat} (h : Sm L u) (hL : L ≤ 1000000) : n__law_by [.v (lf u), .v (lf (lBar u))] = .ret (.v (lf (nrm u))) [] := lBy_eq h (sm_lBar h) hL
theorem sum_loop {L M : Nat} {X : Sl} (hM : 2 * L + 2 ≤ M) (hM2 : M ≤ 100000) : ∀ (us : List F) (z : F) (B : Nat) (s2 : Sl), (∀ u ∈ us, Sm L u) → M ≤ B → B + us.length ≤ 200000 → Vb B M z → ∃ t2, forS (tgN 2) l0__law_sum (us.map lf) [X, .v (lf z), s2] = .ok .nx [X, .v (lf (lSum us z)), t2]
  | [], z, B, s2, _, _, _, _ => ⟨s2, rfl⟩
  | u :: us, z, B, s2, hu, hB, hB2, h => by
    have hu0 := hu u List.mem_cons_self
    have h1 : Vb B M (nrm u) := by
      have := Vb.of ((sm_nrm hu0).mono hM)
      exact this.mono hB
    rw [List.length_cons] at hB2
    obtain ⟨t2, ih⟩ := sum_loop hM hM2 us (lAdd z (nrm u)) (B + 1) (.v (lf u)) (fun x hx => hu x (List.mem_cons_of_mem _ hx)) (by omega) (by omega) (vb_add h h1)
    have z1 := lBar_eq u
    have z2 := nrm_eq hu0 (by omega)
    have z3 := lAdd_eq (h.sm (N := 300000) (by omega)) (h1.sm (N := 300000) (by omega)) (by omega)
    refine ⟨t2, ?_⟩
    have e1 : l0__law_sum [X, .v (lf z), .v (lf u)] = .ok .nx [X, .v (lf (lAdd z (nrm u))), .v (lf u)] := by
      generalize lf (lAdd z (nrm u)) = R at *
      generalize lf (nrm u) = N at *
      generalize lf (lBar u) = U2 at *
      generalize lf u = U at *
      generalize lf z = Z at *
      simp [l0__law_sum, z1, z2, z3]
    rw [List.map_cons, forS_cons, tgN_at, Rs.of_some, Rs.bind_ok]
    simp only [List.set_cons_succ, List.set_cons_zero, e1, turn_nx]
    exact ih
theorem sum_eq {L : Nat} {r : D} {us : List F} (hr : itemsD r = some (us.map lf)) (hu : ∀ u ∈ us, Sm L u) (hL : L ≤ 10000) (hl : us.length ≤ 1000) : n__law_sum [.v r] = .ret (.v (lf (lSum us z0))) [] := by
  obtain ⟨t2, h⟩ := sum_loop (L := L) (M := 2 * L + 2) (X := .v r) (by omega) (by omega) us z0 (2 * L + 2) .u hu (by omega) (by omega) ⟨Bd.zr, Nat.zero_le _⟩
  have hz : D.tup [.lst [.int 0, .int 0, .int 0, .int 0], .int 0] = lf z0 := rfl
  have h : forS (tgN 2) l0__law_sum (us.map lf) [.v r, .v (.tup [.lst [.int 0, .int 0, .int 0, .int 0], .int 0]), .u] = .ok .nx [.v r, .v (lf (lSum us z0)), t2] := h
  generalize lf (lSum us z0) = R at *
  generalize us.map lf = U at *
  simp [n__law_sum, den_at, b__law_sum, List.replicate, hr, h]
/-! alike but for a unit -/
theorem forS_hit {tg : Tg} {body : Sv} {r : Sl} (P : DL.Env → Prop) : ∀ (ds : List D) (j : Nat) (e : DL.Env), P e → j < ds.length →
    (∀ i d e, ds[i]? = some d → P e → ∃ e1, tg (.v d) e = some e1 ∧ ((∃ e2, body e1 = .ok (.rt r) e2) ∨ (i ≠ j ∧ ∃ e2, body e1 = .ok .nx e2 ∧ P e2))) → ∃ e2, forS tg body ds e = .ok (.rt r) e2
  | [], j, e, _, hj, _ => absurd hj (Nat.not_lt_zero _)
  | d :: ds, j, e, h, hj, st => by
    obtain ⟨e1, h1, h2⟩ := st 0 d e rfl h
    rcases h2 with ⟨e2, h2⟩ | ⟨h0, e2, h2, h3⟩
    · exact ⟨e2, by rw [forS_cons, h1, Rs.of_some, Rs.bind_ok, h2, turn_rt]⟩
    · obtain ⟨e3, h4⟩ := forS_hit P ds (j - 1) e2 h3 (by rw [List.length_cons] at hj; omega) fun i d' e' hd he => by
        obtain ⟨f1, k1, k2⟩ := st (i + 1) d' e' (by simpa using hd) he
        exact ⟨f1, k1, k2.imp id fun ⟨k3, k4⟩ => ⟨by omega, k4⟩⟩
      exact ⟨e3, by rw [forS_cons, h1, Rs.of_some, Rs.bind_ok, h2, turn_nx, h4]⟩
theorem bls_dec : ∀ {rs : List Sl}, (∀ (i : Nat) (r : Sl), rs[i]? = some r → ∃ b, r = .v (.bl b)) → ∃ bs : List Bool, rs = (bs.map D.bl).map .v ∧ allO [.o rs] = some (.v (.bl (bs.all id)))
  | [], _ => ⟨[], rfl, rfl⟩
  | r :: rs, h => by
    obtain ⟨b, hb⟩ := h 0 r rfl
    obtain ⟨bs, h1, h2⟩ := bls_dec (rs := rs) fun i x hx => h (i + 1) x (by simpa using hx)
    subst hb h1
    refine ⟨b :: bs, rfl, ?_⟩
    have e2 := blsD_map (b :: bs)
    unfold allO
    rw [one_one, listV_o', show (Sl.v (D.bl b) :: (bs.map D.bl).map Sl.v) = ((b :: bs).map D.bl).map Sl.v from rfl, vsOf_map, Option.bind_some, e2]
    rfl
theorem alike_eq {L m : Nat} {xs ys : List F} (hx : xs.length = m) (hy : ys.length = m) (hm : m ≤ 1000) (sx : ∀ u ∈ xs, Sm L u) (sy : ∀ u ∈ ys, Sm L u) (hL : L ≤ 100000) (t : Int) (h : ∀ i < m, Wv t * uv xs i = uv ys i) :
    n__law_unit_alike [.v (.lst (xs.map lf)), .v (.lst (ys.map lf))] = .ret (.v (.bl true)) [] := by
  obtain ⟨j, hj, ej⟩ := mod8 t
  have hsz : (rangeD 0 m).length ≤ sizeLine := by rw [sizeLine_eq, range_len]; omega
  have e5 : ((xs.length : Nat) : Int) = ((m : Nat) : Int) := by rw [hx]
  have e8 : rngB ((m : Nat) : Int) = true := rngB_nat (by omega)
  have e9 : (((m : Nat) : Int)).toNat = m := rfl
  obtain ⟨e2, hf⟩ := forS_hit (tg := tgN 2) (body := l1__law_unit_alike) (r := .v (.bl true)) (fun e => ∃ s2 s3, e = [.v (.lst (xs.map lf)), .v (.lst (ys.map lf)), s2, s3]) (rangeD 0 8) j [.v (.lst (xs.map lf)), .v (.lst (ys.map lf)), .u, .u] ⟨_, _, rfl⟩ (by rw [range_len]; exact hj) (fun k d e hd ⟨s2, s3, he⟩ => by
    subst he
    obtain ⟨hk, rfl⟩ := range_get hd
    have a1 := lw_F (k : Int) (by omega)
    obtain ⟨rs, e3, h3, k1, k2, k3⟩ := lcG_inv (tg := tgN 3) (f := e0__law_unit_alike) (own := [3]) (fun _ e => e = [.v (.lst (xs.map lf)), .v (.lst (ys.map lf)), I (k : Int), .u]) (fun i r => ∃ b, r = .v (.bl b) ∧ (b = true ↔ Wv k * uv xs i = uv ys i)) (rangeD 0 m) 0 [] [.v (.lst (xs.map lf)), .v (.lst (ys.map lf)), I (k : Int), .u] rfl (fun i d e hd he => by
      subst he
      rw [Nat.zero_add]
      obtain ⟨hi, rfl⟩ := range_get hd
      have g1 := atI_of (lmap_get (us := xs) (i := i) (by omega))
      have g2 := atI_of (lmap_get (us := ys) (i := i) (by omega))
      have s1 := get_sm sx (i := i) (by omega)
      have s2 := get_sm sy (i := i) (by omega)
      have a2 := lBy_eq ((sm_un (k : Int)).mono (N := L + 1) (by omega)) (s1.mono (N := L + 1) (by omega)) (by omega)
      have b2 : Sm (L + 3) (lBy (unF k) (xs.getD i z0)) := sm_lBy (sm_un (k : Int)) s1 (by omega)
      obtain ⟨b, hb, hb2⟩ := like_v b2 (s2.mono (N := L + 3) (by omega)) (by omega)
      rw [vL_by, vL_un] at hb2
      refine ⟨_, .v (.bl b), [.v (.lst (xs.map lf)), .v (.lst (ys.map lf)), I (k : Int), I (i : Int)], rfl, ?_, ⟨b, rfl, hb2⟩, rfl⟩
      have a2 : n__law_by [.v (lf (unF k)), .v (lf (xs.getD i z0))] = .ret (.v (lf (lBy (unF k) (xs.getD i z0)))) [] := a2
      generalize lf (lBy (unF k) (xs.getD i z0)) = R1 at *
      generalize lf (unF k) = R0 at *
      generalize lf (xs.getD i z0) = X1 at *
      generalize lf (ys.getD i z0) = Y1 at *
      generalize xs.map lf = XS at *
      generalize ys.map lf = YS at *
      generalize (i : Int) = I' at *
      generalize (k : Int) = K' at *
      simp [e0__law_unit_alike, a1, a2, g1, g2, hb])
    subst k3
    rw [List.nil_append] at h3
    obtain ⟨bs, hbs, hall⟩ := bls_dec fun i r hr => by obtain ⟨b, hb, _⟩ := k2 i r hr; exact ⟨b, hb⟩
    have hv : k = j → bs.all id = true := fun e => by
      subst e
      refine List.all_eq_true.mpr fun b hb => ?_
      obtain ⟨i, hi⟩ := List.getElem?_of_mem hb
      have hr : rs[i]? = some (.v (.bl b)) := by rw [hbs, List.getElem?_map, List.getElem?_map, hi]; rfl
      obtain ⟨b', e', h4⟩ := k2 i _ hr
      cases e'
      have hil := (List.getElem?_eq_some_iff.mp hr).1
      rw [k1, range_len] at hil
      refine h4.mpr ?_
      rw [Nat.zero_add, ← h i hil]
      unfold Wv
      rw [un_mod t, ej]
    refine ⟨_, rfl, ?_⟩
    have e5 : (((xs.map lf).length : Nat) : Int) = ((m : Nat) : Int) := by rw [List.length_map, hx]
    generalize bs.all id = bb at *
    show (∃ e2, l1__law_unit_alike [.v (.lst (xs.map lf)), .v (.lst (ys.map lf)), I (k : Int), s3] = _) ∨ (_ ∧ ∃ e2, l1__law_unit_alike [.v (.lst (xs.map lf)), .v (.lst (ys.map lf)), I (k : Int), s3] = _ ∧ _)
    generalize xs.map lf = XS at *
    generalize ys.map lf = YS at *
    generalize (k : Int) = K' at *
    generalize (m : Int) = M' at *
    cases bb with
    | true =>
      refine .inl ⟨[.v (.lst XS), .v (.lst YS), I K', s3], ?_⟩
      simp [l1__law_unit_alike, e5, e8, e9, hsz, h3, hall]
    | false =>
      refine .inr ⟨fun z => by simpa using hv z, [.v (.lst XS), .v (.lst YS), I K', s3], ?_, _, _, rfl⟩
      simp [l1__law_unit_alike, e5, e8, e9, hsz, h3, hall])
  have r5 : rngB 8 = true := rngB_lit (by decide)
  have r7 : ∀ e, forE (rng1 (vC (.int 8))) (tgN 2) l1__law_unit_alike e = forS (tgN 2) l1__law_unit_alike (rangeD 0 8) e := fun e => by
    rw [forE_at, rng1_at, vC_at, Rs.bind_ok, intOf_int, Rs.of_some, Rs.bind_ok, r5, if_pos rfl, Rs.bind_ok]
    rfl
  generalize xs.map lf = XS at *
  generalize ys.map lf = YS at *
  simp [n__law_unit_alike, den_at, b__law_unit_alike, List.replicate, -forE_at, r7, hf]
end W


set_option maxHeartbeats 1000000
namespace W
open PySem PySem.Spec PyProof.Rows L2 DL N4 Bt
theorem own_list {f : Ev} {i : Nat} {env : DL.Env} : ∀ {as : List F} {acc : List Sl}, (∀ A ∈ as, f (env.set i (.v (tf2 A))) = .ok (.v (lf (ownN A))) (env.set i (.v (tf2 A)))) → (∀ A, wipeE [i] (env.set i (.v (tf2 A))) = env) →
    lcG (tgN i) yesT f [i] (as.map tf2) acc env = .ok (.o (acc ++ ul (as.map ownN))) env
  | [], acc, _, _ => by rw [List.map_nil, lcG_nil, List.map_nil]; simp
  | A :: as, acc, hf, hw => by
    have ih := own_list (as := as) (acc := acc ++ [.v (lf (ownN A))]) (fun x hx => hf x (List.mem_cons_of_mem _ hx)) hw
    rw [List.map_cons, lcG_cons, tgN_at, Rs.of_some, Rs.bind_ok]
    show ((Rs.ok true (env.set i (.v (tf2 A)))).nox.bind fun b e2 => if b = true then (f e2).nox.bind fun r e3 => lcG (tgN i) yesT f [i] (as.map tf2) (acc ++ [r]) (wipeE [i] e3) else lcG (tgN i) yesT f [i] (as.map tf2) acc (wipeE [i] e2)) = _
    rw [Rs.nox_ok, Rs.bind_ok, if_pos rfl, hf A List.mem_cons_self, Rs.nox_ok, Rs.bind_ok, hw, ih]
    simp
theorem ul_d (us : List F) : toDs (ul us) = some (us.map lf) := by
  have := toDs_v (us.map lf)
  rw [List.map_map] at this
  exact this
theorem uv_own {as : List F} {i : Nat} (h : i < as.length) : uv (as.map ownN) i = vP (as.getD i z0) := by
  have e : (as.map ownN).getD i z0 = ownN (as.getD i z0) := by
    rw [List.getD_eq_getElem?_getD, List.getElem?_map, getD_get h]
    rfl
  show vL _ = _
  rw [e, vL_own]
theorem sm_owns {as : List F} {L N : Nat} (h : ∀ A ∈ as, Sm L A) (hN : L + 1 ≤ N) : ∀ u ∈ as.map ownN, Sm N u := fun u hu => by
  obtain ⟨A, hA, rfl⟩ := List.mem_map.mp hu
  exact sm_own (h A hA) hN
theorem l2_eq {p n a L : Nat} {q t new k : Int} {qs : List Int} {as asT : List F} (hp : p < 3) (hq : qs.Nodup) (ha : qs[a]? = some q) (hn : qs.length = n) (h5 : n < 5) (hL : L ≤ 1000) (hl : as.length = 2 ^ n) (hsm : ∀ A ∈ as, Sm L A) (hlT : asT.length = 2 ^ n) (hsmT : ∀ A ∈ asT, Sm L A)
    (hk : ∀ i < 2 ^ (n - 1), Wv k * vP (prF (pCj (plo p t)) (pCj (phi p t)) (n - 1 - a) asT i) = vP (prF (pCj (plo p new)) (pCj (phi p new)) (n - 1 - a) as i)) (x0 x1 x2 x5 x6 x7 x8 x9 x10 x12 x13 x15 x16 x17 x18 x19 x22 x23 : Sl) :
    ∃ t12 t22, l2_law [x0, x1, x2, .v (.str (pn p)), I t, x5, x6, x7, x8, x9, x10, .v (st .f qs as), x12, x13, I q, x15, x16, x17, x18, x19, .v (st .f qs asT), I new, x22, x23] = .ok .nx [x0, x1, x2, .v (.str (pn p)), I t, x5, x6, x7, x8, x9, x10, .v (st .f qs as), t12, x13, I q, x15, x16, x17, x18, x19, .v (st .f qs asT), I new, t22, x23] := by
  have hal := (List.getElem?_eq_some_iff.mp ha).1
  rw [hn] at hal
  have h16 : 2 ^ (n - 1) ≤ 8 := Nat.pow_le_pow_right (n := 2) (by decide) (show n - 1 ≤ 3 by omega)
  have a1 := proj_eq (t := t) hp hq ha hn h5 hlT (by omega) hsmT
  have a2 := proj_eq (t := new) hp hq ha hn h5 hl (by omega) hsm
  have sX : ∀ A ∈ each (2 ^ (n - 1)) (prF (pCj (plo p t)) (pCj (phi p t)) (n - 1 - a) asT), Sm (2 * L + 25) A := each_sm fun i hi => by
    obtain ⟨l1, l2⟩ := ins_lt n h5 (n - 1 - a) (by omega) i hi
    exact sm_pr hsmT hlT l1 l2 (by omega)
  have sY : ∀ A ∈ each (2 ^ (n - 1)) (prF (pCj (plo p new)) (pCj (phi p new)) (n - 1 - a) as), Sm (2 * L + 25) A := each_sm fun i hi => by
    obtain ⟨l1, l2⟩ := ins_lt n h5 (n - 1 - a) (by omega) i hi
    exact sm_pr hsm hl l1 l2 (by omega)
  have lX : (each (2 ^ (n - 1)) (prF (pCj (plo p t)) (pCj (phi p t)) (n - 1 - a) asT)).length = 2 ^ (n - 1) := each_len _ _
  have lY : (each (2 ^ (n - 1)) (prF (pCj (plo p new)) (pCj (phi p new)) (n - 1 - a) as)).length = 2 ^ (n - 1) := each_len _ _
  have hk2 : ∀ i < 2 ^ (n - 1), Wv k * uv ((each (2 ^ (n - 1)) (prF (pCj (plo p t)) (pCj (phi p t)) (n - 1 - a) asT)).map ownN) i = uv ((each (2 ^ (n - 1)) (prF (pCj (plo p new)) (pCj (phi p new)) (n - 1 - a) as)).map ownN) i := fun i hi => by
    rw [uv_own (by omega), uv_own (by omega), each_getD _ hi, each_getD _ hi]
    exact hk i hi
  generalize each (2 ^ (n - 1)) (prF (pCj (plo p t)) (pCj (phi p t)) (n - 1 - a) asT) = X at *
  generalize each (2 ^ (n - 1)) (prF (pCj (plo p new)) (pCj (phi p new)) (n - 1 - a) as) = Y at *
  have al := alike_eq (xs := X.map ownN) (ys := Y.map ownN) (L := 2 * L + 26) (by rw [List.length_map, lX]) (by rw [List.length_map, lY]) (by omega) (sm_owns sX (by omega)) (sm_owns sY (by omega)) (by omega) k hk2
  refine ⟨.v (.tup (X.map tf2)), .v (.tup (Y.map tf2)), ?_⟩
  have a1 : n_project [.v (st .f qs asT), I q, .v (.str (pn p)), I t] = .ret (.v (.tup [.tg .f ((qs.filter fun x => x != q).map .int), .tup (X.map tf2)])) [] := a1
  have a2 : n_project [.v (st .f qs as), I q, .v (.str (pn p)), I new] = .ret (.v (.tup [.tg .f ((qs.filter fun x => x != q).map .int), .tup (Y.map tf2)])) [] := a2
  have szX : X.length ≤ sizeLine := by rw [sizeLine_eq]; omega
  have szY : Y.length ≤ sizeLine := by rw [sizeLine_eq]; omega
  generalize st .f qs as = S1 at *
  generalize st .f qs asT = S2 at *
  generalize ((qs.filter fun x => x != q).map D.int) = FI at *
  generalize pn p = PN at *
  have o1 := own_list (f := e0_law) (i := 23) (env := [x0, x1, x2, .v (.str PN), I t, x5, x6, x7, x8, x9, x10, .v S1, .v (.tup (X.map tf2)), x13, I q, x15, x16, x17, x18, x19, .v S2, I new, .v (.tup (Y.map tf2)), .u]) (as := X) (acc := []) (fun A hA => by
    have := lOwn_eq (sX A hA) (by omega)
    generalize lf (ownN A) = R at *
    generalize tf2 A = T at *
    simp [e0_law, this]) (fun A => rfl)
  have o2 := own_list (f := e1_law) (i := 23) (env := [x0, x1, x2, .v (.str PN), I t, x5, x6, x7, x8, x9, x10, .v S1, .v (.tup (X.map tf2)), x13, I q, x15, x16, x17, x18, x19, .v S2, I new, .v (.tup (Y.map tf2)), .u]) (as := Y) (acc := []) (fun A hA => by
    have := lOwn_eq (sY A hA) (by omega)
    generalize lf (ownN A) = R at *
    generalize tf2 A = T at *
    simp [e1_law, this]) (fun A => rfl)
  rw [List.nil_append] at o1 o2
  have d1 := ul_d (X.map ownN)
  have d2 := ul_d (Y.map ownN)
  generalize ul (X.map ownN) = U1 at *
  generalize ul (Y.map ownN) = U2 at *
  generalize (X.map ownN).map lf = V1 at *
  generalize (Y.map ownN).map lf = V2 at *
  rw [← List.length_map (f := tf2)] at szX szY
  generalize X.map tf2 = XT at *
  generalize Y.map tf2 = YT at *
  simp [l2_law, a1, a2, atI1, szX, szY, o1, o2, d1, d2, al]
end W


set_option maxHeartbeats 2000000
namespace W
open PySem PySem.Spec PyProof.Rows L2 DL N4 Bt
theorem pick3 {d : Int} (h0 : 0 ≤ d) (h1 : d < 3) : ∃ p < 3, ixS [.o [.v (.str "XY"), .v (.str "XZ"), .v (.str "YZ")], I d] = some (.v (.str (pn p))) := by
  have h : d = 0 ∨ d = 1 ∨ d = 2 := by omega
  rcases h with rfl | rfl | rfl
  · exact ⟨0, by omega, rfl⟩
  · exact ⟨1, by omega, rfl⟩
  · exact ⟨2, by omega, rfl⟩
theorem dict3 {p : Nat} (hp : p < 3) (u v w : Int) : dgetO [.k [.inr "XY", .inr "YZ", .inr "XZ"] [.int u, .int v, .int w], .v (.str (pn p))] = some (I (if p = 0 then u else if p = 1 then w else v)) := by
  match p, hp with
  | 0, _ => rfl
  | 1, _ => rfl
  | 2, _ => rfl
def crossF (p : Nat) (t : Int) : F := lAdd (lBy (lBar (llo p t)) (llo p (t + 4))) (lBy (lBar (lhi p t)) (lhi p (t + 4)))
theorem vL_cross (p : Nat) (t : Int) : vL (crossF p t) = 0 := by
  unfold crossF
  rw [vL_add, vL_by, vL_by, vL_bar, vL_bar, vL_lo, vL_lo, vL_hi, vL_hi]
  exact cross0 p t
theorem vL_due (p : Nat) (t : Int) : vL (lSum [llo p t, lhi p t] z0) = 1 := by
  rw [vL_sum]
  show (vL z0 + vL (llo p t) * KK.conj (vL (llo p t))) + vL (lhi p t) * KK.conj (vL (lhi p t)) = 1
  rw [vL_z0, vL_lo, vL_hi]
  have := len1 p t
  grind
theorem ins_xor : ∀ s < 4, ∀ i < 8, insb s 0 i ^^^ 2 ^ s = insb s 1 i ∧ insb s 1 i ^^^ 2 ^ s = insb s 0 i ∧ bit s (insb s 0 i) = 0 ∧ bit s (insb s 1 i) = 1 := by decide +kernel
theorem W_4' : Wv 4 = -1 := by
  show em (un 4) = KK.neg (KK.nat 1)
  apply KK.ext <;> rfl
section
variable {n a p L : Nat} {t : Int} {as us : List F}
theorem vX (h5 : n < 4) (ha : a < n) (h : Fr n L as us) {i : Nat} (hi : i < 2 ^ (n - 1)) : Wv (-uX p t) * vP (prF (pCj (plo p t)) (pCj (phi p t)) (n - 1 - a) (each (2 ^ n) (xF (n - 1 - a) as)) i) = vP (prF (pCj (plo p (byX p t))) (pCj (phi p (byX p t))) (n - 1 - a) as i) := by
  have h8 : 2 ^ (n - 1) ≤ 8 := Nat.pow_le_pow_right (n := 2) (by decide) (show n - 1 ≤ 3 by omega)
  obtain ⟨l1, l2⟩ := ins_lt n (by omega) (n - 1 - a) (by omega) i hi
  obtain ⟨x1, x2, _⟩ := ins_xor (n - 1 - a) (by omega) i (by omega)
  rw [vP_pr, vP_pr, each_getD _ l1, each_getD _ l2]
  unfold xF
  rw [x1, x2]
  have h1 := behindX p t (vP (as.getD (insb (n - 1 - a) 0 i) z0)) (vP (as.getD (insb (n - 1 - a) 1 i) z0))
  have h2 := W_unit (uX p t)
  rw [W_neg]
  grind
theorem vZ (h5 : n < 4) (ha : a < n) (h : Fr n L as us) {i : Nat} (hi : i < 2 ^ (n - 1)) : Wv (-uZ p t) * vP (prF (pCj (plo p t)) (pCj (phi p t)) (n - 1 - a) (each (2 ^ n) (turnF 4 (n - 1 - a) as)) i) = vP (prF (pCj (plo p (byZ p t))) (pCj (phi p (byZ p t))) (n - 1 - a) as i) := by
  have h8 : 2 ^ (n - 1) ≤ 8 := Nat.pow_le_pow_right (n := 2) (by decide) (show n - 1 ≤ 3 by omega)
  obtain ⟨l1, l2⟩ := ins_lt n (by omega) (n - 1 - a) (by omega) i hi
  obtain ⟨_, _, x1, x2⟩ := ins_xor (n - 1 - a) (by omega) i (by omega)
  rw [vP_pr, vP_pr, each_getD _ l1, each_getD _ l2]
  unfold turnF
  rw [x1, x2, if_neg (by omega), if_pos rfl, vP_mul, show vP (un 4, 0) = Wv 4 from vP_un 4, W_4']
  have h1 := behindZ p t (vP (as.getD (insb (n - 1 - a) 0 i) z0)) (vP (as.getD (insb (n - 1 - a) 1 i) z0))
  have h2 := W_unit (uZ p t)
  rw [W_neg]
  grind
theorem v_both {X1 X2 : List F} (h0 : 0 < n) (h4 : n < 4) (ha : a < n) (h : Fr n L as us) (e1 : X1 = each (2 ^ (n - 1)) (prF (pCj (plo p t)) (pCj (phi p t)) (n - 1 - a) as)) (e2 : X2 = each (2 ^ (n - 1)) (prF (pCj (plo p (t + 4))) (pCj (phi p (t + 4))) (n - 1 - a) as)) :
    vL (lAdd (lSum (X1.map ownN) z0) (lSum (X2.map ownN) z0)) = vL (lSum us z0) := by
  have g1 : (X1.map ownN).length = 2 ^ (n - 1) := by rw [List.length_map, e1, each_len]
  have g2 : (X2.map ownN).length = 2 ^ (n - 1) := by rw [List.length_map, e2, each_len]
  rw [vL_add, vL_lsum g1, vL_lsum g2, vL_lsum h.lu, ← sumK_add, pair_sum (fun i => uv us i * KK.conj (uv us i)) n (n - 1 - a) h0 h4 (by omega)]
  refine sumK_congr fun i hi => ?_
  obtain ⟨l1, l2⟩ := ins_lt n (by omega) (n - 1 - a) (by omega) i hi
  have k1 := (ap_iff.mp (h.ap _ l1)).2
  have k2 := (ap_iff.mp (h.ap _ l2)).2
  rw [uv_own (by rw [List.length_map] at g1; omega), uv_own (by rw [List.length_map] at g2; omega), e1, e2, each_getD _ hi, each_getD _ hi, vP_pr, vP_pr, k1, k2]
  exact two1 p t _ _
end
theorem l6_parts : l6_law = seqS (setS 3 (opS ixS [(.ex (vLst [(.ex (vC (.str "XY"))), (.ex (vC (.str "XZ"))), (.ex (vC (.str "YZ")))])), (.ex (callS [true, false, false] n__law_draw [(.nm 1), (.nm 0), (.ex (vC (.int 3)))]))])) (seqS (setS 4 (opS subO [(.ex (callS [true, false, false] n__law_draw [(.nm 1), (.nm 0), (.ex (vC (.int 32)))])), (.ex (vC (.int 12)))])) (seqS (setS 5 (callS [false, false] n_plane_state [(.nm 3), (.nm 4)])) (seqS (setS 6 (callS [false, false] n__law_plane [(.nm 3), (.nm 4)])) (seqS (ifS (orT (notT (truA (.ex (isiS "tuple" (.nm 5))))) (orT (tstB (opS (eqS true) [(.ex (opS lenO [(.nm 5)])), (.ex (vC (.int 2)))])) (orT (notT (truA (.ex (callS [false, false] n__law_is [(.ex (opS ixS [(.nm 5), (.ex (vC (.int 0)))])), (.ex (opS ixS [(.nm 6), (.ex (vC (.int 0)))]))])))) (notT (truA (.ex (callS [false, false] n__law_is [(.ex (opS ixS [(.nm 5), (.ex (vC (.int 1)))])), (.ex (opS ixS [(.nm 6), (.ex (vC (.int 1)))]))]))))))) (seqS (retS (vC (.bl false))) skipS) skipS) (seqS (setS 7 (callS [false, false] n__law_plane [(.nm 3), (.ex (opS addO [(.nm 4), (.ex (vC (.int 4)))]))])) (seqS (setS 8 (callS [false, false] n__law_plus [(.ex (callS [false, false] n__law_by [(.ex (callS [false] n__law_bar [(.ex (opS ixS [(.nm 6), (.ex (vC (.int 0)))]))])), (.ex (opS ixS [(.nm 7), (.ex (vC (.int 0)))]))])), (.ex (callS [false, false] n__law_by [(.ex (callS [false] n__law_bar [(.ex (opS ixS [(.nm 6), (.ex (vC (.int 1)))]))])), (.ex (opS ixS [(.nm 7), (.ex (vC (.int 1)))]))]))])) (seqS (ifS (orT (notT (truA (.ex (callS [false, false] n__law_like [(.ex (callS [false] n__law_sum [(.nm 6)])), (.ex (vTup [(.ex (vLst [(.ex (vC (.int 1))), (.ex (vC (.int 0))), (.ex (vC (.int 0))), (.ex (vC (.int 0)))])), (.ex (vC (.int 0)))]))])))) (notT (truA (.ex (callS [false, false] n__law_like [(.nm 8), (.ex (vTup [(.ex (vLst [(.ex (vC (.int 0))), (.ex (vC (.int 0))), (.ex (vC (.int 0))), (.ex (vC (.int 0)))])), (.ex (vC (.int 0)))]))]))))) (seqS (retS (vC (.bl false))) skipS) skipS) (seqS (setS 9 (callS [true, false, false] n__law_qubits [(.nm 1), (.nm 0), (.ex (vC (.int 3)))])) (seqS (setS 10 (callS [true, false, false] n__law_state [(.nm 1), (.nm 0), (.nm 9)])) (seqS (setS 11 (vTup [(.nm 9), (.ex (opS tupleO [(.ex (lcS (seqI (vVar 10)) (tgN 12) yesT e5_law [12]))]))])) (seqS (setS 13 (callS [false, false] n__law_field [(.nm 9), (.nm 10)])) (seqS (setS 14 (opS ixS [(.nm 9), (.ex (callS [true, false, false] n__law_draw [(.nm 1), (.nm 0), (.ex (opS lenO [(.nm 9)]))]))])) (seqS (par2 15 16 [(.ex (callS [false, false, false, false] n_project [(.nm 11), (.nm 14), (.nm 3), (.nm 4)])), (.ex (callS [false, false, false, false] n_project [(.nm 11), (.nm 14), (.nm 3), (.ex (opS addO [(.nm 4), (.ex (vC (.int 4)))]))]))]) (seqS (ifS (orT (notT (truA (.ex (callS [false, false] n__law_same_field [(.nm 15), (.ex (callS [false, false, false, false] n__law_found [(.nm 13), (.nm 14), (.nm 3), (.nm 4)]))])))) (notT (truA (.ex (callS [false, false] n__law_same_field [(.nm 16), (.ex (callS [false, false, false, false] n__law_found [(.nm 13), (.nm 14), (.nm 3), (.ex (opS addO [(.nm 4), (.ex (vC (.int 4)))]))]))]))))) (seqS (retS (vC (.bl false))) skipS) skipS) (seqS (setS 17 (callS [false, false] n__law_plus [(.ex (callS [false] n__law_sum [(.ex (lcS (seqI (opS ixS [(.nm 15), (.ex (vC (.int 1)))])) (tgN 12) yesT e3_law [12]))])), (.ex (callS [false] n__law_sum [(.ex (lcS (seqI (opS ixS [(.nm 16), (.ex (vC (.int 1)))])) (tgN 12) yesT e4_law [12]))]))])) (seqS (ifS (notT (truA (.ex (callS [false, false] n__law_like [(.nm 17), (.ex (callS [false] n__law_sum [(.nm 10)]))])))) (seqS (retS (vC (.bl false))) skipS) skipS) (seqS (setS 18 (opS dgetO [(.ex (vDisp [(.inr "XY"), (.inr "YZ"), (.inr "XZ")] [(opS subO [(.ex (vC (.int 0))), (.nm 4)]), (opS addO [(.nm 4), (.ex (vC (.int 4)))]), (opS subO [(.ex (vC (.int 4))), (.nm 4)])])), (.nm 3)])) (seqS (setS 19 (opS dgetO [(.ex (vDisp [(.inr "XY"), (.inr "YZ"), (.inr "XZ")] [(opS addO [(.nm 4), (.ex (vC (.int 4)))]), (opS subO [(.ex (vC (.int 0))), (.nm 4)]), (opS subO [(.ex (vC (.int 0))), (.nm 4)])])), (.nm 3)])) (seqS (forE (seqI (vTup [(.ex (vTup [(.ex (callS [false, false] n_pauli_x [(.nm 11), (.nm 14)])), (.nm 18)])), (.ex (vTup [(.ex (callS [false, false] n_pauli_z [(.nm 11), (.nm 14)])), (.nm 19)]))])) (tgSeq (tgCons (tgN 20) (tgCons (tgN 21) tgNil))) l2_law) skipS))))))))))))))))))) := rfl
theorem l6_turn {B m : Nat} {ns : List Int} (S : ScOk B ns) {s : Sl} (hs : StOk B m s) (hm : m < 500000) (r2 r3 r4 r5 r6 r7 r8 r9 r10 r11 r12 r13 r14 r15 r16 r17 r18 r19 r20 r21 r22 r23 : Sl) :
    ∃ s' z3 z4 z5 z6 z7 z8 z9 z10 z11 z12 z13 z14 z15 z16 z17 z18 z19 z20 z21 z22 z23, StOk B (m + 300) s' ∧ l6_law [.v (scr ns), s, r2, r3, r4, r5, r6, r7, r8, r9, r10, r11, r12, r13, r14, r15, r16, r17, r18, r19, r20, r21, r22, r23] = .ok .nx [.v (scr ns), s', r2, z3, z4, z5, z6, z7, z8, z9, z10, z11, z12, z13, z14, z15, z16, z17, z18, z19, z20, z21, z22, z23] := by
  obtain ⟨d, s1, a1, d0, d1, h1⟩ := draw_eq S hs (by omega) 3 (by omega) (by omega)
  obtain ⟨p, hp, a2⟩ := pick3 d0 d1
  obtain ⟨t', s2, a3, t0, t1, h2⟩ := draw_eq S h1 (by omega) 32 (by omega) (by omega)
  obtain ⟨t, ht⟩ : ∃ t, t' - 12 = t := ⟨_, rfl⟩
  have b1 := plane_eq hp t
  have b2 := lplane_eq hp t (by omega)
  have b3 := lplane_eq hp (t + 4) (by omega)
  have sl1 := sm_llo p t
  have sl2 := sm_lhi p t
  have sl3 := sm_llo p (t + 4)
  have sl4 := sm_lhi p (t + 4)
  have b4 := ap_is (ap_iff.mpr ⟨cn_plo p t, by rw [vP_lo, vL_lo]⟩) ((sm_plo p t).mono (N := 9) (by omega)) (sl1.mono (N := 9) (by omega)) (by omega)
  have b5 := ap_is (ap_iff.mpr ⟨cn_phi p t, by rw [vP_hi, vL_hi]⟩) ((sm_phi p t).mono (N := 9) (by omega)) (sl2.mono (N := 9) (by omega)) (by omega)
  have b6 := lBar_eq (llo p t)
  have b7 := lBar_eq (lhi p t)
  have b8 := lBy_eq ((sm_lBar sl1).mono (N := 9) (by omega)) (sl3.mono (N := 9) (by omega)) (by omega)
  have b9 := lBy_eq (sm_lBar sl2) sl4 (by omega)
  have s10 : Sm 20 (lBy (lBar (llo p t)) (llo p (t + 4))) := sm_lBy (sm_lBar sl1) sl3 (by omega)
  have s11 : Sm 20 (lBy (lBar (lhi p t)) (lhi p (t + 4))) := sm_lBy (sm_lBar sl2) sl4 (by omega)
  have b10 : n__law_plus _ = .ret (.v (lf (crossF p t))) [] := lAdd_eq s10 s11 (by omega)
  have s12 : Sm 100 (crossF p t) := sm_lAdd s10 s11 (by omega)
  have sd : ∀ u ∈ [llo p t, lhi p t], Sm 9 u := fun u hu => by
    rcases List.mem_cons.mp hu with rfl | hu
    · exact sl1.mono (by omega)
    · rw [List.mem_singleton.mp hu]; exact sl2
  have b11 := sum_eq (L := 9) (r := .tup [lf (llo p t), lf (lhi p t)]) (us := [llo p t, lhi p t]) rfl sd (by omega) (by simp)
  have s13 : Sm 100 (lSum [llo p t, lhi p t] z0) := (vb_sum (L := 9) (M := 20) (by omega) [llo p t, lhi p t] z0 20 sd (by omega) ⟨Bd.zr, Nat.zero_le _⟩).sm (by simp)
  have b12 : n__law_like [.v (lf (lSum [llo p t, lhi p t] z0)), .v (.tup [.lst [.int 1, .int 0, .int 0, .int 0], .int 0])] = .ret (.v (.bl true)) [] := like_t s13 (sm_one.mono (by omega)) (by omega) (by rw [vL_due, vL_one])
  have b13 : n__law_like [.v (lf (crossF p t)), .v (.tup [.lst [.int 0, .int 0, .int 0, .int 0], .int 0])] = .ret (.v (.bl true)) [] := like_t (v := z0) s12 ⟨Bd.zr, Nat.zero_le _⟩ (by omega) (by rw [vL_cross, vL_z0])
  obtain ⟨qs, s3, a4, nd, q0, q3, qr, h3⟩ := qubits_eq S h2 (by omega)
  obtain ⟨n, hn⟩ : ∃ n, qs.length = n := ⟨_, rfl⟩
  have p8 : 2 ^ n ≤ 8 := Nat.pow_le_pow_right (n := 2) (by decide) (show n ≤ 3 by omega)
  have p8' : 2 ^ (n - 1) ≤ 8 := Nat.pow_le_pow_right (n := 2) (by decide) (show n - 1 ≤ 3 by omega)
  obtain ⟨us, s4, a5, hl, hb, h4⟩ := state_eq (k := .f) S h3 (by omega) hn (by omega)
  have a6 : n__law_field _ = .ret (.v (fld qs n us)) [] := field_eq (k := .f) hn (by omega) (by omega) hl
  have fr := told_fr hl hb
  obtain ⟨as, has⟩ : ∃ as, us.map (fun u => nf (2 * u.2) u.1) = as := ⟨_, rfl⟩
  rw [has] at fr
  obtain ⟨j, s5, a7, j0, j1, h5⟩ := draw_eq S h4 (by omega) ((n : Nat) : Int) (by omega) (by omega)
  obtain ⟨a, q, hqa, a8⟩ := pick_tup (k := .f) (rs := qs) j0 (by omega)
  have hal : a < n := by have := (List.getElem?_eq_some_iff.mp hqa).1; omega
  have c1 := proj_eq (t := t) hp nd hqa hn (by omega) fr.la (by omega) fr.sa
  have c2 := proj_eq (t := t + 4) hp nd hqa hn (by omega) fr.la (by omega) fr.sa
  have c3 := found_eq (t := t) hp nd hqa hn (by omega) fr.lu fr.su (by omega) (by omega)
  have c4 := found_eq (t := t + 4) hp nd hqa hn (by omega) fr.lu fr.su (by omega) (by omega)
  have f1 := frP (p := p) (t := t) (by omega) hal fr
  have f2 := frP (p := p) (t := t + 4) (by omega) hal fr
  rw [filter_cut nd hqa] at c1 c2
  have q2l : (qs.take a ++ qs.drop (a + 1)).length = n - 1 := by rw [List.length_append, List.length_take, List.length_drop]; omega
  have c5 := samek_eq q2l (by omega) f1 (by omega)
  have c6 := samek_eq q2l (by omega) f2 (by omega)
  have v1 := v_both (X1 := each (2 ^ (n - 1)) (prF (pCj (plo p t)) (pCj (phi p t)) (n - 1 - a) as)) (X2 := each (2 ^ (n - 1)) (prF (pCj (plo p (t + 4))) (pCj (phi p (t + 4))) (n - 1 - a) as)) (by omega) (by omega) hal fr rfl rfl
  have sx1 := f1.sa
  have sx2 := f2.sa
  have lx1 := f1.la
  have lx2 := f2.la
  obtain ⟨X1, hX1⟩ : ∃ X1, each (2 ^ (n - 1)) (prF (pCj (plo p t)) (pCj (phi p t)) (n - 1 - a) as) = X1 := ⟨_, rfl⟩
  obtain ⟨X2, hX2⟩ : ∃ X2, each (2 ^ (n - 1)) (prF (pCj (plo p (t + 4))) (pCj (phi p (t + 4))) (n - 1 - a) as) = X2 := ⟨_, rfl⟩
  rw [hX1] at c1 c5 v1 sx1 lx1
  rw [hX2] at c2 c6 v1 sx2 lx2
  obtain ⟨U1, hU1⟩ : ∃ U1, fldw (qs.take a ++ qs.drop (a + 1)) (n - 1) (each (2 ^ (n - 1)) (fdF (llo p t) (lhi p t) (n - 1 - a) us)) = U1 := ⟨_, rfl⟩
  obtain ⟨U2, hU2⟩ : ∃ U2, fldw (qs.take a ++ qs.drop (a + 1)) (n - 1) (each (2 ^ (n - 1)) (fdF (llo p (t + 4)) (lhi p (t + 4)) (n - 1 - a) us)) = U2 := ⟨_, rfl⟩
  have c3 : n__law_found _ = .ret (.v (fldw (qs.take a ++ qs.drop (a + 1)) (n - 1) (each (2 ^ (n - 1)) (fdF (llo p t) (lhi p t) (n - 1 - a) us)))) [] := c3
  have c4 : n__law_found _ = .ret (.v (fldw (qs.take a ++ qs.drop (a + 1)) (n - 1) (each (2 ^ (n - 1)) (fdF (llo p (t + 4)) (lhi p (t + 4)) (n - 1 - a) us)))) [] := c4
  rw [hU1] at c3 c5
  rw [hU2] at c4 c6
  obtain ⟨q2, hq2⟩ : ∃ q2, qs.take a ++ qs.drop (a + 1) = q2 := ⟨_, rfl⟩
  rw [hq2] at c1 c2 c5 c6
  -- the sums
  have so1 := sm_owns sx1 (N := 341) (by omega)
  have so2 := sm_owns sx2 (N := 341) (by omega)
  have g1 := sum_eq (r := .lst ((X1.map ownN).map lf)) (us := X1.map ownN) rfl so1 (by omega) (by rw [List.length_map]; omega)
  have g2 := sum_eq (r := .lst ((X2.map ownN).map lf)) (us := X2.map ownN) rfl so2 (by omega) (by rw [List.length_map]; omega)
  have g3 := sum_eq (r := .lst (us.map lf)) (us := us) rfl fr.su (by omega) (by omega)
  have sv1 : Sm 2000 (lSum (X1.map ownN) z0) := (vb_sum (L := 341) (M := 684) (by omega) (X1.map ownN) z0 684 so1 (by omega) ⟨Bd.zr, Nat.zero_le _⟩).sm (by rw [List.length_map]; omega)
  have sv2 : Sm 2000 (lSum (X2.map ownN) z0) := (vb_sum (L := 341) (M := 684) (by omega) (X2.map ownN) z0 684 so2 (by omega) ⟨Bd.zr, Nat.zero_le _⟩).sm (by rw [List.length_map]; omega)
  have sv3 : Sm 2000 (lSum us z0) := (vb_sum (L := 100) (M := 684) (by omega) us z0 684 fr.su (by omega) ⟨Bd.zr, Nat.zero_le _⟩).sm (by omega)
  have g4 := lAdd_eq sv1 sv2 (by omega)
  have sv4 : Sm 7000 (lAdd (lSum (X1.map ownN) z0) (lSum (X2.map ownN) z0)) := sm_lAdd sv1 sv2 (by omega)
  have g5 := like_t sv4 (sv3.mono (by omega)) (by omega) v1
  obtain ⟨bothF, hbF⟩ : ∃ x, lAdd (lSum (X1.map ownN) z0) (lSum (X2.map ownN) z0) = x := ⟨_, rfl⟩
  rw [hbF] at g4 g5
  -- behind a Pauli
  have k1 := pauli_x_eq nd hqa hn (by omega) fr.la
  have k2 := pauli_z_eq nd hqa hn (by omega) fr.la (by omega) fr.sa
  have sxa : ∀ A ∈ each (2 ^ n) (xF (n - 1 - a) as), Sm 103 A := each_sm fun i hi => by
    unfold xF
    have := xor_lt n (by omega) (n - 1 - a) (by omega) i hi
    exact (get_sm fr.sa (by rw [fr.la]; exact this)).mono (by omega)
  have sza : ∀ A ∈ each (2 ^ n) (turnF 4 (n - 1 - a) as), Sm 103 A := each_sm fun i hi => sm_turn fr.sa (by rw [fr.la]; exact hi) (by omega)
  have sas : ∀ A ∈ as, Sm 103 A := fun A hA => (fr.sa A hA).mono (by omega)
  obtain ⟨w12, w22, w1⟩ := l2_eq (t := t) (new := byX p t) (k := -uX p t) hp nd hqa hn (by omega) (by omega) fr.la sas (each_len _ _) sxa (fun i hi => vX (by omega) hal fr hi) (.v (scr ns)) s5 r2 (.v (.tup [tf2 (plo p t), tf2 (phi p t)])) (.v (.tup [lf (llo p t), lf (lhi p t)])) (.v (.tup [lf (llo p (t + 4)), lf (lhi p (t + 4))])) (.v (lf (crossF p t))) (.v (.tg .f (qs.map .int))) (.v (.lst (us.map lf))) r12 (.v (fld qs n us)) (.v (st .f q2 X1)) (.v (st .f q2 X2)) (.v (lf bothF)) (I (byX p t)) (I (byZ p t)) r22 r23
  obtain ⟨t12, t22, w2⟩ := l2_eq (t := t) (new := byZ p t) (k := -uZ p t) hp nd hqa hn (by omega) (by omega) fr.la sas (each_len _ _) sza (fun i hi => vZ (by omega) hal fr hi) (.v (scr ns)) s5 r2 (.v (.tup [tf2 (plo p t), tf2 (phi p t)])) (.v (.tup [lf (llo p t), lf (lhi p t)])) (.v (.tup [lf (llo p (t + 4)), lf (lhi p (t + 4))])) (.v (lf (crossF p t))) (.v (.tg .f (qs.map .int))) (.v (.lst (us.map lf))) w12 (.v (fld qs n us)) (.v (st .f q2 X1)) (.v (st .f q2 X2)) (.v (lf bothF)) (I (byX p t)) (I (byZ p t)) w22 r23
  obtain ⟨XA, hXA⟩ : ∃ x, each (2 ^ n) (xF (n - 1 - a) as) = x := ⟨_, rfl⟩
  obtain ⟨ZA, hZA⟩ : ∃ x, each (2 ^ n) (turnF 4 (n - 1 - a) as) = x := ⟨_, rfl⟩
  rw [hXA] at k1 w1
  rw [hZA] at k2 w2
  obtain ⟨c0, c0', rfl, _⟩ := id hs
  obtain ⟨c1_, c1', rfl, _⟩ := id h1
  obtain ⟨c2_, c2', rfl, _⟩ := id h2
  obtain ⟨c3_, c3', rfl, _⟩ := id h3
  obtain ⟨c4_, c4', rfl, _⟩ := id h4
  obtain ⟨c5_, c5', rfl, _⟩ := id h5
  have kt1 : kitB "tuple" "tuple" = some true := by rfl
  have st0 : (setS 3 (opS ixS [(.ex (vLst [(.ex (vC (.str "XY"))), (.ex (vC (.str "XZ"))), (.ex (vC (.str "YZ")))])), (.ex (callS [true, false, false] n__law_draw [(.nm 1), (.nm 0), (.ex (vC (.int 3)))]))])) [.v (scr ns), .o [I c0, I c0'], r2, r3, r4, r5, r6, r7, r8, r9, r10, r11, r12, r13, r14, r15, r16, r17, r18, r19, r20, r21, r22, r23] = .ok .nx [.v (scr ns), .o [I c1_, I c1'], r2, .v (.str (pn p)), r4, r5, r6, r7, r8, r9, r10, r11, r12, r13, r14, r15, r16, r17, r18, r19, r20, r21, r22, r23] := by
    generalize pn p = PN at *
    simp [a1, a2]
  have st1 : (setS 4 (opS subO [(.ex (callS [true, false, false] n__law_draw [(.nm 1), (.nm 0), (.ex (vC (.int 32)))])), (.ex (vC (.int 12)))])) [.v (scr ns), .o [I c1_, I c1'], r2, .v (.str (pn p)), r4, r5, r6, r7, r8, r9, r10, r11, r12, r13, r14, r15, r16, r17, r18, r19, r20, r21, r22, r23] = .ok .nx [.v (scr ns), .o [I c2_, I c2'], r2, .v (.str (pn p)), I t, r5, r6, r7, r8, r9, r10, r11, r12, r13, r14, r15, r16, r17, r18, r19, r20, r21, r22, r23] := by
    generalize pn p = PN at *
    simp [a3, ht]
  have st2 : (setS 5 (callS [false, false] n_plane_state [(.nm 3), (.nm 4)])) [.v (scr ns), .o [I c2_, I c2'], r2, .v (.str (pn p)), I t, r5, r6, r7, r8, r9, r10, r11, r12, r13, r14, r15, r16, r17, r18, r19, r20, r21, r22, r23] = .ok .nx [.v (scr ns), .o [I c2_, I c2'], r2, .v (.str (pn p)), I t, .v (.tup [tf2 (plo p t), tf2 (phi p t)]), r6, r7, r8, r9, r10, r11, r12, r13, r14, r15, r16, r17, r18, r19, r20, r21, r22, r23] := by
    generalize pn p = PN at *
    generalize tf2 (plo p t) = A1 at *
    generalize tf2 (phi p t) = A2 at *
    simp [b1]
  have st3 : (setS 6 (callS [false, false] n__law_plane [(.nm 3), (.nm 4)])) [.v (scr ns), .o [I c2_, I c2'], r2, .v (.str (pn p)), I t, .v (.tup [tf2 (plo p t), tf2 (phi p t)]), r6, r7, r8, r9, r10, r11, r12, r13, r14, r15, r16, r17, r18, r19, r20, r21, r22, r23] = .ok .nx [.v (scr ns), .o [I c2_, I c2'], r2, .v (.str (pn p)), I t, .v (.tup [tf2 (plo p t), tf2 (phi p t)]), .v (.tup [lf (llo p t), lf (lhi p t)]), r7, r8, r9, r10, r11, r12, r13, r14, r15, r16, r17, r18, r19, r20, r21, r22, r23] := by
    generalize pn p = PN at *
    generalize tf2 (plo p t) = A1 at *
    generalize tf2 (phi p t) = A2 at *
    generalize lf (llo p t) = B1 at *
    generalize lf (lhi p t) = B2 at *
    simp [b2]
  have st4 : (ifS (orT (notT (truA (.ex (isiS "tuple" (.nm 5))))) (orT (tstB (opS (eqS true) [(.ex (opS lenO [(.nm 5)])), (.ex (vC (.int 2)))])) (orT (notT (truA (.ex (callS [false, false] n__law_is [(.ex (opS ixS [(.nm 5), (.ex (vC (.int 0)))])), (.ex (opS ixS [(.nm 6), (.ex (vC (.int 0)))]))])))) (notT (truA (.ex (callS [false, false] n__law_is [(.ex (opS ixS [(.nm 5), (.ex (vC (.int 1)))])), (.ex (opS ixS [(.nm 6), (.ex (vC (.int 1)))]))]))))))) (seqS (retS (vC (.bl false))) skipS) skipS) [.v (scr ns), .o [I c2_, I c2'], r2, .v (.str (pn p)), I t, .v (.tup [tf2 (plo p t), tf2 (phi p t)]), .v (.tup [lf (llo p t), lf (lhi p t)]), r7, r8, r9, r10, r11, r12, r13, r14, r15, r16, r17, r18, r19, r20, r21, r22, r23] = .ok .nx [.v (scr ns), .o [I c2_, I c2'], r2, .v (.str (pn p)), I t, .v (.tup [tf2 (plo p t), tf2 (phi p t)]), .v (.tup [lf (llo p t), lf (lhi p t)]), r7, r8, r9, r10, r11, r12, r13, r14, r15, r16, r17, r18, r19, r20, r21, r22, r23] := by
    generalize pn p = PN at *
    generalize tf2 (plo p t) = A1 at *
    generalize tf2 (phi p t) = A2 at *
    generalize lf (llo p t) = B1 at *
    generalize lf (lhi p t) = B2 at *
    simp [isiS, isiO, tyNm, kt1, one, atI0, atI1, b4, b5]
  have st5 : (setS 7 (callS [false, false] n__law_plane [(.nm 3), (.ex (opS addO [(.nm 4), (.ex (vC (.int 4)))]))])) [.v (scr ns), .o [I c2_, I c2'], r2, .v (.str (pn p)), I t, .v (.tup [tf2 (plo p t), tf2 (phi p t)]), .v (.tup [lf (llo p t), lf (lhi p t)]), r7, r8, r9, r10, r11, r12, r13, r14, r15, r16, r17, r18, r19, r20, r21, r22, r23] = .ok .nx [.v (scr ns), .o [I c2_, I c2'], r2, .v (.str (pn p)), I t, .v (.tup [tf2 (plo p t), tf2 (phi p t)]), .v (.tup [lf (llo p t), lf (lhi p t)]), .v (.tup [lf (llo p (t + 4)), lf (lhi p (t + 4))]), r8, r9, r10, r11, r12, r13, r14, r15, r16, r17, r18, r19, r20, r21, r22, r23] := by
    generalize pn p = PN at *
    generalize tf2 (plo p t) = A1 at *
    generalize tf2 (phi p t) = A2 at *
    generalize lf (llo p t) = B1 at *
    generalize lf (lhi p t) = B2 at *
    generalize lf (llo p (t + 4)) = B3 at *
    generalize lf (lhi p (t + 4)) = B4 at *
    simp [b3]
  have st6 : (setS 8 (callS [false, false] n__law_plus [(.ex (callS [false, false] n__law_by [(.ex (callS [false] n__law_bar [(.ex (opS ixS [(.nm 6), (.ex (vC (.int 0)))]))])), (.ex (opS ixS [(.nm 7), (.ex (vC (.int 0)))]))])), (.ex (callS [false, false] n__law_by [(.ex (callS [false] n__law_bar [(.ex (opS ixS [(.nm 6), (.ex (vC (.int 1)))]))])), (.ex (opS ixS [(.nm 7), (.ex (vC (.int 1)))]))]))])) [.v (scr ns), .o [I c2_, I c2'], r2, .v (.str (pn p)), I t, .v (.tup [tf2 (plo p t), tf2 (phi p t)]), .v (.tup [lf (llo p t), lf (lhi p t)]), .v (.tup [lf (llo p (t + 4)), lf (lhi p (t + 4))]), r8, r9, r10, r11, r12, r13, r14, r15, r16, r17, r18, r19, r20, r21, r22, r23] = .ok .nx [.v (scr ns), .o [I c2_, I c2'], r2, .v (.str (pn p)), I t, .v (.tup [tf2 (plo p t), tf2 (phi p t)]), .v (.tup [lf (llo p t), lf (lhi p t)]), .v (.tup [lf (llo p (t + 4)), lf (lhi p (t + 4))]), .v (lf (crossF p t)), r9, r10, r11, r12, r13, r14, r15, r16, r17, r18, r19, r20, r21, r22, r23] := by
    generalize pn p = PN at *
    generalize tf2 (plo p t) = A1 at *
    generalize tf2 (phi p t) = A2 at *
    generalize lf (lBy (lBar (llo p t)) (llo p (t + 4))) = B7 at *
    generalize lf (lBy (lBar (lhi p t)) (lhi p (t + 4))) = B8 at *
    generalize lf (lBar (llo p t)) = B5 at *
    generalize lf (lBar (lhi p t)) = B6 at *
    generalize lf (llo p t) = B1 at *
    generalize lf (lhi p t) = B2 at *
    generalize lf (llo p (t + 4)) = B3 at *
    generalize lf (lhi p (t + 4)) = B4 at *
    generalize lf (crossF p t) = B9 at *
    simp [atI0, atI1, b6, b7, b8, b9, b10]
  have st7 : (ifS (orT (notT (truA (.ex (callS [false, false] n__law_like [(.ex (callS [false] n__law_sum [(.nm 6)])), (.ex (vTup [(.ex (vLst [(.ex (vC (.int 1))), (.ex (vC (.int 0))), (.ex (vC (.int 0))), (.ex (vC (.int 0)))])), (.ex (vC (.int 0)))]))])))) (notT (truA (.ex (callS [false, false] n__law_like [(.nm 8), (.ex (vTup [(.ex (vLst [(.ex (vC (.int 0))), (.ex (vC (.int 0))), (.ex (vC (.int 0))), (.ex (vC (.int 0)))])), (.ex (vC (.int 0)))]))]))))) (seqS (retS (vC (.bl false))) skipS) skipS) [.v (scr ns), .o [I c2_, I c2'], r2, .v (.str (pn p)), I t, .v (.tup [tf2 (plo p t), tf2 (phi p t)]), .v (.tup [lf (llo p t), lf (lhi p t)]), .v (.tup [lf (llo p (t + 4)), lf (lhi p (t + 4))]), .v (lf (crossF p t)), r9, r10, r11, r12, r13, r14, r15, r16, r17, r18, r19, r20, r21, r22, r23] = .ok .nx [.v (scr ns), .o [I c2_, I c2'], r2, .v (.str (pn p)), I t, .v (.tup [tf2 (plo p t), tf2 (phi p t)]), .v (.tup [lf (llo p t), lf (lhi p t)]), .v (.tup [lf (llo p (t + 4)), lf (lhi p (t + 4))]), .v (lf (crossF p t)), r9, r10, r11, r12, r13, r14, r15, r16, r17, r18, r19, r20, r21, r22, r23] := by
    generalize pn p = PN at *
    generalize tf2 (plo p t) = A1 at *
    generalize tf2 (phi p t) = A2 at *
    generalize lf (lSum [llo p t, lhi p t] z0) = B5 at *
    generalize lf (llo p t) = B1 at *
    generalize lf (lhi p t) = B2 at *
    generalize lf (llo p (t + 4)) = B3 at *
    generalize lf (lhi p (t + 4)) = B4 at *
    generalize lf (crossF p t) = B9 at *
    simp [b11, b12, b13]
  obtain ⟨y5, hy5⟩ : ∃ y, y = Sl.v (.tup [tf2 (plo p t), tf2 (phi p t)]) := ⟨_, rfl⟩
  obtain ⟨y6, hy6⟩ : ∃ y, y = Sl.v (.tup [lf (llo p t), lf (lhi p t)]) := ⟨_, rfl⟩
  obtain ⟨y7, hy7⟩ : ∃ y, y = Sl.v (.tup [lf (llo p (t + 4)), lf (lhi p (t + 4))]) := ⟨_, rfl⟩
  obtain ⟨y8, hy8⟩ : ∃ y, y = Sl.v (lf (crossF p t)) := ⟨_, rfl⟩
  have st8 : (setS 9 (callS [true, false, false] n__law_qubits [(.nm 1), (.nm 0), (.ex (vC (.int 3)))])) [.v (scr ns), .o [I c2_, I c2'], r2, .v (.str (pn p)), I t, y5, y6, y7, y8, r9, r10, r11, r12, r13, r14, r15, r16, r17, r18, r19, r20, r21, r22, r23] = .ok .nx [.v (scr ns), .o [I c3_, I c3'], r2, .v (.str (pn p)), I t, y5, y6, y7, y8, .v (.tg .f (qs.map .int)), r10, r11, r12, r13, r14, r15, r16, r17, r18, r19, r20, r21, r22, r23] := by
    generalize pn p = PN at *
    simp [a4]
  have st9 : (setS 10 (callS [true, false, false] n__law_state [(.nm 1), (.nm 0), (.nm 9)])) [.v (scr ns), .o [I c3_, I c3'], r2, .v (.str (pn p)), I t, y5, y6, y7, y8, .v (.tg .f (qs.map .int)), r10, r11, r12, r13, r14, r15, r16, r17, r18, r19, r20, r21, r22, r23] = .ok .nx [.v (scr ns), .o [I c4_, I c4'], r2, .v (.str (pn p)), I t, y5, y6, y7, y8, .v (.tg .f (qs.map .int)), .o (ul us), r11, r12, r13, r14, r15, r16, r17, r18, r19, r20, r21, r22, r23] := by
    generalize pn p = PN at *
    generalize ul us = U at *
    simp [a5]
  have sz : ((us.map lf)).length ≤ sizeLine := by rw [sizeLine_eq, List.length_map]; omega
  obtain ⟨rs, e9, a9, i1, i2, i3⟩ := lcG_inv (tg := tgN 12) (f := e5_law) (own := [12]) (fun _ e => e = [.v (scr ns), .o [I c4_, I c4'], r2, .v (.str (pn p)), I t, y5, y6, y7, y8, .v (.tg .f (qs.map .int)), .v (.lst (us.map lf)), r11, .u, r13, r14, r15, r16, r17, r18, r19, r20, r21, r22, r23]) (fun i r => r = .v (tf2 (nf (2 * (us.getD i z0).2) (us.getD i z0).1))) (us.map lf) 0 [] [.v (scr ns), .o [I c4_, I c4'], r2, .v (.str (pn p)), I t, y5, y6, y7, y8, .v (.tg .f (qs.map .int)), .v (.lst (us.map lf)), r11, .u, r13, r14, r15, r16, r17, r18, r19, r20, r21, r22, r23] rfl (fun i x e hx he => by
    subst he
    rw [Nat.zero_add]
    rw [List.getElem?_map] at hx
    obtain ⟨u, hu, rfl⟩ := Option.map_eq_some_iff.mp hx
    have hi := (List.getElem?_eq_some_iff.mp hu).1
    have e := getD_get hi
    rw [hu] at e
    cases e
    have t1 := told_eq (us.getD i z0) (by have := (hb _ (List.mem_of_getElem? hu)).2; omega)
    refine ⟨_, _, [.v (scr ns), .o [I c4_, I c4'], r2, .v (.str (pn p)), I t, y5, y6, y7, y8, .v (.tg .f (qs.map .int)), .v (.lst (us.map lf)), r11, .v (lf (us.getD i z0)), r13, r14, r15, r16, r17, r18, r19, r20, r21, r22, r23], rfl, ?_, rfl, rfl⟩
    generalize nf (2 * (us.getD i z0).2) (us.getD i z0).1 = NF at *
    generalize lf (us.getD i z0) = LU at *
    generalize pn p = PN at *
    simp [e5_law, t1])
  subst i3
  rw [List.nil_append] at a9
  have hrs : rs = sl as := by
    subst has
    refine List.ext_getElem? fun i => ?_
    by_cases hi : i < us.length
    · have hl2 : i < rs.length := by rw [i1, List.length_map]; exact hi
      have := i2 i _ (List.getElem?_eq_getElem hl2)
      rw [Nat.zero_add] at this
      rw [List.getElem?_eq_getElem hl2, this, List.getElem?_map, List.getElem?_map, getD_get hi]
      rfl
    · rw [List.getElem?_eq_none (by rw [i1, List.length_map]; omega), List.getElem?_eq_none (by simp; omega)]
  subst hrs
  have a10 := tup_sl as
  have ud := ul_d us
  have st10 : (setS 11 (vTup [(.nm 9), (.ex (opS tupleO [(.ex (lcS (seqI (vVar 10)) (tgN 12) yesT e5_law [12]))]))])) [.v (scr ns), .o [I c4_, I c4'], r2, .v (.str (pn p)), I t, y5, y6, y7, y8, .v (.tg .f (qs.map .int)), .o (ul us), r11, r12, r13, r14, r15, r16, r17, r18, r19, r20, r21, r22, r23] = .ok .nx [.v (scr ns), .o [I c4_, I c4'], r2, .v (.str (pn p)), I t, y5, y6, y7, y8, .v (.tg .f (qs.map .int)), .v (.lst (us.map lf)), .v (st .f qs as), r12, r13, r14, r15, r16, r17, r18, r19, r20, r21, r22, r23] := by
    generalize pn p = PN at *
    generalize ul us = U at *
    generalize us.map lf = U2 at *
    generalize sl as = SA at *
    simp [ud, sz, a9, a10]
  have st11 : (setS 13 (callS [false, false] n__law_field [(.nm 9), (.nm 10)])) [.v (scr ns), .o [I c4_, I c4'], r2, .v (.str (pn p)), I t, y5, y6, y7, y8, .v (.tg .f (qs.map .int)), .v (.lst (us.map lf)), .v (st .f qs as), r12, r13, r14, r15, r16, r17, r18, r19, r20, r21, r22, r23] = .ok .nx [.v (scr ns), .o [I c4_, I c4'], r2, .v (.str (pn p)), I t, y5, y6, y7, y8, .v (.tg .f (qs.map .int)), .v (.lst (us.map lf)), .v (st .f qs as), r12, .v (fld qs n us), r14, r15, r16, r17, r18, r19, r20, r21, r22, r23] := by
    generalize pn p = PN at *
    generalize fld qs n us = FL at *
    generalize us.map lf = U2 at *
    generalize st .f qs as = ST at *
    simp [a6]
  have st12 : (setS 14 (opS ixS [(.nm 9), (.ex (callS [true, false, false] n__law_draw [(.nm 1), (.nm 0), (.ex (opS lenO [(.nm 9)]))]))])) [.v (scr ns), .o [I c4_, I c4'], r2, .v (.str (pn p)), I t, y5, y6, y7, y8, .v (.tg .f (qs.map .int)), .v (.lst (us.map lf)), .v (st .f qs as), r12, .v (fld qs n us), r14, r15, r16, r17, r18, r19, r20, r21, r22, r23] = .ok .nx [.v (scr ns), .o [I c5_, I c5'], r2, .v (.str (pn p)), I t, y5, y6, y7, y8, .v (.tg .f (qs.map .int)), .v (.lst (us.map lf)), .v (st .f qs as), r12, .v (fld qs n us), I q, r15, r16, r17, r18, r19, r20, r21, r22, r23] := by
    have e5 : ((qs.length : Nat) : Int) = ((n : Nat) : Int) := by rw [hn]
    generalize pn p = PN at *
    generalize fld qs n us = FL at *
    generalize us.map lf = U2 at *
    generalize st .f qs as = ST at *
    generalize ((n : Nat) : Int) = N1 at *
    simp [e5, a7, a8]
  have st13 : (par2 15 16 [(.ex (callS [false, false, false, false] n_project [(.nm 11), (.nm 14), (.nm 3), (.nm 4)])), (.ex (callS [false, false, false, false] n_project [(.nm 11), (.nm 14), (.nm 3), (.ex (opS addO [(.nm 4), (.ex (vC (.int 4)))]))]))]) [.v (scr ns), .o [I c5_, I c5'], r2, .v (.str (pn p)), I t, y5, y6, y7, y8, .v (.tg .f (qs.map .int)), .v (.lst (us.map lf)), .v (st .f qs as), r12, .v (fld qs n us), I q, r15, r16, r17, r18, r19, r20, r21, r22, r23] = .ok .nx [.v (scr ns), .o [I c5_, I c5'], r2, .v (.str (pn p)), I t, y5, y6, y7, y8, .v (.tg .f (qs.map .int)), .v (.lst (us.map lf)), .v (st .f qs as), r12, .v (fld qs n us), I q, .v (st .f q2 X1), .v (st .f q2 X2), r17, r18, r19, r20, r21, r22, r23] := by
    generalize pn p = PN at *
    generalize fld qs n us = FL at *
    generalize us.map lf = U2 at *
    generalize st .f qs as = ST at *
    generalize st .f q2 X1 = ST1 at *
    generalize st .f q2 X2 = ST2 at *
    simp [c1, c2]
  have st14 : (ifS (orT (notT (truA (.ex (callS [false, false] n__law_same_field [(.nm 15), (.ex (callS [false, false, false, false] n__law_found [(.nm 13), (.nm 14), (.nm 3), (.nm 4)]))])))) (notT (truA (.ex (callS [false, false] n__law_same_field [(.nm 16), (.ex (callS [false, false, false, false] n__law_found [(.nm 13), (.nm 14), (.nm 3), (.ex (opS addO [(.nm 4), (.ex (vC (.int 4)))]))]))]))))) (seqS (retS (vC (.bl false))) skipS) skipS) [.v (scr ns), .o [I c5_, I c5'], r2, .v (.str (pn p)), I t, y5, y6, y7, y8, .v (.tg .f (qs.map .int)), .v (.lst (us.map lf)), .v (st .f qs as), r12, .v (fld qs n us), I q, .v (st .f q2 X1), .v (st .f q2 X2), r17, r18, r19, r20, r21, r22, r23] = .ok .nx [.v (scr ns), .o [I c5_, I c5'], r2, .v (.str (pn p)), I t, y5, y6, y7, y8, .v (.tg .f (qs.map .int)), .v (.lst (us.map lf)), .v (st .f qs as), r12, .v (fld qs n us), I q, .v (st .f q2 X1), .v (st .f q2 X2), r17, r18, r19, r20, r21, r22, r23] := by
    generalize pn p = PN at *
    generalize fld qs n us = FL at *
    generalize us.map lf = U2 at *
    generalize st .f qs as = ST at *
    generalize st .f q2 X1 = ST1 at *
    generalize st .f q2 X2 = ST2 at *
    simp [c3, c4, c5, c6]
  have o1 := own_list (f := e3_law) (i := 12) (env := [.v (scr ns), .o [I c5_, I c5'], r2, .v (.str (pn p)), I t, y5, y6, y7, y8, .v (.tg .f (qs.map .int)), .v (.lst (us.map lf)), .v (st .f qs as), .u, .v (fld qs n us), I q, .v (st .f q2 X1), .v (st .f q2 X2), r17, r18, r19, r20, r21, r22, r23]) (as := X1) (acc := []) (fun A hA => by
    have := lOwn_eq (sx1 A hA) (by omega)
    generalize lf (ownN A) = R at *
    generalize tf2 A = T at *
    generalize pn p = PN at *
    generalize fld qs n us = FL at *
    generalize us.map lf = U2 at *
    generalize st .f qs as = ST at *
    generalize st .f q2 X1 = ST1 at *
    generalize st .f q2 X2 = ST2 at *
    simp [e3_law, this]) (fun A => rfl)
  have o2 := own_list (f := e4_law) (i := 12) (env := [.v (scr ns), .o [I c5_, I c5'], r2, .v (.str (pn p)), I t, y5, y6, y7, y8, .v (.tg .f (qs.map .int)), .v (.lst (us.map lf)), .v (st .f qs as), .u, .v (fld qs n us), I q, .v (st .f q2 X1), .v (st .f q2 X2), r17, r18, r19, r20, r21, r22, r23]) (as := X2) (acc := []) (fun A hA => by
    have := lOwn_eq (sx2 A hA) (by omega)
    generalize lf (ownN A) = R at *
    generalize tf2 A = T at *
    generalize pn p = PN at *
    generalize fld qs n us = FL at *
    generalize us.map lf = U2 at *
    generalize st .f qs as = ST at *
    generalize st .f q2 X1 = ST1 at *
    generalize st .f q2 X2 = ST2 at *
    simp [e4_law, this]) (fun A => rfl)
  rw [List.nil_append] at o1 o2
  have st15 : (setS 17 (callS [false, false] n__law_plus [(.ex (callS [false] n__law_sum [(.ex (lcS (seqI (opS ixS [(.nm 15), (.ex (vC (.int 1)))])) (tgN 12) yesT e3_law [12]))])), (.ex (callS [false] n__law_sum [(.ex (lcS (seqI (opS ixS [(.nm 16), (.ex (vC (.int 1)))])) (tgN 12) yesT e4_law [12]))]))])) [.v (scr ns), .o [I c5_, I c5'], r2, .v (.str (pn p)), I t, y5, y6, y7, y8, .v (.tg .f (qs.map .int)), .v (.lst (us.map lf)), .v (st .f qs as), r12, .v (fld qs n us), I q, .v (st .f q2 X1), .v (st .f q2 X2), r17, r18, r19, r20, r21, r22, r23] = .ok .nx [.v (scr ns), .o [I c5_, I c5'], r2, .v (.str (pn p)), I t, y5, y6, y7, y8, .v (.tg .f (qs.map .int)), .v (.lst (us.map lf)), .v (st .f qs as), r12, .v (fld qs n us), I q, .v (st .f q2 X1), .v (st .f q2 X2), .v (lf bothF), r18, r19, r20, r21, r22, r23] := by
    have d1 := ul_d (X1.map ownN)
    have d2 := ul_d (X2.map ownN)
    have z1 : X1.length ≤ sizeLine := by rw [sizeLine_eq]; omega
    have z2 : X2.length ≤ sizeLine := by rw [sizeLine_eq]; omega
    have i1 : ixS [.v (st .f q2 X1), I 1] = some (.v (.tup (X1.map tf2))) := rfl
    have i2 : ixS [.v (st .f q2 X2), I 1] = some (.v (.tup (X2.map tf2))) := rfl
    rw [← List.length_map (f := tf2)] at z1 z2
    generalize lf (lSum (X1.map ownN) z0) = S1 at *
    generalize lf (lSum (X2.map ownN) z0) = S2 at *
    generalize ul (X1.map ownN) = UL1 at *
    generalize ul (X2.map ownN) = UL2 at *
    generalize (X1.map ownN).map lf = V1 at *
    generalize (X2.map ownN).map lf = V2 at *
    generalize pn p = PN at *
    generalize fld qs n us = FL at *
    generalize us.map lf = U2 at *
    generalize st .f qs as = ST at *
    generalize st .f q2 X1 = ST1 at *
    generalize st .f q2 X2 = ST2 at *
    generalize X1.map tf2 = XT1 at *
    generalize X2.map tf2 = XT2 at *
    generalize lf bothF = BF at *
    simp [i1, i2, z1, z2, o1, o2, d1, d2, g1, g2, g4]
  have st16 : (ifS (notT (truA (.ex (callS [false, false] n__law_like [(.nm 17), (.ex (callS [false] n__law_sum [(.nm 10)]))])))) (seqS (retS (vC (.bl false))) skipS) skipS) [.v (scr ns), .o [I c5_, I c5'], r2, .v (.str (pn p)), I t, y5, y6, y7, y8, .v (.tg .f (qs.map .int)), .v (.lst (us.map lf)), .v (st .f qs as), r12, .v (fld qs n us), I q, .v (st .f q2 X1), .v (st .f q2 X2), .v (lf bothF), r18, r19, r20, r21, r22, r23] = .ok .nx [.v (scr ns), .o [I c5_, I c5'], r2, .v (.str (pn p)), I t, y5, y6, y7, y8, .v (.tg .f (qs.map .int)), .v (.lst (us.map lf)), .v (st .f qs as), r12, .v (fld qs n us), I q, .v (st .f q2 X1), .v (st .f q2 X2), .v (lf bothF), r18, r19, r20, r21, r22, r23] := by
    generalize pn p = PN at *
    generalize fld qs n us = FL at *
    generalize lf (lSum us z0) = S1 at *
    generalize us.map lf = U2 at *
    generalize st .f qs as = ST at *
    generalize st .f q2 X1 = ST1 at *
    generalize st .f q2 X2 = ST2 at *
    generalize lf bothF = BF at *
    simp [g3, g5]
  have st17 : (setS 18 (opS dgetO [(.ex (vDisp [(.inr "XY"), (.inr "YZ"), (.inr "XZ")] [(opS subO [(.ex (vC (.int 0))), (.nm 4)]), (opS addO [(.nm 4), (.ex (vC (.int 4)))]), (opS subO [(.ex (vC (.int 4))), (.nm 4)])])), (.nm 3)])) [.v (scr ns), .o [I c5_, I c5'], r2, .v (.str (pn p)), I t, y5, y6, y7, y8, .v (.tg .f (qs.map .int)), .v (.lst (us.map lf)), .v (st .f qs as), r12, .v (fld qs n us), I q, .v (st .f q2 X1), .v (st .f q2 X2), .v (lf bothF), r18, r19, r20, r21, r22, r23] = .ok .nx [.v (scr ns), .o [I c5_, I c5'], r2, .v (.str (pn p)), I t, y5, y6, y7, y8, .v (.tg .f (qs.map .int)), .v (.lst (us.map lf)), .v (st .f qs as), r12, .v (fld qs n us), I q, .v (st .f q2 X1), .v (st .f q2 X2), .v (lf bothF), I (byX p t), r19, r20, r21, r22, r23] := by
    have d3 := dict3 hp (0 - t) (t + 4) (4 - t)
    rw [show (if p = 0 then 0 - t else if p = 1 then 4 - t else t + 4) = byX p t from rfl] at d3
    generalize pn p = PN at *
    generalize fld qs n us = FL at *
    generalize us.map lf = U2 at *
    generalize st .f qs as = ST at *
    generalize st .f q2 X1 = ST1 at *
    generalize st .f q2 X2 = ST2 at *
    generalize lf bothF = BF at *
    generalize byX p t = BX at *
    simp [-Int.zero_sub, d3]
  have st18 : (setS 19 (opS dgetO [(.ex (vDisp [(.inr "XY"), (.inr "YZ"), (.inr "XZ")] [(opS addO [(.nm 4), (.ex (vC (.int 4)))]), (opS subO [(.ex (vC (.int 0))), (.nm 4)]), (opS subO [(.ex (vC (.int 0))), (.nm 4)])])), (.nm 3)])) [.v (scr ns), .o [I c5_, I c5'], r2, .v (.str (pn p)), I t, y5, y6, y7, y8, .v (.tg .f (qs.map .int)), .v (.lst (us.map lf)), .v (st .f qs as), r12, .v (fld qs n us), I q, .v (st .f q2 X1), .v (st .f q2 X2), .v (lf bothF), I (byX p t), r19, r20, r21, r22, r23] = .ok .nx [.v (scr ns), .o [I c5_, I c5'], r2, .v (.str (pn p)), I t, y5, y6, y7, y8, .v (.tg .f (qs.map .int)), .v (.lst (us.map lf)), .v (st .f qs as), r12, .v (fld qs n us), I q, .v (st .f q2 X1), .v (st .f q2 X2), .v (lf bothF), I (byX p t), I (byZ p t), r20, r21, r22, r23] := by
    have d3 := dict3 hp (t + 4) (0 - t) (0 - t)
    rw [show (if p = 0 then t + 4 else if p = 1 then 0 - t else 0 - t) = byZ p t from by unfold byZ; split <;> simp] at d3
    generalize pn p = PN at *
    generalize fld qs n us = FL at *
    generalize us.map lf = U2 at *
    generalize st .f qs as = ST at *
    generalize st .f q2 X1 = ST1 at *
    generalize st .f q2 X2 = ST2 at *
    generalize lf bothF = BF at *
    generalize byX p t = BX at *
    generalize byZ p t = BZ at *
    simp [-Int.zero_sub, d3]
  have st19 : (forE (seqI (vTup [(.ex (vTup [(.ex (callS [false, false] n_pauli_x [(.nm 11), (.nm 14)])), (.nm 18)])), (.ex (vTup [(.ex (callS [false, false] n_pauli_z [(.nm 11), (.nm 14)])), (.nm 19)]))])) (tgSeq (tgCons (tgN 20) (tgCons (tgN 21) tgNil))) l2_law) [.v (scr ns), .o [I c5_, I c5'], r2, .v (.str (pn p)), I t, y5, y6, y7, y8, .v (.tg .f (qs.map .int)), .v (.lst (us.map lf)), .v (st .f qs as), r12, .v (fld qs n us), I q, .v (st .f q2 X1), .v (st .f q2 X2), .v (lf bothF), I (byX p t), I (byZ p t), r20, r21, r22, r23] = .ok .nx [.v (scr ns), .o [I c5_, I c5'], r2, .v (.str (pn p)), I t, y5, y6, y7, y8, .v (.tg .f (qs.map .int)), .v (.lst (us.map lf)), .v (st .f qs as), t12, .v (fld qs n us), I q, .v (st .f q2 X1), .v (st .f q2 X2), .v (lf bothF), I (byX p t), I (byZ p t), .v (st .f qs ZA), I (byZ p t), t22, r23] := by
    rw [← hy5, ← hy6, ← hy7, ← hy8] at w1 w2
    generalize pn p = PN at *
    generalize fld qs n us = FL at *
    generalize us.map lf = U2 at *
    generalize st .f qs as = ST at *
    generalize st .f qs XA = STX at *
    generalize st .f qs ZA = STZ at *
    generalize st .f q2 X1 = ST1 at *
    generalize st .f q2 X2 = ST2 at *
    generalize lf bothF = BF at *
    generalize byX p t = BX at *
    generalize byZ p t = BZ at *
    simp [k1, k2, w1, w2]
  refine ⟨.o [I c5_, I c5'], .v (.str (pn p)), I t, y5, y6, y7, y8, .v (.tg .f (qs.map .int)), .v (.lst (us.map lf)), .v (st .f qs as), t12, .v (fld qs n us), I q, .v (st .f q2 X1), .v (st .f q2 X2), .v (lf bothF), I (byX p t), I (byZ p t), .v (st .f qs ZA), I (byZ p t), t22, r23, ?_, ?_⟩
  rotate_left
  · rw [l6_parts, seqS_at, st0, goOn_nx, seqS_at, st1, goOn_nx, seqS_at, st2, goOn_nx, seqS_at, st3, goOn_nx, seqS_at, st4, goOn_nx, seqS_at, st5, goOn_nx, seqS_at, st6, goOn_nx, seqS_at, st7, goOn_nx, ← hy5, ← hy6, ← hy7, ← hy8, seqS_at, st8, goOn_nx, seqS_at, st9, goOn_nx, seqS_at, st10, goOn_nx, seqS_at, st11, goOn_nx, seqS_at, st12, goOn_nx, seqS_at, st13, goOn_nx, seqS_at, st14, goOn_nx, seqS_at, st15, goOn_nx, seqS_at, st16, goOn_nx, seqS_at, st17, goOn_nx, seqS_at, st18, goOn_nx, seqS_at, st19, goOn_nx]
    rfl
  · obtain ⟨k, c, e, g1, g2, g3⟩ := h5
    exact ⟨k, c, e, g1, by omega, g3⟩
end W


set_option maxHeartbeats 4000000
namespace W
open PySem PySem.Spec PyProof.Rows L2 DL N4 Bt
theorem law_from {B : Nat} {ns : List Int} (S : ScOk B ns) (x0 : Sl) (hx : ∀ r3 r4 r5 r6 r7 r8 r9 r10 r11 r12 r13 r14 r15 r16 r17 r18 r19 r20 r21 r22 r23, l6_law [x0, .o [I 0, I 0], I 0, r3, r4, r5, r6, r7, r8, r9, r10, r11, r12, r13, r14, r15, r16, r17, r18, r19, r20, r21, r22, r23] = l6_law [.v (scr ns), .o [I 0, I 0], I 0, r3, r4, r5, r6, r7, r8, r9, r10, r11, r12, r13, r14, r15, r16, r17, r18, r19, r20, r21, r22, r23]) :
    ∃ e, forS (tgN 2) l6_law [.int 0, .int 1, .int 2] [x0, .o [I 0, I 0], .u, .u, .u, .u, .u, .u, .u, .u, .u, .u, .u, .u, .u, .u, .u, .u, .u, .u, .u, .u, .u, .u] = .ok .nx e := by
  have h0 : StOk B 0 (.o [I 0, I 0]) := ⟨0, 0, rfl, by omega, by omega, by omega, Nat.two_pow_pos _⟩
  obtain ⟨s1, a3, a4, a5, a6, a7, a8, a9, a10, a11, a12, a13, a14, a15, a16, a17, a18, a19, a20, a21, a22, a23, h1, e1⟩ := l6_turn S h0 (by omega) (I 0) .u .u .u .u .u .u .u .u .u .u .u .u .u .u .u .u .u .u .u .u .u
  obtain ⟨s2, b3, b4, b5, b6, b7, b8, b9, b10, b11, b12, b13, b14, b15, b16, b17, b18, b19, b20, b21, b22, b23, h2, e2⟩ := l6_turn S h1 (by omega) (I 1) a3 a4 a5 a6 a7 a8 a9 a10 a11 a12 a13 a14 a15 a16 a17 a18 a19 a20 a21 a22 a23
  obtain ⟨s3, c3, c4, c5, c6, c7, c8, c9, c10, c11, c12, c13, c14, c15, c16, c17, c18, c19, c20, c21, c22, c23, h3, e3⟩ := l6_turn S h2 (by omega) (I 2) b3 b4 b5 b6 b7 b8 b9 b10 b11 b12 b13 b14 b15 b16 b17 b18 b19 b20 b21 b22 b23
  refine ⟨[.v (scr ns), s3, I 2, c3, c4, c5, c6, c7, c8, c9, c10, c11, c12, c13, c14, c15, c16, c17, c18, c19, c20, c21, c22, c23], ?_⟩
  simp only [forS_cons, forS_nil, tgN_at, Rs.of_some, Rs.bind_ok, List.set_cons_succ, List.set_cons_zero, hx, e1, e2, e3, turn_nx, goOn_nx]
theorem law_true (ns : List Int) (s : Sl) (h1 : ns.length ≤ 63) (h2 : ∀ z ∈ ns, Builtin.Int.intBits z ≤ 1048576) (h3 : IsScript ns s) : n_law [s] = .ret (.v (.bl true)) [] := by
  obtain ⟨B, hB⟩ : ∃ B : Nat, B = 1048576 := ⟨_, rfl⟩
  have S : ScOk B ns := ⟨by omega, by omega, h1, fun z hz => PySem.intBits_le_iff.mp (by rw [hB]; exact h2 z hz)⟩
  have hv : toDs (ns.map fun i => Sl.v (.int i)) = some (ns.map .int) := by
    have := toDs_v (ns.map D.int)
    rw [List.map_map] at this
    exact this
  have run : ∀ x0 : Sl, (∃ e, forS (tgN 2) l6_law [.int 0, .int 1, .int 2] [x0, .o [I 0, I 0], .u, .u, .u, .u, .u, .u, .u, .u, .u, .u, .u, .u, .u, .u, .u, .u, .u, .u, .u, .u, .u, .u] = .ok .nx e) → n_law [x0] = .ret (.v (.bl true)) [] := fun x0 ⟨e, h⟩ => by
    have r8 : rangeD 0 3 = [.int 0, .int 1, .int 2] := rfl
    rw [← r8] at h
    simp [n_law, den_at, b_law, List.replicate, h, -forS_cons]
  rcases h3 with h3 | h3
  · subst h3
    exact run _ (law_from S _ fun _ _ _ _ _ _ _ _ _ _ _ _ _ _ _ _ _ _ _ _ _ => rfl)
  · subst h3
    refine run _ (law_from S _ fun r3 r4 r5 r6 r7 r8 r9 r10 r11 r12 r13 r14 r15 r16 r17 r18 r19 r20 r21 r22 r23 => ?_)
    have hc : (setS 3 (opS ixS [(.ex (vLst [(.ex (vC (.str "XY"))), (.ex (vC (.str "XZ"))), (.ex (vC (.str "YZ")))])), (.ex (callS [true, false, false] n__law_draw [(.nm 1), (.nm 0), (.ex (vC (.int 3)))]))])) [.o (ns.map fun i => .v (.int i)), .o [I 0, I 0], I 0, r3, r4, r5, r6, r7, r8, r9, r10, r11, r12, r13, r14, r15, r16, r17, r18, r19, r20, r21, r22, r23] = (setS 3 (opS ixS [(.ex (vLst [(.ex (vC (.str "XY"))), (.ex (vC (.str "XZ"))), (.ex (vC (.str "YZ")))])), (.ex (callS [true, false, false] n__law_draw [(.nm 1), (.nm 0), (.ex (vC (.int 3)))]))])) [.v (scr ns), .o [I 0, I 0], I 0, r3, r4, r5, r6, r7, r8, r9, r10, r11, r12, r13, r14, r15, r16, r17, r18, r19, r20, r21, r22, r23] := by
      simp only [setS_at, opS_at, callS_at, evA_nm, evA_ex, vC_at, evA_nil, vLst_at, movA_ex, movA_nil, gt_o, gt_v, gt_S, Rs.of_some, Rs.bind_ok, prepA_tnm, prepA_fnm, prepA_fex, prepA_nil, List.set_cons_succ, List.set_cons_zero, Option.bind_some, toD_o, toD_v, hv, Option.map_some]
    rw [l6_parts, seqS_at, seqS_at, hc]
end W


set_option maxHeartbeats 0
namespace W
open PySem PySem.Spec PyProof.Rows L2 DL
def d_by_root : He.DefD := ⟨("by_root", none), "by_root", "by_root", defArgs (top 3), defBody (top 3), defScope (top 3), [], []⟩
def d_exact : He.DefD := ⟨("exact", none), "exact", "exact", defArgs (top 4), defBody (top 4), defScope (top 4), [], []⟩
def d_unit : He.DefD := ⟨("unit", none), "unit", "unit", defArgs (top 5), defBody (top 5), defScope (top 5), [], []⟩
def d_add : He.DefD := ⟨("add", none), "add", "add", defArgs (top 6), defBody (top 6), defScope (top 6), [], []⟩
def d_times : He.DefD := ⟨("times", none), "times", "times", defArgs (top 7), defBody (top 7), defScope (top 7), [], []⟩
def d_negate : He.DefD := ⟨("negate", none), "negate", "negate", defArgs (top 8), defBody (top 8), defScope (top 8), [], []⟩
def d_conjugate : He.DefD := ⟨("conjugate", none), "conjugate", "conjugate", defArgs (top 9), defBody (top 9), defScope (top 9), [], []⟩
def d_scaled : He.DefD := ⟨("scaled", none), "scaled", "scaled", defArgs (top 10), defBody (top 10), defScope (top 10), [], []⟩
def d_shift_of : He.DefD := ⟨("shift_of", none), "shift_of", "shift_of", defArgs (top 13), defBody (top 13), defScope (top 13), [], []⟩
def d_pauli_x : He.DefD := ⟨("pauli_x", none), "pauli_x", "pauli_x", defArgs (top 14), defBody (top 14), defScope (top 14), [], []⟩
def d_turn : He.DefD := ⟨("turn", none), "turn", "turn", defArgs (top 15), defBody (top 15), defScope (top 15), [], []⟩
def d_pauli_z : He.DefD := ⟨("pauli_z", none), "pauli_z", "pauli_z", defArgs (top 16), defBody (top 16), defScope (top 16), [], []⟩
def d_plane_state : He.DefD := ⟨("plane_state", none), "plane_state", "plane_state", defArgs (top 17), defBody (top 17), defScope (top 17), [], []⟩
def d_project : He.DefD := ⟨("project", none), "project", "project", defArgs (top 18), defBody (top 18), defScope (top 18), [], []⟩
def d__law_refill : He.DefD := ⟨("_law_refill", none), "_law_refill", "_law_refill", defArgs (top 20), defBody (top 20), defScope (top 20), [], []⟩
def d__law_draw : He.DefD := ⟨("_law_draw", none), "_law_draw", "_law_draw", defArgs (top 21), defBody (top 21), defScope (top 21), [], []⟩
def d__law_exact : He.DefD := ⟨("_law_exact", none), "_law_exact", "_law_exact", defArgs (top 22), defBody (top 22), defScope (top 22), [], []⟩
def d__law_own : He.DefD := ⟨("_law_own", none), "_law_own", "_law_own", defArgs (top 23), defBody (top 23), defScope (top 23), [], []⟩
def d__law_plus : He.DefD := ⟨("_law_plus", none), "_law_plus", "_law_plus", defArgs (top 24), defBody (top 24), defScope (top 24), [], []⟩
def d__law_by : He.DefD := ⟨("_law_by", none), "_law_by", "_law_by", defArgs (top 25), defBody (top 25), defScope (top 25), [], []⟩
def d__law_like : He.DefD := ⟨("_law_like", none), "_law_like", "_law_like", defArgs (top 26), defBody (top 26), defScope (top 26), [], []⟩
def d__law_w : He.DefD := ⟨("_law_w", none), "_law_w", "_law_w", defArgs (top 27), defBody (top 27), defScope (top 27), [], []⟩
def d__law_minus : He.DefD := ⟨("_law_minus", none), "_law_minus", "_law_minus", defArgs (top 28), defBody (top 28), defScope (top 28), [], []⟩
def d__law_bar : He.DefD := ⟨("_law_bar", none), "_law_bar", "_law_bar", defArgs (top 29), defBody (top 29), defScope (top 29), [], []⟩
def d__law_form : He.DefD := ⟨("_law_form", none), "_law_form", "_law_form", defArgs (top 30), defBody (top 30), defScope (top 30), [], []⟩
def d__law_is : He.DefD := ⟨("_law_is", none), "_law_is", "_law_is", defArgs (top 31), defBody (top 31), defScope (top 31), [], []⟩
def d__law_number : He.DefD := ⟨("_law_number", none), "_law_number", "_law_number", defArgs (top 32), defBody (top 32), defScope (top 32), [], []⟩
def d__law_told : He.DefD := ⟨("_law_told", none), "_law_told", "_law_told", defArgs (top 33), defBody (top 33), defScope (top 33), [], []⟩
def d__law_root : He.DefD := ⟨("_law_root", none), "_law_root", "_law_root", defArgs (top 34), defBody (top 34), defScope (top 34), [], []⟩
def d__law_figures : He.DefD := ⟨("_law_figures", none), "_law_figures", "_law_figures", defArgs (top 35), defBody (top 35), defScope (top 35), [], []⟩
def d__law_field : He.DefD := ⟨("_law_field", none), "_law_field", "_law_field", defArgs (top 36), defBody (top 36), defScope (top 36), [], []⟩
def d__law_plane : He.DefD := ⟨("_law_plane", none), "_law_plane", "_law_plane", defArgs (top 37), defBody (top 37), defScope (top 37), [], []⟩
def d__law_found : He.DefD := ⟨("_law_found", none), "_law_found", "_law_found", defArgs (top 38), defBody (top 38), defScope (top 38), [], []⟩
def d__law_row : He.DefD := ⟨("_law_row", none), "_law_row", "_law_row", defArgs (top 39), defBody (top 39), defScope (top 39), [], []⟩
def d__law_same_field : He.DefD := ⟨("_law_same_field", none), "_law_same_field", "_law_same_field", defArgs (top 40), defBody (top 40), defScope (top 40), [], []⟩
def d__law_unit_alike : He.DefD := ⟨("_law_unit_alike", none), "_law_unit_alike", "_law_unit_alike", defArgs (top 41), defBody (top 41), defScope (top 41), [], []⟩
def d__law_state : He.DefD := ⟨("_law_state", none), "_law_state", "_law_state", defArgs (top 42), defBody (top 42), defScope (top 42), [], []⟩
def d__law_qubits : He.DefD := ⟨("_law_qubits", none), "_law_qubits", "_law_qubits", defArgs (top 43), defBody (top 43), defScope (top 43), [], []⟩
def d__law_sum : He.DefD := ⟨("_law_sum", none), "_law_sum", "_law_sum", defArgs (top 44), defBody (top 44), defScope (top 44), [], []⟩
def d_law : He.DefD := ⟨("law", none), "law", "law", defArgs (top 45), defBody (top 45), defScope (top 45), [], []⟩
def fn : List He.DefD := [d_by_root, d_exact, d_unit, d_add, d_times, d_negate, d_conjugate, d_scaled, d_shift_of, d_pauli_x, d_turn, d_pauli_z, d_plane_state, d_project, d__law_refill, d__law_draw, d__law_exact, d__law_own, d__law_plus, d__law_by, d__law_like, d__law_w, d__law_minus, d__law_bar, d__law_form, d__law_is, d__law_number, d__law_told, d__law_root, d__law_figures, d__law_field, d__law_plane, d__law_found, d__law_row, d__law_same_field, d__law_unit_alike, d__law_state, d__law_qubits, d__law_sum, d_law]
def fa : List He.Fa := [.glo "by_root", .glo "exact", .glo "unit", .glo "add", .glo "times", .glo "negate", .glo "conjugate", .glo "scaled", .glo "shift_of", .glo "pauli_x", .glo "turn", .glo "pauli_z", .glo "plane_state", .glo "project", .glo "_law_refill", .glo "_law_draw", .glo "_law_exact", .glo "_law_own", .glo "_law_plus", .glo "_law_by", .glo "_law_like", .glo "_law_w", .glo "_law_minus", .glo "_law_bar", .glo "_law_form", .glo "_law_is", .glo "_law_number", .glo "_law_told", .glo "_law_root", .glo "_law_figures", .glo "_law_field", .glo "_law_plane", .glo "_law_found", .glo "_law_row", .glo "_law_same_field", .glo "_law_unit_alike", .glo "_law_state", .glo "_law_qubits", .glo "_law_sum", .glo "law", .glo "ZERO", .glo "ONE", .int "IMAGINARY" 2, .free "abs", .free "all", .free "bool", .free "enumerate", .free "int", .free "isinstance", .free "len", .free "list", .free "max", .free "range", .free "set", .free "sorted", .free "str", .free "tuple", .free "zip"]
def tf : List He.Defn := [("exact", none)]
def ex (K : PySem.W.Frag) : Bool := He.tupB K "ZERO" [.int 0, .int 0, .int 0, .int 0, .int 0] && (He.tupB K "ONE" [.int 1, .int 0, .int 0, .int 0, .int 0] && (true))
abbrev R : PySem.W.OpenRow := PySem.W.OpenLaw.row PySem.Challenge.rw_everybranch_k73_planes_and_paulis
abbrev hk : PySem.W.Hook := He.hookX 4 fa fn [] tf ex
def ob (s : PySem.W.SharedT) : He.AlX := He.obsX 4 fa fn [] tf ex (HandSHeadRun.getT s)
theorem ob_eq (s : PySem.W.SharedT) : ob s = hk.obs s.abs := He.obsX_eq (HandSHeadRun.getT_eq s)
def loose : List Str := (["by_root", "exact", "unit", "add", "times", "negate", "conjugate", "scaled", "shift_of", "pauli_x", "turn", "pauli_z", "plane_state", "project", "_law_refill", "_law_draw", "_law_exact", "_law_own", "_law_plus", "_law_by", "_law_like", "_law_w", "_law_minus", "_law_bar", "_law_form", "_law_is", "_law_number", "_law_told", "_law_root", "_law_figures"] : List Str) ++ (["_law_field", "_law_plane", "_law_found", "_law_row", "_law_same_field", "_law_unit_alike", "_law_state", "_law_qubits", "_law_sum", "ZERO", "ONE", "IMAGINARY"] : List Str)
theorem run (w : World) : HandSHeadRun.RunEq R (PySem.W.view R.prog [45]) hk ob 3000 loose w := by
  intro os
  kernel_rfl
theorem facts {w : World} {K : PySem.W.Frag} {h : Heap} {mg : Str → Option Value} (KX : K.In h) (G : h.Ns mainGlobals mg) (c : He.SaysX fa fn [] tf ex w h K) (base : Heap) (tb : ∀ p ∈ tf, LamX.TabB base mg (He.cT K p).1 (He.cT K p).2) : Facts K mg base := by
  have hex : ex K = true := c.more
  simp only [ex, Bool.and_eq_true] at hex
  obtain ⟨x_ZERO, x_ONE, _⟩ := hex
  exact ⟨⟨c.t.d.def_ 0 (d := d_by_root) rfl, He.glo_ok KX G (c.t.d.fact 0 (f := .glo "by_root") rfl)⟩,
    ⟨c.t.d.def_ 1 (d := d_exact) rfl, He.glo_ok KX G (c.t.d.fact 1 (f := .glo "exact") rfl)⟩,
    ⟨c.t.d.def_ 2 (d := d_unit) rfl, He.glo_ok KX G (c.t.d.fact 2 (f := .glo "unit") rfl)⟩,
    ⟨c.t.d.def_ 3 (d := d_add) rfl, He.glo_ok KX G (c.t.d.fact 3 (f := .glo "add") rfl)⟩,
    ⟨c.t.d.def_ 4 (d := d_times) rfl, He.glo_ok KX G (c.t.d.fact 4 (f := .glo "times") rfl)⟩,
    ⟨c.t.d.def_ 5 (d := d_negate) rfl, He.glo_ok KX G (c.t.d.fact 5 (f := .glo "negate") rfl)⟩,
    ⟨c.t.d.def_ 6 (d := d_conjugate) rfl, He.glo_ok KX G (c.t.d.fact 6 (f := .glo "conjugate") rfl)⟩,
    ⟨c.t.d.def_ 7 (d := d_scaled) rfl, He.glo_ok KX G (c.t.d.fact 7 (f := .glo "scaled") rfl)⟩,
    ⟨c.t.d.def_ 8 (d := d_shift_of) rfl, He.glo_ok KX G (c.t.d.fact 8 (f := .glo "shift_of") rfl)⟩,
    ⟨c.t.d.def_ 9 (d := d_pauli_x) rfl, He.glo_ok KX G (c.t.d.fact 9 (f := .glo "pauli_x") rfl)⟩,
    ⟨c.t.d.def_ 10 (d := d_turn) rfl, He.glo_ok KX G (c.t.d.fact 10 (f := .glo "turn") rfl)⟩,
    ⟨c.t.d.def_ 11 (d := d_pauli_z) rfl, He.glo_ok KX G (c.t.d.fact 11 (f := .glo "pauli_z") rfl)⟩,
    ⟨c.t.d.def_ 12 (d := d_plane_state) rfl, He.glo_ok KX G (c.t.d.fact 12 (f := .glo "plane_state") rfl)⟩,
    ⟨c.t.d.def_ 13 (d := d_project) rfl, He.glo_ok KX G (c.t.d.fact 13 (f := .glo "project") rfl)⟩,
    ⟨c.t.d.def_ 14 (d := d__law_refill) rfl, He.glo_ok KX G (c.t.d.fact 14 (f := .glo "_law_refill") rfl)⟩,
    ⟨c.t.d.def_ 15 (d := d__law_draw) rfl, He.glo_ok KX G (c.t.d.fact 15 (f := .glo "_law_draw") rfl)⟩,
    ⟨c.t.d.def_ 16 (d := d__law_exact) rfl, He.glo_ok KX G (c.t.d.fact 16 (f := .glo "_law_exact") rfl)⟩,
    ⟨c.t.d.def_ 17 (d := d__law_own) rfl, He.glo_ok KX G (c.t.d.fact 17 (f := .glo "_law_own") rfl)⟩,
    ⟨c.t.d.def_ 18 (d := d__law_plus) rfl, He.glo_ok KX G (c.t.d.fact 18 (f := .glo "_law_plus") rfl)⟩,
    ⟨c.t.d.def_ 19 (d := d__law_by) rfl, He.glo_ok KX G (c.t.d.fact 19 (f := .glo "_law_by") rfl)⟩,
    ⟨c.t.d.def_ 20 (d := d__law_like) rfl, He.glo_ok KX G (c.t.d.fact 20 (f := .glo "_law_like") rfl)⟩,
    ⟨c.t.d.def_ 21 (d := d__law_w) rfl, He.glo_ok KX G (c.t.d.fact 21 (f := .glo "_law_w") rfl)⟩,
    ⟨c.t.d.def_ 22 (d := d__law_minus) rfl, He.glo_ok KX G (c.t.d.fact 22 (f := .glo "_law_minus") rfl)⟩,
    ⟨c.t.d.def_ 23 (d := d__law_bar) rfl, He.glo_ok KX G (c.t.d.fact 23 (f := .glo "_law_bar") rfl)⟩,
    ⟨c.t.d.def_ 24 (d := d__law_form) rfl, He.glo_ok KX G (c.t.d.fact 24 (f := .glo "_law_form") rfl)⟩,
    ⟨c.t.d.def_ 25 (d := d__law_is) rfl, He.glo_ok KX G (c.t.d.fact 25 (f := .glo "_law_is") rfl)⟩,
    ⟨c.t.d.def_ 26 (d := d__law_number) rfl, He.glo_ok KX G (c.t.d.fact 26 (f := .glo "_law_number") rfl)⟩,
    ⟨c.t.d.def_ 27 (d := d__law_told) rfl, He.glo_ok KX G (c.t.d.fact 27 (f := .glo "_law_told") rfl)⟩,
    ⟨c.t.d.def_ 28 (d := d__law_root) rfl, He.glo_ok KX G (c.t.d.fact 28 (f := .glo "_law_root") rfl)⟩,
    ⟨c.t.d.def_ 29 (d := d__law_figures) rfl, He.glo_ok KX G (c.t.d.fact 29 (f := .glo "_law_figures") rfl)⟩,
    ⟨c.t.d.def_ 30 (d := d__law_field) rfl, He.glo_ok KX G (c.t.d.fact 30 (f := .glo "_law_field") rfl)⟩,
    ⟨c.t.d.def_ 31 (d := d__law_plane) rfl, He.glo_ok KX G (c.t.d.fact 31 (f := .glo "_law_plane") rfl)⟩,
    ⟨c.t.d.def_ 32 (d := d__law_found) rfl, He.glo_ok KX G (c.t.d.fact 32 (f := .glo "_law_found") rfl)⟩,
    ⟨c.t.d.def_ 33 (d := d__law_row) rfl, He.glo_ok KX G (c.t.d.fact 33 (f := .glo "_law_row") rfl)⟩,
    ⟨c.t.d.def_ 34 (d := d__law_same_field) rfl, He.glo_ok KX G (c.t.d.fact 34 (f := .glo "_law_same_field") rfl)⟩,
    ⟨c.t.d.def_ 35 (d := d__law_unit_alike) rfl, He.glo_ok KX G (c.t.d.fact 35 (f := .glo "_law_unit_alike") rfl)⟩,
    ⟨c.t.d.def_ 36 (d := d__law_state) rfl, He.glo_ok KX G (c.t.d.fact 36 (f := .glo "_law_state") rfl)⟩,
    ⟨c.t.d.def_ 37 (d := d__law_qubits) rfl, He.glo_ok KX G (c.t.d.fact 37 (f := .glo "_law_qubits") rfl)⟩,
    ⟨c.t.d.def_ 38 (d := d__law_sum) rfl, He.glo_ok KX G (c.t.d.fact 38 (f := .glo "_law_sum") rfl)⟩,
    ⟨c.t.d.def_ 39 (d := d_law) rfl, He.glo_ok KX G (c.t.d.fact 39 (f := .glo "law") rfl)⟩,
    kc_tup (He.glo_ok KX G (c.t.d.fact 40 (f := .glo "ZERO") rfl)) x_ZERO (fun H => ⟨_, _, rfl, rfl, ⟨_, _, rfl, rfl, ⟨_, _, rfl, rfl, ⟨_, _, rfl, rfl, ⟨_, _, rfl, rfl, rfl⟩⟩⟩⟩⟩),
    kc_tup (He.glo_ok KX G (c.t.d.fact 41 (f := .glo "ONE") rfl)) x_ONE (fun H => ⟨_, _, rfl, rfl, ⟨_, _, rfl, rfl, ⟨_, _, rfl, rfl, ⟨_, _, rfl, rfl, ⟨_, _, rfl, rfl, rfl⟩⟩⟩⟩⟩),
    kc_int (He.int_ok KX G (c.t.d.fact 42 (f := .int "IMAGINARY" 2) rfl)),
    tb _ (List.mem_of_getElem? (i := 0) rfl),
    He.free_ok KX G (c.t.d.fact 43 (f := .free "abs") rfl),
    He.free_ok KX G (c.t.d.fact 44 (f := .free "all") rfl),
    He.free_ok KX G (c.t.d.fact 45 (f := .free "bool") rfl),
    He.free_ok KX G (c.t.d.fact 46 (f := .free "enumerate") rfl),
    He.free_ok KX G (c.t.d.fact 47 (f := .free "int") rfl),
    He.free_ok KX G (c.t.d.fact 48 (f := .free "isinstance") rfl),
    He.free_ok KX G (c.t.d.fact 49 (f := .free "len") rfl),
    He.free_ok KX G (c.t.d.fact 50 (f := .free "list") rfl),
    He.free_ok KX G (c.t.d.fact 51 (f := .free "max") rfl),
    He.free_ok KX G (c.t.d.fact 52 (f := .free "range") rfl),
    He.free_ok KX G (c.t.d.fact 53 (f := .free "set") rfl),
    He.free_ok KX G (c.t.d.fact 54 (f := .free "sorted") rfl),
    He.free_ok KX G (c.t.d.fact 55 (f := .free "str") rfl),
    He.free_ok KX G (c.t.d.fact 56 (f := .free "tuple") rfl),
    He.free_ok KX G (c.t.d.fact 57 (f := .free "zip") rfl)⟩
end W
open PySem PySem.W PySem.Calls PyProof.Rows
theorem PySem.Challenge.cw_everybranch_k73_planes_and_paulis_holds : PySem.Challenge.rw_everybranch_k73_planes_and_paulis.Holds := by
  w_on; o_law
  refine HandSHeadRun.head_any (r := OpenLaw.row PySem.Challenge.rw_everybranch_k73_planes_and_paulis) (q := view (OpenLaw.row PySem.Challenge.rw_everybranch_k73_planes_and_paulis).prog [45]) (H := W.hk) (ob := W.ob) (M := 3000) (loose := W.loose)
    (d := HandSHeadRun.topDef (OpenLaw.row PySem.Challenge.rw_everybranch_k73_planes_and_paulis).prog 45) (kwd := []) W.ob_eq (by kernel_rfl)
    (fun s => by kernel_rfl) W.run (by kernel_rfl) (by kernel_rfl) (by kernel_rfl) (by rfl) (by first | assumption | decide +kernel)
    (by decide +kernel) ⟨rfl, rfl, rfl, rfl, rfl, by decide +kernel⟩ ?hw ?hc
  case hw => w_witness2
  case hc =>
    refine LamX.walk_ofTsE (l := PySem.Challenge.rw_everybranch_k73_planes_and_paulis) (n := 63) (k := 9) (x := "script") (CX := fun w => L2.CX (PySem.Challenge.rw_everybranch_k73_planes_and_paulis).prog w) rfl (by decide) (by kernel_rfl) ⟨rfl, by decide, by decide⟩ ?F (fun w H s e s' => DL.law_cx w H s e s')
    intro w mg fa h Y G hmg0
    obtain ⟨K, KX, c⟩ := Y
    have hmg : mg ("law" : PySem.Str) = some (.ref fa) := by
      have e : (HandSHeadRun.topDef (OpenLaw.row PySem.Challenge.rw_everybranch_k73_planes_and_paulis).prog 45).name = ("law" : PySem.Str) := by kernel_rfl
      rw [← e]
      exact hmg0
    have e := hmg.symm.trans (He.glo_ok KX G (c.t.d.fact 39 (f := .glo "law") rfl))
    cases e
    obtain ⟨fd, F⟩ := c.t.d.def_ 39 (d := W.d_law) rfl
    exact ⟨K, KX, DL.law_at KX c F W.bi_law W.law_true fun base h1 h2 tb => W.ok_law (W.facts KX G c base tb) F⟩

