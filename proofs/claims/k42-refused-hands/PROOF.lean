import PyProof.Rows.All
import Wide.All
import OpenK.AllK
import Wide.FinOn
import PySem.Challenge.RW_gifttables_k42_refused_hands
import HandS.ForMost
import HandS.ForExc
import HandS.IsInst
import HandS.Deep
import HandS.More
import HandS.HeadHook1
import HandS.TupAny
import HandS.TupMul
import HandS.TupLe
import HandS.ExcIs
import HandS.Walk
import HandS.WordsExc
import HandS.Defaults
import HandS.Small
import HandS.SetFor
import HandS.Text
import HandS.HeadHook3
import HandS.Head0
import HandS.Head1
import HandS.Head2
import HandS.HeadEnd
set_option Elab.async false
set_option linter.all false
set_option maxRecDepth 100000
set_option maxHeartbeats 0
namespace G
open PySem L2 PySem.Spec PyProof.Rows

/-! ### tuples with no dict of their own: what is laid is known to the object -/
def TupF (H : Hp) (a : Addr) (vs : List V) : Prop := ∃ o : Obj, H a = some (.frz o (.tup vs)) ∧ o.dict = none
theorem TupF.sq {K : PySem.W.Frag} {H : Hp} {a : Addr} {vs : List V} (h : TupF H a vs) : SqT K H a vs :=
  let ⟨o, h1, _⟩ := h
  .inl (.inr ⟨o, h1⟩)
theorem tupF_new {H : Hp} {p : Addr} {vs : List V} {o : Obj} (h : o.dict = none) : TupF (upd H p (.frz o (.tup vs))) p vs := ⟨o, upd_same, h⟩
section
variable {X : Cx} {es : List Expr} {t : TA} {pos : Pos}
def tTupF (t : TA) : TE := fun sg H Q => t sg H fun xs H1 => xs.length ≤ sizeLine ∧ ∀ p (o : Obj), o.dict = none → H1 p = none → Q (.ref p) (upd H1 p (.frz o (.tup xs)))
theorem pe_tupF {x1 : Nat} (h : PA X es t) : PE X (.Tuple es x1 pos) (tTupF t) := by
  refine ⟨fun pins s sg H Q I hq => ?_⟩
  refine wpAny_Tuple_spliced (thn (h.run pos pins s sg H _ I hq) fun us s1 ⟨xs, H1, I1, r, z, q⟩ => ⟨by rw [← r.length]; exact z, ?_⟩)
  have hf : H1 s1.heap.objs.size = none := I1.hok.fresh (Nat.le_refl _)
  refine ⟨.ref s1.heap.objs.size, upd H1 s1.heap.objs.size (.frz { cls := .type "tuple", data := .seq us.toArray } (.tup xs)), I1.laid (t' := s1.toks) (fun b u e => Heap.get?_push_of_some _ e) (Nat.le_refl _) ?_, rfl, q _ _ rfl hf⟩
  exact ⟨Heap.get?_push_size _ rfl, z, us, r, ⟨_, Heap.get?_push_size _ rfl, rfl, _, rfl⟩⟩
def rCatF (K : PySem.W.Frag) : R2 := fun x y H Q => ∃ a b xs ys, x = .ref a ∧ y = .ref b ∧ SqT K H a xs ∧ SqT K H b ys ∧ xs.length + ys.length ≤ sizeLine ∧
  (xs = [] → Q (.ref b) H) ∧ (xs ≠ [] → ys = [] → Q (.ref a) H) ∧ (xs ≠ [] → ys ≠ [] → ∀ p (o : Obj), o.dict = none → H p = none → Q (.ref p) (upd H p (.frz o (.tup (xs ++ ys)))))
theorem op_catF : OpR X (binaryOp .Add) (rCatF X.K) := by
  intro pins s sg H x y v u Q I rx ry h
  obtain ⟨a, b, xs, ys, rfl, rfl, ha, hb, hz, q0, q1, q2⟩ := h
  cases rx
  cases ry
  obtain ⟨its, r1, p1, _⟩ := I.tuple ha
  obtain ⟨its2, r2, p2, _⟩ := I.tuple hb
  by_cases hx : xs = []
  · subst hx
    cases r1
    exact cat_tup0 p1 p2 ⟨.ref b, H, I, rfl, q0 rfl⟩
  · refine HT.cat_tup p1 p2 (fun z => hx (r1.nil_iff.mp z)) (fun z => ⟨.ref a, H, I, rfl, q1 hx (r2.nil_iff.mp z)⟩) (fun z => ?_) (by rw [← r1.length, ← r2.length]; exact hz)
    refine ⟨.ref s.heap.objs.size, _, I.laid (t' := s.toks) (o := .frz { cls := .type "tuple", data := .seq (its ++ its2).toArray } (.tup (xs ++ ys))) (fun b ob q => Heap.get?_push_of_some _ q) (Nat.le_refl _) ?_, rfl, q2 hx (fun w => z (r2.nil_iff.mpr w)) _ _ rfl (I.hok.fresh (Nat.le_refl _))⟩
    exact ⟨by first | exact Heap.get?_push_size _ rfl | simpa using Heap.get?_push_size _ rfl, by rw [List.length_append]; exact hz, _, r1.append r2, by first | exact IsTup.new _ _ | simpa using IsTup.new _ _⟩
def rSlF (K : PySem.W.Frag) : V → Option Int → Option Int → Hp → VK → Prop := fun x lo hi H Q => ∃ a xs, x = .ref a ∧ SqT K H a xs ∧
  (HT.sIx xs.length 0 lo = 0 ∧ HT.sIx xs.length xs.length hi = xs.length → Q (.ref a) H) ∧ (¬ (HT.sIx xs.length 0 lo = 0 ∧ HT.sIx xs.length xs.length hi = xs.length) → ∀ p (o : Obj), o.dict = none → H p = none → Q (.ref p) (upd H p (.frz o (.tup (cutV xs lo hi)))))
theorem sl_tupF : SlR X (rSlF X.K) := by
  intro pins s sg H x v vl vu lo hi sl Q I rx hs pl pu h
  obtain ⟨a, xs, rfl, hx, q1, q2⟩ := h
  cases rx
  obtain ⟨its, r, ht, hz⟩ := I.tuple hx
  have hlen : its.toArray.size = xs.length := by rw [List.size_toArray]; exact r.length.symm
  refine ⟨"tuple", _, PyProof.Rows.slot_tuple_getitem.lookup, ht.typeIs, ?_⟩
  by_cases hw : HT.sIx xs.length 0 lo = 0 ∧ HT.sIx xs.length xs.length hi = xs.length
  · exact getItem_tuple_whole ht hs pl pu (by rw [hlen]; exact hw) ⟨.ref a, H, I, rfl, q1 hw⟩
  · refine HT.getItem_tuple_cut ht hs pl pu (by rw [hlen]; exact hw) ?_ (by rw [hlen]; exact hz)
    rw [hlen]
    refine ⟨.ref s.heap.objs.size, _, I.laid (t' := s.toks) (o := .frz _ (.tup (cutV xs lo hi))) (fun b ob q => Heap.get?_push_of_some _ q) (Nat.le_refl _) ⟨Heap.get?_push_size _ rfl, ?_⟩, rfl, q2 hw _ _ rfl (I.hok.fresh (Nat.le_refl _))⟩
    exact ⟨Nat.le_trans (cutV_length xs lo hi) hz, _, (r.drop (HT.sIx xs.length 0 lo)).take (HT.sIx xs.length xs.length hi - HT.sIx xs.length 0 lo), IsTup.new _ _⟩
def rTupF (K : PySem.W.Frag) : List V → Hp → VK → Prop := fun xs H Q => ∃ p ys, xs = [.ref p] ∧ ((SqL K H p ys ∧ ∀ l (o : Obj), o.dict = none → H l = none → Q (.ref l) (upd H l (.frz o (.tup ys)))) ∨ (SqT K H p ys ∧ Q (.ref p) H))
theorem call_tupF : CallR X (.type "tuple") (rTupF X.K) := by
  intro pins s sg H xs us Q I r h
  obtain ⟨p, ys, rfl, h⟩ := h
  obtain ⟨u, rfl, rx⟩ := vals1 r
  cases rx
  rcases h with ⟨hq, q⟩ | ⟨hq, q⟩
  · obtain ⟨its, r', pl, hz⟩ := I.list hq
    have hlen := r'.length
    refine call_tuple_list pl.isList (fun h' kp => ?_) (by simp only [List.size_toArray] <;> omega)
    have I1 : L2.Inv X pins sg H { s with heap := h' } := I.kept (t' := s.toks) kp
    have I2 : L2.Inv X pins sg (upd H h'.objs.size (.frz { cls := .type "tuple", data := .seq its.toArray } (.tup ys))) { s with heap := h'.push { cls := .type "tuple", data := .seq its.toArray } } :=
      I1.laid (t' := s.toks) (fun b o e => Heap.get?_push_of_some _ e) (Nat.le_refl _) ⟨Heap.get?_push_size _ rfl, hz, its, r', IsTup.new _ _⟩
    exact ⟨.ref h'.objs.size, _, I2, rfl, q _ _ rfl (I1.hok.fresh (Nat.le_refl _))⟩
  · obtain ⟨its, r', pl, hz⟩ := I.tuple hq
    exact call_tuple_same pl ⟨.ref p, H, I, rfl, q⟩
end
end G
namespace G
open PySem L2

/-! ### data -/
inductive D where
  | non | bl (b : Bool) | int (i : Int) | str (x : Str)
  | tup (xs : List D) | lst (xs : List D) | dic (kvs : List (Key × D))
  | exc (c : Str) | obj (i : Nat) | ty (n : String) | cls (x : Str) | kys (ks : List Key) | scr (ns : List Int)

/-- a thing as it was, or a dict that is locked now -/
def Fz (o o' : HO) : Prop := o' = o ∨ ∃ od kvs, o = .dK kvs ∧ o' = .frz od (.dK kvs)
theorem Fz.trans {a b c : HO} (h : Fz a b) (k : Fz b c) : Fz a c := by
  rcases h with rfl | ⟨od, kvs, rfl, rfl⟩
  · exact k
  · rcases k with rfl | ⟨od', kvs', e, _⟩
    · exact .inr ⟨od, kvs, rfl, rfl⟩
    · cases e
def Sm (B H : Hp) : Prop := ∀ a o, B a = some o → ∃ o', H a = some o' ∧ Fz o o'
theorem Sm.of {B H : Hp} (e : L2.Same B H) : Sm B H := fun a o h => ⟨o, e a o h, .inl rfl⟩
theorem Sm.pre {B B' H : Hp} (e : L2.Same B B') (h : Sm B' H) : Sm B H := fun a o q => h a o (e a o q)
theorem Sm.trans {B H H' : Hp} (h : Sm B H) (k : Sm H H') : Sm B H' := fun a o q => by
  obtain ⟨o1, h1, z1⟩ := h a o q
  obtain ⟨o2, h2, z2⟩ := k a o1 h1
  exact ⟨o2, h2, z1.trans z2⟩
theorem Sm.get {B H : Hp} (h : Sm B H) {a : Addr} {o : HO} (e : B a = some o) (n : ∀ kvs, o ≠ .dK kvs) : H a = some o := by
  obtain ⟨o', h1, rfl | ⟨od, kvs, e2, _⟩⟩ := h a o e
  · exact h1
  · exact absurd e2 (n kvs)
/-- the part of a heap that stays, and where the cells are that may change -/
structure Base where
  hp : Hp
  cs : List Addr
def Base.Le (B B' : Base) : Prop := Sm B.hp B'.hp ∧ ∀ (i : Nat) a, B.cs[i]? = some a → B'.cs[i]? = some a
def Base.put (B : Base) (p : Addr) (o : HO) : Base := ⟨upd B.hp p o, B.cs⟩
theorem Base.Le.refl (B : Base) : B.Le B := ⟨.of (.refl _), fun _ _ e => e⟩
theorem Base.Le.trans {B B1 B2 : Base} (h : B.Le B1) (k : B1.Le B2) : B.Le B2 := ⟨h.1.trans k.1, fun i a e => k.2 i a (h.2 i a e)⟩
theorem Base.Le.mem {B B1 : Base} (h : B.Le B1) {a : Addr} (e : a ∈ B.cs) : a ∈ B1.cs := by
  obtain ⟨i, hi⟩ := List.mem_iff_getElem?.mp e
  exact List.mem_iff_getElem?.mpr ⟨i, h.2 i a hi⟩

/-- an exception object of the class at C, held -/
def ExcO (C : Addr) (a : Addr) : HO := .ext fun h => ∃ (oe : Obj) (vs : Array Value), h.get? a = some oe ∧ Zc (.ref C) none oe ∧ oe.data = .fields vs
theorem excO_ok {P : Program} {w : World} {H : Hp} {h : Heap} {a C : Addr} {oe : Obj} {vs : Array Value} (e : h.get? a = some oe) (z : Zc (.ref C) none oe) (d : oe.data = .fields vs) : ObjOk P w H h a (ExcO C a) :=
  ⟨⟨oe, vs, e, z, d⟩, ⟨oe, e⟩, fun _ _ ⟨o, v, q, r⟩ k => ⟨o, v, k o q, r⟩⟩

/-- a view of a dict's keys -/
def KeysO (r d : Addr) : HO := .ext fun h => PySem.W.KdlKeysView h r d
theorem keysO_ok {P : Program} {w : World} {H : Hp} {h : Heap} {r d : Addr} (e : PySem.W.KdlKeysView h r d) : ObjOk P w H h r (KeysO r d) :=
  ⟨e, ⟨_, e.choose_spec.1⟩, fun _ _ ⟨o, q, z⟩ k => ⟨o, k o q, z⟩⟩

theorem same_sl0 : True := trivial
section
variable (K : PySem.W.Frag) (B : Base)
mutual
def Rep : D → V → Prop
  | .non, v => v = .non
  | .bl b, v => v = .bl b
  | .int i, v => v = .int i
  | .str x, v => v = .str x
  | .tup xs, v => ∃ a vs, v = .ref a ∧ TupF B.hp a vs ∧ Reps xs vs
  | .lst xs, v => ∃ a vs, v = .ref a ∧ B.hp a = some (.lst vs) ∧ Reps xs vs
  | .dic kvs, v => ∃ a vs, v = .ref a ∧ Rd B.hp a (.dK vs) ∧ RepsK kvs vs
  | .exc c, v => ∃ a, v = .ref a ∧ B.hp a = some (ExcO (He.ga K c) a)
  | .obj i, v => ∃ a, v = .ref a ∧ B.cs[i]? = some a
  | .ty n, v => v = .ty n
  | .cls x, v => v = .ref (He.ga K x)
  | .kys ks, v => ∃ r d vs, v = .ref r ∧ B.hp r = some (KeysO r d) ∧ Rd B.hp d (.dK vs) ∧ vs.map (·.1) = ks
  | .scr ns, v => ∃ a, v = .ref a ∧ SqL K B.hp a (ns.map V.int)
def Reps : List D → List V → Prop
  | [], vs => vs = []
  | x :: xs, vs => ∃ v r, vs = v :: r ∧ Rep x v ∧ Reps xs r
def RepsK : List (Key × D) → List (Key × V) → Prop
  | [], vs => vs = []
  | (k, x) :: xs, vs => ∃ v r, vs = (k, v) :: r ∧ Rep x v ∧ RepsK xs r
end
end

theorem eq_rd {B B' : Hp} (e : L2.Same B B') {a : Addr} {u : HO} (h : Rd B a u) : Rd B' a u := by
  rcases h with h | ⟨o, h⟩
  · exact .inl (e _ _ h)
  · exact .inr ⟨o, e _ _ h⟩
theorem eq_t {K : PySem.W.Frag} {B B' : Hp} (e : L2.Same B B') {a : Addr} {xs : List V} (h : SqT K B a xs) : SqT K B' a xs := by
  rcases h with h | h
  · exact .inl (eq_rd e h)
  · exact .inr h
theorem eq_sl {K : PySem.W.Frag} {B B' : Hp} (e : L2.Same B B') {a : Addr} {xs : List V} (h : SqL K B a xs) : SqL K B' a xs := by
  rcases h with h | h
  · exact .inl (eq_rd e h)
  · exact .inr h
theorem same_rd {B B' : Hp} (e : Sm B B') {a : Addr} {u : HO} (h : Rd B a u) : Rd B' a u := by
  rcases h with h | ⟨o, h⟩
  · obtain ⟨o', h1, rfl | ⟨od, kvs, rfl, rfl⟩⟩ := e a u h
    · exact .inl h1
    · exact .inr ⟨od, h1⟩
  · exact .inr ⟨o, e.get h fun _ z => nomatch z⟩
theorem same_l {K : PySem.W.Frag} {B B' : Hp} (e : Sm B B') {a : Addr} {xs : List V} (h : B a = some (.lst xs)) : SqL K B' a xs := .inl (.inl (e.get h fun _ z => nomatch z))
theorem tupF_mono {B B' : Hp} (e : Sm B B') {a : Addr} {xs : List V} (h : TupF B a xs) : TupF B' a xs :=
  let ⟨o, h1, h2⟩ := h
  ⟨o, e.get h1 (fun _ z => nomatch z), h2⟩
theorem same_t {K : PySem.W.Frag} {B B' : Hp} (e : Sm B B') {a : Addr} {xs : List V} (h : TupF B a xs) : SqT K B' a xs := (tupF_mono e h).sq
theorem same_sl {K : PySem.W.Frag} {B B' : Hp} (e : Sm B B') {a : Addr} {xs : List V} (h : SqL K B a xs) : SqL K B' a xs := by
  rcases h with h | h
  · exact .inl (same_rd e h)
  · exact .inr h

section
variable {K : PySem.W.Frag} {B B' : Base}
mutual
theorem Rep.mono (e : B.Le B') : ∀ (d : D) (v : V), Rep K B d v → Rep K B' d v
  | .non, v, h => h
  | .bl b, v, h => h
  | .int i, v, h => h
  | .str x, v, h => h
  | .tup xs, v, h => by
    obtain ⟨a, vs, e1, h1, h2⟩ := h
    exact ⟨a, vs, e1, tupF_mono e.1 h1, Reps.mono e xs vs h2⟩
  | .lst xs, v, h => by
    obtain ⟨a, vs, e1, h1, h2⟩ := h
    exact ⟨a, vs, e1, e.1.get h1 (fun _ z => nomatch z), Reps.mono e xs vs h2⟩
  | .dic kvs, v, h => by
    obtain ⟨a, vs, e1, h1, h2⟩ := h
    exact ⟨a, vs, e1, same_rd e.1 h1, RepsK.mono e kvs vs h2⟩
  | .exc c, v, h => by
    obtain ⟨a, e1, h1⟩ := h
    exact ⟨a, e1, e.1.get h1 (fun _ z => nomatch z)⟩
  | .obj i, v, h => by
    obtain ⟨a, e1, h1⟩ := h
    exact ⟨a, e1, e.2 _ _ h1⟩
  | .ty n, v, h => h
  | .cls x, v, h => h
  | .kys ks, v, h => by
    obtain ⟨r, d, vs, e1, h1, h2, h3⟩ := h
    exact ⟨r, d, vs, e1, e.1.get h1 (fun _ z => nomatch z), same_rd e.1 h2, h3⟩
  | .scr ns, v, h => by
    obtain ⟨a, e1, h1⟩ := h
    exact ⟨a, e1, same_sl e.1 h1⟩
theorem Reps.mono (e : B.Le B') : ∀ (ds : List D) (vs : List V), Reps K B ds vs → Reps K B' ds vs
  | [], vs, h => h
  | x :: xs, vs, h => by
    obtain ⟨v, r, e1, h1, h2⟩ := h
    exact ⟨v, r, e1, Rep.mono e x v h1, Reps.mono e xs r h2⟩
theorem RepsK.mono (e : B.Le B') : ∀ (ds : List (Key × D)) (vs : List (Key × V)), RepsK K B ds vs → RepsK K B' ds vs
  | [], vs, h => h
  | (k, x) :: xs, vs, h => by
    obtain ⟨v, r, e1, h1, h2⟩ := h
    exact ⟨v, r, e1, Rep.mono e x v h1, RepsK.mono e xs r h2⟩
end
theorem Reps.length : ∀ {ds : List D} {vs : List V}, Reps K B ds vs → vs.length = ds.length
  | [], vs, h => by cases (show vs = [] from h); rfl
  | x :: xs, vs, h => by
    obtain ⟨v, r, rfl, _, h2⟩ := h
    simp only [List.length_cons, Reps.length h2]
theorem RepsK.length : ∀ {ds : List (Key × D)} {vs : List (Key × V)}, RepsK K B ds vs → vs.length = ds.length
  | [], vs, h => by cases (show vs = [] from h); rfl
  | (k, x) :: xs, vs, h => by
    obtain ⟨v, r, rfl, _, h2⟩ := h
    simp only [List.length_cons, RepsK.length h2]
theorem Reps.get : ∀ {ds : List D} {vs : List V} {i : Nat} {d : D}, Reps K B ds vs → ds[i]? = some d → ∃ v, vs[i]? = some v ∧ Rep K B d v
  | [], vs, i, d, h, e => by simp at e
  | x :: xs, vs, 0, d, h, e => by
    obtain ⟨v, r, rfl, h1, h2⟩ := h
    cases (show some x = some d from e)
    exact ⟨v, rfl, h1⟩
  | x :: xs, vs, i + 1, d, h, e => by
    obtain ⟨v, r, rfl, h1, h2⟩ := h
    exact Reps.get (i := i) h2 e
theorem Reps.get' : ∀ {ds : List D} {vs : List V} {i : Nat} {v : V}, Reps K B ds vs → vs[i]? = some v → ∃ d, ds[i]? = some d ∧ Rep K B d v
  | [], vs, i, d, h, e => by cases (show vs = [] from h); simp at e
  | x :: xs, vs, 0, d, h, e => by
    obtain ⟨v, r, rfl, h1, h2⟩ := h
    cases (show some v = some d from e)
    exact ⟨x, rfl, h1⟩
  | x :: xs, vs, i + 1, d, h, e => by
    obtain ⟨v, r, rfl, h1, h2⟩ := h
    exact Reps.get' (i := i) h2 e
theorem Reps.app : ∀ {ds es : List D} {vs ws : List V}, Reps K B ds vs → Reps K B es ws → Reps K B (ds ++ es) (vs ++ ws)
  | [], es, vs, ws, h, k => by cases (show vs = [] from h); exact k
  | x :: xs, es, vs, ws, h, k => by
    obtain ⟨v, r, rfl, h1, h2⟩ := h
    exact ⟨v, r ++ ws, rfl, h1, Reps.app h2 k⟩
theorem Reps.one {d : D} {v : V} (h : Rep K B d v) : Reps K B [d] [v] := ⟨v, [], rfl, h, rfl⟩
theorem Reps.take : ∀ {ds : List D} {vs : List V} (n : Nat), Reps K B ds vs → Reps K B (ds.take n) (vs.take n)
  | ds, vs, 0, h => by simp [Reps]
  | [], vs, n + 1, h => by cases (show vs = [] from h); simp [Reps]
  | x :: xs, vs, n + 1, h => by
    obtain ⟨v, r, rfl, h1, h2⟩ := h
    exact ⟨v, r.take n, rfl, h1, Reps.take n h2⟩
theorem Reps.drop : ∀ {ds : List D} {vs : List V} (n : Nat), Reps K B ds vs → Reps K B (ds.drop n) (vs.drop n)
  | ds, vs, 0, h => h
  | [], vs, n + 1, h => by cases (show vs = [] from h); simp [Reps]
  | x :: xs, vs, n + 1, h => by
    obtain ⟨v, r, rfl, h1, h2⟩ := h
    exact Reps.drop n h2
theorem Reps.set : ∀ {ds : List D} {vs : List V} (n : Nat) {d : D} {v : V}, Reps K B ds vs → Rep K B d v → Reps K B (ds.set n d) (vs.set n v)
  | [], vs, n, d, v, h, k => by cases (show vs = [] from h); simp [Reps]
  | x :: xs, vs, 0, d, v, h, k => by
    obtain ⟨v', r, rfl, h1, h2⟩ := h
    exact ⟨v, r, rfl, k, h2⟩
  | x :: xs, vs, n + 1, d, v, h, k => by
    obtain ⟨v', r, rfl, h1, h2⟩ := h
    exact ⟨v', r.set n v, rfl, h1, Reps.set n h2 k⟩
end

/-! ### data of atoms and tuples alone -/
mutual
def imm : D → Bool
  | .tup xs => imms xs
  | .lst _ => false
  | .dic _ => false
  | .exc _ => false
  | .obj _ => false
  | .kys _ => false
  | .scr _ => false
  | _ => true
def imms : List D → Bool
  | [] => true
  | x :: xs => imm x && imms xs
end
/-- the tuples of a heap -/
def tups (H : Hp) : Hp := fun a => match H a with
  | some (.tup xs) => some (.tup xs)
  | some (.frz o (.tup xs)) => some (.frz o (.tup xs))
  | _ => none
theorem tups_same (H : Hp) : L2.Same (tups H) H := fun a o e => by
  unfold tups at e
  split at e
  · rename_i xs h; rw [h]; exact e
  · rename_i ob xs h; rw [h]; exact e
  · cases e
theorem tups_t {H : Hp} {a : Addr} {xs : List V} (h : TupF H a xs) : TupF (tups H) a xs :=
  let ⟨o, h1, h2⟩ := h
  ⟨o, by unfold tups; rw [h1], h2⟩
section
variable {K : PySem.W.Frag} {H : Base}
mutual
theorem Rep.tups : ∀ (d : D) (v : V), imm d = true → Rep K H d v → Rep K ⟨tups H.hp, []⟩ d v
  | .non, v, _, h => h
  | .bl b, v, _, h => h
  | .int i, v, _, h => h
  | .str x, v, _, h => h
  | .tup xs, v, i, h => by
    obtain ⟨a, vs, e1, h1, h2⟩ := h
    exact ⟨a, vs, e1, tups_t h1, Reps.tups xs vs i h2⟩
  | .lst xs, v, i, h => by cases (show false = true from i)
  | .dic xs, v, i, h => by cases (show false = true from i)
  | .exc xs, v, i, h => by cases (show false = true from i)
  | .obj xs, v, i, h => by cases (show false = true from i)
  | .ty n, v, _, h => h
  | .cls x, v, _, h => h
  | .kys xs, v, i, h => by cases (show false = true from i)
  | .scr xs, v, i, h => by cases (show false = true from i)
theorem Reps.tups : ∀ (ds : List D) (vs : List V), imms ds = true → Reps K H ds vs → Reps K ⟨tups H.hp, []⟩ ds vs
  | [], vs, _, h => h
  | x :: xs, vs, i, h => by
    obtain ⟨i1, i2⟩ := Bool.and_eq_true_iff.mp (show (imm x && imms xs) = true from i)
    obtain ⟨v, r, e1, h1, h2⟩ := h
    exact ⟨v, r, e1, Rep.tups x v i1 h1, Reps.tups xs r i2 h2⟩
end
end

/-! ### the things that change: cells -/
inductive Cell where
  | lst (xs : List D) | dic (kvs : List (Key × D)) | ins (c : Str) (fs : List (Str × D))
abbrev Wl := List Cell
def RepsF (K : PySem.W.Frag) (B : Base) : List (Str × D) → List (Str × V) → Prop
  | [], vs => vs = []
  | (k, x) :: xs, vs => ∃ v r, vs = (k, v) :: r ∧ Rep K B x v ∧ RepsF K B xs r
theorem RepsF.mono {K : PySem.W.Frag} {B B' : Base} (e : B.Le B') : ∀ (ds : List (Str × D)) (vs : List (Str × V)), RepsF K B ds vs → RepsF K B' ds vs
  | [], vs, h => h
  | (k, x) :: xs, vs, h => by
    obtain ⟨v, r, e1, h1, h2⟩ := h
    exact ⟨v, r, e1, Rep.mono e x v h1, RepsF.mono e xs r h2⟩
def CellR (K : PySem.W.Frag) (B : Base) (a : Addr) : Cell → HO → Prop
  | .lst xs, o => ∃ vs, o = .lst vs ∧ Reps K B xs vs
  | .dic kvs, o => ∃ vs, o = .dK vs ∧ RepsK K B kvs vs
  | .ins c fs, o => ∃ dx vs, o = .ins (He.ga K c) dx vs ∧ B.hp dx = some (.own a) ∧ RepsF K B fs vs
theorem CellR.mono {K : PySem.W.Frag} {B B' : Base} (e : B.Le B') {a : Addr} {c : Cell} {o : HO} (h : CellR K B a c o) : CellR K B' a c o := by
  cases c with
  | lst xs => obtain ⟨vs, h1, h2⟩ := h; exact ⟨vs, h1, Reps.mono e _ _ h2⟩
  | dic xs => obtain ⟨vs, h1, h2⟩ := h; exact ⟨vs, h1, RepsK.mono e _ _ h2⟩
  | ins c fs => obtain ⟨dx, vs, h1, h2, h3⟩ := h; exact ⟨dx, vs, h1, e.1.get h2 (fun _ z => nomatch z), RepsF.mono e _ _ h3⟩
structure Ok (K : PySem.W.Frag) (w : Wl) (B : Base) (H : Hp) : Prop where
  sm : Sm B.hp H
  len : B.cs.length = w.length
  on : ∀ (i : Nat) c, w[i]? = some c → ∃ a o, B.cs[i]? = some a ∧ H a = some o ∧ CellR K B a c o
  no : ∀ a, a ∈ B.cs → B.hp a = none
  dj : ∀ (i j : Nat) a, B.cs[i]? = some a → B.cs[j]? = some a → i = j
theorem Ok.has {K : PySem.W.Frag} {w : Wl} {B : Base} {H : Hp} (r : Ok K w B H) {a : Addr} (h : a ∈ B.cs) : H a ≠ none := by
  obtain ⟨i, hi⟩ := List.mem_iff_getElem?.mp h
  have hlt : i < w.length := by
    rw [← r.len]
    exact (List.getElem?_eq_some_iff.mp hi).1
  obtain ⟨a', o, h1, h2, _⟩ := r.on i _ (List.getElem?_eq_getElem hlt)
  rw [hi] at h1; cases h1
  rw [h2]; exact fun z => nomatch z

/-- a tuple's place -/
def isT : Option HO → Bool
  | .some (.tup _) => true
  | .some (.frz _ (.tup _)) => true
  | _ => false
/-- from a base and a heap to later ones -/
structure Fu (W : Bool) (B : Base) (H : Hp) (B' : Base) (H' : Hp) : Prop where
  h : ∀ a o, H a = some o → a ∉ B.cs → H' a = some o ∨ (W = false ∧ B.hp a ≠ none ∧ ∃ o', H' a = some o' ∧ Fz o o')
  b : B.Le B'
  bh : Sm B'.hp H'
  nw : ∀ a, B.hp a = none → H a ≠ none → isT (H a) = false → a ∉ B.cs → B'.hp a = none
  nm : ∀ a, H a ≠ none → a ∉ B.cs → a ∉ B'.cs
  pr : W = true → B'.cs = B.cs ∧ ∀ a, a ∈ B.cs → H' a = H a
theorem Fu.refl {W : Bool} {B : Base} {H : Hp} (h : Sm B.hp H) : Fu W B H B H := ⟨fun _ _ e _ => .inl e, .refl _, h, fun _ e _ _ _ => e, fun _ _ e => e, fun _ => ⟨rfl, fun _ _ => rfl⟩⟩
theorem Fu.at {W : Bool} {B B1 : Base} {H H1 : Hp} (f : Fu W B H B1 H1) {a : Addr} {o : HO} (e : H a = some o) (m : a ∉ B.cs) (hb : B.hp a = none) : H1 a = some o := by
  rcases f.h a o e m with h | ⟨_, h, _⟩
  · exact h
  · exact absurd hb h
theorem Fu.sm {W : Bool} {B B1 : Base} {H H1 : Hp} (f : Fu W B H B1 H1) {a : Addr} {o : HO} (e : H a = some o) (m : a ∉ B.cs) : ∃ o', H1 a = some o' ∧ Fz o o' := by
  rcases f.h a o e m with h | ⟨_, _, h⟩
  · exact ⟨o, h, .inl rfl⟩
  · exact h
theorem le_some {B B1 : Base} (h : B.Le B1) {a : Addr} (n : B.hp a ≠ none) : B1.hp a ≠ none := by
  cases e : B.hp a with
  | none => exact absurd e n
  | some u => obtain ⟨o', z, _⟩ := h.1 a u e; rw [z]; exact fun z => nomatch z
theorem Fu.trans {W : Bool} {B B1 B2 : Base} {H H1 H2 : Hp} (f : Fu W B H B1 H1) (g : Fu W B1 H1 B2 H2) : Fu W B H B2 H2 where
  pr := fun e => ⟨(g.pr e).1.trans (f.pr e).1, fun a h => ((g.pr e).2 a (by rw [(f.pr e).1]; exact h)).trans ((f.pr e).2 a h)⟩
  h := fun a o e n => by
    have n1 := f.nm a (by rw [e]; exact fun z => nomatch z) n
    by_cases hb : B.hp a = none
    · -- not in the base: as it was; it may be in the second base only if it is a tuple
      have e1 := f.at e n hb
      by_cases hb1 : B1.hp a = none
      · exact .inl (g.at e1 n1 hb1)
      · have ht : isT (H a) = true := by
          cases q : isT (H a) with
          | true => rfl
          | false => exact absurd (f.nw a hb (by rw [e]; exact fun z => nomatch z) q n) hb1
        obtain ⟨o', h1, rfl | ⟨od, kvs, z, _⟩⟩ := g.sm e1 n1
        · exact .inl h1
        · rw [e, z] at ht; cases ht
    · cases W with
      | true =>
        rcases f.h a o e n with h1 | ⟨z, _⟩
        · rcases g.h a o h1 n1 with h2 | ⟨z, _⟩
          · exact .inl h2
          · cases z
        · cases z
      | false =>
        obtain ⟨o1, h1, z1⟩ := f.sm e n
        obtain ⟨o2, h2, z2⟩ := g.sm h1 n1
        exact .inr ⟨rfl, hb, o2, h2, z1.trans z2⟩
  b := f.b.trans g.b
  bh := g.bh
  nw := fun a e n t m => by
    cases eh : H a with
    | none => exact absurd eh n
    | some u =>
      have z := f.at eh m e
      exact g.nw a (f.nw a e n t m) (by rw [z]; exact fun x => nomatch x) (by rw [z, ← eh]; exact t) (f.nm a n m)
  nm := fun a n m => by
    cases eh : H a with
    | none => exact absurd eh n
    | some u =>
      obtain ⟨o', z, _⟩ := f.sm eh m
      exact g.nm a (by rw [z]; exact fun x => nomatch x) (f.nm a n m)
theorem not_mk {K : PySem.W.Frag} {B : Base} {H : Hp} {w : Wl} (r : Ok K w B H) {p : Addr} (hp : H p = none) : p ∉ B.cs := fun h => r.has h hp
theorem not_hp {B : Base} {H : Hp} (hb : Sm B.hp H) {p : Addr} (hp : H p = none) : B.hp p = none := by
  cases e : B.hp p with
  | none => rfl
  | some u => obtain ⟨o', z, _⟩ := hb p u e; rw [hp] at z; cases z
theorem put_le {B : Base} {p : Addr} (bp : B.hp p = none) (o : HO) : B.Le (B.put p o) := ⟨.of fun a u e => by
  show upd B.hp p o a = some u
  rw [upd_ne (ne_of_none e bp)]; exact e, fun _ _ e => e⟩
/-- a new object, in the base too -/
theorem Fu.weak {W : Bool} {B B' : Base} {H H' : Hp} (f : Fu true B H B' H') : Fu W B H B' H' := ⟨fun a o e m => .inl (by
  rcases f.h a o e m with h | ⟨z, _⟩
  · exact h
  · cases z), f.b, f.bh, f.nw, f.nm, fun _ => f.pr rfl⟩
theorem Fu.new {W : Bool} {K : PySem.W.Frag} {B : Base} {H : Hp} {w : Wl} (r : Ok K w B H) (hb : Sm B.hp H) {p : Addr} (hp : H p = none) (o : HO) : Fu W B H (B.put p o) (upd H p o) ∧ Ok K w (B.put p o) (upd H p o) := by
  have hm := not_mk r hp
  have bp := not_hp hb hp
  have le := put_le bp o
  have sm : Sm (B.put p o).hp (upd H p o) := fun a u e => by
    have e' : upd B.hp p o a = some u := e
    by_cases ha : a = p
    · subst ha
      rw [upd_same] at e'; cases e'
      exact ⟨_, upd_same, .inl rfl⟩
    · rw [upd_ne ha] at e' ⊢
      exact hb a u e'
  refine ⟨⟨fun a u e _ => ?_, le, sm, fun a e n _ _ => ?_, fun a n m => m, fun _ => ⟨rfl, fun a h => upd_ne fun z => hm (by rw [← z]; exact h)⟩⟩, sm, r.len, fun i c e => ?_, fun a h => ?_, r.dj⟩
  · exact .inl (by rw [upd_ne (ne_of_none e hp)]; exact e)
  · have ha : a ≠ p := fun z => n (by rw [z]; exact hp)
    show upd B.hp p o a = none
    rw [upd_ne ha]; exact e
  · obtain ⟨a, u, h1, h2, h3⟩ := r.on i c e
    exact ⟨a, u, h1, by rw [upd_ne (ne_of_none h2 hp)]; exact h2, h3.mono le⟩
  · have ha : a ≠ p := fun z => hm (by rw [← z]; exact h)
    show upd B.hp p o a = none
    rw [upd_ne ha]; exact r.no a h
/-- an object that the base does not hold may change -/
theorem Ok.mut {K : PySem.W.Frag} {B : Base} {H : Hp} {w : Wl} (r : Ok K w B H) {p : Addr} (hp : B.hp p = none) (hm : p ∉ B.cs) (o : HO) : Ok K w B (upd H p o) where
  sm := fun a u e => by rw [upd_ne (ne_of_none e hp)]; exact r.sm a u e
  len := r.len
  on := fun i c e => by
    obtain ⟨a, u, h1, h2, h3⟩ := r.on i c e
    have ha : a ≠ p := fun z => hm (by rw [← z]; exact List.mem_iff_getElem?.mpr ⟨i, h1⟩)
    exact ⟨a, u, h1, by rw [upd_ne ha]; exact h2, h3⟩
  no := r.no
  dj := r.dj
/-- a cell changes -/
theorem Ok.cell {K : PySem.W.Frag} {B : Base} {H : Hp} {w : Wl} (r : Ok K w B H) {i : Nat} {p : Addr} (hp : B.cs[i]? = some p) {c : Cell} {o : HO} (hc : CellR K B p c o) : Ok K (w.set i c) B (upd H p o) ∧ Fu false B H B (upd H p o) := by
  have hm : p ∈ B.cs := List.mem_iff_getElem?.mpr ⟨i, hp⟩
  have sm : Sm B.hp (upd H p o) := fun a u e => by rw [upd_ne (ne_of_none e (r.no p hm))]; exact r.sm a u e
  refine ⟨⟨sm, by rw [r.len, List.length_set], fun j c' e => ?_, r.no, r.dj⟩, fun a u e n => ?_, .refl _, sm, fun _ e _ _ _ => e, fun _ _ e => e, fun z => nomatch z⟩
  · by_cases hj : i = j
    · subst hj
      have hlt : i < w.length := by rw [← r.len]; exact (List.getElem?_eq_some_iff.mp hp).1
      rw [List.getElem?_set_self hlt] at e
      cases e
      exact ⟨p, o, hp, upd_same, hc⟩
    · rw [List.getElem?_set_ne hj] at e
      obtain ⟨a, u, h1, h2, h3⟩ := r.on j c' e
      have ha : a ≠ p := fun z => hj (r.dj i j p hp (by rw [← z]; exact h1))
      exact ⟨a, u, h1, by rw [upd_ne ha]; exact h2, h3⟩
  · have ha : a ≠ p := fun z => n (by rw [z]; exact hm)
    exact .inl (by rw [upd_ne ha]; exact e)
/-- a new cell -/
theorem Ok.newCell {K : PySem.W.Frag} {B : Base} {H : Hp} {w : Wl} (r : Ok K w B H) {p : Addr} {o : HO} (hp : H p = some o) (hb : B.hp p = none) (hm : p ∉ B.cs) {c : Cell} (hc : CellR K B p c o) : Ok K (w ++ [c]) ⟨B.hp, B.cs ++ [p]⟩ H ∧ B.Le ⟨B.hp, B.cs ++ [p]⟩ := by
  have le : B.Le ⟨B.hp, B.cs ++ [p]⟩ := ⟨.of (.refl _), fun i a e => by
    rw [List.getElem?_append_left (List.getElem?_eq_some_iff.mp e).1]; exact e⟩
  have key : ∀ (i : Nat) (a : Addr), (B.cs ++ [p])[i]? = some a → B.cs[i]? = some a ∨ (i = B.cs.length ∧ a = p) := fun i a e => by
    by_cases hi : i < B.cs.length
    · rw [List.getElem?_append_left hi] at e; exact .inl e
    · rw [List.getElem?_append_right (by omega)] at e
      have : i - B.cs.length = 0 := by
        cases h : i - B.cs.length with
        | zero => rfl
        | succ n => rw [h] at e; simp at e
      rw [this] at e
      cases e
      exact .inr ⟨by omega, rfl⟩
  refine ⟨⟨r.sm, by simp [r.len], fun i c' e => ?_, fun a h => ?_, fun i j a h1 h2 => ?_⟩, le⟩
  · by_cases hi : i < w.length
    · rw [List.getElem?_append_left hi] at e
      obtain ⟨a, u, h1, h2, h3⟩ := r.on i c' e
      exact ⟨a, u, le.2 i a h1, h2, h3.mono le⟩
    · rw [List.getElem?_append_right (by omega)] at e
      have : i - w.length = 0 := by
        cases h : i - w.length with
        | zero => rfl
        | succ n => rw [h] at e; simp at e
      rw [this] at e
      cases e
      have hi2 : i = B.cs.length := by rw [r.len]; omega
      exact ⟨p, o, by show (B.cs ++ [p])[i]? = some p; rw [hi2]; simp, hp, hc.mono le⟩
  · rcases List.mem_append.mp h with h | h
    · exact r.no a h
    · cases List.mem_singleton.mp h; exact hb
  · rcases key i a h1 with h1 | ⟨e1, e2⟩
    · rcases key j a h2 with h2 | ⟨e3, e4⟩
      · exact r.dj i j a h1 h2
      · exact absurd (List.mem_iff_getElem?.mpr ⟨i, h1⟩) (by rw [e4]; exact hm)
    · rcases key j a h2 with h2 | ⟨e3, e4⟩
      · exact absurd (List.mem_iff_getElem?.mpr ⟨j, h2⟩) (by rw [e2]; exact hm)
      · omega

/-- an object that was not there changes -/
theorem Fu.mut {W : Bool} {B B' : Base} {H H' : Hp} (f : Fu W B H B' H') {p : Addr} (h0 : H p = none) (hb : B'.hp p = none) (hm : p ∉ B.cs) (o : HO) : Fu W B H B' (upd H' p o) where
  pr := fun e => ⟨(f.pr e).1, fun a h => by rw [upd_ne fun z => hm (by rw [← z]; exact h)]; exact (f.pr e).2 a h⟩
  h := fun a u e n => by rw [upd_ne (ne_of_none e h0)]; exact f.h a u e n
  b := f.b
  bh := fun a u e => by rw [upd_ne (ne_of_none e hb)]; exact f.bh a u e
  nw := f.nw
  nm := f.nm
/-- an object that was not there comes into the base -/
theorem Fu.put {W : Bool} {B B' : Base} {H H' : Hp} (f : Fu W B H B' H') {p : Addr} (h0 : H p = none) (hb : B'.hp p = none) {o : HO} (hp : H' p = some o) : Fu W B H (B'.put p o) H' where
  pr := f.pr
  h := f.h
  b := f.b.trans (put_le hb o)
  bh := fun a u e => by
    have e' : upd B'.hp p o a = some u := e
    by_cases ha : a = p
    · subst ha
      rw [upd_same] at e'; cases e'
      exact ⟨_, hp, .inl rfl⟩
    · rw [upd_ne ha] at e'
      exact f.bh a u e'
  nw := fun a e n t m => by
    have ha : a ≠ p := fun z => n (by rw [z]; exact h0)
    show upd B'.hp p o a = none
    rw [upd_ne ha]; exact f.nw a e n t m
  nm := f.nm
theorem Ok.put {K : PySem.W.Frag} {B : Base} {H : Hp} {w : Wl} (r : Ok K w B H) {p : Addr} (hb : B.hp p = none) (hm : p ∉ B.cs) {o : HO} (hp : H p = some o) : Ok K w (B.put p o) H where
  sm := fun a u e => by
    have e' : upd B.hp p o a = some u := e
    by_cases ha : a = p
    · subst ha
      rw [upd_same] at e'; cases e'
      exact ⟨_, hp, .inl rfl⟩
    · rw [upd_ne ha] at e'
      exact r.sm a u e'
  len := r.len
  on := fun i c e => by
    obtain ⟨a, u, h1, h2, h3⟩ := r.on i c e
    exact ⟨a, u, h1, h2, h3.mono (put_le hb o)⟩
  no := fun a h => by
    have ha : a ≠ p := fun z => hm (by rw [← z]; exact h)
    show upd B.hp p o a = none
    rw [upd_ne ha]; exact r.no a h
  dj := r.dj

/-- a dict of the base is locked -/
theorem Ok.lock {K : PySem.W.Frag} {B : Base} {H : Hp} {w : Wl} (r : Ok K w B H) {d : Addr} {kvs : List (Key × V)} (hb : B.hp d = some (.dK kvs)) (hd : H d = some (.dK kvs)) (od : Obj) : Ok K w (B.put d (.frz od (.dK kvs))) (upd H d (.frz od (.dK kvs))) ∧ Fu false B H (B.put d (.frz od (.dK kvs))) (upd H d (.frz od (.dK kvs))) := by
  have hm : d ∉ B.cs := fun z => by have := r.no d z; rw [hb] at this; cases this
  have le : B.Le (B.put d (.frz od (.dK kvs))) := ⟨fun a o e => by
    show ∃ o', upd B.hp d (.frz od (.dK kvs)) a = some o' ∧ Fz o o'
    by_cases ha : a = d
    · subst ha
      rw [hb] at e; cases e
      exact ⟨_, upd_same, .inr ⟨od, kvs, rfl, rfl⟩⟩
    · exact ⟨o, by rw [upd_ne ha]; exact e, .inl rfl⟩, fun _ _ e => e⟩
  have sm : Sm (B.put d (.frz od (.dK kvs))).hp (upd H d (.frz od (.dK kvs))) := fun a o e => by
    have e' : upd B.hp d (.frz od (.dK kvs)) a = some o := e
    by_cases ha : a = d
    · subst ha
      rw [upd_same] at e'; cases e'
      exact ⟨_, upd_same, .inl rfl⟩
    · rw [upd_ne ha] at e' ⊢
      exact r.sm a o e'
  refine ⟨⟨sm, r.len, fun i c e => ?_, fun a h => ?_, r.dj⟩, fun a o e n => ?_, le, sm, fun a e n _ _ => ?_, fun _ _ m => m, fun z => nomatch z⟩
  · obtain ⟨a, u, h1, h2, h3⟩ := r.on i c e
    have ha : a ≠ d := fun z => hm (by rw [← z]; exact List.mem_iff_getElem?.mpr ⟨i, h1⟩)
    exact ⟨a, u, h1, by rw [upd_ne ha]; exact h2, h3.mono le⟩
  · have ha : a ≠ d := fun z => hm (by rw [← z]; exact h)
    show upd B.hp d _ a = none
    rw [upd_ne ha]; exact r.no a h
  · by_cases ha : a = d
    · subst ha
      rw [hd] at e; cases e
      have hn : B.hp a ≠ none := by rw [hb]; exact fun z => nomatch z
      exact .inr ⟨rfl, hn, _, upd_same, .inr ⟨od, kvs, rfl, rfl⟩⟩
    · exact .inl (by rw [upd_ne ha]; exact e)
  · have ha : a ≠ d := fun z => by rw [z, hb] at e; cases e
    show upd B.hp d _ a = none
    rw [upd_ne ha]; exact e

/-! ### results -/
inductive Res (T A : Type) where
  | ok (a : A) (w : T)
  | exc (c : Str) (w : T)
  | fail
@[reducible] def Res.bind {T A C : Type} (x : Res T A) (f : A → T → Res T C) : Res T C :=
  match x with
  | .ok a w => f a w
  | .exc c w => .exc c w
  | .fail => .fail
end G
namespace G
open PySem L2

abbrev Env := List (Option D)
structure EnvR (K : PySem.W.Frag) (B : Base) (sg : St) (rh : Env) : Prop where
  len : rh.length = sg.length
  on : ∀ (i : Nat) (d : D), rh[i]? = some (some d) → ∃ v, sg[i]? = some (some v) ∧ Rep K B d v
theorem EnvR.mono {K : PySem.W.Frag} {B B' : Base} {sg : St} {rh : Env} (e : B.Le B') (h : EnvR K B sg rh) : EnvR K B' sg rh := ⟨h.len, fun i d q =>
  let ⟨v, h1, h2⟩ := h.on i d q; ⟨v, h1, Rep.mono e d v h2⟩⟩

/-- what comes of a result: Rp tells how what is told stands in the base -/
def Out {A V' : Type} (W : Bool) (K : PySem.W.Frag) (E : XK) (Rp : Base → A → V' → Prop) (B : Base) (H : Hp) (Q : V' → Hp → Prop) : Res Wl A → Prop
  | .ok a w' => ∀ v B' H', Fu W B H B' H' → Ok K w' B' H' → Rp B' a v → Q v H'
  | .exc c w' => ∀ B' H', Fu W B H B' H' → Ok K w' B' H' → E (.ref (He.ga K c)) none H'
  | .fail => False
/-- what is wished of exceptions may hang on the slots -/
abbrev XS := St → XK
abbrev cst (E : XK) : XS := fun _ => E
def tG {A V' : Type} (W : Bool) (K : PySem.W.Frag) (E : XS) (Rp : Base → A → V' → Prop) (f : Env → Wl → Res Wl A) : St → Hp → (V' → Hp → Prop) → Prop :=
  fun sg H Q => ∃ rh w B, Sm B.hp H ∧ EnvR K B sg rh ∧ Ok K w B H ∧ Out W K (E sg) Rp B H Q (f rh w)

section
variable {W : Bool} {K : PySem.W.Frag} {E : XK} {A V' C V2 : Type} {Rp : Base → A → V' → Prop} {Rq : Base → C → V2 → Prop} {B B1 : Base} {H H1 : Hp} {Q : V' → Hp → Prop}
theorem Out.shift {w w1 : Wl} {m : Res Wl A} (r : Ok K w B H) (r1 : Ok K w1 B1 H1) (f : Fu W B H B1 H1) (h : Out W K E Rp B H Q m) : Out W K E Rp B1 H1 Q m := by
  cases m with
  | ok a w' => exact fun v B' H' f' r' p => h v B' H' (f.trans f') r' p
  | exc c w' => exact fun B' H' f' r' => h B' H' (f.trans f') r'
  | fail => exact h
theorem Out.imp {Q' : V' → Hp → Prop} {m : Res Wl A} (h : Out W K E Rp B H Q m) (q : ∀ v H', Q v H' → Q' v H') : Out W K E Rp B H Q' m := by
  cases m with
  | ok a w' => exact fun v B' H' f' r' p => q _ _ (h v B' H' f' r' p)
  | exc c w' => exact h
  | fail => exact h
theorem Out.bind {Q : V2 → Hp → Prop} {w : Wl} {m : Res Wl A} {k : A → Wl → Res Wl C} (r : Ok K w B H) (h : Out W K E Rq B H Q (m.bind k)) :
    Out W K E Rp B H (fun v H1 => ∃ a w1 B1, Fu W B H B1 H1 ∧ Ok K w1 B1 H1 ∧ Rp B1 a v ∧ Out W K E Rq B1 H1 Q (k a w1)) m := by
  cases m with
  | ok a w1 => exact fun v B1 H1 f r1 p => ⟨a, w1, B1, f, r1, p, Out.shift r r1 f h⟩
  | exc c w' => exact h
  | fail => exact h
/-- f then k: what k wants is asked behind f -/
theorem tG_bind {E : XS} {Q : V2 → Hp → Prop} {sg : St} {f : Env → Wl → Res Wl A} {k : Env → A → Wl → Res Wl C} (h : tG W K E Rq (fun rh w => (f rh w).bind (k rh)) sg H Q) :
    tG W K E Rp f sg H (fun v H1 => ∃ rh a w1 B1, Sm B1.hp H1 ∧ EnvR K B1 sg rh ∧ Ok K w1 B1 H1 ∧ Rp B1 a v ∧ Out W K (E sg) Rq B1 H1 Q (k rh a w1)) := by
  obtain ⟨rh, w, B, hb, he, r, o⟩ := h
  refine ⟨rh, w, B, hb, he, r, (Out.bind r o).imp fun v H1 q => ?_⟩
  obtain ⟨a, w1, B1, f1, r1, p, o1⟩ := q
  exact ⟨rh, a, w1, B1, f1.bh, he.mono f1.b, r1, p, o1⟩
theorem tG_imp {E : XS} {Q' : V' → Hp → Prop} {sg : St} {f : Env → Wl → Res Wl A} (h : tG W K E Rp f sg H Q) (q : ∀ v H', Q v H' → Q' v H') : tG W K E Rp f sg H Q' := by
  obtain ⟨rh, w, B, hb, he, r, o⟩ := h
  exact ⟨rh, w, B, hb, he, r, o.imp q⟩
/-- a value told at once -/
theorem Out.now {a : A} {w : Wl} {v : V'} (hb : Sm B.hp H) (r : Ok K w B H) (p : Rp B a v) (h : Out W K E Rp B H Q (.ok a w)) : Q v H := h v B H (Fu.refl hb) r p
end

/-! ### readings of expressions, tests, argument lists -/
abbrev SE (T : Type) := Env → T → Res T D
abbrev SB (T : Type) := Env → T → Res T Bool
abbrev SL (T : Type) := Env → T → Res T (List D)
abbrev RpE (K : PySem.W.Frag) : Base → D → V → Prop := fun B d v => Rep K B d v
abbrev RpT : Base → Bool → Bool → Prop := fun _ b c => c = b
abbrev RpA (K : PySem.W.Frag) : Base → List D → List V → Prop := fun B ds vs => Reps K B ds vs
abbrev tD (W : Bool) (K : PySem.W.Frag) (E : XS) (f : SE Wl) : TE := tG W K E (RpE K) f
abbrev tT (W : Bool) (K : PySem.W.Frag) (E : XS) (f : SB Wl) : TT := tG W K E RpT f
abbrev tL (W : Bool) (K : PySem.W.Frag) (E : XS) (f : SL Wl) : TA := tG W K E (RpA K) f

theorem _root_.L2.PE.weak {X : Cx} {e : Expr} {t t' : TE} (h : PE X e t) (w : ∀ sg H Q, t' sg H Q → t sg H Q) : PE X e t' := ⟨fun pins s sg H Q I q => h.run pins s sg H Q I (w _ _ _ q)⟩
theorem _root_.L2.PT.weak {X : Cx} {e : Expr} {t t' : TT} (h : PT X e t) (w : ∀ sg H Q, t' sg H Q → t sg H Q) : PT X e t' := ⟨fun pins s sg H Q I q => h.run pins s sg H Q I (w _ _ _ q)⟩
theorem _root_.L2.PA.weak {X : Cx} {es : List Expr} {t t' : TA} (h : PA X es t) (w : ∀ sg H Q, t' sg H Q → t sg H Q) : PA X es t' := ⟨fun pos pins s sg H Q I q => h.run pos pins s sg H Q I (w _ _ _ q)⟩
theorem _root_.L2.PS.weak {X : Cx} {e : Stmt} {t t' : TS} (h : PS X e t) (w : ∀ Ds sg H, t' Ds sg H → t Ds sg H) : PS X e t' := ⟨fun pins s sg H Ds I q => h.run pins s sg H Ds I (w _ _ _ q)⟩
theorem _root_.L2.PSs.weak {X : Cx} {e : List Stmt} {t t' : TS} (h : PSs X e t) (w : ∀ Ds sg H, t' Ds sg H → t Ds sg H) : PSs X e t' := ⟨fun pins s sg H Ds I q => h.run pins s sg H Ds I (w _ _ _ q)⟩

section
variable {T : Type}
def eVar (i : Nat) : SE T := fun rh w => match rh[i]? with
  | some (some d) => .ok d w
  | _ => .fail
def eCon (d : D) : SE T := fun _ w => .ok d w
def lift (o : Option D) (w : T) : Res T D := match o with
  | some d => .ok d w
  | none => .fail
def liftB (o : Option Bool) (w : T) : Res T Bool := match o with
  | some d => .ok d w
  | none => .fail
def eOp (g : D → D → Option D) (fa fb : SE T) : SE T := fun rh w => (fa rh w).bind fun x w1 => (fb rh w1).bind fun y w2 => lift (g x y) w2
def eUn (g : D → Option D) (fa : SE T) : SE T := fun rh w => (fa rh w).bind fun x w1 => lift (g x) w1
def lNil : SL T := fun _ w => .ok [] w
def lCons (fa : SE T) (fs : SL T) : SL T := fun rh w => (fa rh w).bind fun x w1 => (fs rh w1).bind fun xs w2 => .ok (x :: xs) w2
def eTup (fs : SL T) : SE T := fun rh w => (fs rh w).bind fun xs w1 => if xs.length ≤ 100000 then .ok (.tup xs) w1 else .fail
def eLst (fs : SL T) : SE T := fun rh w => (fs rh w).bind fun xs w1 => if xs.length ≤ 100000 then .ok (.lst xs) w1 else .fail
/-- a built-in of arguments -/
def eBlt (g : List D → Option D) (fs : SL T) : SE T := fun rh w => (fs rh w).bind fun xs w1 => lift (g xs) w1
/-- a def of one's own -/
def eCall (m : List D → T → Res T D) (fs : SL T) : SE T := fun rh w => (fs rh w).bind fun xs w1 => m xs w1
def eIf (t : SB T) (fa fb : SE T) : SE T := fun rh w => (t rh w).bind fun b w1 => if b then fa rh w1 else fb rh w1
/-- and, or, not as values of truths -/
def isB : D → Option Bool
  | .bl b => some b
  | _ => none
def eAnd (fa fb : SE T) : SE T := fun rh w => (fa rh w).bind fun x w1 => (liftB (isB x) w1).bind fun b w2 => if b then fb rh w2 else .ok (.bl false) w2
def eOr (fa fb : SE T) : SE T := fun rh w => (fa rh w).bind fun x w1 => (liftB (isB x) w1).bind fun b w2 => if b then .ok (.bl true) w2 else fb rh w2
/-- tests -/
def bAnd (a b : SB T) : SB T := fun rh w => (a rh w).bind fun x w1 => if x then b rh w1 else .ok false w1
def bOr (a b : SB T) : SB T := fun rh w => (a rh w).bind fun x w1 => if x then .ok true w1 else b rh w1
def bNot (a : SB T) : SB T := fun rh w => (a rh w).bind fun x w1 => .ok (!x) w1
/-- truth of a value -/
def truD : D → Option Bool
  | .non => some false
  | .bl b => some b
  | .int i => some (i != 0)
  | .str x => if x.length ≤ 100000 then some ((x.length : Int) != 0) else none
  | .tup xs => some (!xs.isEmpty)
  | .lst xs => some (!xs.isEmpty)
  | .scr xs => some (!xs.isEmpty)
  | _ => none
def bTru (fa : SE T) : SB T := fun rh w => (fa rh w).bind fun x w1 => liftB (truD x) w1
/-- a comparison's answer -/
def bVal (fa : SE T) : SB T := fun rh w => (fa rh w).bind fun x w1 => liftB (isB x) w1
def eChain (g g' : D → D → Option D) (fa fb fc : SE T) : SE T := fun rh w => (fa rh w).bind fun x w1 => (fb rh w1).bind fun y w2 => (lift (g x y) w2).bind fun z w3 => (liftB (isB z) w3).bind fun k w4 => if k then (fc rh w4).bind fun u w5 => lift (g' y u) w5 else .ok (.bl false) w4
end

section
variable {X : Cx} {W : Bool} {E : XS} {a b c : Expr} {fa fb fc : SE Wl} {pos : Pos}
theorem rep_bl {K : PySem.W.Frag} {B : Base} {d : D} {b : Bool} {v : V} (e : isB d = some b) (h : Rep K B d v) : v = .bl b := by
  cases d with
  | bl c => cases e; exact h
  | _ => cases e
theorem tru_rep {K : PySem.W.Frag} {B : Base} {H : Hp} {d : D} {b : Bool} {v : V} (hb : Sm B.hp H) (e : truD d = some b) (h : Rep K B d v) : TruV K v H b := by
  cases d with
  | non => cases e; cases (show v = .non from h); exact rfl
  | bl c => cases e; cases (show v = .bl b from h); exact rfl
  | int i => cases e; cases (show v = .int i from h); exact rfl
  | str x =>
    cases (show v = .str x from h)
    have e2 : (if x.length ≤ 100000 then some ((x.length : Int) != 0) else none) = some b := e
    split at e2
    · rename_i hl
      cases e2; exact ⟨Nat.le_trans hl (by decide), rfl⟩
    · cases e2
  | tup xs =>
    cases e
    obtain ⟨a, vs, rfl, h1, h2⟩ := h
    refine .inr (.inl ⟨vs, same_t hb h1, ?_⟩)
    have := h2.length
    cases xs with
    | nil => cases (show vs = [] from h2); rfl
    | cons x r => obtain ⟨v, r', rfl, _⟩ := h2; rfl
  | lst xs =>
    cases e
    obtain ⟨a, vs, rfl, h1, h2⟩ := h
    refine .inl ⟨vs, same_l hb h1, ?_⟩
    cases xs with
    | nil => cases (show vs = [] from h2); rfl
    | cons x r => obtain ⟨v, r', rfl, _⟩ := h2; rfl
  | scr xs =>
    cases e
    obtain ⟨a, rfl, h1⟩ := h
    refine .inl ⟨_, same_sl hb h1, ?_⟩
    cases xs <;> rfl
  | _ => cases e

theorem pe_varD {x : Str} {i : Nat} (h : PE X (.Name x pos) (tVar i)) : PE X (.Name x pos) (tD W X.K E (eVar i)) := h.weak fun sg H Q q => by
  obtain ⟨rh, w, B, hb, he, r, o⟩ := q
  unfold eVar at o
  split at o
  · rename_i d hd
    obtain ⟨v, h1, h2⟩ := he.on i d hd
    exact ⟨v, h1, Out.now hb r h2 o⟩
  · exact o.elim
theorem pe_conD {e : Expr} {d : D} {v : V} (h : PE X e (tC v)) (hr : ∀ B, Rep X.K B d v) : PE X e (tD W X.K E (eCon d)) := h.weak fun sg H Q q => by
  obtain ⟨rh, w, B, hb, he, r, o⟩ := q
  exact Out.now hb r (hr B) o

/-- a rule by values does what g tells -/
def OpOk (W : Bool) (K : PySem.W.Frag) (r : R2) (g : D → D → Option D) : Prop := ∀ (B : Base) (H : Hp) (w : Wl) (x y : V) (p q d : D) (Q : VK), Sm B.hp H → Ok K w B H → Rep K B p x → Rep K B q y → g p q = some d →
  (∀ v B' H', Fu W B H B' H' → Ok K w B' H' → Rep K B' d v → Q v H') → r x y H Q
theorem out_lift {E : XK} {K : PySem.W.Frag} {B : Base} {H : Hp} {Q : VK} {o : Option D} {w : Wl} (h : Out W K E (RpE K) B H Q (lift o w)) : ∃ d, o = some d ∧ ∀ v B' H', Fu W B H B' H' → Ok K w B' H' → Rep K B' d v → Q v H' := by
  cases o with
  | none => exact h.elim
  | some d => exact ⟨d, rfl, h⟩
theorem out_liftB {E : XK} {K : PySem.W.Frag} {B : Base} {H : Hp} {Q : Bool → Hp → Prop} {o : Option Bool} {w : Wl} (hb : Sm B.hp H) (r : Ok K w B H) (h : Out W K E RpT B H Q (liftB o w)) : ∃ d, o = some d ∧ Q d H := by
  cases o with
  | none => exact h.elim
  | some d => exact ⟨d, rfl, h d B H (Fu.refl hb) r rfl⟩
theorem tOp_D {r : R2} {g : D → D → Option D} (ok : OpOk W X.K r g) {sg : St} {H : Hp} {Q : VK} (q : tD W X.K E (eOp g fa fb) sg H Q) : tOp r (tD W X.K E fa) (tD W X.K E fb) sg H Q := by
  refine tG_imp (tG_bind (Rp := RpE X.K) q) fun x H1 q1 => ?_
  obtain ⟨rh, p, w1, B1, hb1, he1, r1, px, o1⟩ := q1
  refine ⟨rh, w1, B1, hb1, he1, r1, (Out.bind (Rp := RpE X.K) r1 o1).imp fun y H2 q2 => ?_⟩
  obtain ⟨d2, w2, B2, f2, r2, py, o2⟩ := q2
  obtain ⟨d, e, k⟩ := out_lift o2
  exact ok B2 H2 w2 x y p d2 d Q f2.bh r2 (Rep.mono f2.b _ _ px) py e k
theorem pe_binD {op : Operator} {r : R2} {g : D → D → Option D} (ho : OpR X (binaryOp op) r) (ok : OpOk W X.K r g) (ha : PE X a (tD W X.K E fa)) (hb : PE X b (tD W X.K E fb)) : PE X (.BinOp a op b pos) (tD W X.K E (eOp g fa fb)) :=
  (pe_op ho ha hb).weak fun _ _ _ q => tOp_D ok q
theorem pe_cmpD {op : CmpOp} {r : R2} {g : D → D → Option D} (ho : OpR X (compareOp op) r) (ok : OpOk W X.K r g) (ha : PE X a (tD W X.K E fa)) (hb : PE X b (tD W X.K E fb)) (hm : behindInMarks op b = false) : PE X (.Compare a [op] [b] pos) (tD W X.K E (eOp g fa fb)) :=
  (pe_cmpR ho ha hb hm).weak fun _ _ _ q => tOp_D ok q
theorem pt_cmpD {op : CmpOp} {r : R2} {g : D → D → Option D} (ho : OpR X (compareOp op) r) (ok : OpOk W X.K r g) (ha : PE X a (tD W X.K E fa)) (hb : PE X b (tD W X.K E fb)) (hm : behindInMarks op b = false) : PT X (.Compare a [op] [b] pos) (tT W X.K E (bVal (eOp g fa fb))) :=
  (pt_cmpR ho ha hb hm).weak fun sg H Q q => by
    refine tOp_D ok (tG_imp (tG_bind (Rp := RpE X.K) q) fun v H1 q1 => ?_)
    obtain ⟨rh, p, w1, B1, hb1, he1, r1, px, o1⟩ := q1
    obtain ⟨d, e, k⟩ := out_liftB hb1 r1 o1
    exact ⟨d, rep_bl e px, k⟩
theorem pe_ixD {r : R2} {g : D → D → Option D} (ho : IxR X r) (ok : OpOk W X.K r g) (ha : PE X a (tD W X.K E fa)) (hb : PE X b (tD W X.K E fb)) (hs : PlainIx b) : PE X (.Subscript a b pos) (tD W X.K E (eOp g fa fb)) :=
  (pe_ix ho ha hb hs).weak fun _ _ _ q => tOp_D ok q
def UnOk (W : Bool) (K : PySem.W.Frag) (r : V → Hp → VK → Prop) (g : D → Option D) : Prop := ∀ (B : Base) (H : Hp) (w : Wl) (x : V) (p d : D) (Q : VK), Sm B.hp H → Ok K w B H → Rep K B p x → g p = some d →
  (∀ v B' H', Fu W B H B' H' → Ok K w B' H' → Rep K B' d v → Q v H') → r x H Q
theorem pe_unD {op : UnaryOp} {r : V → Hp → VK → Prop} {g : D → Option D} (ho : UnR X (unaryOp op) r) (ok : UnOk W X.K r g) (ha : PE X a (tD W X.K E fa)) : PE X (.UnaryOp op a pos) (tD W X.K E (eUn g fa)) :=
  (pe_un ho ha).weak fun sg H Q q => by
    refine tG_imp (tG_bind (Rp := RpE X.K) q) fun x H1 q1 => ?_
    obtain ⟨rh, p, w1, B1, hb1, he1, r1, px, o1⟩ := q1
    obtain ⟨d, e, k⟩ := out_lift o1
    exact ok B1 H1 w1 x p d Q hb1 r1 px e k

/-! ### lists of arguments -/
theorem pa_nilD : PA X [] (tL W X.K E lNil) := pa_nil.weak fun sg H Q q => by
  obtain ⟨rh, w, B, hb, he, r, o⟩ := q
  exact Out.now hb r (show Reps X.K B [] [] from rfl) o
theorem pa_consD {es : List Expr} {fs : SL Wl} (ha : PE X a (tD W X.K E fa)) (hr : PA X es (tL W X.K E fs)) (hs : starEach (a :: es) X.env = (false, eval a X.env) :: starEach es X.env) : PA X (a :: es) (tL W X.K E (lCons fa fs)) :=
  (pa_cons ha hr hs).weak fun sg H Q q => by
    refine tG_imp (tG_bind (Rp := RpE X.K) q) fun x H1 q1 => ?_
    obtain ⟨rh, p, w1, B1, hb1, he1, r1, px, o1⟩ := q1
    refine ⟨rh, w1, B1, hb1, he1, r1, (Out.bind (Rp := RpA X.K) r1 o1).imp fun ys H2 q2 => ?_⟩
    obtain ⟨ds, w2, B2, f2, r2, py, o2⟩ := q2
    exact Out.now f2.bh r2 (show Reps X.K B2 (p :: ds) (x :: ys) from ⟨x, ys, rfl, Rep.mono f2.b _ _ px, py⟩) o2
theorem sz5 {n : Nat} (h : n ≤ 100000) : n ≤ sizeLine := Nat.le_trans h (by decide)
theorem sqL_new {K : PySem.W.Frag} {B : Base} {p : Addr} {vs : List V} : SqL K (upd B.hp p (.lst vs)) p vs := .inl (.inl upd_same)
theorem same_new {W : Bool} {K : PySem.W.Frag} {B : Base} {H : Hp} {w : Wl} (r : Ok K w B H) (hb : Sm B.hp H) {p : Addr} (hp : H p = none) (o : HO) : B.Le (B.put p o) := (Fu.new (W := W) r hb hp o).1.b
theorem pe_tupD {es : List Expr} {fs : SL Wl} {k : Nat} (h : PA X es (tL W X.K E fs)) : PE X (.Tuple es k pos) (tD W X.K E (eTup fs)) := (pe_tupF h).weak fun sg H Q q => by
  refine tG_imp (tG_bind (Rp := RpA X.K) q) fun xs H1 q1 => ?_
  obtain ⟨rh, ds, w1, B1, hb1, he1, r1, px, o1⟩ := q1
  split at o1
  · rename_i hl
    refine ⟨by rw [px.length]; exact sz5 hl, fun p ob ho hp => ?_⟩
    obtain ⟨f, r'⟩ := Fu.new r1 hb1 hp (.frz ob (.tup xs))
    exact o1 (.ref p) _ _ f r' ⟨p, xs, rfl, tupF_new ho, Reps.mono f.b _ _ px⟩
  · exact o1.elim
theorem pe_lstD {es : List Expr} {fs : SL Wl} (h : PA X es (tL W X.K E fs)) : PE X (.List es pos) (tD W X.K E (eLst fs)) := (pe_lst h).weak fun sg H Q q => by
  refine tG_imp (tG_bind (Rp := RpA X.K) q) fun xs H1 q1 => ?_
  obtain ⟨rh, ds, w1, B1, hb1, he1, r1, px, o1⟩ := q1
  split at o1
  · rename_i hl
    refine ⟨by rw [px.length]; exact sz5 hl, fun p hp => ?_⟩
    obtain ⟨f, r'⟩ := Fu.new r1 hb1 hp (.lst xs)
    exact o1 (.ref p) _ _ f r' ⟨p, xs, rfl, upd_same, Reps.mono f.b _ _ px⟩
  · exact o1.elim

/-! ### calls -/
/-- the promise of a def whose data function is m -/
def spD (W : Bool) (K : PySem.W.Frag) (n : Nat) (m : List D → Wl → Res Wl D) : Sp := fun vs H Q E => ∃ ds w B, ds.length = n ∧ Sm B.hp H ∧ Ok K w B H ∧ Reps K B ds vs ∧ Out W K E (RpE K) B H Q (m ds w)
/-- a def as callers know it -/
structure FnD (X : Cx) (W : Bool) (k : Nat) (x : Str) (n : Nat) (m : List D → Wl → Res Wl D) : Prop where
  ex : ∃ f fd ps, FnOk X.prog X.w X.K X.mg X.base (L2.CX X.prog X.w) k f fd ps (spD W X.K n m) ∧ X.mg x = some (.ref f) ∧ PySem.W.keepIn X.K (.ref f) = true ∧ Binds X.K fd ps []
theorem pe_callD {x : Str} {p : Pos} {e : Expr} {es : List Expr} {fs : SL Wl} {k n : Nat} {m : List D → Wl → Res Wl D} (F : FnD X W k x n m) (hr : Room k X.A) (hg : Gl X x) (hx : ∀ sg, PassesAt (L2.CX X.prog X.w) X sg (E sg)) (ha : PA X (e :: es) (tL W X.K E fs))
    (hs : starEach (e :: es) X.env = (false, eval e X.env) :: starEach es X.env) (hp : (backTo pos (starEach es X.env)).any (·.1) = false) (hd : (x == ("__debug__" : Str)) = false)
    (hn : ∀ rh w ds w', fs rh w = .ok ds w' → ds.length = n) : PE X (.Call (.Name x p) (e :: es) [] pos) (tD W X.K E (eCall m fs)) := by
  obtain ⟨f, fd, ps, Fk, hm, hk, hb⟩ := F.ex
  refine L2.PE.weak (pe_callS Fk hr hg hm hk hb hx ha hd hs hp) fun sg H Q q => ?_
  obtain ⟨rh, w, B, hB, he, r, o⟩ := q
  refine ⟨rh, w, B, hB, he, r, ?_⟩
  have o' := Out.bind (Rp := RpA X.K) r o
  have hl := hn rh w
  cases hf : fs rh w with
  | fail => rw [hf] at o'; exact o'
  | exc c w' => rw [hf] at o'; exact o'
  | ok ds w1 =>
    rw [hf] at o' hl
    intro vs B1 H1 f1 r1 p1
    obtain ⟨ds', w1', B1', f1', r1', p1', o1⟩ := o' vs B1 H1 f1 r1 p1
    have hl2 := hl ds w1 rfl
    have o2 : Out W X.K (E sg) (RpE X.K) B H Q (m ds w1) := by
      have o3 := o
      simp only [eCall, hf, Res.bind] at o3
      exact o3
    exact ⟨ds, w1, B1, hl2, f1.bh, r1, p1, Out.shift r r1 f1 o2⟩
end
end G
namespace G
open PySem L2

/-! ### and, or, not, if, chains, truth -/
section
variable {X : Cx} {W : Bool} {E : XS} {a b c : Expr} {fa fb fc : SE Wl} {ba bb : SB Wl} {pos : Pos} {rest : List Expr}
theorem tAndV_D {sg : St} {H : Hp} {Q : VK} (q : tD W X.K E (eAnd fa fb) sg H Q) : tAndV (tD W X.K E fa) (tD W X.K E fb) sg H Q := by
  refine tG_imp (tG_bind (Rp := RpE X.K) q) fun x H1 q1 => ?_
  obtain ⟨rh, p, w1, B1, hb1, he1, r1, px, o1⟩ := q1
  cases e : isB p with
  | none => rw [e] at o1; exact o1.elim
  | some k =>
    rw [e] at o1
    refine ⟨k, rep_bl e px, ?_⟩
    cases k with
    | true =>
      show tD W X.K E fb sg H1 Q
      exact ⟨rh, w1, B1, hb1, he1, r1, o1⟩
    | false =>
      show Q (.bl false) H1
      exact Out.now hb1 r1 (show Rep X.K B1 (.bl false) (.bl false) from rfl) o1
theorem tOrV_D {sg : St} {H : Hp} {Q : VK} (q : tD W X.K E (eOr fa fb) sg H Q) : tOrV (tD W X.K E fa) (tD W X.K E fb) sg H Q := by
  refine tG_imp (tG_bind (Rp := RpE X.K) q) fun x H1 q1 => ?_
  obtain ⟨rh, p, w1, B1, hb1, he1, r1, px, o1⟩ := q1
  cases e : isB p with
  | none => rw [e] at o1; exact o1.elim
  | some k =>
    rw [e] at o1
    refine ⟨k, rep_bl e px, ?_⟩
    cases k with
    | true =>
      show Q (.bl true) H1
      exact Out.now hb1 r1 (show Rep X.K B1 (.bl true) (.bl true) from rfl) o1
    | false =>
      show tD W X.K E fb sg H1 Q
      exact ⟨rh, w1, B1, hb1, he1, r1, o1⟩
theorem pe_andD (ha : PE X a (tD W X.K E fa)) (hb : PE X (.BoolOp .And (b :: rest) pos) (tD W X.K E fb)) : PE X (.BoolOp .And (a :: b :: rest) pos) (tD W X.K E (eAnd fa fb)) := (pe_and ha hb).weak fun _ _ _ q => tAndV_D q
theorem pe_orD (ha : PE X a (tD W X.K E fa)) (hb : PE X (.BoolOp .Or (b :: rest) pos) (tD W X.K E fb)) : PE X (.BoolOp .Or (a :: b :: rest) pos) (tD W X.K E (eOr fa fb)) := (pe_or ha hb).weak fun _ _ _ q => tOrV_D q
def notB : D → Option D
  | .bl b => some (.bl (!b))
  | _ => none
theorem pe_notD (ha : PE X a (tD W X.K E fa)) : PE X (.UnaryOp .Not a pos) (tD W X.K E (eUn notB fa)) := (pe_not ha).weak fun sg H Q q => by
  refine tG_imp (tG_bind (Rp := RpE X.K) q) fun x H1 q1 => ?_
  obtain ⟨rh, p, w1, B1, hb1, he1, r1, px, o1⟩ := q1
  obtain ⟨d, e, k⟩ := out_lift o1
  cases p with
  | bl z =>
    cases e
    cases (show x = .bl z from px)
    exact ⟨z, rfl, k _ _ _ (Fu.refl hb1) r1 rfl⟩
  | _ => cases e
theorem tIf_D {sg : St} {H : Hp} {Q : VK} (q : tD W X.K E (eIf ba fa fb) sg H Q) : tIf (tT W X.K E ba) (tD W X.K E fa) (tD W X.K E fb) sg H Q := by
  refine tG_imp (tG_bind (Rp := RpT) q) fun k H1 q1 => ?_
  obtain ⟨rh, p, w1, B1, hb1, he1, r1, px, o1⟩ := q1
  cases (show k = p from px)
  cases k with
  | true => exact ⟨rh, w1, B1, hb1, he1, r1, o1⟩
  | false => exact ⟨rh, w1, B1, hb1, he1, r1, o1⟩
theorem pe_ifD (ht : PT X c (tT W X.K E ba)) (ha : PE X a (tD W X.K E fa)) (hb : PE X b (tD W X.K E fb)) : PE X (.IfExp c a b pos) (tD W X.K E (eIf ba fa fb)) := (pe_ifExp ht ha hb).weak fun _ _ _ q => tIf_D q
theorem tChain_D {r r' : R2} {g g' : D → D → Option D} (ok : OpOk W X.K r g) (ok' : OpOk W X.K r' g') {sg : St} {H : Hp} {Q : VK} (q : tD W X.K E (eChain g g' fa fb fc) sg H Q) : tChain r r' (tD W X.K E fa) (tD W X.K E fb) (tD W X.K E fc) sg H Q := by
  refine tG_imp (tG_bind (Rp := RpE X.K) q) fun x H1 q1 => ?_
  obtain ⟨rh, p, w1, B1, hb1, he1, r1, px, o1⟩ := q1
  refine ⟨rh, w1, B1, hb1, he1, r1, (Out.bind (Rp := RpE X.K) r1 o1).imp fun y H2 q2 => ?_⟩
  obtain ⟨d2, w2, B2, f2, r2, py, o2⟩ := q2
  cases e : g p d2 with
  | none => rw [e] at o2; exact o2.elim
  | some z =>
    rw [e] at o2
    have o3 : Out W X.K (E sg) (RpE X.K) B2 H2 Q ((liftB (isB z) w2).bind fun k w4 => if k then (fc rh w4).bind fun u w5 => lift (g' d2 u) w5 else .ok (.bl false) w4) := o2
    refine ok B2 H2 w2 x y p d2 z _ f2.bh r2 (Rep.mono f2.b _ _ px) py e fun v B3 H3 f3 r3 pz => ?_
    cases e2 : isB z with
    | none => rw [e2] at o3; exact o3.elim
    | some k =>
      rw [e2] at o3
      refine ⟨k, rep_bl e2 pz, ?_⟩
      have o4 := Out.shift r2 r3 f3 o3
      cases k with
      | true =>
        show tD W X.K E fc sg H3 fun w' H4 => r' y w' H4 Q
        have o5 : Out W X.K (E sg) (RpE X.K) B3 H3 Q ((fc rh w2).bind fun u w5 => lift (g' d2 u) w5) := o4
        refine ⟨rh, w2, B3, f3.bh, (he1.mono f2.b).mono f3.b, r3, (Out.bind (Rp := RpE X.K) r3 o5).imp fun u H4 q4 => ?_⟩
        obtain ⟨d4, w4, B4, f4, r4, pu, o6⟩ := q4
        obtain ⟨d, e3, k3⟩ := out_lift o6
        exact ok' B4 H4 w4 y u d2 d4 d Q f4.bh r4 (Rep.mono f4.b _ _ (Rep.mono f3.b _ _ py)) pu e3 k3
      | false =>
        show Q (.bl false) H3
        exact Out.now f3.bh r3 (show Rep X.K B3 (.bl false) (.bl false) from rfl) (show Out W X.K (E sg) (RpE X.K) B3 H3 Q (.ok (.bl false) w2) from o4)
theorem pe_chainD {op op' : CmpOp} {r r' : R2} {g g' : D → D → Option D} (ho : OpR X (compareOp op) r) (ok : OpOk W X.K r g) (ho' : OpR X (compareOp op') r') (ok' : OpOk W X.K r' g') (ha : PE X a (tD W X.K E fa)) (hb : PE X b (tD W X.K E fb)) (hc : PE X c (tD W X.K E fc))
    (hm : lastMarks [op, op'] [b, c] = false) : PE X (.Compare a [op, op'] [b, c] pos) (tD W X.K E (eChain g g' fa fb fc)) := (pe_chain ho ho' ha hb hc hm).weak fun _ _ _ q => tChain_D ok ok' q
theorem pt_chainD {op op' : CmpOp} {r r' : R2} {g g' : D → D → Option D} (ho : OpR X (compareOp op) r) (ok : OpOk W X.K r g) (ho' : OpR X (compareOp op') r') (ok' : OpOk W X.K r' g') (ha : PE X a (tD W X.K E fa)) (hb : PE X b (tD W X.K E fb)) (hc : PE X c (tD W X.K E fc))
    (hm : lastMarks [op, op'] [b, c] = false) : PT X (.Compare a [op, op'] [b, c] pos) (tT W X.K E (bVal (eChain g g' fa fb fc))) := (pt_chain ho ho' ha hb hc hm).weak fun sg H Q q => by
  refine tChain_D ok ok' (tG_imp (tG_bind (Rp := RpE X.K) q) fun v H1 q1 => ?_)
  obtain ⟨rh, p, w1, B1, hb1, he1, r1, px, o1⟩ := q1
  obtain ⟨d, e, k⟩ := out_liftB hb1 r1 o1
  exact ⟨d, rep_bl e px, k⟩
/-- tests -/
theorem pw_andD (ha : PT X a (tT W X.K E ba)) (hb : PW X (.BoolOp .And (b :: rest) pos) (tT W X.K E bb)) : PW X (.BoolOp .And (a :: b :: rest) pos) (tT W X.K E (bAnd ba bb)) := ⟨fun wh pins s sg H Q I q => (pw_and ha hb).run wh pins s sg H Q I (by
  refine tG_imp (tG_bind (Rp := RpT) q) fun k H1 q1 => ?_
  obtain ⟨rh, p, w1, B1, hb1, he1, r1, px, o1⟩ := q1
  cases (show k = p from px)
  cases k with
  | true => exact ⟨rh, w1, B1, hb1, he1, r1, o1⟩
  | false =>
    show Q false H1
    exact Out.now (Rp := RpT) hb1 r1 (show RpT B1 false false from rfl) o1)⟩
theorem pw_orD (ha : PT X a (tT W X.K E ba)) (hb : PW X (.BoolOp .Or (b :: rest) pos) (tT W X.K E bb)) : PW X (.BoolOp .Or (a :: b :: rest) pos) (tT W X.K E (bOr ba bb)) := ⟨fun wh pins s sg H Q I q => (pw_or ha hb).run wh pins s sg H Q I (by
  refine tG_imp (tG_bind (Rp := RpT) q) fun k H1 q1 => ?_
  obtain ⟨rh, p, w1, B1, hb1, he1, r1, px, o1⟩ := q1
  cases (show k = p from px)
  cases k with
  | true =>
    show Q true H1
    exact Out.now (Rp := RpT) hb1 r1 (show RpT B1 true true from rfl) o1
  | false => exact ⟨rh, w1, B1, hb1, he1, r1, o1⟩)⟩
theorem pt_notD (ha : PT X a (tT W X.K E ba)) : PT X (.UnaryOp .Not a pos) (tT W X.K E (bNot ba)) := (pt_not ha).weak fun sg H Q q => by
  refine tG_imp (tG_bind (Rp := RpT) q) fun k H1 q1 => ?_
  obtain ⟨rh, p, w1, B1, hb1, he1, r1, px, o1⟩ := q1
  cases (show k = p from px)
  exact Out.now (Rp := RpT) hb1 r1 (show RpT B1 (!k) (!k) from rfl) o1
theorem pt_truD (ha : PE X a (tD W X.K E fa)) (he : ∀ whole, isTrue a X.env whole = (do let v ← whole; standAt a.pos; holding [v] (truthy v))) : PT X a (tT W X.K E (bTru fa)) := (pt_truth ha he).weak fun sg H Q q => by
  refine tG_imp (tG_bind (Rp := RpE X.K) q) fun x H1 q1 => ?_
  obtain ⟨rh, p, w1, B1, hb1, he1, r1, px, o1⟩ := q1
  obtain ⟨d, e, k⟩ := out_liftB hb1 r1 o1
  exact ⟨d, tru_rep hb1 e px, k⟩
end
end G
namespace G
open PySem L2

/-! ### data as the library's data -/
mutual
def toPy : D → Option PyData
  | .non => some .none
  | .bl b => some (.bool b)
  | .int i => some (.int i)
  | .str x => some (.str x)
  | .tup xs => (toPys xs).map .tuple
  | .lst xs => (toPys xs).map .list
  | _ => none
def toPys : List D → Option (List PyData)
  | [] => some []
  | x :: xs => match toPy x, toPys xs with
    | some p, some ps => some (p :: ps)
    | _, _ => none
end
section
variable {K : PySem.W.Frag} {B : Base} {H : Hp}
mutual
theorem dp_of (e : Sm B.hp H) : ∀ (d : D) (v : V) (p : PyData), toPy d = some p → Rep K B d v → Dp K H v p
  | .non, v, p, h, r => by cases h; cases (show v = .non from r); exact .non
  | .bl b, v, p, h, r => by cases h; cases (show v = .bl b from r); exact .bl b
  | .int b, v, p, h, r => by cases h; cases (show v = .int b from r); exact .int b
  | .str b, v, p, h, r => by cases h; cases (show v = .str b from r); exact .str b
  | .tup xs, v, p, h, r => by
    obtain ⟨ps, h1, rfl⟩ := Option.map_eq_some_iff.mp (show (toPys xs).map .tuple = some p from h)
    obtain ⟨a, vs, rfl, r1, r2⟩ := r
    exact .tup (same_t e r1) (dps_of e xs vs ps h1 r2)
  | .lst xs, v, p, h, r => by
    obtain ⟨ps, h1, rfl⟩ := Option.map_eq_some_iff.mp (show (toPys xs).map .list = some p from h)
    obtain ⟨a, vs, rfl, r1, r2⟩ := r
    exact .lst (same_l e r1) (dps_of e xs vs ps h1 r2)
  | .dic kvs, v, p, h, r => by cases h
  | .exc kvs, v, p, h, r => by cases h
  | .obj kvs, v, p, h, r => by cases h
  | .ty kvs, v, p, h, r => by cases h
  | .cls kvs, v, p, h, r => by cases h
  | .kys kvs, v, p, h, r => by cases h
  | .scr kvs, v, p, h, r => by cases h
theorem dps_of (e : Sm B.hp H) : ∀ (ds : List D) (vs : List V) (ps : List PyData), toPys ds = some ps → Reps K B ds vs → DpAll K H vs ps
  | [], vs, ps, h, r => by cases h; cases (show vs = [] from r); exact .nil
  | x :: xs, vs, ps, h, r => by
    obtain ⟨v, r', rfl, r1, r2⟩ := r
    cases h1 : toPy x with
    | none => rw [toPys, h1] at h; cases h
    | some p =>
      cases h2 : toPys xs with
      | none => rw [toPys, h1, h2] at h; cases h
      | some ps' =>
        rw [toPys, h1, h2] at h
        cases h
        exact .cons (dp_of e x v p h1 r1) (dps_of e xs r' ps' h2 r2)
end
end

/-! ### flat data -/
def vOf : D → Option V
  | .non => some .non
  | .bl b => some (.bl b)
  | .int i => some (.int i)
  | .str x => some (.str x)
  | _ => none
def vsOf : List D → Option (List V)
  | [] => some []
  | x :: xs => match vOf x, vsOf xs with
    | some v, some vs => some (v :: vs)
    | _, _ => none
theorem vOf_rep {K : PySem.W.Frag} {B : Base} {d : D} {v u : V} (e : vOf d = some u) (h : Rep K B d v) : v = u ∧ flatV u = true := by
  cases d with
  | non => cases e; exact ⟨h, rfl⟩
  | bl b => cases e; exact ⟨h, rfl⟩
  | int b => cases e; exact ⟨h, rfl⟩
  | str b => cases e; exact ⟨h, rfl⟩
  | _ => cases e
theorem vsOf_reps {K : PySem.W.Frag} {B : Base} : ∀ {ds : List D} {vs us : List V}, vsOf ds = some us → Reps K B ds vs → vs = us ∧ us.all flatV = true
  | [], vs, us, e, h => by cases e; cases (show vs = [] from h); exact ⟨rfl, rfl⟩
  | x :: xs, vs, us, e, h => by
    obtain ⟨v, r, rfl, h1, h2⟩ := h
    cases e1 : vOf x with
    | none => rw [vsOf, e1] at e; cases e
    | some p =>
      cases e2 : vsOf xs with
      | none => rw [vsOf, e1, e2] at e; cases e
      | some ps =>
        rw [vsOf, e1, e2] at e
        cases e
        obtain ⟨rfl, f1⟩ := vOf_rep e1 h1
        obtain ⟨rfl, f2⟩ := vsOf_reps e2 h2
        exact ⟨rfl, by rw [List.all_cons, f1, f2]; rfl⟩

/-! ### operations on data -/
def addD : D → D → Option D
  | .int i, .int j => some (.int (i + j))
  | .str x, .str y => if x.length + y.length ≤ 100000 then some (.str (x ++ y)) else none
  | .tup xs, .tup ys => if xs.length + ys.length ≤ 100000 then some (.tup (xs ++ ys)) else none
  | .lst xs, .lst ys => if xs.length + ys.length ≤ 100000 then some (.lst (xs ++ ys)) else none
  | _, _ => none
def subD : D → D → Option D
  | .int i, .int j => some (.int (i - j))
  | _, _ => none
def mulD : D → D → Option D
  | .int i, .int j => if i.natAbs < 2 ^ 64 then some (.int (i * j)) else if j.natAbs < 2 ^ 64 then some (.int (i * j)) else none
  | .lst xs, .int k => if 0 ≤ k ∧ xs.length * k.toNat ≤ 100000 ∧ k ≤ 100000 then some (.lst (List.replicate k.toNat xs).flatten) else none
  | _, _ => none
def modD : D → D → Option D
  | .int i, .int j => if 0 < j then some (.int (i % j)) else none
  | _, _ => none
def fdivD : D → D → Option D
  | .int i, .int j => if 0 < j ∧ j < 1073741824 then some (.int (i / j)) else none
  | _, _ => none
def powD : D → D → Option D
  | .int i, .int j => if 0 ≤ j ∧ j ≤ 1000 ∧ i.natAbs < 2 ^ 64 then some (.int (i ^ j.toNat)) else none
  | _, _ => none
def cmpI (p : Int → Int → Bool) : D → D → Option D
  | .int i, .int j => some (.bl (p i j))
  | _, _ => none
def eqB (a b : D) : Option Bool :=
  match a, b with
  | .str x, .str y => some (decide (x = y))
  | a, b => match toPy a, toPy b with
    | some p, some q => if SeqAt.shaped p && SeqAt.shaped q then some (PyData.eqv p q) else none
    | _, _ => none
def eqD (a b : D) : Option D := (eqB a b).map .bl
def neD (a b : D) : Option D := (eqB a b).map fun k => .bl (!k)
def valK (kvs : List (Key × D)) (k : Key) : Option D := (kvs.find? fun kv => decide (kv.1 = k)).map (·.2)
def keyOf : D → Option Key
  | .int i => some (.inl i)
  | .str x => some (.inr x)
  | _ => none
def inB (x c : D) : Option Bool :=
  match c with
  | .lst ds => match vOf x, vsOf ds with
    | some v, some vs => some (inV v vs)
    | _, _ => none
  | .tup ds => match vOf x, vsOf ds with
    | some v, some vs => some (inV v vs)
    | _, _ => none
  | .str y => match x with
    | .str z => some (!(Builtin.Str.occurrences y z 0 y.length 1).isEmpty)
    | _ => none
  | .dic kvs => match keyOf x with
    | some k => some (valK kvs k).isSome
    | none => none
  | _ => none
def inD (x c : D) : Option D := (inB x c).map .bl
def notInD (x c : D) : Option D := (inB x c).map fun k => .bl (!k)
def isNon : D → Option Bool
  | .non => some true
  | .obj _ => some false
  | .exc _ => some false
  | .bl _ => some false
  | .int _ => some false
  | .str _ => some false
  | .tup _ => some false
  | .lst _ => some false
  | .dic _ => some false
  | .ty _ => some false
  | .cls _ => some false
  | .kys _ => some false
  | .scr _ => some false
def isD (a b : D) : Option D := match b with
  | .non => (isNon a).map .bl
  | .bl k => match a with
    | .bl j => some (.bl (decide (j = k)))
    | _ => none
  | _ => none
def isNotD (a b : D) : Option D := match b with
  | .non => (isNon a).map fun k => .bl (!k)
  | .bl k => match a with
    | .bl j => some (.bl (!decide (j = k)))
    | _ => none
  | _ => none
def ixD (a i : D) : Option D := match a, i with
  | .lst xs, .int j => atI xs j
  | .scr xs, .int j => (atI xs j).map .int
  | .tup xs, .int j => atI xs j
  | .str x, .int j => if x.length ≤ 100000 then (atI x.cps.toList j).map fun c => .str ⟨#[c]⟩ else none
  | .dic kvs, k => match keyOf k with
    | some k => valK kvs k
    | none => none
  | _, _ => none
def negD : D → Option D
  | .int i => some (.int (-i))
  | _ => none

section
variable {W : Bool} {K : PySem.W.Frag} {X : Cx}
theorem now_ok {B : Base} {H : Hp} {w : Wl} {d : D} {v : V} {Q : VK} (hb : Sm B.hp H) (r : Ok K w B H) (h : ∀ v B' H', Fu W B H B' H' → Ok K w B' H' → Rep K B' d v → Q v H') (p : Rep K B d v) : Q v H := h v B H (Fu.refl hb) r p
theorem new_ok {B : Base} {H : Hp} {w : Wl} {d : D} {Q : VK} (hb : Sm B.hp H) (r : Ok K w B H) (h : ∀ v B' H', Fu W B H B' H' → Ok K w B' H' → Rep K B' d v → Q v H') {p : Addr} (hp : H p = none) {o : HO} (q : B.Le (B.put p o) → Rep K (B.put p o) d (.ref p)) : Q (.ref p) (upd H p o) :=
  let ⟨f, r'⟩ := Fu.new r hb hp o
  h (.ref p) _ _ f r' (q f.b)
abbrev rAddA (K : PySem.W.Frag) : R2 := fun x y H Q => rI0 (fun i j => .int (i + j)) x y H Q ∨ (fun (x y : V) (H : Hp) (Q : VK) => ∃ i j, x = .str i ∧ y = .str j ∧ i.length + j.length ≤ sizeLine ∧ Q (.str (i ++ j)) H) x y H Q ∨ rCatF K x y H Q ∨ rCat x y H Q
theorem op_addA : OpR X (binaryOp .Add) (rAddA X.K) := op_add.or (op_add_str.or (op_catF.or op_cat))
theorem ok_add : OpOk W K (rAddA K) addD := by
  intro B H w x y p q d Q hb r px py e k
  cases p with
  | int i => cases q with
    | int j =>
      cases e; cases (show x = .int i from px); cases (show y = .int j from py)
      exact .inl ⟨i, j, rfl, rfl, now_ok hb r k rfl⟩
    | _ => cases e
  | str i => cases q with
    | str j =>
      cases (show x = .str i from px); cases (show y = .str j from py)
      have e2 : (if i.length + j.length ≤ 100000 then some (D.str (i ++ j)) else none) = some d := e
      split at e2
      · rename_i hl
        cases e2
        exact .inr (.inl ⟨i, j, rfl, rfl, sz5 hl, now_ok hb r k rfl⟩)
      · cases e2
    | _ => cases e
  | tup xs => cases q with
    | tup ys =>
      obtain ⟨a, vs, rfl, h1, h2⟩ := px
      obtain ⟨b, ws, rfl, h3, h4⟩ := py
      have e2 : (if xs.length + ys.length ≤ 100000 then some (D.tup (xs ++ ys)) else none) = some d := e
      split at e2
      · rename_i hl
        cases e2
        have l1 := h2.length
        have l2 := h4.length
        have hs := hb
        refine .inr (.inr (.inl ⟨a, b, vs, ws, rfl, rfl, same_t hs h1, same_t hs h3, sz5 (by omega), fun e0 => ?_, fun _ e0 => ?_, fun _ _ p ob ho hp => ?_⟩))
        · subst e0
          have : xs = [] := by cases xs with
            | nil => rfl
            | cons z zs => simp at l1
          subst this
          exact now_ok hb r k ⟨b, ws, rfl, h3, h4⟩
        · subst e0
          have : ys = [] := by cases ys with
            | nil => rfl
            | cons z zs => simp at l2
          subst this
          rw [List.append_nil] at k
          exact now_ok hb r k ⟨a, vs, rfl, h1, h2⟩
        · exact new_ok hb r k hp fun s => ⟨p, vs ++ ws, rfl, tupF_new ho, Reps.mono s _ _ (Reps.app h2 h4)⟩
      · cases e2
    | _ => cases e
  | lst xs => cases q with
    | lst ys =>
      obtain ⟨a, vs, rfl, h1, h2⟩ := px
      obtain ⟨b, ws, rfl, h3, h4⟩ := py
      have e2 : (if xs.length + ys.length ≤ 100000 then some (D.lst (xs ++ ys)) else none) = some d := e
      split at e2
      · rename_i hl
        cases e2
        have l1 := h2.length
        have l2 := h4.length
        have hs := hb
        exact .inr (.inr (.inr ⟨a, b, vs, ws, rfl, rfl, hs.get h1 (fun _ z => nomatch z), hs.get h3 (fun _ z => nomatch z), sz5 (by omega), fun p hp => new_ok hb r k hp fun s => ⟨p, vs ++ ws, rfl, upd_same, Reps.mono s _ _ (Reps.app h2 h4)⟩⟩))
      · cases e2
    | _ => cases e
  | _ => cases q <;> cases e
theorem ok_sub : OpOk W K (rI0 fun i j => .int (i - j)) subD := by
  intro B H w x y p q d Q hb r px py e k
  cases p with
  | int i => cases q with
    | int j =>
      cases e; cases (show x = .int i from px); cases (show y = .int j from py)
      exact ⟨i, j, rfl, rfl, now_ok hb r k rfl⟩
    | _ => cases e
  | _ => cases q <;> cases e
theorem ok_cmpI {f : Int → Int → Bool} : OpOk W K (rI0 fun i j => .bl (f i j)) (cmpI f) := by
  intro B H w x y p q d Q hb r px py e k
  cases p with
  | int i => cases q with
    | int j =>
      cases e; cases (show x = .int i from px); cases (show y = .int j from py)
      exact ⟨i, j, rfl, rfl, now_ok hb r k rfl⟩
    | _ => cases e
  | _ => cases q <;> cases e
abbrev rMulA : R2 := fun x y H Q => rI CMul (fun i j => .int (i * j)) x y H Q ∨ rRep x y H Q
theorem op_mulA : OpR X (binaryOp .Mult) rMulA := op_mul.or op_rep
theorem reps_rep {B : Base} {ds : List D} {vs : List V} (h : Reps K B ds vs) : ∀ n : Nat, Reps K B (List.replicate n ds).flatten (List.replicate n vs).flatten
  | 0 => rfl
  | n + 1 => by
    rw [List.replicate_succ, List.replicate_succ, List.flatten_cons, List.flatten_cons]
    exact Reps.app h (reps_rep h n)
theorem ok_mul : OpOk W K rMulA mulD := by
  intro B H w x y p q d Q hb r px py e k
  cases p with
  | int i => cases q with
    | int j =>
      cases (show x = .int i from px); cases (show y = .int j from py)
      have e2 : (if i.natAbs < 2 ^ 64 then some (D.int (i * j)) else if j.natAbs < 2 ^ 64 then some (D.int (i * j)) else none) = some d := e
      split at e2
      · rename_i hl
        cases e2
        exact .inl ⟨i, j, rfl, rfl, .inl ⟨by omega, by omega⟩, now_ok hb r k rfl⟩
      · split at e2
        · cases e2
          exact .inl ⟨i, j, rfl, rfl, .inr ⟨by omega, by omega⟩, now_ok hb r k rfl⟩
        · cases e2
    | _ => cases e
  | lst xs => cases q with
    | int j =>
      obtain ⟨a, vs, rfl, h1, h2⟩ := px
      cases (show y = .int j from py)
      have e2 : (if 0 ≤ j ∧ xs.length * j.toNat ≤ 100000 ∧ j ≤ 100000 then some (D.lst (List.replicate j.toNat xs).flatten) else none) = some d := e
      split at e2
      · rename_i hl
        cases e2
        have l1 := h2.length
        exact .inr ⟨a, j, vs, rfl, rfl, hb.get h1 (fun _ z => nomatch z), by omega, by omega, sz5 (by rw [l1]; exact hl.2.1), fun p hp => new_ok hb r k hp fun s => ⟨p, _, rfl, upd_same, Reps.mono s _ _ (reps_rep h2 _)⟩⟩
      · cases e2
    | _ => cases e
  | _ => cases q <;> cases e
theorem ok_mod : OpOk W K (rI (fun _ j => 0 < j) fun i j => .int (i % j)) modD := by
  intro B H w x y p q d Q hb r px py e k
  cases p with
  | int i => cases q with
    | int j =>
      cases (show x = .int i from px); cases (show y = .int j from py)
      have e2 : (if 0 < j then some (D.int (i % j)) else none) = some d := e
      split at e2
      · rename_i hl
        cases e2
        exact ⟨i, j, rfl, rfl, hl, now_ok hb r k rfl⟩
      · cases e2
    | _ => cases e
  | _ => cases q <;> cases e
theorem ok_fdiv : OpOk W K (rI CDiv fun i j => .int (i / j)) fdivD := by
  intro B H w x y p q d Q hb r px py e k
  cases p with
  | int i => cases q with
    | int j =>
      cases (show x = .int i from px); cases (show y = .int j from py)
      have e2 : (if 0 < j ∧ j < 1073741824 then some (D.int (i / j)) else none) = some d := e
      split at e2
      · rename_i hl
        cases e2
        exact ⟨i, j, rfl, rfl, hl, now_ok hb r k rfl⟩
      · cases e2
    | _ => cases e
  | _ => cases q <;> cases e
theorem ok_pow : OpOk W K (rI CPow fun i j => .int (i ^ j.toNat)) powD := by
  intro B H w x y p q d Q hb r px py e k
  cases p with
  | int i => cases q with
    | int j =>
      cases (show x = .int i from px); cases (show y = .int j from py)
      have e2 : (if 0 ≤ j ∧ j ≤ 1000 ∧ i.natAbs < 2 ^ 64 then some (D.int (i ^ j.toNat)) else none) = some d := e
      split at e2
      · rename_i hl
        cases e2
        exact ⟨i, j, rfl, rfl, ⟨hl.1, by omega, hl.2.2⟩, now_ok hb r k rfl⟩
      · cases e2
    | _ => cases e
  | _ => cases q <;> cases e
abbrev rEqA (K : PySem.W.Frag) : R2 := fun x y H Q => rEq x y H Q ∨ rEqD K x y H Q
abbrev rNeA (K : PySem.W.Frag) : R2 := fun x y H Q => rNe x y H Q ∨ rNeD K x y H Q
theorem op_eqA (hu : X.A.units + 64 < cLine) : OpR X (compareOp .Eq) (rEqA X.K) := op_eq.or (op_eqD hu)
theorem op_neA (hu : X.A.units + 64 < cLine) : OpR X (compareOp .NotEq) (rNeA X.K) := op_ne.or (op_neD hu)
theorem dec_vstr (x y : Str) : decide (V.str x = V.str y) = decide (x = y) := by
  by_cases h : x = y
  · subst h; simp
  · have : ¬ V.str x = V.str y := fun z => h (by injection z)
    rw [decide_eq_false h, decide_eq_false this]
theorem eqB_cases {a b : D} {k : Bool} (e : eqB a b = some k) : (∃ x y, a = .str x ∧ b = .str y ∧ k = decide (x = y)) ∨ ∃ p q, toPy a = some p ∧ toPy b = some q ∧ SeqAt.shaped p = true ∧ SeqAt.shaped q = true ∧ k = PyData.eqv p q := by
  unfold eqB at e
  split at e
  · rename_i x y
    cases e
    exact .inl ⟨_, _, rfl, rfl, rfl⟩
  · rename_i a b _
    split at e
    · rename_i p q h1 h2
      split at e
      · rename_i h3
        cases e
        obtain ⟨h4, h5⟩ := Bool.and_eq_true_iff.mp h3
        exact .inr ⟨p, q, h1, h2, h4, h5, rfl⟩
      · cases e
    · cases e
theorem ok_eq : OpOk W K (rEqA K) eqD := by
  intro B H w x y p q d Q hb r px py e k
  obtain ⟨b, h1, rfl⟩ := Option.map_eq_some_iff.mp (show (eqB p q).map .bl = some d from e)
  rcases eqB_cases h1 with ⟨x', y', rfl, rfl, rfl⟩ | ⟨p', q', h2, h3, h4, h5, rfl⟩
  · cases (show x = .str x' from px); cases (show y = .str y' from py)
    refine .inl ⟨rfl, ?_⟩
    rw [dec_vstr]
    exact now_ok hb r k rfl
  · exact .inr ⟨p', q', dp_of hb _ _ _ h2 px, dp_of hb _ _ _ h3 py, h4, h5, now_ok hb r k rfl⟩
theorem ok_ne : OpOk W K (rNeA K) neD := by
  intro B H w x y p q d Q hb r px py e k
  obtain ⟨b, h1, rfl⟩ := Option.map_eq_some_iff.mp (show (eqB p q).map (fun k => D.bl (!k)) = some d from e)
  rcases eqB_cases h1 with ⟨x', y', rfl, rfl, rfl⟩ | ⟨p', q', h2, h3, h4, h5, rfl⟩
  · cases (show x = .str x' from px); cases (show y = .str y' from py)
    refine .inl ⟨rfl, ?_⟩
    rw [dec_vstr]
    exact now_ok hb r k rfl
  · exact .inr ⟨p', q', dp_of hb _ _ _ h2 px, dp_of hb _ _ _ h3 py, h4, h5, now_ok hb r k rfl⟩
/-- dicts -/
theorem repsK_val : ∀ {kvs : List (Key × D)} {vs : List (Key × V)} {B : Base} (k : Key), RepsK K B kvs vs → (valK kvs k = none ∧ valV vs k = none) ∨ ∃ d v, valK kvs k = some d ∧ valV vs k = some v ∧ Rep K B d v
  | [], vs, B, k, h => by cases (show vs = [] from h); exact .inl ⟨rfl, rfl⟩
  | (k', x) :: xs, vs, B, k, h => by
    obtain ⟨v, r, rfl, h1, h2⟩ := h
    by_cases e : k' = k
    · refine .inr ⟨x, v, ?_, ?_, h1⟩
      · simp [valK, List.find?_cons, e]
      · exact valV_pos e
    · have e1 : valK ((k', x) :: xs) k = valK xs k := by simp [valK, List.find?_cons, e]
      have e2 : valV ((k', v) :: r) k = valV r k := valV_neg e
      rw [e1, e2]
      exact repsK_val k h2
theorem key_rep {B : Base} {d : D} {k : Key} {v : V} (e : keyOf d = some k) (h : Rep K B d v) : v = kV k := by
  cases d with
  | int i => cases e; exact h
  | str i => cases e; exact h
  | _ => cases e
theorem op_inDic (hu : X.A.units + 1 < cLine) : OpR X (compareOp .In) (fun y x H Q => ∃ a o, x = V.ref a ∧ DGet H a y o ∧ Q (.bl o.isSome) H) := by
  intro pins s sg H y x u v Q I ry rx h
  obtain ⟨a, o, rfl, g, q⟩ := h
  cases rx
  exact d_in hu I g ry fun s' I' => ⟨.bl o.isSome, H, I', rfl, q⟩
theorem op_notInDic (hu : X.A.units + 1 < cLine) : OpR X (compareOp .NotIn) (fun y x H Q => ∃ a o, x = V.ref a ∧ DGet H a y o ∧ Q (.bl (!o.isSome)) H) := by
  intro pins s sg H y x u v Q I ry rx h
  obtain ⟨a, o, rfl, g, q⟩ := h
  cases rx
  exact d_notIn hu I g ry fun s' I' => ⟨.bl (!o.isSome), H, I', rfl, q⟩
end
end G
namespace G
open PySem L2 PyProof.Rows

section
variable {W : Bool} {K : PySem.W.Frag} {X : Cx}
/-! ### in, not in -/
abbrev rInA (K : PySem.W.Frag) : R2 := fun x y H Q => rIn K false x y H Q ∨ (fun (x y : V) (H : Hp) (Q : VK) => ∃ i j, x = .str i ∧ y = .str j ∧ Q (.bl (!(Builtin.Str.occurrences j i 0 j.length 1).isEmpty)) H) x y H Q ∨ (fun (y x : V) (H : Hp) (Q : VK) => ∃ a o, x = V.ref a ∧ DGet H a y o ∧ Q (.bl o.isSome) H) x y H Q
abbrev rNotInA (K : PySem.W.Frag) : R2 := fun x y H Q => rIn K true x y H Q ∨ (fun (x y : V) (H : Hp) (Q : VK) => ∃ i j, x = .str i ∧ y = .str j ∧ Q (.bl (!(!(Builtin.Str.occurrences j i 0 j.length 1).isEmpty))) H) x y H Q ∨ (fun (y x : V) (H : Hp) (Q : VK) => ∃ a o, x = V.ref a ∧ DGet H a y o ∧ Q (.bl (!o.isSome)) H) x y H Q
theorem op_inA (hu : X.A.units + 1 < cLine) : OpR X (compareOp .In) (rInA X.K) := op_in_seq.or (op_in_str.or (op_inDic hu))
theorem op_notInA (hu : X.A.units + 1 < cLine) : OpR X (compareOp .NotIn) (rNotInA X.K) := op_notIn_seq.or (op_notin_str.or (op_notInDic hu))
theorem inB_ok {B : Base} {H : Hp} {x y : V} {p q : D} {k : Bool} (hb : Sm B.hp H) (px : Rep K B p x) (py : Rep K B q y) (e : inB p q = some k) :
    (∃ a xs, y = .ref a ∧ (SqL K H a xs ∨ SqT K H a xs) ∧ flatV x = true ∧ xs.all flatV = true ∧ k = inV x xs) ∨ (∃ i j, x = .str i ∧ y = .str j ∧ k = !(Builtin.Str.occurrences j i 0 j.length 1).isEmpty) ∨ ∃ a o, y = .ref a ∧ DGet H a x o ∧ k = o.isSome := by
  have hs := hb
  unfold inB at e
  split at e
  · rename_i ds
    split at e
    · rename_i v vs h1 h2
      cases e
      obtain ⟨a, us, rfl, h3, h4⟩ := py
      obtain ⟨rfl, f1⟩ := vOf_rep h1 px
      obtain ⟨rfl, f2⟩ := vsOf_reps h2 h4
      exact .inl ⟨a, _, rfl, .inl (same_l hs h3), f1, f2, rfl⟩
    · cases e
  · rename_i ds
    split at e
    · rename_i v vs h1 h2
      cases e
      obtain ⟨a, us, rfl, h3, h4⟩ := py
      obtain ⟨rfl, f1⟩ := vOf_rep h1 px
      obtain ⟨rfl, f2⟩ := vsOf_reps h2 h4
      exact .inl ⟨a, _, rfl, .inr (same_t hs h3), f1, f2, rfl⟩
    · cases e
  · rename_i y'
    split at e
    · cases e
      cases (show y = .str y' from py)
      exact .inr (.inl ⟨_, _, px, rfl, rfl⟩)
    · cases e
  · rename_i kvs
    split at e
    · rename_i k' h1
      cases e
      obtain ⟨a, us, rfl, h3, h4⟩ := py
      have ex := key_rep h1 px
      subst ex
      refine .inr (.inr ⟨a, valV us k', rfl, .inl ⟨us, k', same_rd hs h3, rfl, rfl⟩, ?_⟩)
      rcases repsK_val k' h4 with ⟨e1, e2⟩ | ⟨d, v, e1, e2, _⟩
      · rw [e1, e2]; rfl
      · rw [e1, e2]; rfl
    · cases e
  · cases e
theorem ok_in : OpOk W K (rInA K) inD := by
  intro B H w x y p q d Q hb r px py e k
  obtain ⟨b, h1, rfl⟩ := Option.map_eq_some_iff.mp (show (inB p q).map .bl = some d from e)
  have n := now_ok hb r k (v := .bl b) rfl
  rcases inB_ok hb px py h1 with ⟨a, xs, rfl, h2, h3, h4, rfl⟩ | ⟨i, j, rfl, rfl, rfl⟩ | ⟨a, o, rfl, h2, rfl⟩
  · exact .inl ⟨a, xs, rfl, h2, h3, h4, n⟩
  · exact .inr (.inl ⟨i, j, rfl, rfl, n⟩)
  · exact .inr (.inr ⟨a, o, rfl, h2, n⟩)
theorem ok_notIn : OpOk W K (rNotInA K) notInD := by
  intro B H w x y p q d Q hb r px py e k
  obtain ⟨b, h1, rfl⟩ := Option.map_eq_some_iff.mp (show (inB p q).map (fun k => D.bl (!k)) = some d from e)
  have n := now_ok hb r k (v := .bl (!b)) rfl
  rcases inB_ok hb px py h1 with ⟨a, xs, rfl, h2, h3, h4, rfl⟩ | ⟨i, j, rfl, rfl, rfl⟩ | ⟨a, o, rfl, h2, rfl⟩
  · exact .inl ⟨a, xs, rfl, h2, h3, h4, n⟩
  · exact .inr (.inl ⟨i, j, rfl, rfl, n⟩)
  · exact .inr (.inr ⟨a, o, rfl, h2, n⟩)
/-! ### is, is not -/
theorem isNon_rep {B : Base} {d : D} {v : V} {k : Bool} (e : isNon d = some k) (h : Rep K B d v) : decide (v = .non) = k := by
  cases d with
  | non => cases e; cases (show v = .non from h); rfl
  | bl b => cases e; cases (show v = .bl b from h); rfl
  | int b => cases e; cases (show v = .int b from h); rfl
  | str b => cases e; cases (show v = .str b from h); rfl
  | tup xs => cases e; obtain ⟨a, vs, rfl, _⟩ := h; rfl
  | lst xs => cases e; obtain ⟨a, vs, rfl, _⟩ := h; rfl
  | dic xs => cases e; obtain ⟨a, vs, rfl, _⟩ := h; rfl
  | exc xs => cases e; obtain ⟨a, rfl, _⟩ := h; rfl
  | obj a => cases e; obtain ⟨a, rfl, _⟩ := h; rfl
  | scr a => cases e; obtain ⟨a, rfl, _⟩ := h; rfl
  | ty a => cases e; cases (show v = .ty a from h); rfl
  | cls a => cases e; cases (show v = .ref (He.ga K a) from h); rfl
  | kys a => cases e; obtain ⟨r, d, vs, rfl, _⟩ := h; rfl
abbrev rIsA : R2 := fun x y H Q => (fun (x y : V) (H : Hp) (Q : VK) => y = .non ∧ Q (.bl (decide (x = .non))) H) x y H Q ∨ (fun (x y : V) (H : Hp) (Q : VK) => ∃ a b, x = .bl a ∧ y = .bl b ∧ Q (.bl (decide (a = b))) H) x y H Q
abbrev rIsNotA : R2 := fun x y H Q => (fun (x y : V) (H : Hp) (Q : VK) => y = .non ∧ Q (.bl (!decide (x = .non))) H) x y H Q ∨ (fun (x y : V) (H : Hp) (Q : VK) => ∃ a b, x = .bl a ∧ y = .bl b ∧ Q (.bl (!decide (a = b))) H) x y H Q
theorem op_isA : OpR X (compareOp .Is) rIsA := op_isN.or op_is_bl
theorem op_isNotA : OpR X (compareOp .IsNot) rIsNotA := op_notN.or op_isnot_bl
theorem ok_is : OpOk W K rIsA isD := by
  intro B H w x y p q d Q hb r px py e k
  cases q with
  | non =>
    cases (show y = .non from py)
    obtain ⟨b, h1, rfl⟩ := Option.map_eq_some_iff.mp (show (isNon p).map .bl = some d from e)
    refine .inl ⟨rfl, ?_⟩
    rw [isNon_rep h1 px]
    exact now_ok hb r k rfl
  | bl z =>
    cases p with
    | bl j =>
      cases e
      exact .inr ⟨j, z, px, py, now_ok hb r k rfl⟩
    | _ => cases e
  | _ => cases e
theorem ok_isNot : OpOk W K rIsNotA isNotD := by
  intro B H w x y p q d Q hb r px py e k
  cases q with
  | non =>
    cases (show y = .non from py)
    obtain ⟨b, h1, rfl⟩ := Option.map_eq_some_iff.mp (show (isNon p).map (fun k => D.bl (!k)) = some d from e)
    refine .inl ⟨rfl, ?_⟩
    rw [isNon_rep h1 px]
    exact now_ok hb r k rfl
  | bl z =>
    cases p with
    | bl j =>
      cases e
      exact .inr ⟨j, z, px, py, now_ok hb r k rfl⟩
    | _ => cases e
  | _ => cases e
/-! ### items -/
theorem atI_reps {B : Base} {ds : List D} {vs : List V} {i : Int} {d : D} (h : Reps K B ds vs) (e : atI ds i = some d) : ∃ v, atI vs i = some v ∧ Rep K B d v := by
  unfold atI at e ⊢
  rw [h.length]
  cases q : ixN ds.length i with
  | none => rw [q] at e; cases e
  | some j =>
    rw [q] at e
    obtain ⟨v, h1, h2⟩ := h.get (i := j) e
    exact ⟨v, h1, h2⟩
def rIxDic : R2 := fun x y H Q => ∃ a v, x = V.ref a ∧ DGet H a y (some v) ∧ Q v H
theorem ix_dic (hu : X.A.units + 1 < cLine) : IxR X rIxDic := by
  intro value slice pins s sg H x y v u Q I rx ry h hs
  obtain ⟨a, z, rfl, g, q⟩ := h
  cases rx
  exact tail_any (dict_typeIs I g) PySem.F.slot_dict_getitem.lookup (d_getItem hu I g ry fun w' s3 I3 rw' => ⟨z, H, I3, rw', q⟩) hs
abbrev rIxA (K : PySem.W.Frag) : R2 := fun x y H Q => rIx K x y H Q ∨ rIxDic x y H Q
theorem ix_A (hu : X.A.units + 1 < cLine) : IxR X (rIxA X.K) := ix_seq.or (ix_dic hu)
theorem ok_ix : OpOk W K (rIxA K) ixD := by
  intro B H w x y p q d Q hb r px py e k
  have hs := hb
  unfold ixD at e
  split at e
  · rename_i xs j
    obtain ⟨a, vs, rfl, h1, h2⟩ := px
    cases (show y = .int j from py)
    obtain ⟨v, e1, h3⟩ := atI_reps h2 e
    exact .inl (.inl ⟨a, vs, j, v, rfl, rfl, same_l hs h1, e1, now_ok hb r k h3⟩)
  · rename_i xs j
    obtain ⟨a, rfl, h1⟩ := px
    cases (show y = .int j from py)
    obtain ⟨n, e1, rfl⟩ := Option.map_eq_some_iff.mp e
    have e2 : atI (xs.map V.int) j = some (.int n) := by
      unfold atI at e1 ⊢
      rw [List.length_map]
      cases q : ixN xs.length j with
      | none => rw [q] at e1; cases e1
      | some i => rw [q] at e1; simpa using e1
    exact .inl (.inl ⟨a, _, j, .int n, rfl, rfl, same_sl hs h1, e2, now_ok hb r k rfl⟩)
  · rename_i xs j
    obtain ⟨a, vs, rfl, h1, h2⟩ := px
    cases (show y = .int j from py)
    obtain ⟨v, e1, h3⟩ := atI_reps h2 e
    exact .inl (.inr (.inl ⟨a, vs, j, v, rfl, rfl, same_t hs h1, e1, now_ok hb r k h3⟩))
  · rename_i z j
    cases (show x = .str z from px)
    cases (show y = .int j from py)
    split at e
    · rename_i hl
      obtain ⟨c, e1, rfl⟩ := Option.map_eq_some_iff.mp e
      exact .inl (.inr (.inr ⟨z, j, c, rfl, rfl, sz5 hl, e1, now_ok hb r k rfl⟩))
    · cases e
  · rename_i kvs _
    split at e
    · rename_i k' h1
      obtain ⟨a, us, rfl, h3, h4⟩ := px
      have ex := key_rep h1 py
      subst ex
      rcases repsK_val k' h4 with ⟨e1, e2⟩ | ⟨d', v, e1, e2, h5⟩
      · rw [e1] at e; cases e
      · rw [e1] at e; cases e
        exact .inr ⟨a, v, rfl, .inl ⟨us, k', same_rd hs h3, rfl, e2.symm⟩, now_ok hb r k h5⟩
    · cases e
  · cases e
theorem ok_neg : UnOk W K (rU fun i => .int (-i)) negD := by
  intro B H w x p d Q hb r px e k
  cases p with
  | int i => cases e; cases (show x = .int i from px); exact ⟨i, rfl, now_ok hb r k rfl⟩
  | _ => cases e
end

/-! ### slices -/
def cutD (xs : List D) (lo hi : Option Int) : List D := (xs.drop (HT.sIx xs.length 0 lo)).take (HT.sIx xs.length xs.length hi - HT.sIx xs.length 0 lo)
def slD (a : D) (lo hi : Option Int) : Option D := match a with
  | .lst xs => some (.lst (cutD xs lo hi))
  | .tup xs => some (.tup (cutD xs lo hi))
  | .str x => if x.length ≤ 100000 then some (.str (cutS x lo hi)) else none
  | _ => none
section
variable {T : Type}
abbrev SO (T : Type) := L2.St → T
/-- a part of a slice -/
def oNone : Env → T → Res T (Option Int) := fun _ w => .ok none w
def isI : D → Option Int
  | .int i => some i
  | _ => none
def oSome (f : SE T) : Env → T → Res T (Option Int) := fun rh w => (f rh w).bind fun x w1 => match isI x with
  | some i => .ok (some i) w1
  | none => .fail
def eSl (fa : SE T) (lo hi : Env → T → Res T (Option Int)) : SE T := fun rh w => (fa rh w).bind fun x w1 => (lo rh w1).bind fun l w2 => (hi rh w2).bind fun h w3 => lift (slD x l h) w3
end
abbrev RpO : Base → Option Int → Option Int → Prop := fun _ b c => c = b
section
variable {X : Cx} {W : Bool} {E : XS} {a e : Expr} {fa fe : SE Wl} {pos p2 : Pos} {lo hi : Option Expr}
abbrev tO (W : Bool) (K : PySem.W.Frag) (E : XS) (f : Env → Wl → Res Wl (Option Int)) : TO := tG W K E RpO f
theorem _root_.L2.PO.weak {e : Option Expr} {t t' : TO} (h : PO X e t) (w : ∀ sg H Q, t' sg H Q → t sg H Q) : PO X e t' := ⟨fun pins s sg H Q I q => h.run pins s sg H Q I (w _ _ _ q)⟩
theorem po_noneD : PO X none (tO W X.K E oNone) := po_none.weak fun sg H Q q => by
  obtain ⟨rh, w, B, hb, he, r, o⟩ := q
  exact Out.now (Rp := RpO) hb r (show RpO B none none from rfl) o
theorem po_someD (h : PE X e (tD W X.K E fe)) : PO X (some e) (tO W X.K E (oSome fe)) := (po_some h).weak fun sg H Q q => by
  refine tG_imp (tG_bind (Rp := RpE X.K) q) fun x H1 q1 => ?_
  obtain ⟨rh, p, w1, B1, hb1, he1, r1, px, o1⟩ := q1
  cases p with
  | int i =>
    cases (show x = .int i from px)
    exact ⟨i, rfl, Out.now (Rp := RpO) hb1 r1 (show RpO B1 (some i) (some i) from rfl) o1⟩
  | _ => exact o1.elim
theorem cut_reps {K : PySem.W.Frag} {B : Base} {xs : List D} {vs : List V} (h : Reps K B xs vs) (l u : Option Int) : Reps K B (cutD xs l u) (cutV vs l u) := by
  unfold cutD cutV
  rw [h.length]
  exact (h.drop _).take _
abbrev rSlAll (K : PySem.W.Frag) : V → Option Int → Option Int → Hp → VK → Prop := fun x lo hi H Q => rSlL K x lo hi H Q ∨ (fun x lo hi H Q => rSlF K x lo hi H Q ∨ rSlS x lo hi H Q) x lo hi H Q
theorem sl_All : SlR X (rSlAll X.K) := sl_list.or (sl_tupF.or sl_str)
theorem pe_slD {flo fhi : Env → Wl → Res Wl (Option Int)} (ha : PE X a (tD W X.K E fa)) (hl : PO X lo (tO W X.K E flo)) (hh : PO X hi (tO W X.K E fhi)) : PE X (.Subscript a (.Slice lo hi none p2) pos) (tD W X.K E (eSl fa flo fhi)) := (pe_slice sl_All ha hl hh).weak fun sg H Q q => by
  refine tG_imp (tG_bind (Rp := RpE X.K) q) fun x H1 q1 => ?_
  obtain ⟨rh, p, w1, B1, hb1, he1, r1, px, o1⟩ := q1
  refine ⟨rh, w1, B1, hb1, he1, r1, (Out.bind (Rp := RpO) r1 o1).imp fun l H2 q2 => ?_⟩
  obtain ⟨l', w2, B2, f2, r2, el, o2⟩ := q2
  cases (show l = l' from el)
  refine ⟨rh, w2, B2, f2.bh, he1.mono f2.b, r2, (Out.bind (Rp := RpO) r2 o2).imp fun u H3 q3 => ?_⟩
  obtain ⟨u', w3, B3, f3, r3, eu, o3⟩ := q3
  cases (show u = u' from eu)
  obtain ⟨d, e, k⟩ := out_lift o3
  have px3 := Rep.mono f3.b _ _ (Rep.mono f2.b _ _ px)
  have hb3 := f3.bh
  have hs := hb3
  cases p with
  | lst xs =>
    cases e
    obtain ⟨a, vs, rfl, h1, h2⟩ := px3
    exact .inl ⟨a, vs, rfl, same_l hs h1, fun p hp => new_ok hb3 r3 k hp fun s => ⟨p, _, rfl, upd_same, Reps.mono s _ _ (cut_reps h2 l u)⟩⟩
  | tup xs =>
    cases e
    obtain ⟨a, vs, rfl, h1, h2⟩ := px3
    refine .inr (.inl ⟨a, vs, rfl, same_t hs h1, fun hw => ?_, fun _ p ob ho hp => new_ok hb3 r3 k hp fun s => ⟨p, _, rfl, tupF_new ho, Reps.mono s _ _ (cut_reps h2 l u)⟩⟩)
    have c := cut_reps h2 l u
    have ev : cutV vs l u = vs := by
      unfold cutV
      rw [hw.1, hw.2]
      simp
    rw [ev] at c
    exact now_ok hb3 r3 k ⟨a, vs, rfl, h1, c⟩
  | str z =>
    cases (show x = .str z from px3)
    have e2 : (if z.length ≤ 100000 then some (D.str (cutS z l u)) else none) = some d := e
    split at e2
    · rename_i hl
      cases e2
      exact .inr (.inr ⟨z, rfl, sz5 hl, now_ok hb3 r3 k rfl⟩)
    · cases e2
  | _ => cases e
end

/-! ### calls of built-ins -/
def BltOk (W : Bool) (K : PySem.W.Frag) (r : List V → Hp → VK → Prop) (g : List D → Option D) : Prop := ∀ (B : Base) (H : Hp) (w : Wl) (xs : List V) (ds : List D) (d : D) (Q : VK), Sm B.hp H → Ok K w B H → Reps K B ds xs → g ds = some d →
  (∀ v B' H', Fu W B H B' H' → Ok K w B' H' → Rep K B' d v → Q v H') → r xs H Q
section
variable {X : Cx} {W : Bool} {E : XS} {e : Expr} {es : List Expr} {fs : SL Wl} {pos p : Pos} {x : Str} {id T : String} {r : List V → Hp → VK → Prop} {g : List D → Option D}
theorem tCB_D (ok : BltOk W X.K r g) {sg : L2.St} {H : Hp} {Q : VK} (q : tD W X.K E (eBlt g fs) sg H Q) : tCB r (tL W X.K E fs) sg H Q := by
  refine tG_imp (tG_bind (Rp := RpA X.K) q) fun xs H1 q1 => ?_
  obtain ⟨rh, ds, w1, B1, hb1, he1, r1, px, o1⟩ := q1
  obtain ⟨d, e, k⟩ := out_lift o1
  exact ok B1 H1 w1 xs ds d Q hb1 r1 px e k
theorem pe_bltD (hc : CallR X (.builtin id) r) (ok : BltOk W X.K r g) (hg : Gl X x) (hm : X.mg x = none) (hv : bootBuiltins x = some (.builtin id)) (ha : PA X (e :: es) (tL W X.K E fs)) (hn : x ≠ "__name__") (hdb : (x == ("__debug__" : Str)) = false)
    (he : starEach (e :: es) X.env = (false, eval e X.env) :: starEach es X.env) (hpl : (backTo pos (starEach es X.env)).any (·.1) = false) : PE X (.Call (.Name x p) (e :: es) [] pos) (tD W X.K E (eBlt g fs)) :=
  (pe_callB hc hg hm hv ha hn hdb he hpl).weak fun _ _ _ q => tCB_D ok q
theorem pe_btyD (hc : CallR X (.type T) r) (ok : BltOk W X.K r g) (hg : Gl X x) (hm : X.mg x = none) (hv : bootBuiltins x = some (.type T)) (ha : PA X (e :: es) (tL W X.K E fs)) (hn : x ≠ "__name__") (hdb : (x == ("__debug__" : Str)) = false)
    (he : starEach (e :: es) X.env = (false, eval e X.env) :: starEach es X.env) (hpl : (backTo pos (starEach es X.env)).any (·.1) = false) : PE X (.Call (.Name x p) (e :: es) [] pos) (tD W X.K E (eBlt g fs)) :=
  (pe_callTy hc hg hm hv ha hn hdb he hpl).weak fun _ _ _ q => tCB_D ok q
end
end G
namespace G
open PySem L2 PyProof.Rows

/-! ### sum of a tuple -/
section
variable {prog : Program} {w : World} {A : Around} {E : Value → Shared → Prop} {s : Shared} {l : Addr}
theorem sum_tup {xs : Array (Int × Tok)} {Q : Value → Shared → Prop} (hh : A.handled = none) (hl : s.heap.IsTuple l (intItems xs))
    (h : ∀ h' tk t', (∀ b o, s.heap.get? b = some o → h'.get? b = some o) → Q (.int (preSum (numAt xs) xs.size) t') { s with heap := h', toks := tk }) :
    wpAny (model prog w) A (call (.builtin "sum") [.ref l]) Q E s := by
  have hlt : l < s.heap.objs.size := by obtain ⟨_, e, _⟩ := hl; exact Heap.lt_size e
  refine call_sum_walkG (wpAny_pyIter_tuple hl ?_)
  refine ⟨_, [s.heap.objs.size, l], [s.heap.objs.size], _, _, _, numAt xs, rfl, Walks.tuple (A := A.in1) hh _ l (Nat.ne_of_lt hlt) (intItems xs), ⟨⟨_, Heap.get?_push_size _ rfl, rfl, rfl⟩, hl.push _⟩, fun b hb => ?_, (fun _ _ => intItems_at), fun h' tk t' hk => ?_⟩
  · show b < (s.heap.push _).objs.size
    rw [Heap.size_push]
    rcases List.mem_cons.mp hb with rfl | hb
    · exact Nat.lt_succ_self _
    · rcases List.mem_cons.mp hb with rfl | hb
      · exact Nat.lt_succ_of_lt hlt
      · cases hb
  · have := h h' tk t' fun b o e => hk b o (fun z => by
      have z' : b = s.heap.objs.size := by simpa using z
      exact absurd (Heap.lt_size e) (by rw [z']; exact Nat.lt_irrefl _)) (Heap.get?_push_of_some _ e)
    simpa [intItems] using this
theorem sum_rawT {its : List Value} {ns : List Int} {Q : Value → Shared → Prop} (hh : A.handled = none) (hl : s.heap.IsTuple l its.toArray) (hi : IntsAre its ns)
    (h : ∀ h' tk t', (∀ b o, s.heap.get? b = some o → h'.get? b = some o) → Q (.int ns.sum t') { s with heap := h', toks := tk }) : wpAny (model prog w) A (call (.builtin "sum") [.ref l]) Q E s := by
  obtain ⟨xs, e⟩ := hi.allInts.items
  have hn : numsOf (intItems xs).toList = ns := by rw [← e]; exact hi.numsOf
  rw [nums_intItems] at hn
  rw [e] at hl
  refine sum_tup hh hl fun h' tk t' hk => ?_
  have := h h' tk t' hk
  rw [preSum_eq, List.take_of_length_le (by simp), hn]; exact this
end
section
variable {W : Bool} {K : PySem.W.Frag} {X : Cx}
def rSumT (K : PySem.W.Frag) : List V → Hp → VK → Prop := fun vs H Q => ∃ (a : Addr) (ns : List Int), vs = [V.ref a] ∧ SqT K H a (ns.map V.int) ∧ Q (.int ns.sum) H
theorem cr_sumT (hc : X.calm = true) : CallR X (.builtin "sum") (rSumT X.K) := by
  intro pins s sg H vs us Q I r h
  obtain ⟨a, ns, rfl, hs, q⟩ := h
  obtain ⟨its, rv, hl, _⟩ := I.tuple hs
  rw [Vals.ref1 r]
  exact sum_rawT (I.ok.hd hc) hl rv.ints fun h' tk t' hk => ⟨.int ns.sum, H, I.kept (t' := tk) hk, ⟨t', rfl⟩, q⟩

/-! ### len, all, any, sum, tuple, list, dict, int, str -/
def lenD : List D → Option D
  | [.str x] => if x.length ≤ 100000 then some (.int x.length) else none
  | [.tup xs] => some (.int xs.length)
  | [.lst xs] => some (.int xs.length)
  | [.dic kvs] => some (.int kvs.length)
  | [.scr xs] => some (.int xs.length)
  | _ => none
abbrev rLenA (K : PySem.W.Frag) : List V → Hp → VK → Prop := fun xs H Q => (fun (xs : List V) (H : Hp) (Q : VK) => ∃ x n, xs = [x] ∧ LenV K x H n ∧ Q (.int n) H) xs H Q ∨ (fun (xs : List V) (H : Hp) (Q : VK) => ∃ a kvs, xs = [V.ref a] ∧ Rd H a (.dK kvs) ∧ Q (.int kvs.length) H) xs H Q
theorem call_lenRd : CallR X (.builtin "len") (fun xs H Q => ∃ a kvs, xs = [V.ref a] ∧ Rd H a (.dK kvs) ∧ Q (.int kvs.length) H) := by
  intro pins s sg H xs us Q I r h
  obtain ⟨a, kvs, rfl, ha, q⟩ := h
  obtain ⟨u, rfl, ru⟩ := vals1 r
  cases ru
  exact d_len I ha fun t s' I' => ⟨.int kvs.length, H, I', ⟨t, rfl⟩, q⟩
theorem call_lenA : CallR X (.builtin "len") (rLenA X.K) := call_len.or call_lenRd
theorem ok_len : BltOk W K (rLenA K) lenD := by
  intro B H w xs ds d Q hb r px e k
  have hs := hb
  unfold lenD at e
  split at e
  · rename_i x
    obtain ⟨v, r', rfl, h1, h2⟩ := px
    cases (show r' = [] from h2); cases (show v = .str x from h1)
    split at e
    · rename_i hl
      cases e
      exact .inl ⟨_, _, rfl, ⟨sz5 hl, rfl⟩, now_ok hb r k rfl⟩
    · cases e
  · rename_i ys
    obtain ⟨v, r', rfl, h1, h2⟩ := px
    cases (show r' = [] from h2)
    obtain ⟨a, vs, rfl, h3, h4⟩ := h1
    cases e
    exact .inl ⟨_, _, rfl, .inr ⟨vs, same_t hs h3, rfl⟩, now_ok hb r k (by rw [h4.length]; rfl)⟩
  · rename_i ys
    obtain ⟨v, r', rfl, h1, h2⟩ := px
    cases (show r' = [] from h2)
    obtain ⟨a, vs, rfl, h3, h4⟩ := h1
    cases e
    exact .inl ⟨_, _, rfl, .inl ⟨vs, same_l hs h3, rfl⟩, now_ok hb r k (by rw [h4.length]; rfl)⟩
  · rename_i ys
    obtain ⟨v, r', rfl, h1, h2⟩ := px
    cases (show r' = [] from h2)
    obtain ⟨a, vs, rfl, h3, h4⟩ := h1
    cases e
    exact .inr ⟨a, vs, rfl, same_rd hs h3, now_ok hb r k (by rw [h4.length]; rfl)⟩
  · rename_i ys
    obtain ⟨v, r', rfl, h1, h2⟩ := px
    cases (show r' = [] from h2)
    obtain ⟨a, rfl, h3⟩ := h1
    cases e
    exact .inl ⟨_, _, rfl, .inl ⟨_, same_sl hs h3, rfl⟩, now_ok hb r k (by rw [List.length_map]; rfl)⟩
  · cases e
/-- lists of truths, of ints, of texts -/
def blsOf : List D → Option (List Bool)
  | [] => some []
  | .bl b :: xs => (blsOf xs).map (b :: ·)
  | _ => none
def intsOf : List D → Option (List Int)
  | [] => some []
  | .int b :: xs => (intsOf xs).map (b :: ·)
  | _ => none
def strsOf : List D → Option (List Str)
  | [] => some []
  | .str b :: xs => (strsOf xs).map (b :: ·)
  | _ => none
theorem bls_reps {B : Base} : ∀ {ds : List D} {bs : List Bool} {vs : List V}, blsOf ds = some bs → Reps K B ds vs → vs = bs.map V.bl
  | [], bs, vs, e, h => by cases e; exact h
  | x :: xs, bs, vs, e, h => by
    cases x with
    | bl b =>
      obtain ⟨bs', e1, rfl⟩ := Option.map_eq_some_iff.mp (show (blsOf xs).map (b :: ·) = some bs from e)
      obtain ⟨v, r, rfl, h1, h2⟩ := h
      cases (show v = .bl b from h1)
      rw [bls_reps e1 h2]; rfl
    | _ => cases e
theorem ints_reps {B : Base} : ∀ {ds : List D} {bs : List Int} {vs : List V}, intsOf ds = some bs → Reps K B ds vs → vs = bs.map V.int
  | [], bs, vs, e, h => by cases e; exact h
  | x :: xs, bs, vs, e, h => by
    cases x with
    | int b =>
      obtain ⟨bs', e1, rfl⟩ := Option.map_eq_some_iff.mp (show (intsOf xs).map (b :: ·) = some bs from e)
      obtain ⟨v, r, rfl, h1, h2⟩ := h
      cases (show v = .int b from h1)
      rw [ints_reps e1 h2]; rfl
    | _ => cases e
theorem strs_reps {B : Base} : ∀ {ds : List D} {bs : List Str} {vs : List V}, strsOf ds = some bs → Reps K B ds vs → vs = bs.map V.str
  | [], bs, vs, e, h => by cases e; exact h
  | x :: xs, bs, vs, e, h => by
    cases x with
    | str b =>
      obtain ⟨bs', e1, rfl⟩ := Option.map_eq_some_iff.mp (show (strsOf xs).map (b :: ·) = some bs from e)
      obtain ⟨v, r, rfl, h1, h2⟩ := h
      cases (show v = .str b from h1)
      rw [strs_reps e1 h2]; rfl
    | _ => cases e
theorem reps_ints {B : Base} : ∀ (bs : List Int), Reps K B (bs.map D.int) (bs.map V.int)
  | [] => rfl
  | b :: bs => ⟨.int b, bs.map V.int, rfl, rfl, reps_ints bs⟩
theorem reps_strs {B : Base} : ∀ (bs : List Str), Reps K B (bs.map D.str) (bs.map V.str)
  | [] => rfl
  | b :: bs => ⟨.str b, bs.map V.str, rfl, rfl, reps_strs bs⟩
def allD : List D → Option D
  | [.lst xs] => (blsOf xs).map fun bs => .bl (bs.all id)
  | _ => none
def anyD : List D → Option D
  | [.lst xs] => (blsOf xs).map fun bs => .bl (bs.any id)
  | _ => none
def sumD : List D → Option D
  | [.lst xs] => (intsOf xs).map fun bs => .int bs.sum
  | [.tup xs] => (intsOf xs).map fun bs => .int bs.sum
  | _ => none
theorem ok_all : BltOk W K (rAll K) allD := by
  intro B H w xs ds d Q hb r px e k
  unfold allD at e
  split at e
  · rename_i ys
    obtain ⟨v, r', rfl, h1, h2⟩ := px
    cases (show r' = [] from h2)
    obtain ⟨a, vs, rfl, h3, h4⟩ := h1
    obtain ⟨bs, e1, rfl⟩ := Option.map_eq_some_iff.mp e
    cases bls_reps e1 h4
    exact ⟨a, bs, rfl, same_l hb h3, now_ok hb r k rfl⟩
  · cases e
theorem ok_any : BltOk W K (rAny K) anyD := by
  intro B H w xs ds d Q hb r px e k
  unfold anyD at e
  split at e
  · rename_i ys
    obtain ⟨v, r', rfl, h1, h2⟩ := px
    cases (show r' = [] from h2)
    obtain ⟨a, vs, rfl, h3, h4⟩ := h1
    obtain ⟨bs, e1, rfl⟩ := Option.map_eq_some_iff.mp e
    cases bls_reps e1 h4
    exact ⟨a, bs, rfl, same_l hb h3, now_ok hb r k rfl⟩
  · cases e
abbrev rSumA (K : PySem.W.Frag) : List V → Hp → VK → Prop := fun xs H Q => rSum K xs H Q ∨ rSumT K xs H Q
theorem cr_sumA (hc : X.calm = true) : CallR X (.builtin "sum") (rSumA X.K) := (cr_sum hc).or (cr_sumT hc)
theorem ok_sum : BltOk W K (rSumA K) sumD := by
  intro B H w xs ds d Q hb r px e k
  unfold sumD at e
  split at e
  · obtain ⟨v, r', rfl, h1, h2⟩ := px
    cases (show r' = [] from h2)
    obtain ⟨a, vs, rfl, h3, h4⟩ := h1
    obtain ⟨bs, e1, rfl⟩ := Option.map_eq_some_iff.mp e
    cases ints_reps e1 h4
    exact .inl ⟨a, bs, rfl, same_l hb h3, now_ok hb r k rfl⟩
  · obtain ⟨v, r', rfl, h1, h2⟩ := px
    cases (show r' = [] from h2)
    obtain ⟨a, vs, rfl, h3, h4⟩ := h1
    obtain ⟨bs, e1, rfl⟩ := Option.map_eq_some_iff.mp e
    cases ints_reps e1 h4
    exact .inr ⟨a, bs, rfl, same_t hb h3, now_ok hb r k rfl⟩
  · cases e
def tupleD : List D → Option D
  | [.lst xs] => some (.tup xs)
  | [.tup xs] => some (.tup xs)
  | _ => none
theorem ok_tuple : BltOk W K (rTupF K) tupleD := by
  intro B H w xs ds d Q hb r px e k
  unfold tupleD at e
  split at e
  · obtain ⟨v, r', rfl, h1, h2⟩ := px
    cases (show r' = [] from h2)
    obtain ⟨a, vs, rfl, h3, h4⟩ := h1
    cases e
    exact ⟨a, vs, rfl, .inl ⟨same_l hb h3, fun l ob ho hl => new_ok hb r k hl fun s => ⟨l, vs, rfl, tupF_new ho, Reps.mono s _ _ h4⟩⟩⟩
  · obtain ⟨v, r', rfl, h1, h2⟩ := px
    cases (show r' = [] from h2)
    obtain ⟨a, vs, rfl, h3, h4⟩ := h1
    cases e
    exact ⟨a, vs, rfl, .inr ⟨same_t hb h3, now_ok hb r k ⟨a, vs, rfl, h3, h4⟩⟩⟩
  · cases e
def listD : List D → Option D
  | [.lst xs] => some (.lst xs)
  | [.tup xs] => some (.lst xs)
  | _ => none
abbrev rListOf (K : PySem.W.Frag) : List V → Hp → VK → Prop := fun xs H Q => ∃ p ys, xs = [.ref p] ∧ (SqL K H p ys ∨ SqT K H p ys) ∧ ∀ l, H l = none → Q (.ref l) (upd H l (.lst ys))
theorem ok_list : BltOk W K (rListOf K) listD := by
  intro B H w xs ds d Q hb r px e k
  unfold listD at e
  split at e
  · obtain ⟨v, r', rfl, h1, h2⟩ := px
    cases (show r' = [] from h2)
    obtain ⟨a, vs, rfl, h3, h4⟩ := h1
    cases e
    exact ⟨a, vs, rfl, .inl (same_l hb h3), fun l hl => new_ok hb r k hl fun s => ⟨l, vs, rfl, upd_same, Reps.mono s _ _ h4⟩⟩
  · obtain ⟨v, r', rfl, h1, h2⟩ := px
    cases (show r' = [] from h2)
    obtain ⟨a, vs, rfl, h3, h4⟩ := h1
    cases e
    exact ⟨a, vs, rfl, .inr (same_t hb h3), fun l hl => new_ok hb r k hl fun s => ⟨l, vs, rfl, upd_same, Reps.mono s _ _ h4⟩⟩
  · cases e
def intD : List D → Option D
  | [.int i] => some (.int i)
  | [.bl b] => some (.int (if b then 1 else 0))
  | [.str x] => match PySem.intText? x with
    | some n => if x.length ≤ 640 then some (.int n) else none
    | none => none
  | _ => none
abbrev rIntA : List V → Hp → VK → Prop := fun xs H Q => (fun (xs : List V) (H : Hp) (Q : VK) => (∃ i, xs = [.int i] ∧ Q (.int i) H) ∨ ∃ k, xs = [.bl k] ∧ Q (.int (if k then 1 else 0)) H) xs H Q ∨ (fun (xs : List V) (H : Hp) (Q : VK) => ∃ a n, xs = [.str a] ∧ PySem.intText? a = some n ∧ a.length ≤ 640 ∧ Q (.int n) H) xs H Q
theorem call_intA : CallR X (.type "int") rIntA := call_int1.or call_int_str
theorem ok_int : BltOk W K rIntA intD := by
  intro B H w xs ds d Q hb r px e k
  unfold intD at e
  split at e
  · obtain ⟨v, r', rfl, h1, h2⟩ := px
    cases (show r' = [] from h2)
    cases e
    cases (show v = .int _ from h1)
    exact .inl (.inl ⟨_, rfl, now_ok hb r k rfl⟩)
  · obtain ⟨v, r', rfl, h1, h2⟩ := px
    cases (show r' = [] from h2)
    cases e
    cases (show v = .bl _ from h1)
    exact .inl (.inr ⟨_, rfl, now_ok hb r k rfl⟩)
  · rename_i x
    obtain ⟨v, r', rfl, h1, h2⟩ := px
    cases (show r' = [] from h2)
    cases (show v = .str x from h1)
    split at e
    · rename_i n hn
      split at e
      · rename_i hl
        cases e
        exact .inr ⟨x, n, rfl, hn, hl, now_ok hb r k rfl⟩
      · cases e
    · cases e
  · cases e
def strD : List D → Option D
  | [.int i] => if i.natAbs < 2 ^ 64 then some (.str (toString i)) else none
  | _ => none
theorem ok_str : BltOk W K (fun xs H Q => ∃ i, xs = [V.int i] ∧ i.natAbs.log2 < 1920 ∧ Q (.str (toString i)) H) strD := by
  intro B H w xs ds d Q hb r px e k
  unfold strD at e
  split at e
  · rename_i i
    obtain ⟨v, r', rfl, h1, h2⟩ := px
    cases (show r' = [] from h2)
    cases (show v = .int i from h1)
    split at e
    · rename_i hl
      cases e
      refine ⟨i, rfl, ?_, now_ok hb r k rfl⟩
      by_cases h0 : i.natAbs = 0
      · rw [h0]; decide
      · have := (Nat.log2_lt h0).mpr hl
        omega
    · cases e
  · cases e
end
end G
namespace G
open PySem L2 PyProof.Rows

/-! ### isinstance -/
def tyName : D → Option String
  | .non => some "NoneType"
  | .bl _ => some "bool"
  | .int _ => some "int"
  | .str _ => some "str"
  | .tup _ => some "tuple"
  | .lst _ => some "list"
  | .dic _ => some "dict"
  | _ => none
def isiD (Cs : Str → D → Option Bool) : List D → Option D
  | [x, c] => match x with
    | .exc n => (Cs n c).map .bl
    | x => match c, tyName x with
      | .ty T, some a => (kitB a T).map .bl
      | _, _ => none
  | _ => none
def clsVal (K : PySem.W.Frag) : D → Value
  | .ty n => .type n
  | .cls x => .ref (He.ga K x)
  | _ => .none
/-- what the classes say of one another -/
def ClsOk (K : PySem.W.Frag) (Cs : Str → D → Option Bool) : Prop := ∀ (c : Str) (d : D) (b : Bool), Cs c d = some b → ExcC K (He.ga K c) ∧ PySem.W.kitOne K (.ref (He.ga K c)) (clsVal K d) = some b ∧ ((∃ n, d = .ty n) ∨ ∃ x, d = .cls x)
section
variable {W : Bool} {K : PySem.W.Frag} {X : Cx}
def rIsX (K : PySem.W.Frag) : List V → Hp → VK → Prop := fun xs H Q => ∃ (a C : Addr) (c : V) (cv : Value) (b : Bool), xs = [.ref a, c] ∧ H a = some (ExcO C a) ∧ ExcC K C ∧ ClsV c cv ∧ PySem.W.kitOne K (.ref C) cv = some b ∧ Q (.bl b) H
theorem call_isX : CallR X (.builtin "isinstance") (rIsX X.K) := by
  intro pins s sg H xs us Q I r h
  obtain ⟨a, Cc, c, cv, b, rfl, ha, ec, kc, e, q⟩ := h
  obtain ⟨u1, u2, rfl, r1, r2⟩ := vals2 r
  cases (show u1 = Value.ref a from r1)
  have e2 := kc.eq r2
  subst e2
  obtain ⟨⟨oe, vs, hget, hz, hv⟩, _⟩ := (show ObjOk X.prog X.w H s.heap a (ExcO Cc a) from I.hok a _ ha)
  have J : PySem.W.InstAt s.heap a oe Cc none := by
    obtain ⟨oc, od, oda, osl⟩ := oe
    obtain ⟨h1, h2⟩ := hz
    dsimp only at h1 h2 hv
    subst h1 h2 hv
    exact ⟨hget, rfl, rfl, trivial⟩
  exact PySem.W.kia_one (PySem.W.handS_kitx_exc ec.hg ec.hk ec.hs ec.hd ec.ha ec.hn ec.ht ec.hm) I.kIn J e (fun z => nomatch z) fun tk => ⟨.bl b, H, I.kept (t' := tk) fun _ _ z => z, rfl, q⟩
abbrev rIsA2 (K : PySem.W.Frag) : List V → Hp → VK → Prop := fun xs H Q => rIsi K xs H Q ∨ rIsX K xs H Q
theorem call_isA2 : CallR X (.builtin "isinstance") (rIsA2 X.K) := call_isi.or call_isX
theorem tyX_rep {B : Base} {H : Hp} {d : D} {v : V} {a : String} (hs : Sm B.hp H) (e : tyName d = some a) (h : Rep K B d v) : TyX K H v (.type a) := by
  cases d with
  | non => cases e; cases (show v = .non from h); exact .base .non
  | bl b => cases e; cases (show v = .bl b from h); exact .base (.bl b)
  | int b => cases e; cases (show v = .int b from h); exact .base (.int b)
  | str b => cases e; cases (show v = .str b from h); exact .base (.str b)
  | tup xs =>
    cases e
    obtain ⟨p, vs, rfl, h1, _⟩ := h
    rcases same_t hs h1 with (h1 | ⟨o, h1⟩) | ⟨o, its, n, h1, h2, _⟩
    · exact .base (.tup h1)
    · exact .fTuple h1
    · exact .kTuple h1 h2
  | lst xs =>
    cases e
    obtain ⟨p, vs, rfl, h1, _⟩ := h
    rcases same_l hs h1 with (h1 | ⟨o, h1⟩) | ⟨o, its, n, h1, h2, _⟩
    · exact .base (.lst h1)
    · exact .base (.frz h1)
    · exact .kList h1 h2
  | dic xs =>
    cases e
    obtain ⟨p, vs, rfl, h1, _⟩ := h
    rcases same_rd hs h1 with h1 | ⟨o, h1⟩
    · exact .base (.dK h1)
    · exact .fDict h1
  | _ => cases e
theorem ok_isi {Cs : Str → D → Option Bool} (hC : ClsOk K Cs) : BltOk W K (rIsA2 K) (isiD Cs) := by
  intro B H w xs ds d Q hb r px e k
  have hs := hb
  unfold isiD at e
  split at e
  · rename_i x c
    obtain ⟨v, r', rfl, h1, h2⟩ := px
    obtain ⟨u, r'', rfl, h3, h4⟩ := h2
    cases (show r'' = [] from h4)
    split at e
    · rename_i n
      obtain ⟨b, e1, rfl⟩ := Option.map_eq_some_iff.mp e
      obtain ⟨ec, ek, hd⟩ := hC n c b e1
      obtain ⟨a, rfl, ha⟩ := h1
      refine .inr ⟨a, He.ga K n, u, clsVal K c, b, rfl, hs.get ha (fun _ z => nomatch z), ec, ?_, ek, now_ok hb r k rfl⟩
      rcases hd with ⟨m, rfl⟩ | ⟨m, rfl⟩
      · cases (show u = .ty m from h3); exact .ty m
      · cases (show u = .ref _ from h3); exact .own _
    · rename_i x hx
      split at e
      · rename_i T a ha
        obtain ⟨b, e1, rfl⟩ := Option.map_eq_some_iff.mp e
        cases (show u = .ty T from h3)
        exact .inl ⟨v, .ty T, .type a, .type T, b, rfl, .ty T, tyX_rep hs ha h1, kit_ty e1, now_ok hb r k rfl⟩
      · cases e
  · cases e
end

/-! ### order of texts -/
open PySem.Spec
def ltS (a b : Str) : Bool := ltCps a.cps.toList b.cps.toList
theorem lt_irr : ∀ a : List Nat, ltCps a a = false
  | [] => rfl
  | x :: r => by simp [ltCps, lt_irr r]
theorem lt_tri : ∀ a b : List Nat, ltCps a b = false → ltCps b a = false → a = b
  | [], [], _, _ => rfl
  | [], _ :: _, h, _ => by cases h
  | _ :: _, [], _, h => by cases h
  | x :: r, y :: t, h1, h2 => by
    simp only [ltCps, Bool.or_eq_false_iff, decide_eq_false_iff_not, Bool.and_eq_false_imp, beq_iff_eq] at h1 h2
    have e : x = y := by omega
    subst e
    rw [lt_tri r t (h1.2 rfl) (h2.2 rfl)]
theorem lt_trans : ∀ a b c : List Nat, ltCps a b = true → ltCps b c = true → ltCps a c = true
  | [], [], _, h, _ => by cases h
  | [], _ :: _, [], _, h => by cases h
  | [], _ :: _, _ :: _, _, _ => rfl
  | _ :: _, [], _, h, _ => by cases h
  | _ :: _, _ :: _, [], _, h => by cases h
  | x :: r, y :: t, z :: u, h1, h2 => by
    simp only [ltCps, Bool.or_eq_true, decide_eq_true_eq, Bool.and_eq_true, beq_iff_eq] at h1 h2 ⊢
    rcases h1 with h1 | ⟨rfl, h1⟩
    · rcases h2 with h2 | ⟨rfl, h2⟩
      · exact .inl (by omega)
      · exact .inl h1
    · rcases h2 with h2 | ⟨rfl, h2⟩
      · exact .inl h2
      · exact .inr ⟨rfl, lt_trans r t u h1 h2⟩
/-- not above: a total order -/
theorem le_trans' {a b c : List Nat} (h1 : ltCps b a = false) (h2 : ltCps c b = false) : ltCps c a = false := by
  cases h : ltCps c a with
  | false => rfl
  | true =>
    cases h3 : ltCps a b with
    | true => rw [lt_trans _ _ _ h h3] at h2; cases h2
    | false =>
      have e := lt_tri a b h3 h1
      subst e
      rw [h2] at h; cases h
theorem strEq_of {a b : Str} (h : a.cps.toList = b.cps.toList) : a = b := by
  cases a; cases b
  simp only [Str.mk.injEq]
  exact Array.toList_inj.mp h
def insS (x : Str) : List Str → List Str
  | [] => [x]
  | y :: r => if ltS y x then y :: insS x r else x :: y :: r
def sortS : List Str → List Str
  | [] => []
  | x :: r => insS x (sortS r)
abbrev LeS (a b : Str) : Prop := ltCps b.cps.toList a.cps.toList = false
theorem insS_perm (x : Str) : ∀ l : List Str, (insS x l).Perm (x :: l)
  | [] => .refl _
  | y :: r => by
    unfold insS
    split
    · exact ((insS_perm x r).cons y).trans (.swap x y r)
    · exact .refl _
theorem sortS_perm : ∀ l : List Str, (sortS l).Perm l
  | [] => .refl _
  | x :: r => (insS_perm x _).trans ((sortS_perm r).cons x)
theorem insS_pw (x : Str) : ∀ l : List Str, l.Pairwise LeS → (insS x l).Pairwise LeS
  | [], _ => by simp [insS]
  | y :: r, h => by
    obtain ⟨h1, h2⟩ := List.pairwise_cons.mp h
    unfold insS
    split
    · rename_i hl
      refine List.pairwise_cons.mpr ⟨fun z hz => ?_, insS_pw x r h2⟩
      rcases List.mem_cons.mp ((insS_perm x r).mem_iff.mp hz) with rfl | hz
      · show ltCps z.cps.toList y.cps.toList = false
        cases q : ltCps z.cps.toList y.cps.toList with
        | false => rfl
        | true =>
          have := lt_trans _ _ _ q (show ltCps y.cps.toList z.cps.toList = true from hl)
          rw [lt_irr] at this; cases this
      · exact h1 z hz
    · rename_i hl
      have hl' : ltCps y.cps.toList x.cps.toList = false := by simpa [ltS] using hl
      refine List.pairwise_cons.mpr ⟨fun z hz => ?_, h⟩
      rcases List.mem_cons.mp hz with rfl | hz
      · exact hl'
      · exact le_trans' hl' (h1 z hz)
theorem sortS_pw : ∀ l : List Str, (sortS l).Pairwise LeS
  | [] => by simp [sortS]
  | x :: r => insS_pw x _ (sortS_pw r)
theorem pw_unique : ∀ {l m : List Str}, l.Perm m → l.Pairwise LeS → m.Pairwise LeS → l = m
  | [], m, p, _, _ => p.nil_eq
  | a :: l, [], p, _, _ => by have := p.length_eq; simp at this
  | a :: l, b :: m, p, h1, h2 => by
    obtain ⟨a1, a2⟩ := List.pairwise_cons.mp h1
    obtain ⟨b1, b2⟩ := List.pairwise_cons.mp h2
    have e : a = b := by
      rcases List.mem_cons.mp (p.mem_iff.mp (List.mem_cons_self)) with e | ha
      · exact e
      · rcases List.mem_cons.mp (p.mem_iff.mpr (List.mem_cons_self)) with e | hb
        · exact e.symm
        · exact strEq_of (lt_tri _ _ (b1 a ha) (a1 b hb))
    subst e
    rw [pw_unique (List.Perm.cons_inv p) a2 b2]
theorem pw_of_rising : ∀ (p : Str) (l : List Str), risingS p l = true → (p :: l).Pairwise LeS
  | p, [], _ => by simp
  | p, x :: r, h => by
    obtain ⟨h1, h2⟩ := Bool.and_eq_true_iff.mp (show (!ltCps x.cps.toList p.cps.toList && risingS x r) = true from h)
    have ih := pw_of_rising x r h2
    have h1' : ltCps x.cps.toList p.cps.toList = false := by simpa using h1
    refine List.pairwise_cons.mpr ⟨fun z hz => ?_, ih⟩
    rcases List.mem_cons.mp hz with rfl | hz
    · exact h1'
    · exact le_trans' h1' ((List.pairwise_cons.mp ih).1 z hz)
theorem pw_of_sorted : ∀ (l : List Str), sortedS l = true → l.Pairwise LeS
  | [], _ => by simp
  | x :: r, h => pw_of_rising x r h
theorem sortS_unique {l m : List Str} (p : m.Perm l) (h : sortedS m = true) : m = sortS l :=
  pw_unique (p.trans (sortS_perm l).symm) (pw_of_sorted m h) (sortS_pw l)
theorem sortS_length (l : List Str) : (sortS l).length = l.length := (sortS_perm l).length_eq

/-! ### sorted of texts; of a dict's keys -/
section
variable {W : Bool} {K : PySem.W.Frag} {X : Cx}
def sortedD : List D → Option D
  | [.lst xs] => match strsOf xs with
    | some ss => if ss.length < 64 then some (.lst ((sortS ss).map .str)) else none
    | none => none
  | _ => none
theorem ok_sorted : BltOk W K (rSortedS K) sortedD := by
  intro B H w xs ds d Q hb r px e k
  unfold sortedD at e
  split at e
  · obtain ⟨v, r', rfl, h1, h2⟩ := px
    cases (show r' = [] from h2)
    obtain ⟨a, vs, rfl, h3, h4⟩ := h1
    split at e
    · rename_i ss hs
      split at e
      · rename_i h64
        cases e
        cases strs_reps hs h4
        refine ⟨a, ss, rfl, same_l hb h3, h64, fun ys p perm srt hp => ?_⟩
        have ey := sortS_unique perm srt
        subst ey
        exact new_ok hb r k hp fun s => ⟨p, _, rfl, upd_same, reps_strs _⟩
      · cases e
    · cases e
  · cases e
end
end G
namespace G
open PySem L2 PyProof.Rows PySem.Spec

def keysD : D → Option D
  | .dic kvs => some (.kys (kvs.map (·.1)))
  | _ => none
theorem repsK_keys {K : PySem.W.Frag} {B : Base} : ∀ {kvs : List (Key × D)} {vs : List (Key × V)}, RepsK K B kvs vs → vs.map (·.1) = kvs.map (·.1)
  | [], vs, h => by cases (show vs = [] from h); rfl
  | (k, x) :: xs, vs, h => by
    obtain ⟨v, r, rfl, _, h2⟩ := h
    simp only [List.map_cons, repsK_keys h2]
section
variable {X : Cx} {W : Bool} {E : XS} {e : Expr} {fe : SE Wl} {apos cpos : Pos}
/-- e.keys() -/
def tKeys (te : TE) : TE := fun sg H Q => te sg H fun x H1 => ∃ d kvs, x = .ref d ∧ Rd H1 d (.dK kvs) ∧ ∀ r, H1 r = none → Q (.ref r) (upd H1 r (KeysO r d))
theorem pe_keys {te : TE} (he : PE X e te) (hbase : attributeBase e "keys" X.env (eval e X.env) = eval e X.env) (hline : (apos.endLine == cpos.line) = true) : PE X (.Call (.Attribute e "keys" apos) [] [] cpos) (tKeys te) := by
  refine ⟨fun pins s sg H Q I h => ?_⟩
  refine wpAny_Call_method (T := "dict") (id := "dict.keys") hbase rfl hline F.plainAttrs_dict F.slot_dict_keys F.type_dict_keys (thn (he.run pins s sg H _ I h) fun u s1 ⟨x, H1, I1, rx, d, kvs, ex, hd, q⟩ => ?_)
  subst ex
  obtain rfl : u = Value.ref d := rx
  obtain ⟨ht, hnd, hsm⟩ := isD_at I1 (.inl ⟨kvs, hd⟩)
  obtain ⟨_, _, vs, _, dd⟩ := dk_rd I1.hok hd
  refine ⟨ht, hnd, ?_⟩
  have fin : EP X pins sg Q (.ref s1.heap.objs.size) { s1 with heap := s1.heap.push { cls := .type "dict_keys", data := .fields #[.ref d] } } :=
    ⟨.ref s1.heap.objs.size, upd H1 s1.heap.objs.size (KeysO s1.heap.objs.size d), I1.laid (t' := s1.toks) (fun b ob q => Heap.get?_push_of_some _ q) (Nat.le_refl _) (keysO_ok ⟨_, Heap.get?_push_size _ rfl, rfl, rfl⟩), rfl, q _ (I1.hok.fresh (Nat.le_refl _))⟩
  show wpAny _ _ (callWith cpos (.builtin "dict.keys") [.ref d] [] []) _ X.xe s1
  exact method_meetsIn F.slot_dict_keys F.entry_dict_keys rfl (PySem.evalArgs_none ⟨rfl, ht, F.args_dict_keys_1 _, _, PySem.W.kdl_meets_keys (mixKind X.prog X.w) d hsm, ⟨vs, dd⟩, fin⟩)
theorem pe_keysD (he : PE X e (tD W X.K E fe)) (hbase : attributeBase e "keys" X.env (eval e X.env) = eval e X.env) (hline : (apos.endLine == cpos.line) = true) : PE X (.Call (.Attribute e "keys" apos) [] [] cpos) (tD W X.K E (eUn keysD fe)) := (pe_keys he hbase hline).weak fun sg H Q q => by
  refine tG_imp (tG_bind (Rp := RpE X.K) q) fun x H1 q1 => ?_
  obtain ⟨rh, p, w1, B1, hb1, he1, r1, px, o1⟩ := q1
  obtain ⟨d, e, k⟩ := out_lift o1
  cases p with
  | dic kvs =>
    cases e
    obtain ⟨a, vs, rfl, h1, h2⟩ := px
    refine ⟨a, vs, rfl, same_rd hb1 h1, fun r hr => new_ok hb1 r1 k hr fun s => ⟨r, a, vs, rfl, upd_same, same_rd s.1 h1, repsK_keys h2⟩⟩
  | _ => cases e
end
section
variable {W : Bool} {K : PySem.W.Frag} {X : Cx}
/-- sorted(view) -/
theorem call_sortedV (hcalm : X.calm = true) : CallR X (.builtin "sorted") (fun xs H Q => ∃ (r a : Addr) (kvs : List (Key × V)) (ks : List Str), xs = [.ref r] ∧ H r = some (KeysO r a) ∧ Rd H a (.dK kvs) ∧ kvs.map (·.1) = ks.map Sum.inr ∧ ks.length < 64 ∧
    ∀ ys p, ys.Perm ks → sortedS ys = true → H p = none → Q (.ref p) (upd H p (.lst (ys.map V.str)))) := by
  intro pins s sg H xs us Q I r q
  obtain ⟨rv, a, kvs, ks, ex, hv, hd, hks, h64, q⟩ := q
  subst ex
  obtain ⟨u, eu, rx⟩ := vals1 r
  subst eu
  cases rx
  obtain ⟨z, lo, vs, rel, dd⟩ := dk_rd I.hok hd
  obtain ⟨ep, hat⟩ := dd.dictAt
  have hview : PySem.W.KdlKeysView s.heap rv a := (show ObjOk X.prog X.w H s.heap rv (KeysO rv a) from I.hok rv _ hv).1
  have hkeys : vs.map (·.1) = ks.map Sum.inr := rel.keys.symm.trans hks
  have hl : vs.length = ks.length := by
    have e := congrArg List.length hkeys
    rw [List.length_map, List.length_map] at e
    exact e
  have h16 : vs.length ≤ sizeLine := by rw [hl, sizeLine_eq]; omega
  refine Calls.call_function_entry PyProof.Rows.kind_sorted PyProof.Rows.plain_sorted PyProof.Rows.entry_sorted (PyProof.Rows.args_sorted1 _) ?_
  unfold Builtin.«sorted»
  refine wpAny_bind (m := checkCount "sorted" 1 1 _) (wpAny_pure ?_)
  refine wpAny_bind (PySem.W.kdu_collect (A := X.A.in1) (PySem.W.kdl_keys (knd := mixKind X.prog X.w) (r := rv) (d := a) (kvs := vs) (ep := ep)) (I.ok.hd hcalm) ⟨hview, hat⟩ h16 fun h' tk acc hk hacc => ?_)
  have hal : acc.toList.length = ks.length := by rw [Array.length_toList, hacc.1, hl]
  have hS : StrsAre acc.toList ks := strs_at hal fun j v e => by
    obtain ⟨k, x, e1, e2⟩ := hacc.2 j v (by rw [← Array.getElem?_toList]; exact e)
    have e3 : (vs.map (·.1))[j]? = some k := by rw [List.getElem?_map, e1]; all_goals rfl
    rw [hkeys, List.getElem?_map] at e3
    cases e4 : ks[j]? with
    | none => rw [e4] at e3; cases e3
    | some y =>
      rw [e4] at e3
      have e5 : Sum.inr y = k := Option.some.inj e3
      subst e5
      obtain ⟨t, ev⟩ := Value.isStrOf_shape (x := y) (v := v) e2
      exact ⟨y, t, rfl, ev⟩
  have I1 : Inv X pins sg H { s with heap := h', toks := tk } := I.kept hk
  refine wpAny_bind (wpAny_newList ?_ (by rw [hal, sizeLine_eq]; omega))
  have hoL : (h'.push (seqObj "list" acc.toList.toArray 0)).get? h'.objs.size = some (seqObj "list" acc.toList.toArray 0) := Heap.get?_push_size _ rfl
  show wpAny _ _ _ _ _ { s with heap := h'.push (seqObj "list" acc.toList.toArray 0), toks := tk }
  refine wpAny_bind (wpAny_holding (wpAny_call_entry PyProof.Rows.slot_list_sort ⟨_, hoL, rfl⟩ PyProof.Rows.entry_list_sort
    (list_sort_treeK strKind_oneLt (s := { s with heap := h'.push (seqObj "list" acc.toList.toArray 0), toks := tk }) hoL hS.keysOf (fun v₁ v₂ rest e => keyKind_strs (by rw [← e]; exact hS)) (by rw [hal]; exact h64) fun st' hp hs => ⟨_, rfl, ?_⟩)
    (PyProof.Rows.args_list_sort _)))
  obtain ⟨ys, g1, g2, g3⟩ := sorted_out_str hS hp hs
  obtain ⟨e', he'⟩ := PyProof.Rows.sortedHeap_at (vs := acc.toList) (out := (arrOf st').map (·.2)) hoL
  have hlen : (ys.map V.str).length ≤ sizeLine := by
    rw [List.length_map, g2.length_eq]
    exact Nat.le_trans (Nat.le_of_lt h64) (by decide)
  refine wpAny_pure ⟨_, rfl, .ref h'.objs.size, upd H h'.objs.size (.lst (ys.map V.str)), I1.laid (t' := tk) (fun b u e => ?_) (Nat.le_refl _)
    (show ObjOk X.prog X.w _ _ _ (.lst (ys.map V.str)) from ⟨hlen, ((arrOf st').map (·.2)).toList, e', vals_of_strs g1, by rw [Array.toArray_toList]; exact he'⟩), rfl, q ys _ g2 g3 (I1.hok.fresh (Nat.le_refl _))⟩
  have hb : b < h'.objs.size := Heap.lt_size e
  rw [PyProof.Rows.sortedHeap_old (Nat.ne_of_lt hb) (by rw [size_push']; exact Nat.lt_succ_of_lt hb)]
  exact Heap.get?_push_of_some _ e
/-- list(view) -/
theorem call_listV (hcalm : X.calm = true) : CallR X (.type "list") (fun xs H Q => ∃ (r a : Addr) (kvs : List (Key × V)), xs = [.ref r] ∧ H r = some (KeysO r a) ∧ Rd H a (.dK kvs) ∧ ∀ p, H p = none → Q (.ref p) (upd H p (.lst (kvs.map fun kv => kV kv.1)))) := by
  intro pins s sg H xs us Q I r q
  obtain ⟨rv, a, kvs, ex, hv, hd, q⟩ := q
  subst ex
  obtain ⟨u, eu, rx⟩ := vals1 r
  subst eu
  cases rx
  obtain ⟨z, lo, vs, rel, dd⟩ := dk_rd I.hok hd
  obtain ⟨ep, hat⟩ := dd.dictAt
  have hview : PySem.W.KdlKeysView s.heap rv a := (show ObjOk X.prog X.w H s.heap rv (KeysO rv a) from I.hok rv _ hv).1
  have hl := rel.length
  refine PySem.W.kdl_call (PySem.W.kdl_keys (knd := mixKind X.prog X.w) (r := rv) (d := a) (kvs := vs) (ep := ep)) (I.ok.hd hcalm) ⟨hview, hat⟩ (by rw [← hl]; exact z) fun h' tk acc c hk hD hacc => ?_
  have hal : acc.toList.length = vs.length := by rw [Array.length_toList, hacc.1]
  have hV : Vals (vs.map fun p => kV p.1) acc.toList := keys_at hal fun j v e => hacc.2 j v (by rw [← Array.getElem?_toList]; exact e)
  have hV2 : Vals (kvs.map fun kv => kV kv.1) acc.toList := by
    have e : (kvs.map fun kv => kV kv.1) = vs.map fun p => kV p.1 := by
      have := congrArg (List.map kV) rel.keys
      rw [List.map_map, List.map_map] at this
      exact this
    rw [e]; exact hV
  exact ⟨.ref s.heap.objs.size, upd H s.heap.objs.size (.lst (kvs.map fun kv => kV kv.1)), I.laid (t' := tk) hk (Nat.le_refl _) ⟨by rw [List.length_map]; exact z, acc.toList, c, hV2, by rw [Array.toArray_toList]; exact hD⟩, rfl, q _ (I.hok.fresh (Nat.le_refl _))⟩
/-- keys that are texts -/
def ksOf : List Key → Option (List Str)
  | [] => some []
  | .inr x :: r => (ksOf r).map (x :: ·)
  | _ => none
theorem ksOf_eq : ∀ {ks : List Key} {ss : List Str}, ksOf ks = some ss → ks = ss.map Sum.inr
  | [], ss, e => by cases e; rfl
  | .inr x :: r, ss, e => by
    obtain ⟨s', e1, rfl⟩ := Option.map_eq_some_iff.mp (show (ksOf r).map (x :: ·) = some ss from e)
    rw [ksOf_eq e1]; rfl
  | .inl x :: r, ss, e => by cases e
def keyD : Key → D
  | .inl i => .int i
  | .inr x => .str x
def sortedVD : List D → Option D
  | [.kys ks] => match ksOf ks with
    | some ss => if ss.length < 64 then some (.lst ((sortS ss).map .str)) else none
    | none => none
  | _ => none
abbrev rSortedV : List V → Hp → VK → Prop := fun xs H Q => ∃ (r a : Addr) (kvs : List (Key × V)) (ks : List Str), xs = [.ref r] ∧ H r = some (KeysO r a) ∧ Rd H a (.dK kvs) ∧ kvs.map (·.1) = ks.map Sum.inr ∧ ks.length < 64 ∧
    ∀ ys p, ys.Perm ks → sortedS ys = true → H p = none → Q (.ref p) (upd H p (.lst (ys.map V.str)))
theorem ok_sortedV : BltOk W K rSortedV sortedVD := by
  intro B H w xs ds d Q hb r px e k
  have hs := hb
  unfold sortedVD at e
  split at e
  · obtain ⟨v, r', rfl, h1, h2⟩ := px
    cases (show r' = [] from h2)
    obtain ⟨rv, a, vs, rfl, h3, h4, h5⟩ := h1
    split at e
    · rename_i ss hss
      split at e
      · rename_i h64
        cases e
        refine ⟨rv, a, vs, ss, rfl, hs.get h3 (fun _ z => nomatch z), same_rd hs h4, h5.trans (ksOf_eq hss), h64, fun ys p perm srt hp => ?_⟩
        have ey := sortS_unique perm srt
        subst ey
        exact new_ok hb r k hp fun s => ⟨p, _, rfl, upd_same, reps_strs _⟩
      · cases e
    · cases e
  · cases e
/-- sorted: a list of texts, a view of texts -/
def sortedA (xs : List D) : Option D := match sortedD xs with
  | some d => some d
  | none => sortedVD xs
abbrev rSortedA (K : PySem.W.Frag) : List V → Hp → VK → Prop := fun xs H Q => rSortedS K xs H Q ∨ rSortedV xs H Q
theorem call_sortedA (hc : X.calm = true) : CallR X (.builtin "sorted") (rSortedA X.K) := cr_sortedS.or (call_sortedV hc)
theorem ok_sortedA : BltOk W K (rSortedA K) sortedA := by
  intro B H w xs ds d Q hb r px e k
  unfold sortedA at e
  split at e
  · rename_i d' h
    cases e
    exact .inl (ok_sorted B H w xs ds d Q hb r px h k)
  · exact .inr (ok_sortedV B H w xs ds d Q hb r px e k)
theorem reps_keys {B : Base} : ∀ (ks : List Key), Reps K B (ks.map keyD) (ks.map kV)
  | [] => rfl
  | .inl i :: r => ⟨.int i, _, rfl, rfl, reps_keys r⟩
  | .inr i :: r => ⟨.str i, _, rfl, rfl, reps_keys r⟩
def listVD : List D → Option D
  | [.kys ks] => some (.lst (ks.map keyD))
  | xs => listD xs
abbrev rListA (K : PySem.W.Frag) : List V → Hp → VK → Prop := fun xs H Q => rListOf K xs H Q ∨ (fun (xs : List V) (H : Hp) (Q : VK) => ∃ (r a : Addr) (kvs : List (Key × V)), xs = [.ref r] ∧ H r = some (KeysO r a) ∧ Rd H a (.dK kvs) ∧ ∀ p, H p = none → Q (.ref p) (upd H p (.lst (kvs.map fun kv => kV kv.1)))) xs H Q
theorem call_listA (hc : X.calm = true) : CallR X (.type "list") (rListA X.K) := call_list_of.or (call_listV hc)
theorem ok_listA : BltOk W K (rListA K) listVD := by
  intro B H w xs ds d Q hb r px e k
  have hs := hb
  unfold listVD at e
  split at e
  · obtain ⟨v, r', rfl, h1, h2⟩ := px
    cases (show r' = [] from h2)
    obtain ⟨rv, a, vs, rfl, h3, h4, h5⟩ := h1
    cases e
    refine .inr ⟨rv, a, vs, rfl, hs.get h3 (fun _ z => nomatch z), same_rd hs h4, fun p hp => new_ok hb r k hp fun s => ⟨p, _, rfl, upd_same, ?_⟩⟩
    subst h5
    have e2 : (vs.map fun kv => kV kv.1) = (vs.map (·.1)).map kV := by rw [List.map_map]; rfl
    rw [e2]
    exact reps_keys _
  · exact .inl (ok_list B H w xs ds d Q hb r px e k)
/-- dict(d) -/
def dictD : List D → Option D
  | [.dic kvs] => some (.dic kvs)
  | _ => none
theorem ok_dict : BltOk W K (fun xs H Q => ∃ (a : Addr) (kvs : List (Key × V)), xs = [.ref a] ∧ Rd H a (.dK kvs) ∧ ∀ p, H p = none → Q (.ref p) (upd H p (.dK kvs))) dictD := by
  intro B H w xs ds d Q hb r px e k
  have hs := hb
  unfold dictD at e
  split at e
  · obtain ⟨v, r', rfl, h1, h2⟩ := px
    cases (show r' = [] from h2)
    obtain ⟨a, vs, rfl, h3, h4⟩ := h1
    cases e
    exact ⟨a, vs, rfl, same_rd hs h3, fun p hp => new_ok hb r k hp fun s => ⟨p, vs, rfl, .inl upd_same, RepsK.mono s _ _ h4⟩⟩
  · cases e
end
end G
namespace G
open PySem L2 PyProof.Rows PySem.Spec

/-! ### what is walked -/
def WalkD (W : Bool) (K : PySem.W.Frag) (J : It) (ds : List D) (B : Base) : Prop := Walk J ds.length (fun H => Sm B.hp H) (fun i H x H' => H' = H ∧ ∃ d, ds[i]? = some d ∧ Rep K B d x)
abbrev RpI (W : Bool) (K : PySem.W.Frag) : Base → List D → It → Prop := fun B ds J => WalkD W K J ds B
abbrev SI (T : Type) := Env → T → Res T (List D)
abbrev iD (W : Bool) (K : PySem.W.Frag) (E : XS) (f : SI Wl) : TI := tG W K E (RpI W K) f
def signsD (x : Str) : List D := x.cps.toList.map fun c => .str ⟨#[c]⟩
def itemsOf : D → Option (List D)
  | .lst xs => some xs
  | .tup xs => some xs
  | .str x => some (signsD x)
  | _ => none
section
variable {T : Type}
def liftL (o : Option (List D)) (w : T) : Res T (List D) := match o with
  | some d => .ok d w
  | none => .fail
def iItems (f : SE T) : SI T := fun rh w => (f rh w).bind fun x w1 => liftL (itemsOf x) w1
def rangeL (n : Nat) : List D := (List.range n).map fun i => D.int (i : Nat)
def rangeFrom (lo : Int) (n : Nat) : List D := (List.range n).map fun i => D.int (lo + (i : Nat))
def range1 : List D → Option (List D)
  | [.int j] => if -100000 ≤ j ∧ j ≤ 100000 then some (rangeFrom 0 j.toNat) else none
  | _ => none
def range2 : List D → Option (List D)
  | [.int i, .int j] => if -100000 ≤ i ∧ i ≤ 100000 ∧ -100000 ≤ j ∧ j ≤ 100000 then some (rangeFrom i (j - i).toNat) else none
  | _ => none
def iRange (g : List D → Option (List D)) (fs : SL T) : SI T := fun rh w => (fs rh w).bind fun xs w1 => liftL (g xs) w1
end
section
variable {X : Cx} {W : Bool} {E : XS} {e tg : Expr} {fe : SE Wl}
/-- a list, a tuple or a text is walked -/
def tIter (K : PySem.W.Frag) (te : TE) : TI := fun sg H R => te sg H fun x H1 => (∃ a, x = .ref a ∧ (∃ xs, SqL K H1 a xs) ∧ R (Itl K a) H1) ∨ (∃ a, x = .ref a ∧ (∃ xs, SqT K H1 a xs) ∧ R (Itt K a) H1) ∨ ∃ z, x = .str z ∧ R (Its z) H1
theorem pi_iter {te : TE} (he : PE X e te) : PI X tg e (tIter X.K te) := by
  refine ⟨fun pins s sg H R I h => ?_⟩
  refine thn (he.run pins s sg H _ I h) fun v s1 ⟨x, H1, I1, r1, q1⟩ => ?_
  rcases q1 with ⟨a, rfl, ⟨xs, hq⟩, q⟩ | ⟨a, rfl, ⟨xs, hq⟩, q⟩ | ⟨z, rfl, q⟩
  · cases r1
    obtain ⟨its, rv, p, hz⟩ := I1.list hq
    refine wpAny_pyIter_list p.isList ?_
    refine ⟨s1.heap.objs.size, [s1.heap.objs.size], _, _, H1, rfl, I1.kept (t' := s1.toks) fun b o e => Heap.get?_push_of_some _ e, turn_list a _, ⟨_, Heap.get?_push_size _ rfl, rfl, rfl⟩, fun b hb => ?_, q⟩
    have e : b = s1.heap.objs.size := by simpa using hb
    subst e
    exact I1.fpOk (Nat.le_refl _) (I1.hok.fresh (Nat.le_refl _))
  · cases r1
    obtain ⟨its, rv, p, hz⟩ := I1.tuple hq
    refine wpAny_pyIter_tuple (show s1.heap.IsTuple a its.toArray from p) ?_
    refine ⟨s1.heap.objs.size, [s1.heap.objs.size], _, _, H1, rfl, I1.kept (t' := s1.toks) fun b o e => Heap.get?_push_of_some _ e, turn_tuple a _, ⟨_, Heap.get?_push_size _ rfl, rfl, rfl⟩, fun b hb => ?_, q⟩
    have e : b = s1.heap.objs.size := by simpa using hb
    subst e
    exact I1.fpOk (Nat.le_refl _) (I1.hok.fresh (Nat.le_refl _))
  · obtain ⟨t, rfl⟩ := r1
    cases ha : z.cps.all (· < 128)
    · exact wpAny_pyIter_wide ha (pi_one (tk := s1.toks) I1 _ (turn_str _ z t "str_iterator" (.inr rfl)) ⟨_, Heap.get?_push_size _ rfl, rfl, rfl⟩ q)
    · exact wpAny_pyIter_ascii ha (pi_one (tk := s1.toks) I1 _ (turn_str _ z t "str_ascii_iterator" (.inl rfl)) ⟨_, Heap.get?_push_size _ rfl, rfl, rfl⟩ q)
theorem _root_.L2.PI.weak {t t' : TI} (h : PI X tg e t) (w : ∀ sg H Q, t' sg H Q → t sg H Q) : PI X tg e t' := ⟨fun pins s sg H Q I q => h.run pins s sg H Q I (w _ _ _ q)⟩
theorem walkD_seq {K : PySem.W.Frag} {J : It} {ds : List D} {vs : List V} {B : Base} {G : Hp → Prop} (w : Walk J vs.length G (YAt vs)) (hg : ∀ H, Sm B.hp H → G H) (h : Reps K B ds vs) : WalkD W K J ds B := by
  unfold WalkD
  rw [← h.length]
  exact w.mono hg fun i H x H' hi g y => ⟨y.1, let ⟨d, h1, h2⟩ := h.get' y.2; ⟨d, h1, h2⟩⟩
theorem pi_itemsD (he : PE X e (tD W X.K E fe)) : PI X tg e (iD W X.K E (iItems fe)) := (pi_iter he).weak fun sg H R q => by
  refine tG_imp (tG_bind (Rp := RpE X.K) q) fun x H1 q1 => ?_
  obtain ⟨rh, p, w1, B1, hb1, he1, r1, px, o1⟩ := q1
  have hs := hb1
  cases p with
  | lst xs =>
    obtain ⟨a, vs, rfl, h1, h2⟩ := px
    refine .inl ⟨a, rfl, ⟨vs, same_l hs h1⟩, Out.now (Rp := RpI W X.K) hb1 r1 ?_ o1⟩
    exact walkD_seq walk_list (fun H hH => same_l hH h1) h2
  | tup xs =>
    obtain ⟨a, vs, rfl, h1, h2⟩ := px
    refine .inr (.inl ⟨a, rfl, ⟨vs, same_t hs h1⟩, Out.now (Rp := RpI W X.K) hb1 r1 ?_ o1⟩)
    exact walkD_seq walk_tup (fun H hH => same_t hH h1) h2
  | str z =>
    cases (show x = .str z from px)
    refine .inr (.inr ⟨z, rfl, Out.now (Rp := RpI W X.K) hb1 r1 ?_ o1⟩)
    have hl : (signsD z).length = z.cps.size := by simp [signsD]
    show Walk (Its z) (signsD z).length _ _
    rw [hl]
    refine walk_str.mono (fun _ _ => trivial) fun i H x H' hi g y => ⟨y.1, ?_⟩
    obtain ⟨c, h1, rfl⟩ := y.2
    refine ⟨.str ⟨#[c]⟩, ?_, rfl⟩
    unfold signsD
    rw [List.getElem?_map, Array.getElem?_toList, h1]
    rfl
  | _ => exact o1.elim
theorem walkD_range {K : PySem.W.Frag} {lo : Int} {n : Nat} {B : Base} : WalkD W K (Itr lo n) (rangeFrom lo n) B := by
  unfold WalkD
  have hl : (rangeFrom lo n).length = n := by simp [rangeFrom]
  rw [hl]
  refine walk_range.mono (fun _ _ => trivial) fun i H x H' hi g y => ⟨y.1, .int (lo + i), ?_, y.2⟩
  unfold rangeFrom
  rw [List.getElem?_map, List.getElem?_range hi]
  rfl
theorem pi_range1D {a : Expr} {fs : SL Wl} {p pos : Pos} (hg : Gl X "range") (hm : X.mg "range" = none) (ha : PA X [a] (tL W X.K E fs)) (hs : starEach [a] X.env = [(false, eval a X.env)]) : PI X tg (.Call (.Name "range" p) [a] [] pos) (iD W X.K E (iRange range1 fs)) := (pi_range1 hg hm ha hs).weak fun sg H R q => by
  refine tG_imp (tG_bind (Rp := RpA X.K) q) fun xs H1 q1 => ?_
  obtain ⟨rh, ds, w1, B1, hb1, he1, r1, px, o1⟩ := q1
  cases hr : range1 ds with
  | none => rw [hr] at o1; exact o1.elim
  | some out =>
    rw [hr] at o1
    unfold range1 at hr
    split at hr
    · rename_i j
      obtain ⟨v, r', rfl, h1, h2⟩ := px
      cases (show r' = [] from h2); cases (show v = .int j from h1)
      split at hr
      · rename_i hj
        cases hr
        exact ⟨j, rfl, by omega, by omega, Out.now (Rp := RpI W X.K) hb1 r1 walkD_range o1⟩
      · cases hr
    · cases hr
end
end G
namespace G
open PySem L2 PyProof.Rows PySem.Spec

/-! ### targets -/
inductive Tg where
  | nm (i : Nat)
  | tp (is : List Nat)
def Tg.slots : Tg → List Nat
  | .nm i => [i]
  | .tp is => is
def setAll : List Nat → List D → Env → Option Env
  | [], [], rh => some rh
  | i :: is, d :: ds, rh => setAll is ds (rh.set i (some d))
  | _, _, _ => none
def tgSet : Tg → D → Env → Option Env
  | .nm i, d, rh => some (rh.set i (some d))
  | .tp is, .tup ds, rh => setAll is ds rh
  | .tp _, _, _ => none
/-- a target's reading does what tgSet tells -/
def TgOk (W : Bool) (K : PySem.W.Frag) (g : TG) (t : Tg) : Prop := ∀ (B : Base) (H : Hp) (x : V) (d : D) (sg : L2.St) (rh rh' : Env) (Q : L2.St → Hp → Prop), Sm B.hp H → Rep K B d x → EnvR K B sg rh → tgSet t d rh = some rh' →
  (∀ sg', EnvR K B sg' rh' → sg'.length = sg.length → (∀ j, j ∉ t.slots → sg'[j]? = sg[j]?) → Q sg' H) → g x sg H Q
theorem EnvR.set {K : PySem.W.Frag} {B : Base} {sg : L2.St} {rh : Env} (h : EnvR K B sg rh) (i : Nat) {d : D} {v : V} (r : Rep K B d v) : EnvR K B (sg.set i (some v)) (rh.set i (some d)) := ⟨by simp [h.len], fun j d' e => by
  have hl := h.len
  by_cases hj : i = j
  · subst hj
    by_cases hlt : i < rh.length
    · rw [List.getElem?_set_self hlt] at e
      cases e
      exact ⟨v, by rw [List.getElem?_set_self (by omega)], r⟩
    · rw [List.getElem?_eq_none (by simpa using hlt)] at e; cases e
  · rw [List.getElem?_set_ne hj] at e
    obtain ⟨u, h1, h2⟩ := h.on j d' e
    exact ⟨u, by rw [List.getElem?_set_ne hj]; exact h1, h2⟩⟩
theorem tg_nm {W : Bool} {K : PySem.W.Frag} (i : Nat) : TgOk W K (gName i) (.nm i) := by
  intro B H x d sg rh rh' Q hb r he e k
  cases e
  exact k _ (he.set i r) (by simp) fun j hj => List.getElem?_set_ne fun z => hj (by simp [Tg.slots, z])
def gNames : List Nat → TGs
  | [] => gNil
  | i :: is => gCons (gName i) (gNames is)
theorem tgs_ok {K : PySem.W.Frag} {B : Base} {H : Hp} : ∀ (is : List Nat) (ds : List D) (vs : List V) (sg : L2.St) (rh rh' : Env) (Q : L2.St → Hp → Prop), Reps K B ds vs → EnvR K B sg rh → setAll is ds rh = some rh' →
    (∀ sg', EnvR K B sg' rh' → sg'.length = sg.length → (∀ j, j ∉ is → sg'[j]? = sg[j]?) → Q sg' H) → gNames is vs sg H Q
  | [], [], vs, sg, rh, rh', Q, r, he, e, k => by
    cases e
    exact ⟨r, k sg he rfl fun _ _ => rfl⟩
  | [], _ :: _, vs, sg, rh, rh', Q, r, he, e, k => by cases e
  | _ :: _, [], vs, sg, rh, rh', Q, r, he, e, k => by cases e
  | i :: is, d :: ds, vs, sg, rh, rh', Q, r, he, e, k => by
    obtain ⟨v, r', rfl, h1, h2⟩ := r
    refine ⟨v, r', rfl, ?_⟩
    show gNames is r' (sg.set i (some v)) H Q
    refine tgs_ok is ds r' _ _ rh' Q h2 (he.set i h1) e fun sg' a1 a2 a4 => k sg' a1 (by simpa using a2) fun j hj => ?_
    have h3 : j ≠ i := fun z => hj (by simp [z])
    have h4 : j ∉ is := fun z => hj (by simp [z])
    rw [a4 j h4, List.getElem?_set_ne (Ne.symm h3)]
theorem tg_tp {W : Bool} {K : PySem.W.Frag} (is : List Nat) : TgOk W K (gTup K is.length (gNames is)) (.tp is) := by
  intro B H x d sg rh rh' Q hb r he e k
  cases d with
  | tup ds =>
    obtain ⟨a, vs, rfl, h1, h2⟩ := r
    refine ⟨a, vs, rfl, same_t hb h1, ?_, tgs_ok is ds vs sg rh rh' Q h2 he e k⟩
    have : ∀ (is : List Nat) (ds : List D) (rh : Env), setAll is ds rh = some rh' → ds.length = is.length := by
      intro is
      induction is with
      | nil => intro ds rh e; cases ds with
        | nil => rfl
        | cons _ _ => cases e
      | cons i is ih => intro ds rh e; cases ds with
        | nil => cases e
        | cons d ds => simp [ih ds _ e]
    rw [h2.length]
    exact this is ds rh e
  | _ => cases e

/-! ### wiping -/
def wipeE (rh : Env) : List Nat → Env
  | [] => rh
  | v :: vs => (wipeE rh vs).set v none
theorem wipeE_length (rh : Env) : ∀ vs : List Nat, (wipeE rh vs).length = rh.length
  | [] => rfl
  | v :: vs => by unfold wipeE; rw [List.length_set, wipeE_length rh vs]
theorem wipeE_some {rh : Env} {i : Nat} {x : D} : ∀ {vs : List Nat}, (wipeE rh vs)[i]? = some (some x) → rh[i]? = some (some x) ∧ i ∉ vs
  | [], h => ⟨h, by simp⟩
  | v :: vs, h => by
    unfold wipeE at h
    by_cases hi : v = i
    · subst hi
      by_cases hv : v < (wipeE rh vs).length
      · rw [List.getElem?_set_self hv] at h; cases h
      · rw [List.getElem?_eq_none (by simpa using hv)] at h; cases h
    · rw [List.getElem?_set_ne hi] at h
      obtain ⟨h1, h2⟩ := wipeE_some h
      exact ⟨h1, by simp only [List.mem_cons, not_or]; exact ⟨fun e => hi e.symm, h2⟩⟩
theorem wipe_out' {sg : L2.St} {i : Nat} : ∀ {vs : List Nat}, i ∉ vs → (wipe sg vs)[i]? = sg[i]?
  | [], _ => rfl
  | v :: vs, h => by
    have h1 : v ≠ i := fun z => h (by simp [z])
    have h2 : i ∉ vs := fun z => h (by simp [z])
    unfold wipe
    rw [List.getElem?_set_ne h1, wipe_out' h2]
theorem wipe_in {sg : L2.St} {i : Nat} (hi : i < sg.length) : ∀ {vs : List Nat}, i ∈ vs → (wipe sg vs)[i]? = some none
  | [], h => by cases h
  | v :: vs, h => by
    unfold wipe
    by_cases e : v = i
    · subst e
      rw [List.getElem?_set_self (by rw [wipe_length]; exact hi)]
    · rw [List.getElem?_set_ne e]
      rcases List.mem_cons.mp h with z | z
      · exact absurd z.symm e
      · exact wipe_in hi z
theorem envR_wipe {K : PySem.W.Frag} {B : Base} {sg : L2.St} {rh : Env} (h : EnvR K B sg rh) (vs : List Nat) : EnvR K B (wipe sg vs) (wipeE rh vs) := ⟨by rw [wipeE_length, wipe_length, h.len], fun i d e => by
  obtain ⟨h1, h2⟩ := wipeE_some e
  obtain ⟨v, h3, h4⟩ := h.on i d h1
  exact ⟨v, by rw [wipe_out' h2]; exact h3, h4⟩⟩
theorem wipe_eq {sg sg' : L2.St} {vs : List Nat} (hl : sg'.length = sg.length) (h : ∀ j, j ∉ vs → sg'[j]? = sg[j]?) : wipe sg' vs = wipe sg vs := by
  apply List.ext_getElem?
  intro j
  by_cases hj : j ∈ vs
  · by_cases hlt : j < sg.length
    · rw [wipe_in hlt hj, wipe_in (by omega) hj]
    · rw [List.getElem?_eq_none (by rw [wipe_length]; omega), List.getElem?_eq_none (by rw [wipe_length]; omega)]
  · rw [wipe_out' hj, wipe_out' hj, h j hj]

/-! ### comprehensions -/
section
variable {T : Type}
/-- no exception -/
@[reducible] def noX {A : Type} : Res T A → Res T A
  | .exc _ _ => .fail
  | r => r
def lcLoop (tg : Tg) (tt : SB T) (te : SE T) (rh : Env) : List D → List D → T → Res T (List D)
  | [], acc, w => .ok acc w
  | d :: ds, acc, w => match tgSet tg d rh with
    | none => .fail
    | some rh' => (noX (tt rh' w)).bind fun b w1 => if b then (noX (te rh' w1)).bind fun y w2 => lcLoop tg tt te rh ds (acc ++ [y]) w2 else lcLoop tg tt te rh ds acc w1
def eLc (it : SI T) (tg : Tg) (tt : SB T) (te : SE T) (vs : List Nat) : SE T := fun rh w => (it rh w).bind fun ds w1 => if ds.length ≤ 100000 then (lcLoop tg tt te (wipeE rh vs) ds [] w1).bind fun out w2 => .ok (.lst out) w2 else .fail
def bYes : SB T := fun _ w => .ok true w
end
section
variable {X : Cx} {W : Bool} {E : XS}
end
end G
namespace G
open PySem L2 PyProof.Rows PySem.Spec

/-! ### the state between statements -/
/-- what is laid for a list, a dict of one's own -/
def FreshR (K : PySem.W.Frag) (B : Base) : D → HO → Prop
  | .lst xs, .lst vs => Reps K B xs vs
  | .dic kvs, .dK vs => RepsK K B kvs vs
  | _, _ => False
theorem FreshR.mono {K : PySem.W.Frag} {B B' : Base} (e : B.Le B') {d : D} {o : HO} (h : FreshR K B d o) : FreshR K B' d o := by
  cases d with
  | lst xs => cases o with
    | lst vs => exact Reps.mono e _ _ (show Reps K B xs vs from h)
    | _ => exact h.elim
  | dic xs => cases o with
    | dK vs => exact RepsK.mono e _ _ (show RepsK K B xs vs from h)
    | _ => exact h.elim
  | _ => cases o <;> exact h.elim
theorem FreshR.noT {K : PySem.W.Frag} {B : Base} {d : D} {o : HO} (h : FreshR K B d o) : isT (some o) = false := by
  cases d with
  | lst xs => cases o with
    | lst vs => rfl
    | _ => exact h.elim
  | dic xs => cases o with
    | dK vs => rfl
    | _ => exact h.elim
  | _ => cases o <;> exact h.elim
theorem FreshR.rep {K : PySem.W.Frag} {B : Base} {d : D} {o : HO} {p : Addr} (h : FreshR K B d o) (hp : B.hp p = some o) : Rep K B d (.ref p) := by
  cases d with
  | lst xs => cases o with
    | lst vs => exact ⟨p, vs, rfl, hp, h⟩
    | _ => exact h.elim
  | dic xs => cases o with
    | dK vs => exact ⟨p, vs, rfl, .inl hp, h⟩
    | _ => exact h.elim
  | _ => cases o <;> exact h.elim
/-- the slot i holds an object of one's own -/
def Own (K : PySem.W.Frag) (H0 : Hp) (B : Base) (H : Hp) (sg : L2.St) (rh : Env) (i : Nat) : Prop := ∃ p d o, sg[i]? = some (some (.ref p)) ∧ rh[i]? = some (some d) ∧ H p = some o ∧ FreshR K B d o ∧ B.hp p = none ∧ H0 p = none ∧ p ∉ B.cs
structure StB (W : Bool) (K : PySem.W.Frag) (B0 : Base) (H0 : Hp) (sg : L2.St) (rh : Env) (ow : List Nat) (B : Base) (H : Hp) : Prop where
  fu : Fu W B0 H0 B H
  en : EnvR K B sg (wipeE rh ow)
  len : rh.length = sg.length
  own : ∀ i ∈ ow, Own K H0 B H sg rh i
  dis : ∀ i ∈ ow, ∀ j ∈ ow, ∀ p, sg[i]? = some (some (V.ref p)) → sg[j]? = some (some (V.ref p)) → i = j
def StR (W : Bool) (K : PySem.W.Frag) (w : Wl) (B0 : Base) (H0 : Hp) (sg : L2.St) (rh : Env) (ow : List Nat) (H : Hp) : Prop := ∃ B, StB W K B0 H0 sg rh ow B H ∧ Ok K w B H
section
variable {W : Bool} {K : PySem.W.Frag} {B0 B B' : Base} {H0 H H' : Hp} {sg : L2.St} {rh : Env} {ow : List Nat} {w w' : Wl}
theorem someNe {α : Type _} {x : Option α} {o : α} (h : x = some o) : x ≠ none := by rw [h]; exact fun z => nomatch z
/-- behind what changes nothing of one's own -/
theorem StB.later (s : StB W K B0 H0 sg rh ow B H) (f : Fu W B H B' H') : StB W K B0 H0 sg rh ow B' H' where
  fu := s.fu.trans f
  en := s.en.mono f.b
  len := s.len
  own := fun i hi => by
    obtain ⟨p, d, o, h1, h2, h3, h4, h5, h6, h7⟩ := s.own i hi
    exact ⟨p, d, o, h1, h2, f.at h3 h7 h5, h4.mono f.b, f.nw p h5 (someNe h3) (by rw [h3]; exact h4.noT) h7, h6, f.nm p (someNe h3) h7⟩
  dis := s.dis
/-- the base with some of one's own -/
noncomputable def fullB (B : Base) (H : Hp) (sg : L2.St) (ow : List Nat) : Base := ⟨fun a => match B.hp a with
  | some u => some u
  | none => open Classical in if ∃ i ∈ ow, sg[i]? = some (some (V.ref a)) then H a else none, B.cs⟩
theorem full_at {a : Addr} {u : HO} (e : B.hp a = some u) : (fullB B H sg ow).hp a = some u := by show (match B.hp a with | some u => some u | none => _) = some u; rw [e]
theorem full_le : B.Le (fullB B H sg ow) := ⟨.of fun a u e => full_at e, fun _ _ e => e⟩
theorem full_own {i : Nat} {p : Addr} (hi : i ∈ ow) (h : sg[i]? = some (some (V.ref p))) (hb : B.hp p = none) : (fullB B H sg ow).hp p = H p := by
  show (match B.hp p with | some u => some u | none => _) = _
  rw [hb]
  exact if_pos ⟨i, hi, h⟩
theorem full_none {a : Addr} (hb : B.hp a = none) (h : ¬ ∃ i ∈ ow, sg[i]? = some (some (V.ref a))) : (fullB B H sg ow).hp a = none := by
  show (match B.hp a with | some u => some u | none => _) = _
  rw [hb]
  exact if_neg h
theorem wipeE_out {i : Nat} : ∀ {vs : List Nat}, i ∉ vs → (wipeE rh vs)[i]? = rh[i]? := by
  intro vs
  induction vs with
  | nil => intro _; rfl
  | cons v vs ih =>
    intro h
    have h1 : v ≠ i := fun z => h (by simp [z])
    have h2 : i ∉ vs := fun z => h (by simp [z])
    unfold wipeE
    rw [List.getElem?_set_ne h1, ih h2]
theorem wipeE_get {i : Nat} {vs : List Nat} (h : (wipeE rh vs)[i]? = some (some d)) : i ∉ vs ∧ rh[i]? = some (some d) := ⟨(wipeE_some h).2, (wipeE_some h).1⟩
abbrev rmv (ow : List Nat) (i : Nat) : List Nat := ow.filter (· != i)
theorem mem_rmv {i j : Nat} : j ∈ rmv ow i ↔ j ∈ ow ∧ j ≠ i := by simp [rmv]
/-- those of one's own that are not given up -/
abbrev give (ow us : List Nat) : List Nat := ow.filter fun i => !us.contains i
abbrev took (ow us : List Nat) : List Nat := ow.filter fun i => us.contains i
theorem mem_give {us : List Nat} {i : Nat} : i ∈ give ow us ↔ i ∈ ow ∧ i ∉ us := by simp [give]
theorem mem_took {us : List Nat} {i : Nat} : i ∈ took ow us ↔ i ∈ ow ∧ i ∈ us := by simp [took]
/-- some of one's own is given up -/
theorem StB.give (s : StB W K B0 H0 sg rh ow B H) (r : Ok K w B H) (us : List Nat) : StB W K B0 H0 sg rh (give ow us) (fullB B H sg (took ow us)) H ∧ Ok K w (fullB B H sg (took ow us)) H := by
  have key : Sm (fullB B H sg (took ow us)).hp H := fun a u e => by
    cases hb : B.hp a with
    | some u' => rw [full_at hb] at e; cases e; exact s.fu.bh a u hb
    | none =>
      by_cases hx : ∃ i ∈ took ow us, sg[i]? = some (some (V.ref a))
      · obtain ⟨i, hi, h⟩ := hx
        rw [full_own hi h hb] at e; exact ⟨u, e, .inl rfl⟩
      · rw [full_none hb hx] at e; cases e
  refine ⟨⟨⟨s.fu.h, s.fu.b.trans full_le, key, fun a e n t m => ?_, s.fu.nm, s.fu.pr⟩, ⟨by rw [wipeE_length]; exact s.len, fun i d e => ?_⟩, s.len, fun i hi => ?_, fun i hi j hj => s.dis i (mem_give.mp hi).1 j (mem_give.mp hj).1⟩, key, r.len, fun i c e => ?_, fun a h => ?_, r.dj⟩
  · refine full_none (s.fu.nw a e n t m) fun ⟨i, hi, h⟩ => ?_
    obtain ⟨p, d, o, h1, h2, h3, h4, h5, h6, h7⟩ := s.own i (mem_took.mp hi).1
    rw [h] at h1; cases h1
    exact n h6
  · obtain ⟨h1, h2⟩ := wipeE_some e
    by_cases hi : i ∈ ow
    · obtain ⟨p, d', o, a1, a2, a3, a4, a5, a6, a7⟩ := s.own i hi
      rw [h1] at a2; cases a2
      have hu : i ∈ took ow us := mem_took.mpr ⟨hi, by
        by_cases hu : i ∈ us
        · exact hu
        · exact absurd (mem_give.mpr ⟨hi, hu⟩) h2⟩
      exact ⟨.ref p, a1, (a4.mono full_le).rep (by rw [full_own hu a1 a5]; exact a3)⟩
    · obtain ⟨v, h3, h4⟩ := s.en.on i d (by rw [wipeE_out hi]; exact h1)
      exact ⟨v, h3, Rep.mono full_le _ _ h4⟩
  · obtain ⟨hi1, hi2⟩ := mem_give.mp hi
    obtain ⟨p, d, o, h1, h2, h3, h4, h5, h6, h7⟩ := s.own i hi1
    refine ⟨p, d, o, h1, h2, h3, h4.mono full_le, full_none h5 fun ⟨j, hj, e⟩ => ?_, h6, h7⟩
    obtain ⟨hj1, hj2⟩ := mem_took.mp hj
    have := s.dis i hi1 j hj1 p h1 e
    rw [this] at hi2; exact hi2 hj2
  · obtain ⟨a, u, h1, h2, h3⟩ := r.on i c e
    exact ⟨a, u, h1, h2, h3.mono full_le⟩
  · refine full_none (r.no a h) fun ⟨i, hi, e⟩ => ?_
    obtain ⟨p, d, o, h1, h2, h3, h4, h5, h6, h7⟩ := s.own i (mem_took.mp hi).1
    rw [e] at h1; cases h1
    exact h7 h
theorem StB.full (s : StB W K B0 H0 sg rh ow B H) (r : Ok K w B H) : Fu W B0 H0 (fullB B H sg ow) H ∧ EnvR K (fullB B H sg ow) sg rh ∧ Ok K w (fullB B H sg ow) H := by
  have h1 := s.give r ow
  have e1 : took ow ow = ow := List.filter_eq_self.mpr fun i hi => by simpa using hi
  have e2 : G.give ow ow = [] := List.filter_eq_nil_iff.mpr fun i hi => by simpa using hi
  rw [e1, e2] at h1
  exact ⟨h1.1.fu, h1.1.en, h1.2⟩
/-- a slot is stored -/
theorem StB.set (s : StB W K B0 H0 sg rh ow B H) (i : Nat) {d : D} {v : V} (h : Rep K B d v) : StB W K B0 H0 (sg.set i (some v)) (rh.set i (some d)) (rmv ow i) B H where
  fu := s.fu
  en := ⟨by rw [wipeE_length]; simp [s.len], fun j d' e => by
    obtain ⟨h1, h2⟩ := wipeE_some e
    by_cases hj : i = j
    · subst hj
      have hlt : i < rh.length := by
        by_cases hlt : i < rh.length
        · exact hlt
        · rw [List.getElem?_eq_none (by simpa using hlt)] at h1; cases h1
      rw [List.getElem?_set_self hlt] at h1
      cases h1
      exact ⟨v, by rw [List.getElem?_set_self (by rw [← s.len]; exact hlt)], h⟩
    · rw [List.getElem?_set_ne hj] at h1
      have h3 : j ∉ ow := fun z => h2 (mem_rmv.mpr ⟨z, fun z => hj z.symm⟩)
      obtain ⟨u, h4, h5⟩ := s.en.on j d' (by rw [wipeE_out h3]; exact h1)
      exact ⟨u, by rw [List.getElem?_set_ne hj]; exact h4, h5⟩⟩
  len := by simp [s.len]
  own := fun j hj => by
    obtain ⟨h1, h2⟩ := mem_rmv.mp hj
    obtain ⟨p, d', o, a1, a2, a3⟩ := s.own j h1
    exact ⟨p, d', o, by rw [List.getElem?_set_ne (Ne.symm h2)]; exact a1, by rw [List.getElem?_set_ne (Ne.symm h2)]; exact a2, a3⟩
  dis := fun j hj k hk p e1 e2 => by
    obtain ⟨h1, h2⟩ := mem_rmv.mp hj
    obtain ⟨h3, h4⟩ := mem_rmv.mp hk
    rw [List.getElem?_set_ne (Ne.symm h2)] at e1
    rw [List.getElem?_set_ne (Ne.symm h4)] at e2
    exact s.dis j h1 k h3 p e1 e2
/-- the base with the tuples of another -/
def joinT (B B' : Base) : Base := ⟨fun a => match B.hp a with
  | some u => some u
  | none => tups B'.hp a, B.cs⟩
theorem join_l : B.Le (joinT B B') := ⟨.of fun a u e => by show (match B.hp a with | some u => some u | none => _) = _; rw [e], fun _ _ e => e⟩
theorem join_bh {H : Hp} (h1 : Sm B.hp H) (h2 : Sm B'.hp H) : Sm (joinT B B').hp H := fun a u e => by
  have e' : (match B.hp a with | some u => some u | none => tups B'.hp a) = some u := e
  cases hb : B.hp a with
  | some u' => rw [hb] at e'; cases e'; exact h1 a u hb
  | none => rw [hb] at e'; exact h2 a u (tups_same B'.hp a u e')
theorem tups_isT {H : Hp} {a : Addr} {u : HO} (e : tups H a = some u) : isT (some u) = true := by
  unfold tups at e
  split at e
  · cases e; rfl
  · cases e; rfl
  · cases e
theorem join_r {H : Hp} (h1 : Sm B.hp H) (h2 : Sm B'.hp H) : Base.Le ⟨tups B'.hp, []⟩ (joinT B B') := by
  refine ⟨.of fun a u e => ?_, fun i a e => by simp at e⟩
  have e0 : tups B'.hp a = some u := e
  show (match B.hp a with | some u => some u | none => tups B'.hp a) = some u
  cases hb : B.hp a with
  | none => exact e0
  | some u' =>
    have ht := tups_isT e0
    have z2 := h2.get (tups_same B'.hp a u e0) fun kvs z => by rw [z] at ht; cases ht
    obtain ⟨o', z1, rfl | ⟨od, kvs, y1, y2⟩⟩ := h1 a u' hb
    · rw [z1] at z2; exact z2
    · rw [z1, y2] at z2; cases z2; cases ht
theorem tups_none {H : Hp} {a : Addr} (h : isT (H a) = false) : tups H a = none := by
  unfold tups
  split
  · rename_i xs e; rw [e] at h; cases h
  · rename_i o xs e; rw [e] at h; cases h
  · rfl
/-- behind a pure expression that looked at one's own -/
theorem StB.laterT (s : StB W K B0 H0 sg rh ow B H) (r : Ok K w B H) (r' : Ok K w' B' H') (f : Fu true (fullB B H sg ow) H B' H') : StB W K B0 H0 sg rh ow (joinT B B') H' ∧ Ok K w (joinT B B') H' ∧ Sm B.hp H' ∧ L2.Same H H' := by
  have hall : L2.Same H H' := fun a u e => by
    by_cases hc : a ∈ B.cs
    · rw [(f.pr rfl).2 a hc]; exact e
    · rcases f.h a u e hc with h | ⟨z, _⟩
      · exact h
      · cases z
  have hB : Sm B.hp H' := s.fu.bh.trans (.of hall)
  have hno : ∀ a, B.hp a = none → H a ≠ none → isT (H a) = false → (joinT B B').hp a = none := fun a e n t => by
    show (match B.hp a with | some u => some u | none => tups B'.hp a) = none
    rw [e]
    refine tups_none ?_
    cases hb : B'.hp a with
    | none => rfl
    | some u =>
      obtain ⟨o', z, zz⟩ := f.bh a u hb
      cases eh : H a with
      | none => exact absurd eh n
      | some u2 =>
        rw [hall a u2 eh] at z
        cases z
        rcases zz with rfl | ⟨od, kvs, y1, y2⟩
        · rw [eh] at t; exact t
        · rw [y1]; rfl
  have f2 : Fu true B H (joinT B B') H' := ⟨fun a o e _ => .inl (hall a o e), join_l, join_bh hB f.bh, fun a e n t _ => hno a e n t, fun _ _ m => m, fun _ => ⟨rfl, fun a h => (f.pr rfl).2 a h⟩⟩
  refine ⟨s.later f2.weak, ⟨join_bh hB f.bh, r.len, fun i c e => ?_, fun a h => ?_, r.dj⟩, hB, hall⟩
  · obtain ⟨a, u, h1, h2, h3⟩ := r.on i c e
    exact ⟨a, u, h1, hall a u h2, h3.mono join_l⟩
  · show (match B.hp a with | some u => some u | none => tups B'.hp a) = none
    rw [r.no a h]
    have hc : a ∈ B'.cs := by rw [(f.pr rfl).1]; exact h
    refine tups_none ?_
    rw [r'.no a hc]; rfl
theorem rep_join {d : D} {v : V} {H : Hp} (hi : imm d = true) (h1 : Sm B.hp H) (h2 : Sm B'.hp H) (h : Rep K B' d v) : Rep K (joinT B B') d v := Rep.mono (join_r h1 h2) _ _ (Rep.tups d v hi h)
theorem reps_join {ds : List D} {vs : List V} {H : Hp} (hi : imms ds = true) (h1 : Sm B.hp H) (h2 : Sm B'.hp H) (h : Reps K B' ds vs) : Reps K (joinT B B') ds vs := Reps.mono (join_r h1 h2) _ _ (Reps.tups ds vs hi h)
/-- a new object of one's own -/
theorem StB.own_new (s : StB W K B0 H0 sg rh ow B H) (i : Nat) (hi : i < rh.length) {d : D} {o : HO} {p : Addr} (hp : H p = some o) (hf : FreshR K B d o) (hb : B.hp p = none) (h0 : H0 p = none) (hF : p ∉ B.cs)
    (hn : ∀ j ∈ ow, sg[j]? ≠ some (some (V.ref p))) : StB W K B0 H0 (sg.set i (some (.ref p))) (rh.set i (some d)) (i :: rmv ow i) B H where
  fu := s.fu
  en := ⟨by rw [wipeE_length]; simp [s.len], fun j d' e => by
    obtain ⟨h1, h2⟩ := wipeE_some e
    have hj : i ≠ j := fun z => h2 (by simp [z])
    rw [List.getElem?_set_ne hj] at h1
    have h3 : j ∉ ow := fun z => h2 (by simp [mem_rmv, z, Ne.symm hj])
    obtain ⟨u, h4, h5⟩ := s.en.on j d' (by rw [wipeE_out h3]; exact h1)
    exact ⟨u, by rw [List.getElem?_set_ne hj]; exact h4, h5⟩⟩
  len := by simp [s.len]
  own := fun j hj => by
    rcases List.mem_cons.mp hj with rfl | hj
    · exact ⟨p, d, o, by rw [List.getElem?_set_self (by rw [← s.len]; exact hi)], by rw [List.getElem?_set_self hi], hp, hf, hb, h0, hF⟩
    · obtain ⟨h1, h2⟩ := mem_rmv.mp hj
      obtain ⟨p', d', o', a1, a2, a3⟩ := s.own j h1
      exact ⟨p', d', o', by rw [List.getElem?_set_ne (Ne.symm h2)]; exact a1, by rw [List.getElem?_set_ne (Ne.symm h2)]; exact a2, a3⟩
  dis := fun j hj k hk q e1 e2 => by
    have hlt : i < sg.length := by rw [← s.len]; exact hi
    rcases List.mem_cons.mp hj with rfl | hj
    · rcases List.mem_cons.mp hk with rfl | hk
      · rfl
      · obtain ⟨h3, h4⟩ := mem_rmv.mp hk
        rw [List.getElem?_set_self hlt] at e1
        rw [List.getElem?_set_ne (Ne.symm h4)] at e2
        cases e1
        exact absurd e2 (hn k h3)
    · obtain ⟨h1, h2⟩ := mem_rmv.mp hj
      rw [List.getElem?_set_ne (Ne.symm h2)] at e1
      rcases List.mem_cons.mp hk with rfl | hk
      · rw [List.getElem?_set_self hlt] at e2
        cases e2
        exact absurd e1 (hn j h1)
      · obtain ⟨h3, h4⟩ := mem_rmv.mp hk
        rw [List.getElem?_set_ne (Ne.symm h4)] at e2
        exact s.dis j h1 k h3 q e1 e2
/-- an object of one's own changes -/
theorem StB.mut (s : StB W K B0 H0 sg rh ow B H) (r : Ok K w B H) {i : Nat} (hi : i ∈ ow) {p : Addr} (hp : sg[i]? = some (some (V.ref p))) {d : D} {o : HO} (hf : FreshR K B d o) : StB W K B0 H0 sg (rh.set i (some d)) ow B (upd H p o) ∧ Ok K w B (upd H p o) := by
  obtain ⟨p', d', o', a1, a2, a3, a4, a5, a6, a7⟩ := s.own i hi
  rw [hp] at a1; cases a1
  have hlt : i < rh.length := (List.getElem?_eq_some_iff.mp a2).1
  have hp0 : p ∉ B0.cs := fun z => a7 (s.fu.b.mem z)
  refine ⟨⟨s.fu.mut a6 a5 hp0 _, ⟨by rw [wipeE_length]; simp [s.len], fun j d2 e => ?_⟩, by simp [s.len], fun j hj => ?_, s.dis⟩, r.mut a5 a7 _⟩
  · obtain ⟨h1, h2⟩ := wipeE_some e
    have hj : i ≠ j := fun z => h2 (by rw [← z]; exact hi)
    rw [List.getElem?_set_ne hj] at h1
    exact s.en.on j d2 (by rw [wipeE_out h2]; exact h1)
  · by_cases hji : j = i
    · subst hji
      exact ⟨p, d, o, hp, by rw [List.getElem?_set_self hlt], upd_same, hf, a5, a6, a7⟩
    · obtain ⟨q, d3, o3, b1, b2, b3, b4⟩ := s.own j hj
      have hq : q ≠ p := fun z => hji (s.dis j hj i hi p (by rw [← z]; exact b1) hp)
      exact ⟨q, d3, o3, b1, by rw [List.getElem?_set_ne (Ne.symm hji)]; exact b2, by rw [upd_ne hq]; exact b3, b4⟩
end
end G
namespace G
open PySem L2 PyProof.Rows PySem.Spec

inductive RS (T : Type) where
  | nx (rh : Env) (ow : List Nat) (w : T)
  | brk (rh : Env) (ow : List Nat) (w : T)
  | ct (rh : Env) (ow : List Nat) (w : T)
  | ret (d : D) (w : T)
  | exc (c : Str) (w : T)
  | fail
abbrev SS (T : Type) := Env → List Nat → T → RS T
def OutS (W : Bool) (K : PySem.W.Frag) (E : XK) (B0 : Base) (H0 : Hp) (Ds : Ends) : RS Wl → Prop
  | .nx rh ow w => ∀ sg H, StR W K w B0 H0 sg rh ow H → Ds.nx sg H
  | .brk rh ow w => ∀ sg H, StR W K w B0 H0 sg rh ow H → Ds.bk sg H
  | .ct rh ow w => ∀ sg H, StR W K w B0 H0 sg rh ow H → Ds.ct sg H
  | .ret d w => ∀ v B H, Fu W B0 H0 B H → Ok K w B H → Rep K B d v → Ds.rt v H
  | .exc c w => ∀ B H, Fu W B0 H0 B H → Ok K w B H → E (.ref (He.ga K c)) none H
  | .fail => False
def tS (W : Bool) (K : PySem.W.Frag) (E : XK) (f : SS Wl) : TS := fun Ds sg H => ∃ B0 H0 rh ow w, StR W K w B0 H0 sg rh ow H ∧ OutS W K E B0 H0 Ds (f rh ow w)

section
variable {T : Type}
def sSeq (f g : SS T) : SS T := fun rh ow w => match f rh ow w with
  | .nx rh' ow' w' => g rh' ow' w'
  | r => r
def sNil : SS T := fun rh ow w => .nx rh ow w
def sFail : SS T := fun _ _ _ => .fail
@[reducible] def fin {A : Type} (x : Res T A) (k : A → T → RS T) : RS T := match x with
  | .ok a w => k a w
  | .exc c w => .exc c w
  | .fail => .fail
/-- a pure test; one that may change the world -/
def sIf (t : SB T) (f g : SS T) : SS T := fun rh ow w => fin (t rh w) fun b _ => if b then f rh ow w else g rh ow w
def sIfG (t : SB T) (us : List Nat) (f g : SS T) : SS T := fun rh ow w => fin (t (wipeE rh (give ow us)) w) fun b w1 => if b then f rh (give ow us) w1 else g rh (give ow us) w1
def sRet (e : SE T) : SS T := fun rh ow w => fin (e rh w) fun d w1 => .ret d w1
def sRetN : SS T := fun _ _ w => .ret .non w
def sExpr (e : SE T) (us : List Nat) : SS T := fun rh ow w => fin (e (wipeE rh (give ow us)) w) fun _ w1 => .nx rh (give ow us) w1
/-- a value that may be stored: pure, one's own kept; or what is looked at is given up -/
def sAsgP (i : Nat) (e : SE T) : SS T := fun rh ow w => fin (e rh w) fun d _ => if imm d then .nx (rh.set i (some d)) (rmv ow i) w else .fail
def sAsg (i : Nat) (e : SE T) (us : List Nat) : SS T := fun rh ow w => fin (e (wipeE rh (give ow us)) w) fun d w1 => .nx (rh.set i (some d)) (rmv (give ow us) i) w1
def sNewP (i : Nat) (e : SE T) : SS T := fun rh ow w => if i < rh.length then fin (e rh w) fun d _ => match d with
  | .lst xs => if imms xs then .nx (rh.set i (some d)) (i :: rmv ow i) w else .fail
  | _ => .fail
  else .fail
def sNew (i : Nat) (e : SE T) (us : List Nat) : SS T := fun rh ow w => if i < rh.length then fin (e (wipeE rh (give ow us)) w) fun d w1 => .nx (rh.set i (some d)) (i :: rmv (give ow us) i) w1 else .fail
/-- does it look at one's own? -/
def uses (vars ow : List Nat) : Bool := vars.any fun i => ow.contains i
def sAsgT (t : Tg) (e : SE T) (us : List Nat) : SS T := fun rh ow w => if uses t.slots (give ow us) then .fail else fin (e (wipeE rh (give ow us)) w) fun d w1 => match tgSet t d rh with
  | some rh' => .nx rh' (give ow us) w1
  | none => .fail
/-- from one turn to the next -/
def nextT (k : SS T) : RS T → RS T
  | .nx rh ow w => k rh ow w
  | .ct rh ow w => k rh ow w
  | .brk rh ow w => .nx rh ow w
  | .ret d w => .ret d w
  | .exc c w => .exc c w
  | .fail => .fail
def whileD (t : SB T) (body : SS T) : Nat → SS T
  | 0 => fun _ _ _ => .fail
  | n + 1 => fun rh ow w => fin (t rh w) fun b _ => if b then nextT (whileD t body n) (body rh ow w) else .nx rh ow w
def forD (t : Tg) (body : SS T) : List D → SS T
  | [] => fun rh ow w => .nx rh ow w
  | d :: ds => fun rh ow w => if uses t.slots ow then .fail else match tgSet t d rh with
    | none => .fail
    | some rh' => nextT (forD t body ds) (body rh' ow w)
def sFor (it : SI T) (us : List Nat) (t : Tg) (body : SS T) : SS T := fun rh ow w => fin (it (wipeE rh (give ow us)) w) fun ds w1 => forD t body ds rh (give ow us) w1
def sRaise (c : Str) : SS T := fun _ _ w => .exc c w
def sBrk : SS T := fun rh ow w => .brk rh ow w
def sCt : SS T := fun rh ow w => .ct rh ow w
end

section
variable {X : Cx} {W : Bool} {K : PySem.W.Frag} {E : XK} {B0 B : Base} {H0 H : Hp} {sg : L2.St} {rh : Env} {ow : List Nat} {w : Wl} {A V' : Type} {Rp : Base → A → V' → Prop} {Q : V' → Hp → Prop}
/-- a pure expression: one's own is kept -/
theorem tG_pure {f : Env → Wl → Res Wl A} (s : StB W K B0 H0 sg rh ow B H) (r : Ok K w B H) (hok : ∀ a w', f rh w = .ok a w' → ∀ v B' H', StB W K B0 H0 sg rh ow (joinT B B') H' → Ok K w (joinT B B') H' → Sm B.hp H' → Sm B'.hp H' → L2.Same H H' → Rp B' a v → Q v H')
    (hx : ∀ c w', f rh w = .exc c w' → ∀ B' H', Fu W B0 H0 B' H' → Ok K w' B' H' → E (.ref (He.ga K c)) none H') (hf : f rh w ≠ .fail) : tG true K (cst E) Rp f sg H Q := by
  obtain ⟨g, e, r1⟩ := s.full r
  refine ⟨rh, w, fullB B H sg ow, r1.sm, e, r1, ?_⟩
  cases h : f rh w with
  | ok a w' =>
    intro v B' H' f' r' p
    obtain ⟨s1, o1, h1, h2⟩ := s.laterT r r' f'
    exact hok a w' h v B' H' s1 o1 h1 f'.bh h2 p
  | exc c w' => exact fun B' H' f' r' => hx c w' h B' H' (g.trans f'.weak) r'
  | fail => exact hf h
/-- what is looked at of one's own is given up -/
theorem tG_give {f : Env → Wl → Res Wl A} (us : List Nat) (s : StB W K B0 H0 sg rh ow B H) (r : Ok K w B H) (hok : ∀ a w', f (wipeE rh (give ow us)) w = .ok a w' → ∀ v B' H', StB W K B0 H0 sg rh (give ow us) B' H' → Ok K w' B' H' → Rp B' a v → Q v H')
    (hx : ∀ c w', f (wipeE rh (give ow us)) w = .exc c w' → ∀ B' H', Fu W B0 H0 B' H' → Ok K w' B' H' → E (.ref (He.ga K c)) none H') (hf : f (wipeE rh (give ow us)) w ≠ .fail) : tG W K (cst E) Rp f sg H Q := by
  obtain ⟨s1, r1⟩ := s.give r us
  refine ⟨wipeE rh (give ow us), w, _, r1.sm, s1.en, r1, ?_⟩
  cases h : f (wipeE rh (give ow us)) w with
  | ok a w' => exact fun v B' H' f' r' p => hok a w' h v B' H' (s1.later f') r' p
  | exc c w' => exact fun B' H' f' r' => hx c w' h B' H' (s1.fu.trans f') r'
  | fail => exact hf h
/-- all is given up -/
theorem tG_full {f : Env → Wl → Res Wl A} (s : StB W K B0 H0 sg rh ow B H) (r : Ok K w B H) (hok : ∀ a w', f rh w = .ok a w' → ∀ v B' H', Fu W B0 H0 B' H' → Ok K w' B' H' → Rp B' a v → Q v H')
    (hx : ∀ c w', f rh w = .exc c w' → ∀ B' H', Fu W B0 H0 B' H' → Ok K w' B' H' → E (.ref (He.ga K c)) none H') (hf : f rh w ≠ .fail) : tG W K (cst E) Rp f sg H Q := by
  obtain ⟨g, e, r1⟩ := s.full r
  refine ⟨rh, w, fullB B H sg ow, r1.sm, e, r1, ?_⟩
  cases h : f rh w with
  | ok a w' => exact fun v B' H' f' r' p => hok a w' h v B' H' (g.trans f') r' p
  | exc c w' => exact fun B' H' f' r' => hx c w' h B' H' (g.trans f') r'
  | fail => exact hf h
end

section
variable {X : Cx} {W : Bool} {E : XK} {c e : Expr} {pos : Pos} {t : SB Wl} {fe : SE Wl} {f g : SS Wl} {st : Stmt} {rest a b : List Stmt}
theorem pss_nilD : PSs X [] (tS W X.K E sNil) := pss_nil.weak fun Ds sg H q => by
  obtain ⟨B0, H0, rh, ow, w, s, o⟩ := q
  exact o sg H s
theorem pss_consD (h1 : PS X st (tS W X.K E f)) (h2 : PSs X rest (tS W X.K E g)) : PSs X (st :: rest) (tS W X.K E (sSeq f g)) := (pss_cons h1 h2).weak fun Ds sg H q => by
  obtain ⟨B0, H0, rh, ow, w, s, o⟩ := q
  refine ⟨B0, H0, rh, ow, w, s, ?_⟩
  unfold sSeq at o
  cases h : f rh ow w with
  | nx rh' ow' w' =>
    rw [h] at o
    exact fun sg' H' s' => ⟨B0, H0, rh', ow', w', s', o⟩
  | brk rh' ow' w' => rw [h] at o; exact o
  | ct rh' ow' w' => rw [h] at o; exact o
  | ret d w' => rw [h] at o; exact o
  | exc c w' => rw [h] at o; exact o
  | fail => rw [h] at o; exact o
theorem ps_passD : PS X (.Pass pos) (tS W X.K E sNil) := ps_pass.weak fun Ds sg H q => by
  obtain ⟨B0, H0, rh, ow, w, s, o⟩ := q
  exact o sg H s
/-- what is not gone through -/
theorem tS_fail {Ds : Ends} {sg : L2.St} {H : Hp} (q : tS W X.K E sFail Ds sg H) : False := by
  obtain ⟨B0, H0, rh, ow, w, s, o⟩ := q
  exact o
theorem ps_failD : PS X st (tS W X.K E sFail) := ⟨fun pins s sg H Ds I q => (tS_fail q).elim⟩
theorem pss_failD : PSs X rest (tS W X.K E sFail) := ⟨fun pins s sg H Ds I q => (tS_fail q).elim⟩
theorem ps_ifD (hc : PT X c (tT true X.K (cst E) t)) (ha : PSs X a (tS W X.K E f)) (hb : PSs X b (tS W X.K E g)) : PS X (.If c a b pos) (tS W X.K E (sIf t f g)) := (ps_if hc ha hb).weak fun Ds sg H q => by
  obtain ⟨B0, H0, rh, ow, w, ⟨B, s, r⟩, o⟩ := q
  unfold sIf at o
  refine tG_pure s r (fun k w1 e v B' H' s' r' _ _ _ p => ?_) (fun c w1 e B' H' f' r' => ?_) fun e => ?_
  · rw [e] at o
    cases (show v = k from p)
    cases k with
    | true => exact ⟨B0, H0, rh, ow, w, ⟨_, s', r'⟩, o⟩
    | false => exact ⟨B0, H0, rh, ow, w, ⟨_, s', r'⟩, o⟩
  · rw [e] at o; exact o B' H' f' r'
  · rw [e] at o; exact o
theorem ps_ifGD (us : List Nat) (hc : PT X c (tT W X.K (cst E) t)) (ha : PSs X a (tS W X.K E f)) (hb : PSs X b (tS W X.K E g)) : PS X (.If c a b pos) (tS W X.K E (sIfG t us f g)) := (ps_if hc ha hb).weak fun Ds sg H q => by
  obtain ⟨B0, H0, rh, ow, w, ⟨B, s, r⟩, o⟩ := q
  unfold sIfG at o
  refine tG_give us s r (fun k w1 e v B' H' s' r' p => ?_) (fun c w1 e B' H' f' r' => ?_) fun e => ?_
  · rw [e] at o
    cases (show v = k from p)
    cases k with
    | true => exact ⟨B0, H0, rh, _, w1, ⟨_, s', r'⟩, o⟩
    | false => exact ⟨B0, H0, rh, _, w1, ⟨_, s', r'⟩, o⟩
  · rw [e] at o; exact o B' H' f' r'
  · rw [e] at o; exact o
theorem ps_retD (he : PE X e (tD W X.K (cst E) fe)) : PS X (.Return (some e) pos) (tS W X.K E (sRet fe)) := (ps_ret he).weak fun Ds sg H q => by
  obtain ⟨B0, H0, rh, ow, w, ⟨B, s, r⟩, o⟩ := q
  unfold sRet at o
  refine tG_full s r (fun d w1 e v B' H' f' r' p => ?_) (fun c w1 e B' H' f' r' => ?_) fun e => ?_
  · rw [e] at o
    exact o v B' H' f' r' p
  · rw [e] at o; exact o B' H' f' r'
  · rw [e] at o; exact o
theorem ps_retND : PS X (.Return none pos) (tS W X.K E sRetN) := ps_retN.weak fun Ds sg H q => by
  obtain ⟨B0, H0, rh, ow, w, ⟨B, s, r⟩, o⟩ := q
  exact o .non B H s.fu r rfl
theorem ps_exprD (us : List Nat) (he : PE X e (tD W X.K (cst E) fe)) (hs : swapsWith e none pos.line X.env = pure false) : PS X (.Expr e pos) (tS W X.K E (sExpr fe us)) := (ps_expr he hs).weak fun Ds sg H q => by
  obtain ⟨B0, H0, rh, ow, w, ⟨B, s, r⟩, o⟩ := q
  unfold sExpr at o
  refine tG_give us s r (fun d w1 e v B' H' s' r' p => ?_) (fun c w1 e B' H' f' r' => ?_) fun e => ?_
  · rw [e] at o
    exact o sg H' ⟨_, s', r'⟩
  · rw [e] at o; exact o B' H' f' r'
  · rw [e] at o; exact o
theorem asg_D {i : Nat} {us : List Nat} {Ds : Ends} {sg : L2.St} {H : Hp} (q : tS W X.K E (sAsg i fe us) Ds sg H) : tAsg (tD W X.K (cst E) fe) (gName i) Ds sg H := by
  obtain ⟨B0, H0, rh, ow, w, ⟨B, s, r⟩, o⟩ := q
  unfold sAsg at o
  refine tG_give us s r (fun d w1 e v B' H' s' r' p => ?_) (fun c w1 e B' H' f' r' => ?_) fun e => ?_
  · rw [e] at o
    exact o _ H' ⟨_, s'.set i p, r'⟩
  · rw [e] at o; exact o B' H' f' r'
  · rw [e] at o; exact o
theorem asgP_D {i : Nat} {Ds : Ends} {sg : L2.St} {H : Hp} (q : tS W X.K E (sAsgP i fe) Ds sg H) : tAsg (tD true X.K (cst E) fe) (gName i) Ds sg H := by
  obtain ⟨B0, H0, rh, ow, w, ⟨B, s, r⟩, o⟩ := q
  unfold sAsgP at o
  refine tG_pure s r (fun d w1 e v B' H' s' r' h1 h2 _ p => ?_) (fun c w1 e B' H' f' r' => ?_) fun e => ?_
  · rw [e] at o
    have o' : OutS W X.K E B0 H0 Ds (if imm d then .nx (rh.set i (some d)) (rmv ow i) w else .fail) := o
    cases hi : imm d with
    | true =>
      rw [hi] at o'
      exact o' _ H' ⟨_, s'.set i (rep_join hi h1 h2 p), r'⟩
    | false => rw [hi] at o'; exact o'.elim
  · rw [e] at o; exact o B' H' f' r'
  · rw [e] at o; exact o
theorem wipeE_set {rh : Env} {i : Nat} {x : Option D} : ∀ {ow : List Nat}, i ∉ ow → wipeE (rh.set i x) ow = (wipeE rh ow).set i x
  | [], _ => rfl
  | v :: vs, h => by
    have h1 : v ≠ i := fun z => h (by simp [z])
    have h2 : i ∉ vs := fun z => h (by simp [z])
    unfold wipeE
    rw [wipeE_set h2, List.set_comm _ _ (Ne.symm h1)]
theorem setAll_wipe {ow : List Nat} : ∀ {is : List Nat} {ds : List D} {rh rh' : Env}, (∀ i ∈ is, i ∉ ow) → setAll is ds rh = some rh' → setAll is ds (wipeE rh ow) = some (wipeE rh' ow) ∧ (∀ j, j ∉ is → rh'[j]? = rh[j]?) ∧ rh'.length = rh.length
  | [], [], rh, rh', _, e => by cases e; exact ⟨rfl, fun _ _ => rfl, rfl⟩
  | [], _ :: _, rh, rh', _, e => by cases e
  | _ :: _, [], rh, rh', _, e => by cases e
  | i :: is, d :: ds, rh, rh', h, e => by
    obtain ⟨h1, h2, h3⟩ := setAll_wipe (ow := ow) (is := is) (ds := ds) (rh := rh.set i (some d)) (fun j hj => h j (by simp [hj])) e
    refine ⟨?_, fun j hj => ?_, by simpa using h3⟩
    · show setAll is ds ((wipeE rh ow).set i (some d)) = _
      rw [← wipeE_set (h i (by simp))]; exact h1
    · have a1 : j ≠ i := fun z => hj (by simp [z])
      have a2 : j ∉ is := fun z => hj (by simp [z])
      rw [h2 j a2, List.getElem?_set_ne (Ne.symm a1)]
theorem tgSet_wipe {tg : Tg} {d : D} {ow : List Nat} {rh rh' : Env} (h : ∀ i ∈ tg.slots, i ∉ ow) (e : tgSet tg d rh = some rh') : tgSet tg d (wipeE rh ow) = some (wipeE rh' ow) ∧ (∀ j, j ∉ tg.slots → rh'[j]? = rh[j]?) ∧ rh'.length = rh.length := by
  cases tg with
  | nm i =>
    cases e
    refine ⟨?_, fun j hj => List.getElem?_set_ne fun z => hj (by simp [Tg.slots, z]), by simp⟩
    show some ((wipeE rh ow).set i (some d)) = _
    rw [wipeE_set (h i (by simp [Tg.slots]))]
  | tp is =>
    cases d with
    | tup ds => exact setAll_wipe h e
    | _ => cases e
theorem uses_no {vars ow : List Nat} (h : uses vars ow = false) : ∀ i ∈ vars, i ∉ ow := fun i hi hw => by
  have : uses vars ow = true := List.any_eq_true.mpr ⟨i, hi, by simpa using hw⟩
  rw [h] at this; cases this
/-- a target is stored, none of one's own -/
theorem tg_StB {tg : Tg} {gg : TG} {K : PySem.W.Frag} {B0 B : Base} {H0 H : Hp} {sg : L2.St} {rh rh' : Env} {ow : List Nat} {d : D} {x : V} {Q : L2.St → Hp → Prop} (hg : TgOk W K gg tg) (s : StB W K B0 H0 sg rh ow B H) (hu : uses tg.slots ow = false) (e : tgSet tg d rh = some rh') (p : Rep K B d x)
    (k : ∀ sg', StB W K B0 H0 sg' rh' ow B H → Q sg' H) : gg x sg H Q := by
  obtain ⟨e1, e2, e3⟩ := tgSet_wipe (uses_no hu) e
  have hno := uses_no hu
  refine hg B H x d sg (wipeE rh ow) (wipeE rh' ow) Q s.fu.bh p s.en e1 fun sg' he hl hoth => k sg' ⟨s.fu, he, by rw [e3, hl, s.len], fun i hi => ?_, fun i hi j hj q h1 h2 => ?_⟩
  · obtain ⟨p', d', o', a1, a2, a3⟩ := s.own i hi
    have hi' : i ∉ tg.slots := fun z => hno i z hi
    exact ⟨p', d', o', by rw [hoth i hi']; exact a1, by rw [e2 i hi']; exact a2, a3⟩
  · have hi' : i ∉ tg.slots := fun z => hno i z hi
    have hj' : j ∉ tg.slots := fun z => hno j z hj
    rw [hoth i hi'] at h1
    rw [hoth j hj'] at h2
    exact s.dis i hi j hj q h1 h2
theorem asgT_D {tg : Tg} {gg : TG} {us : List Nat} {Ds : Ends} {sg : L2.St} {H : Hp} (hg : TgOk W X.K gg tg) (q : tS W X.K E (sAsgT tg fe us) Ds sg H) : tAsg (tD W X.K (cst E) fe) gg Ds sg H := by
  obtain ⟨B0, H0, rh, ow, w, ⟨B, s, r⟩, o⟩ := q
  unfold sAsgT at o
  cases hu : uses tg.slots (give ow us) with
  | true => simp only [hu, if_true] at o; exact o.elim
  | false =>
    simp only [hu, Bool.false_eq_true, if_false] at o
    refine tG_give us s r (fun d w1 e v B' H' s' r' p => ?_) (fun c w1 e B' H' f' r' => ?_) fun e => ?_
    · rw [e] at o
      have o' : OutS W X.K E B0 H0 Ds (match tgSet tg d rh with | some rh' => .nx rh' (give ow us) w1 | none => .fail) := o
      cases ht : tgSet tg d rh with
      | none => rw [ht] at o'; exact o'.elim
      | some rh' =>
        rw [ht] at o'
        exact tg_StB hg s' hu ht p fun sg' s2 => o' sg' H' ⟨B', s2, r'⟩
    · rw [e] at o; exact o B' H' f' r'
    · rw [e] at o; exact o
end
end G
namespace G
open PySem L2 PyProof.Rows PySem.Spec

section
variable {X : Cx} {W : Bool} {E : XK} {c e iter tgx : Expr} {pos apos cpos p : Pos} {t : SB Wl} {fe : SE Wl} {f g : SS Wl} {body : List Stmt} {x : Str}
/-! ### while -/
theorem while_D {n : Nat} {Ds : Ends} {sg : L2.St} {H : Hp} (q : tS W X.K E (whileD t f n) Ds sg H) : tWhile (tT true X.K (cst E) t) (tS W X.K E f) Ds sg H := by
  obtain ⟨B0, H0, rh, ow, w, s, o⟩ := q
  refine ⟨fun m sg H => ∃ rh ow w, StR W X.K w B0 H0 sg rh ow H ∧ OutS W X.K E B0 H0 Ds (whileD t f m rh ow w), ⟨n, rh, ow, w, s, o⟩, ?_⟩
  clear s o rh ow w
  rintro m sg H ⟨rh, ow, w, ⟨B, s, r⟩, o⟩
  cases m with
  | zero => exact o.elim
  | succ m =>
    have o1 : OutS W X.K E B0 H0 Ds (fin (t rh w) fun b _ => if b then nextT (whileD t f m) (f rh ow w) else .nx rh ow w) := o
    refine tG_pure s r (fun k w1 e v B' H' s' r' _ _ _ p => ?_) (fun c w1 e B' H' f' r' => ?_) fun e => ?_
    · rw [e] at o1
      cases (show v = k from p)
      cases k with
      | false =>
        show Ds.nx sg H'
        exact o1 sg H' ⟨_, s', r'⟩
      | true =>
        refine ⟨fun sg H => ∃ rh ow w, StR W X.K w B0 H0 sg rh ow H ∧ OutS W X.K E B0 H0 Ds (whileD t f m rh ow w), fun sg' H' h => ⟨m, Nat.lt_succ_self m, h⟩, B0, H0, rh, ow, w, ⟨_, s', r'⟩, ?_⟩
        have o2 : OutS W X.K E B0 H0 Ds (nextT (whileD t f m) (f rh ow w)) := o1
        cases hf : f rh ow w with
        | nx rh' ow' w' => rw [hf] at o2; exact fun sg2 H2 s2 => ⟨rh', ow', w', s2, o2⟩
        | ct rh' ow' w' => rw [hf] at o2; exact fun sg2 H2 s2 => ⟨rh', ow', w', s2, o2⟩
        | brk rh' ow' w' => rw [hf] at o2; exact o2
        | ret d w' => rw [hf] at o2; exact o2
        | exc c w' => rw [hf] at o2; exact o2
        | fail => rw [hf] at o2; exact o2
    · rw [e] at o1; exact o1 B' H' f' r'
    · rw [e] at o1; exact o1
theorem ps_whileD (n : Nat) (hp : PassesOwn (model X.prog X.w) X.A X.env X.xe) (hc : PT X c (tT true X.K (cst E) t)) (hb : PSs X body (tS W X.K E f)) : PS X (.While c body [] pos) (tS W X.K E (whileD t f n)) := (ps_while hp hc hb).weak fun _ _ _ q => while_D q
/-! ### for -/
theorem fu_base {B0 B1 B : Base} {H0 H1 H : Hp} (f : Fu W B0 H0 B1 H1) (g : Fu W B1 H0 B H) : Fu W B0 H0 B H := ⟨fun a o e m => by
  have m1 := f.nm a (someNe e) m
  rcases g.h a o e m1 with h | ⟨z, hb1, o', h1, fz⟩
  · exact .inl h
  · by_cases hb : B0.hp a = none
    · rcases fz with rfl | ⟨od, kvs, rfl, rfl⟩
      · exact .inl h1
      · exact absurd (f.nw a hb (someNe e) (by rw [e]; rfl) m) hb1
    · exact .inr ⟨z, hb, o', h1, fz⟩, f.b.trans g.b, g.bh, fun a e n t m => g.nw a (f.nw a e n t m) n t (f.nm a n m), fun a n m => g.nm a n (f.nm a n m), fun e => ⟨(g.pr e).1.trans (f.pr e).1, fun a h => (g.pr e).2 a (by rw [(f.pr e).1]; exact h)⟩⟩
theorem stB_base {K : PySem.W.Frag} {w : Wl} {B0 B1 : Base} {H0 H1 : Hp} {sg : L2.St} {rh : Env} {ow : List Nat} {H : Hp} (f : Fu W B0 H0 B1 H1) (s : StR W K w B1 H0 sg rh ow H) : StR W K w B0 H0 sg rh ow H :=
  let ⟨B, s, r⟩ := s
  ⟨B, ⟨fu_base f s.fu, s.en, s.len, s.own, s.dis⟩, r⟩
/-- from a loop's source on -/
theorem for_turns {K : PySem.W.Frag} {tg : Tg} {gg : TG} (hg : TgOk W K gg tg) {J : It} {ds : List D} {B0 B1 : Base} {H0 : Hp} {Ds : Ends} {sg : L2.St} {rh : Env} {ow : List Nat} {w : Wl} {H : Hp} (wk : WalkD W K J ds B1) (s : StB W K B0 H0 sg rh ow B1 H) (r : Ok K w B1 H)
    (o : OutS W K E B0 H0 Ds (forD tg f ds rh ow w)) :
    ∃ Wi : Nat → Nat → L2.St → Hp → Prop, (∃ m, Wi 0 m sg H) ∧ ∀ i m sg H, Wi i m sg H →
      (J.stop i H ∧ Ds.nx sg H) ∨ (J.go i H ∧ ∃ N : L2.St → Hp → Prop, (∀ sg' H', N sg' H' → ∃ m', m' < m ∧ Wi (i + 1) m' sg' H') ∧ ∀ x H', J.yld i H x H' → gg x sg H' fun sg2 H2 => tS W K E f { Ds with nx := N, ct := N, bk := Ds.nx } sg2 H2) := by
  have f1 := s.fu
  have fi : Fu W B1 H0 B1 H := ⟨fun a o e m => by
    rcases f1.h a o e fun z => m (f1.b.mem z) with h | ⟨z, hb, h⟩
    · exact .inl h
    · exact .inr ⟨z, le_some f1.b hb, h⟩, .refl _, f1.bh, fun a e _ _ _ => e, fun _ _ m => m, fun e => ⟨rfl, fun a h => (f1.pr e).2 a (by rw [← (f1.pr e).1]; exact h)⟩⟩
  refine for_it wk (fun i sg H => ∃ rh ow w, StR W K w B1 H0 sg rh ow H ∧ OutS W K E B0 H0 Ds (forD tg f (ds.drop i) rh ow w)) ⟨rh, ow, w, ⟨B1, ⟨fi, s.en, s.len, s.own, s.dis⟩, r⟩, o⟩ ?_ ?_ ?_
  · rintro i sg H _ ⟨rh, ow, w, ⟨B, s, r⟩, o⟩
    exact s.fu.b.1.trans s.fu.bh
  · rintro i x sg H H' hi ⟨rh, ow, w, ⟨B, s, r⟩, o⟩ ⟨rfl, d, hd, px⟩
    have hdr : ds.drop i = d :: ds.drop (i + 1) := by
      obtain ⟨hlt, e⟩ := List.getElem?_eq_some_iff.mp hd
      rw [List.drop_eq_getElem_cons hlt, e]
    rw [hdr] at o
    have o1 : OutS W K E B0 H0 Ds (if uses tg.slots ow then .fail else match tgSet tg d rh with
      | none => .fail
      | some rh' => nextT (forD tg f (ds.drop (i + 1))) (f rh' ow w)) := o
    cases hu : uses tg.slots ow with
    | true => simp only [hu, if_true] at o1; exact o1.elim
    | false =>
      simp only [hu, Bool.false_eq_true, if_false] at o1
      cases ht : tgSet tg d rh with
      | none => rw [ht] at o1; exact o1.elim
      | some rh' =>
        rw [ht] at o1
        refine tg_StB hg s hu ht (Rep.mono s.fu.b _ _ px) fun sg' s2 => ⟨B1, H0, rh', ow, w, ⟨B, s2, r⟩, ?_⟩
        have o2 : OutS W K E B0 H0 Ds (nextT (forD tg f (ds.drop (i + 1))) (f rh' ow w)) := o1
        cases hf : f rh' ow w with
        | nx rh2 ow2 w2 => rw [hf] at o2; exact fun sg3 H3 s3 => ⟨rh2, ow2, w2, s3, o2⟩
        | ct rh2 ow2 w2 => rw [hf] at o2; exact fun sg3 H3 s3 => ⟨rh2, ow2, w2, s3, o2⟩
        | brk rh2 ow2 w2 => rw [hf] at o2; exact fun sg3 H3 s3 => o2 sg3 H3 (stB_base f1 s3)
        | ret d w2 => rw [hf] at o2; exact fun v B3 H3 f3 r3 p => o2 v B3 H3 (fu_base f1 f3) r3 p
        | exc c w2 => rw [hf] at o2; exact fun B3 H3 f3 r3 => o2 B3 H3 (fu_base f1 f3) r3
        | fail => rw [hf] at o2; exact o2
  · rintro sg H ⟨rh, ow, w, s, o⟩
    rw [List.drop_of_length_le (Nat.le_refl _)] at o
    exact o sg H (stB_base f1 s)
theorem for_D {it : SI Wl} {us : List Nat} {tg : Tg} {gg : TG} (hg : TgOk W X.K gg tg) {Ds : Ends} {sg : L2.St} {H : Hp} (q : tS W X.K E (sFor it us tg f) Ds sg H) : tFor (iD W X.K (cst E) it) gg (tS W X.K E f) Ds sg H := by
  obtain ⟨B0, H0, rh, ow, w, ⟨B, s, r⟩, o⟩ := q
  unfold sFor at o
  refine tG_give us s r (fun ds w1 e J B' H' s' r' wk => ?_) (fun c w1 e B' H' f' r' => ?_) fun e => ?_
  · rw [e] at o
    exact for_turns hg wk s' r' o
  · rw [e] at o; exact o B' H' f' r'
  · rw [e] at o; exact o
theorem ps_forD {it : SI Wl} (us : List Nat) {tg : Tg} {gg : TG} (hg : TgOk W X.K gg tg) (hp : PassesOwn (model X.prog X.w) X.A X.env X.xe) (hc : X.calm = true) (hi : PI X tgx iter (iD W X.K (cst E) it)) (hgg : PG X tgx gg) (hb : PSs X body (tS W X.K E f))
    (hs : ∀ x, foldedSetIterable iter X.env x = pure x) : PS X (.For tgx iter body [] pos) (tS W X.K E (sFor it us tg f)) := (ps_for hp hc hi hgg hb hs).weak fun _ _ _ q => for_D hg q
/-! ### raise -/
theorem ps_raiseD {cn : Str} {ex : Expr} (h : PS X (.Raise (some ex) none pos) (fun _ sg H => E (.ref (He.ga X.K cn)) none H)) : PS X (.Raise (some ex) none pos) (tS W X.K E (sRaise cn)) := h.weak fun Ds sg H q => by
  obtain ⟨B0, H0, rh, ow, w, ⟨B, s, r⟩, o⟩ := q
  exact o B H s.fu r
end
end G
namespace G
open PySem L2 PyProof.Rows PySem.Spec

/-! ### defs -/
/-- what a walk knows of its surroundings -/
structure PF (X : Cx) (E : XS) (k : Nat) : Prop where
  room : Room k X.A
  pas : ∀ sg, PassesAt (L2.CX X.prog X.w) X sg (E sg)
  own : PassesOwn (model X.prog X.w) X.A X.env X.xe
  calm : X.calm = true
  nd : X.N.Nodup
structure PR (X : Cx) (E : XK) : Prop where
  tk : Takes X (fun cls d _ H => E cls d H)
  hs : X.stack = X.env :: X.outer
  hf : X.env.frame = some X.env.locals
section
variable {X : Cx} {E : XS} {k : Nat}
theorem PF.un (h : PF X E k) : X.A.units + 64 < cLine := h.room.units
theorem PF.un1 (h : PF X E k) : X.A.units + 1 < cLine := by have := h.room.units; omega
theorem PF.blk (h : PF X E k) (s : Shared) (H : Hp) (scope : Scope) (C : Addr) (cl : List (Str × Addr)) (fp : List Addr) : PF (X.blk s H scope (compEnvC scope cl C X.env) fp) (cst E0) k := ⟨h.room, fun sg pins H s e s' I c => passL pins sg H s e s' I c, PassesOwn.never, h.calm, h.nd⟩
end
theorem PF.passes {X : Cx} {E : XK} {k : Nat} (h : PF X (cst E) k) : Passes (L2.CX X.prog X.w) X E := fun pins sg H s e s' I c => h.pas sg pins H s e s' I c
def fnRun (n : Nat) (F : SS Wl) : List D → Wl → Res Wl D := fun ds w => match F (ds.map some ++ List.replicate (n - ds.length) none) [] w with
  | .nx _ _ w' => .ok .non w'
  | .ret d w' => .ok d w'
  | .exc c w' => .exc c w'
  | _ => .fail
structure FnG (P : Program) (w : World) (K : PySem.W.Frag) (mg : Str → Option Value) (base : Heap) (W : Bool) (k : Nat) (f : Addr) (n : Nat) (m : List D → Wl → Res Wl D) : Prop where
  ex : ∃ fd ps, FnOk P w K mg base (L2.CX P w) k f fd ps (spD W K n m) ∧ PySem.W.keepIn K (.ref f) = true ∧ Binds K fd ps []
theorem Out.weak {A V' : Type} {K : PySem.W.Frag} {E : XK} {Rp : Base → A → V' → Prop} {B : Base} {H : Hp} {Q : V' → Hp → Prop} {W : Bool} {m : Res Wl A} (h : Out W K E Rp B H Q m) : Out true K E Rp B H Q m := by
  cases m with
  | ok a w' => exact fun v B' H' f r p => h v B' H' f.weak r p
  | exc c w' => exact fun B' H' f r => h B' H' f.weak r
  | fail => exact h
section
variable {P : Program} {w : World} {K : PySem.W.Frag} {mg : Str → Option Value} {base : Heap} {W : Bool} {j k n : Nat} {f : Addr} {m : List D → Wl → Res Wl D}
theorem FnG.mono (F : FnG P w K mg base W j f n m) (h : j ≤ k) : FnG P w K mg base W k f n m :=
  let ⟨fd, ps, h1, h2⟩ := F.ex
  ⟨fd, ps, h1.mono h, h2⟩
theorem FnG.weak (F : FnG P w K mg base true k f n m) : FnG P w K mg base W k f n m :=
  let ⟨fd, ps, h1, h2⟩ := F.ex
  ⟨fd, ps, h1.imp fun vs H Q E ⟨ds, wl, B, a1, a2, a3, a4, a5⟩ => ⟨ds, wl, B, a1, a2, a3, a4, a5.weak⟩, h2⟩
end
theorem envR_start {K : PySem.W.Frag} {B : Base} {N : List Str} {ds : List D} {vs : List V} (h : Reps K B ds vs) : EnvR K B (start N vs) (ds.map some ++ List.replicate (N.length - ds.length) none) := by
  refine ⟨by simp [L2.start, h.length], fun i d e => ?_⟩
  by_cases hi : i < ds.length
  · rw [List.getElem?_append_left (by simpa using hi)] at e
    have e1 : ds[i]? = some d := by
      rw [List.getElem?_map] at e
      cases q : ds[i]? with
      | none => rw [q] at e; cases e
      | some d' => rw [q] at e; simp at e; rw [e]
    obtain ⟨v, h1, h2⟩ := h.get e1
    refine ⟨v, ?_, h2⟩
    unfold L2.start
    rw [List.getElem?_append_left (by simpa [h.length] using hi), List.getElem?_map, h1]; rfl
  · rw [List.getElem?_append_right (by simpa using hi)] at e
    have := List.getElem?_replicate (n := N.length - ds.length) (a := (none : Option D)) (i := i - (ds.map some).length)
    rw [this] at e
    split at e <;> simp at e
section
variable {P : Program} {w : World} {K : PySem.W.Frag} {mg : Str → Option Value} {base : Heap} {x qual : Str} {params : Arguments} {body : List Stmt} {scope : Scope} {f : Addr} {fd : FuncData}
/-- THE RULE: a def whose body reads so -/
theorem fn_okE {W : Bool} {N ps : List Str} {k : Nat} {Fb : SS Wl} (F : FunD K x qual params body scope [] [] f fd) (S : FnScope N ps scope)
    (wk : ∀ (cdv : Value) (A : Around) (outer : List PySem.Env) (s : Shared) (H : Hp) (E : XK), PF (cxOf (L2.CX P w) P w K mg base N qual scope f cdv A outer s H E) (cst E) k → PR (cxOf (L2.CX P w) P w K mg base N qual scope f cdv A outer s H E) E → PSs (cxOf (L2.CX P w) P w K mg base N qual scope f cdv A outer s H E) body (tS W K E Fb)) :
    FnOk P w K mg base (L2.CX P w) (k + 1) f fd ps (spD W K ps.length (fnRun N.length Fb)) := by
  refine F.ok S (fun vs H Q E h => ?_) (fun cdv A outer s H vs Q E hr h => ⟨tS W K E Fb, wk cdv A outer s H E ⟨hr, ?_, passes_of rfl, rfl, S.nd⟩ ⟨takes_of rfl rfl rfl rfl, rfl, rfl⟩, ?_⟩)
  · obtain ⟨ds, wl, B, a1, a2, a3, a4, a5⟩ := h
    rw [a4.length, a1]
  · exact fun sg pins H s e s' I c => passes_call (takes_of rfl rfl rfl rfl) (fun _ _ _ _ z => z) pins sg H s e s' I c
  · obtain ⟨ds, wl, B, a1, a2, a3, a4, a5⟩ := h
    have en := envR_start (N := N) a4
    refine ⟨B, H, _, [], wl, ⟨B, ⟨Fu.refl a2, en, en.len, (fun _ h => nomatch h), (fun _ h => nomatch h)⟩, a3⟩, ?_⟩
    unfold fnRun at a5
    cases h : Fb (ds.map some ++ List.replicate (N.length - ds.length) none) [] wl with
    | nx rh ow w' =>
      rw [h] at a5
      intro sg H' ⟨B', s', r'⟩
      exact a5 .non B' H' s'.fu r' rfl
    | ret d w' => rw [h] at a5; exact fun v B' H' f' r' p => a5 v B' H' f' r' p
    | exc c w' => rw [h] at a5; exact fun B' H' f' r' => a5 B' H' f' r'
    | brk _ _ _ => rw [h] at a5; exact a5.elim
    | ct _ _ _ => rw [h] at a5; exact a5.elim
    | fail => rw [h] at a5; exact a5.elim
theorem fn_okC {W : Bool} {N ps : List Str} {k : Nat} {Fb : SS Wl} (F : FunD K x qual params body scope [] [] f fd) (S : FnScope N ps scope) (hb : Binds K fd ps [])
    (wk : ∀ (cdv : Value) (A : Around) (outer : List PySem.Env) (s : Shared) (H : Hp) (E : XK), PF (cxOf (L2.CX P w) P w K mg base N qual scope f cdv A outer s H E) (cst E) k → PR (cxOf (L2.CX P w) P w K mg base N qual scope f cdv A outer s H E) E → PSs (cxOf (L2.CX P w) P w K mg base N qual scope f cdv A outer s H E) body (tS W K E Fb)) :
    FnG P w K mg base W (k + 1) f ps.length (fnRun N.length Fb) :=
  ⟨fd, ps, fn_okE F S wk, F.kp, hb⟩
end
/-! ### calls -/
section
variable {X : Cx} {W : Bool} {E : XS} {pos : Pos} {k : Nat}
/-- how many values a list of arguments has -/
theorem lNil_len {T : Type} : ∀ (rh : Env) (w : T) ds w', lNil rh w = .ok ds w' → ds.length = 0 := fun rh w ds w' h => by cases h; rfl
theorem lCons_len {T : Type} {fa : SE T} {fs : SL T} {n : Nat} (h : ∀ rh w ds w', fs rh w = .ok ds w' → ds.length = n) : ∀ rh w ds w', lCons fa fs rh w = .ok ds w' → ds.length = n + 1 := fun rh w ds w' e => by
  unfold lCons at e
  cases h1 : fa rh w with
  | fail => rw [h1] at e; cases e
  | exc _ _ => rw [h1] at e; cases e
  | ok a w1 =>
    rw [h1] at e
    cases h2 : fs rh w1 with
    | fail => simp only [Res.bind, h2] at e; cases e
    | exc _ _ => simp only [Res.bind, h2] at e; cases e
    | ok as w2 =>
      simp only [Res.bind, h2] at e
      cases e
      simp [h rh w1 as _ h2]
theorem pe_callG {x : Str} {p : Pos} {e : Expr} {es : List Expr} {fs : SL Wl} {n : Nat} {f : Addr} {m : List D → Wl → Res Wl D} (F : FnG X.prog X.w X.K X.mg X.base W k f n m) (hx : PF X E k) (hm : X.mg x = some (.ref f)) (hg : Gl X x) (ha : PA X (e :: es) (tL W X.K E fs))
    (hn : ∀ rh w ds w', fs rh w = .ok ds w' → ds.length = n)
    (hs : starEach (e :: es) X.env = (false, eval e X.env) :: starEach es X.env) (hp : (backTo pos (starEach es X.env)).any (·.1) = false) (hd : (x == ("__debug__" : Str)) = false) : PE X (.Call (.Name x p) (e :: es) [] pos) (tD W X.K E (eCall m fs)) := by
  obtain ⟨fd, ps, Fk, hk, hb⟩ := F.ex
  exact pe_callD (k := k) (n := n) ⟨f, fd, ps, Fk, hm, hk, hb⟩ hx.room hg hx.pas ha hs hp hd hn
end
end G
namespace G
open PySem L2 PyProof.Rows PySem.Spec

/-! ### new objects -/
def OutN (W : Bool) (K : PySem.W.Frag) (E : XK) (B : Base) (H : Hp) (Q : VK) : Res Wl D → Prop
  | .ok d w' => ∀ p o B' H', Fu W B H B' H' → Ok K w' B' H' → H p = none → H' p = some o → FreshR K B' d o → B'.hp p = none → p ∉ B'.cs → Q (.ref p) H'
  | .exc c w' => ∀ B' H', Fu W B H B' H' → Ok K w' B' H' → E (.ref (He.ga K c)) none H'
  | .fail => False
def tN (W : Bool) (K : PySem.W.Frag) (E : XS) (f : SE Wl) : TE := fun sg H Q => ∃ rh w B, Sm B.hp H ∧ EnvR K B sg rh ∧ Ok K w B H ∧ OutN W K (E sg) B H Q (f rh w)
theorem Fu.none {W : Bool} {K : PySem.W.Frag} {B B1 : Base} {H H1 : Hp} {w1 : Wl} (f : Fu W B H B1 H1) (r1 : Ok K w1 B1 H1) {p : Addr} (h : H1 p = none) : H p = none := by
  cases e : H p with
  | none => rfl
  | some o =>
    by_cases hc : p ∈ B.cs
    · exact absurd h (r1.has (f.b.mem hc))
    · obtain ⟨o', h1, _⟩ := f.sm e hc
      rw [h] at h1; cases h1
section
variable {W : Bool} {K : PySem.W.Frag} {E : XK} {A V' : Type} {Rp : Base → A → V' → Prop} {B B1 : Base} {H H1 : Hp} {Q : VK}
theorem OutN.shift {w1 : Wl} {m : Res Wl D} (r1 : Ok K w1 B1 H1) (f : Fu W B H B1 H1) (h : OutN W K E B H Q m) : OutN W K E B1 H1 Q m := by
  cases m with
  | ok a w' => exact fun p o B' H' f' r' h0 h1 h2 h3 h4 => h p o B' H' (f.trans f') r' (f.none r1 h0) h1 h2 h3 h4
  | exc c w' => exact fun B' H' f' r' => h B' H' (f.trans f') r'
  | fail => exact h
theorem OutN.bind {w : Wl} {m : Res Wl A} {k : A → Wl → Res Wl D} (r : Ok K w B H) (h : OutN W K E B H Q (m.bind k)) :
    Out W K E Rp B H (fun v H1 => ∃ a w1 B1, Fu W B H B1 H1 ∧ Ok K w1 B1 H1 ∧ Rp B1 a v ∧ OutN W K E B1 H1 Q (k a w1)) m := by
  cases m with
  | ok a w1 => exact fun v B1 H1 f r1 p => ⟨a, w1, B1, f, r1, p, OutN.shift r1 f h⟩
  | exc c w' => exact h
  | fail => exact h
theorem tN_bind {E : XS} {sg : L2.St} {f : Env → Wl → Res Wl A} {k : Env → A → Wl → Res Wl D} (h : tN W K E (fun rh w => (f rh w).bind (k rh)) sg H Q) :
    tG W K E Rp f sg H (fun v H1 => ∃ rh a w1 B1, Sm B1.hp H1 ∧ EnvR K B1 sg rh ∧ Ok K w1 B1 H1 ∧ Rp B1 a v ∧ OutN W K (E sg) B1 H1 Q (k rh a w1)) := by
  obtain ⟨rh, w, B, hb, he, r, o⟩ := h
  refine ⟨rh, w, B, hb, he, r, (OutN.bind r o).imp fun v H1 q => ?_⟩
  obtain ⟨a, w1, B1, f1, r1, p, o1⟩ := q
  exact ⟨rh, a, w1, B1, f1.bh, he.mono f1.b, r1, p, o1⟩
/-- a new object may come into the base -/
theorem tN_D {E : XS} {f : SE Wl} {sg : L2.St} (q : tD W K E f sg H Q) : tN W K E f sg H Q := by
  obtain ⟨rh, w, B, hb, he, r, o⟩ := q
  refine ⟨rh, w, B, hb, he, r, ?_⟩
  cases h : f rh w with
  | ok d w' =>
    rw [h] at o
    exact fun p ob B' H' f' r' h0 h1 h2 h3 h4 => o (.ref p) (B'.put p ob) H' (f'.put h0 h3 h1) (r'.put h3 h4 h1) ((h2.mono (put_le h3 _)).rep upd_same)
  | exc c w' => rw [h] at o; exact o
  | fail => rw [h] at o; exact o
/-- laid at once -/
theorem OutN.lay {d : D} {w : Wl} {o : HO} (hb : Sm B.hp H) (r : Ok K w B H) (h : OutN W K E B H Q (.ok d w)) {p : Addr} (hp : H p = none) (hf : FreshR K B d o) : Q (.ref p) (upd H p o) :=
  have hm := not_mk r hp
  have hbp := not_hp hb hp
  h p o B (upd H p o) ((Fu.refl hb).mut hp hbp hm o) (r.mut hbp hm o) hp upd_same hf hbp hm
end
theorem peN {X : Cx} {W : Bool} {E : XS} {e : Expr} {f : SE Wl} (h : PE X e (tN W X.K E f)) : PE X e (tD W X.K E f) := h.weak fun _ _ _ q => tN_D q
section
variable {X : Cx} {W : Bool} {E : XS} {pos : Pos}
theorem pe_lstN {es : List Expr} {fs : SL Wl} (h : PA X es (tL W X.K E fs)) : PE X (.List es pos) (tN W X.K E (eLst fs)) := (pe_lst h).weak fun sg H Q q => by
  refine tG_imp (tN_bind (Rp := RpA X.K) q) fun xs H1 q1 => ?_
  obtain ⟨rh, ds, w1, B1, hb1, he1, r1, px, o1⟩ := q1
  split at o1
  · rename_i hl
    exact ⟨by rw [px.length]; exact sz5 hl, fun p hp => o1.lay hb1 r1 hp (o := .lst xs) px⟩
  · exact o1.elim
theorem lc_N {it : SI Wl} {tg : Tg} {tt : SB Wl} {te : SE Wl} {g : TG} {vs : List Nat} {sg : L2.St} {H : Hp} {Q : VK} (hg : TgOk W X.K g tg) (hsub : ∀ i ∈ tg.slots, i ∈ vs)
    (q : tN W X.K E (eLc it tg tt te vs) sg H Q) :
    tLc (iD W X.K E it) g (tT W X.K (cst E0) tt) (tD W X.K (cst E0) te) vs sg H Q := by
  obtain ⟨rh, w, B, hb, he, r, o⟩ := q
  refine ⟨rh, w, B, hb, he, r, (OutN.bind (Rp := RpI W X.K) r o).imp fun J H1 q1 Dl hD => ?_⟩
  obtain ⟨ds, w1, B1, f1, r1, wk, o1⟩ := q1
  split at o1
  case isFalse => exact o1.elim
  rename_i hsz
  have he1 := he.mono f1.b
  have hB1 := f1.bh
  have hMD := not_mk r1 hD
  have hBD := not_hp hB1 hD
  cases hlo : lcLoop tg tt te (wipeE rh vs) ds [] w1 with
  | fail => rw [hlo] at o1; exact o1.elim
  | exc c w' =>
    exfalso
    have : ∀ (ds acc : List D) (w : Wl), lcLoop tg tt te (wipeE rh vs) ds acc w ≠ .exc c w' := by
      intro ds
      induction ds with
      | nil => intro acc w h; cases h
      | cons d ds ih =>
        intro acc w h
        unfold lcLoop at h
        split at h
        · cases h
        · rename_i rh' _
          cases h1 : tt rh' w with
          | fail => rw [h1] at h; cases h
          | exc _ _ => rw [h1] at h; cases h
          | ok b w2 =>
            rw [h1] at h
            cases b with
            | false => exact ih _ _ h
            | true =>
              have h' : (noX (te rh' w2)).bind (fun y w2 => lcLoop tg tt te (wipeE rh vs) ds (acc ++ [y]) w2) = .exc c w' := h
              cases h2 : te rh' w2 with
              | fail => rw [h2] at h'; cases h'
              | exc _ _ => rw [h2] at h'; cases h'
              | ok y w3 => rw [h2] at h'; exact ih _ _ h'
    exact this _ _ _ hlo
  | ok out wE =>
    rw [hlo] at o1
    have o1' : OutN W X.K (E sg) B1 H1 Q (.ok (.lst out) wE) := o1
    -- the invariant
    refine lc_it wk (fun i H' => ∃ w2 acc B2 va, Fu W B1 H1 B2 H' ∧ Ok X.K w2 B2 H' ∧ B2.hp Dl = none ∧ Dl ∉ B2.cs ∧ H' Dl = some (.lst va) ∧ Reps X.K B2 acc va ∧ acc.length ≤ i ∧ lcLoop tg tt te (wipeE rh vs) (ds.drop i) acc w2 = .ok out wE)
      ?_ ?_ ?_ ?_
    · exact ⟨w1, [], B1, [], (Fu.refl hB1).mut hD hBD hMD _, r1.mut hBD hMD _, hBD, hMD, upd_same, rfl, Nat.le_refl _, hlo⟩
    · rintro i H' _ ⟨w2, acc, B2, va, f2, r2, _⟩
      exact f2.b.1.trans r2.sm
    · rintro i x H' H'' hi ⟨w2, acc, B2, va, f2, r2, bD, mD, hDl, ra, la, lo⟩ ⟨rfl, d, hd, rx⟩
      have hdr : ds.drop i = d :: ds.drop (i + 1) := by
        obtain ⟨hlt, e⟩ := List.getElem?_eq_some_iff.mp hd
        rw [List.drop_eq_getElem_cons hlt, e]
      rw [hdr] at lo
      unfold lcLoop at lo
      cases ht : tgSet tg d (wipeE rh vs) with
      | none => rw [ht] at lo; cases lo
      | some rh' =>
        rw [ht] at lo
        have heW : EnvR X.K B2 (wipe sg vs) (wipeE rh vs) := envR_wipe (he1.mono f2.b) vs
        refine hg B2 H'' x d (wipe sg vs) (wipeE rh vs) rh' _ r2.sm (Rep.mono f2.b _ _ rx) heW ht fun sg' he' hl1 hoth => ?_
        refine ⟨?_, ?_⟩
        · have e1 : wipe sg' vs = wipe (wipe sg vs) vs := wipe_eq hl1 fun j hj => hoth j fun z => hj (hsub j z)
          rw [e1]
          exact wipe_eq (wipe_length sg vs) fun j hj => wipe_out' hj
        · -- the test
          have lo' : (noX (tt rh' w2)).bind (fun b w1 => if b then (noX (te rh' w1)).bind fun y w2 => lcLoop tg tt te (wipeE rh vs) (ds.drop (i + 1)) (acc ++ [y]) w2 else lcLoop tg tt te (wipeE rh vs) (ds.drop (i + 1)) acc w1) = .ok out wE := lo
          refine ⟨rh', w2, B2, r2.sm, he', r2, ?_⟩
          cases h1 : tt rh' w2 with
          | fail => rw [h1] at lo'; cases lo'
          | exc _ _ => rw [h1] at lo'; cases lo'
          | ok b w3 =>
            rw [h1] at lo'
            intro b' B3 H3 f3 r3 eb
            cases (show b' = b from eb)
            have hDn : H'' Dl ≠ none := by rw [hDl]; exact fun z => nomatch z
            have hDl3 : H3 Dl = some (.lst va) := f3.at hDl mD bD
            have bD3 : B3.hp Dl = none := f3.nw Dl bD hDn (by rw [hDl]; rfl) mD
            have mD3 : Dl ∉ B3.cs := f3.nm Dl hDn mD
            have f3' := f2.trans f3
            cases b with
            | false =>
              have lo2 : lcLoop tg tt te (wipeE rh vs) (ds.drop (i + 1)) acc w3 = .ok out wE := lo'
              exact ⟨w3, acc, B3, va, f3', r3, bD3, mD3, hDl3, Reps.mono f3.b _ _ ra, Nat.le_succ_of_le la, lo2⟩
            | true =>
              have lo2 : (noX (te rh' w3)).bind (fun y w2 => lcLoop tg tt te (wipeE rh vs) (ds.drop (i + 1)) (acc ++ [y]) w2) = .ok out wE := lo'
              show tD W X.K (cst E0) te sg' H3 _
              refine ⟨rh', w3, B3, f3.bh, he'.mono f3.b, r3, ?_⟩
              cases h2 : te rh' w3 with
              | fail => rw [h2] at lo2; cases lo2
              | exc _ _ => rw [h2] at lo2; cases lo2
              | ok y w4 =>
                rw [h2] at lo2
                intro v B4 H4 f4 r4 py
                have hDn3 : H3 Dl ≠ none := by rw [hDl3]; exact fun z => nomatch z
                have hDl4 : H4 Dl = some (.lst va) := f4.at hDl3 mD3 bD3
                have bD4 : B4.hp Dl = none := f4.nw Dl bD3 hDn3 (by rw [hDl3]; rfl) mD3
                have mD4 : Dl ∉ B4.cs := f4.nm Dl hDn3 mD3
                have hva := ra.length
                refine ⟨va, hDl4, ?_, w4, acc ++ [y], B4, va ++ [v], (f3'.trans f4).mut hD bD4 hMD _, r4.mut bD4 mD4 _, bD4, mD4, upd_same, Reps.app (Reps.mono f4.b _ _ (Reps.mono f3.b _ _ ra)) (Reps.one py), ?_, lo2⟩
                · have : va.length ≤ 100000 := by omega
                  exact Nat.lt_of_le_of_lt this (by decide)
                · simp; omega
    · rintro H' ⟨w2, acc, B2, va, f2, r2, bD, mD, hDl, ra, la, lo⟩
      rw [List.drop_of_length_le (Nat.le_refl _)] at lo
      unfold lcLoop at lo
      cases lo
      exact o1' Dl (.lst va) B2 H' f2 r2 hD hDl ra bD mD
end
section
variable {X : Cx} {W : Bool} {E : XK}
/-! ### assignments of new objects -/
theorem own_fresh {W : Bool} {K : PySem.W.Frag} {B0 B : Base} {H0 H : Hp} {sg : L2.St} {rh : Env} {ow : List Nat} {w : Wl} (s : StB W K B0 H0 sg rh ow B H) (r : Ok K w B H) {p : Addr} (hp : H p = none) : H0 p = none ∧ ∀ j ∈ ow, sg[j]? ≠ some (some (V.ref p)) :=
  ⟨s.fu.none r hp, fun j hj e => by
    obtain ⟨p', d, o, a1, a2, a3, _⟩ := s.own j hj
    rw [e] at a1; cases a1
    rw [hp] at a3; cases a3⟩
theorem new_D {fe : SE Wl} {i : Nat} {us : List Nat} {Ds : Ends} {sg : L2.St} {H : Hp} (q : tS W X.K E (sNew i fe us) Ds sg H) : tAsg (tN W X.K (cst E) fe) (gName i) Ds sg H := by
  obtain ⟨B0, H0, rh, ow, w, ⟨B, s, r⟩, o⟩ := q
  unfold sNew at o
  split at o
  · rename_i hi
    obtain ⟨s1, r1⟩ := s.give r us
    refine ⟨wipeE rh (give ow us), w, _, r1.sm, s1.en, r1, ?_⟩
    cases h : fe (wipeE rh (give ow us)) w with
    | ok d w' =>
      rw [h] at o
      intro p ob B' H' f' r' h0 h1 h2 h3 h4
      obtain ⟨z1, z2⟩ := own_fresh s1 r1 h0
      exact o _ H' ⟨B', (s1.later f').own_new i hi h1 h2 h3 z1 h4 z2, r'⟩
    | exc c w' => rw [h] at o; exact fun B' H' f' r' => o B' H' (s1.fu.trans f') r'
    | fail => rw [h] at o; exact o
  · exact o.elim
/-- pure, of atoms and tuples: one's own is kept -/
theorem newP_D {fe : SE Wl} {i : Nat} {Ds : Ends} {sg : L2.St} {H : Hp} (q : tS W X.K E (sNewP i fe) Ds sg H) : tAsg (tN true X.K (cst E) fe) (gName i) Ds sg H := by
  obtain ⟨B0, H0, rh, ow, w, ⟨B, s, r⟩, o⟩ := q
  unfold sNewP at o
  split at o
  · rename_i hi
    obtain ⟨g, e, r1⟩ := s.full r
    refine ⟨rh, w, fullB B H sg ow, r1.sm, e, r1, ?_⟩
    cases h : fe rh w with
    | ok d w' =>
      rw [h] at o
      intro p ob B' H' f' r' h0 h1 h2 h3 h4
      obtain ⟨s1, o1, hB, hall⟩ := s.laterT r r' f'
      obtain ⟨z1, z2⟩ := own_fresh s r h0
      cases d with
      | lst xs =>
        have o' : OutS W X.K E B0 H0 Ds (if imms xs then .nx (rh.set i (some (.lst xs))) (i :: rmv ow i) w else .fail) := o
        cases hm : imms xs with
        | false => rw [hm] at o'; exact o'.elim
        | true =>
          rw [hm] at o'
          cases ob with
          | lst vs =>
            have hj : (joinT B B').hp p = none := by
              show (match B.hp p with | some u => some u | none => tups B'.hp p) = none
              rw [not_hp r.sm h0]
              refine tups_none ?_
              rw [h3]; rfl
            have hc : p ∉ (joinT B B').cs := not_mk r h0
            exact o' _ H' ⟨_, s1.own_new i hi h1 (show FreshR X.K (joinT B B') (.lst xs) (.lst vs) from reps_join hm hB f'.bh h2) hj z1 hc z2, o1⟩
          | _ => exact h2.elim
      | _ => exact o.elim
    | exc c w' => rw [h] at o; exact fun B' H' f' r' => o B' H' (g.trans f'.weak) r'
    | fail => rw [h] at o; exact o
  · exact o.elim
end
end G
namespace G
open PySem L2 PyProof.Rows PySem.Spec

/-! ### for k in d.keys(): the dict is locked from then on -/
def iKeysR (td : TE) : TI := fun sg H R => td sg H fun x H1 => ∃ d kvs, x = .ref d ∧ ((∃ o, H1 d = some (.frz o (.dK kvs)) ∧ R (Itk d o kvs) H1) ∨ (H1 d = some (.dK kvs) ∧ ∀ od, R (Itk d od kvs) (upd H1 d (.frz od (.dK kvs)))))
section
variable {X : Cx} {tg e : Expr} {td : TE} {apos cpos : Pos} {W : Bool} {E : XS} {fe : SE Wl}
theorem pi_keysR (he : PE X e td) (hbase : attributeBase e "keys" X.env (eval e X.env) = eval e X.env) (hline : (apos.endLine == cpos.line) = true) : PI X tg (.Call (.Attribute e "keys" apos) [] [] cpos) (iKeysR td) := by
  refine ⟨fun pins s sg H R I h => ?_⟩
  refine wpAny_Call_method (T := "dict") (id := "dict.keys") hbase rfl hline F.plainAttrs_dict F.slot_dict_keys F.type_dict_keys (thn (he.run pins s sg H _ I h) fun u s1 ⟨x, H1, I1, rx, d, kvs, ex, q⟩ => ?_)
  subst ex
  obtain rfl : u = Value.ref d := rx
  have key : ∃ H2 o, Inv X pins sg H2 s1 ∧ H2 d = some (.frz o (.dK kvs)) ∧ R (Itk d o kvs) H2 := by
    rcases q with ⟨o, hd, q⟩ | ⟨hd, q⟩
    · exact ⟨H1, o, I1, hd, q⟩
    · obtain ⟨od, I2⟩ := I1.lock hd trivial
      exact ⟨_, od, I2, upd_same, q od⟩
  obtain ⟨H2, o, I2, hd, q⟩ := key
  obtain ⟨hs, hgd, hx, es, ep, vs, hdt, hsz, kv, hm⟩ := I2.frzK hd
  have hl : kvs.length = vs.length := Paired.length kv
  refine ⟨hm.dictOf.typeIs, hm.dictOf.mapOf.noDict, ?_⟩
  have I3 : Inv X pins sg H2 { s1 with heap := s1.heap.push { cls := .type "dict_keys", data := .fields #[.ref d] } } := I2.kept (t' := s1.toks) fun b ob q => Heap.get?_push_of_some _ q
  have fin : wpAny (model X.prog X.w) X.A (pyIter (.ref s1.heap.objs.size)) (PIE X pins sg tg R) X.xe { s1 with heap := s1.heap.push { cls := .type "dict_keys", data := .fields #[.ref d] } } := by
    refine PySem.W.kdl_pyIter_keys (d := d) (knd := mixKind X.prog X.w) ⟨_, Heap.get?_push_size _ rfl, rfl, rfl⟩ (hm.push _) (pi_one (tk := s1.toks) I3 _ (turn_keys _ hdt) ⟨_, Heap.get?_push_size _ rfl, rfl, ?_⟩ q)
    rw [hl] <;> rfl
  show wpAny _ _ (callWith cpos (.builtin "dict.keys") [.ref d] [] []) _ X.xe s1
  exact method_meetsIn F.slot_dict_keys F.entry_dict_keys rfl (PySem.evalArgs_none ⟨rfl, hm.dictOf.typeIs, F.args_dict_keys_1 _, _, PySem.W.kdl_meets_keys (mixKind X.prog X.w) d hs, ⟨vs, hm.dictOf⟩, fin⟩)
def keysL : D → Option (List D)
  | .dic kvs => some (kvs.map fun kv => keyD kv.1)
  | _ => none
def iKeys (f : SE Wl) : SI Wl := fun rh w => (f rh w).bind fun x w1 => liftL (keysL x) w1
theorem walkD_keys {K : PySem.W.Frag} {d : Addr} {o : Obj} {kvs : List (Key × D)} {vs : List (Key × V)} {B : Base} (hb : B.hp d = some (.frz o (.dK vs))) (h : RepsK K B kvs vs) : WalkD W K (Itk d o vs) (kvs.map fun kv => keyD kv.1) B := by
  unfold WalkD
  have hl : (kvs.map fun kv => keyD kv.1).length = vs.length := by rw [List.length_map, h.length]
  rw [hl]
  refine walk_keys.mono (fun H hH => hH.get hb fun _ z => nomatch z) fun i H x H' hi g y => ⟨y.1, ?_⟩
  obtain ⟨k, v, h1, rfl⟩ := y.2
  refine ⟨keyD k, ?_, ?_⟩
  · have e := repsK_keys h
    have e2 : (vs.map (·.1))[i]? = some k := by rw [List.getElem?_map, h1]; rfl
    rw [e, List.getElem?_map] at e2
    rw [List.getElem?_map]
    cases q : kvs[i]? with
    | none => rw [q] at e2; cases e2
    | some kv => rw [q] at e2; cases e2; rfl
  · cases k with
    | inl i => rfl
    | inr z => rfl
theorem pi_keysD (he : PE X e (tD false X.K E fe)) (hbase : attributeBase e "keys" X.env (eval e X.env) = eval e X.env) (hline : (apos.endLine == cpos.line) = true) : PI X tg (.Call (.Attribute e "keys" apos) [] [] cpos) (iD false X.K E (iKeys fe)) := (pi_keysR he hbase hline).weak fun sg H R q => by
  refine tG_imp (tG_bind (Rp := RpE X.K) q) fun x H1 q1 => ?_
  obtain ⟨rh, p, w1, B1, hb1, he1, r1, px, o1⟩ := q1
  cases p with
  | dic kvs =>
    obtain ⟨a, vs, rfl, h1, h2⟩ := px
    refine ⟨a, vs, rfl, ?_⟩
    rcases h1 with h1 | ⟨o, h1⟩
    · obtain ⟨o', h3, rfl | ⟨od, kvs', e1, e2⟩⟩ := hb1 a _ h1
      · refine .inr ⟨h3, fun od => ?_⟩
        obtain ⟨r2, f2⟩ := r1.lock h1 h3 od
        exact o1 _ _ _ f2 r2 (walkD_keys upd_same (RepsK.mono f2.b _ _ h2))
      · cases e1
        subst e2
        -- the heap has it locked already, the base not yet
        have hm : a ∉ B1.cs := fun z => by have := r1.no a z; rw [h1] at this; cases this
        have le : B1.Le (B1.put a (.frz od (.dK vs))) := ⟨fun b o e => by
          show ∃ o', upd B1.hp a (.frz od (.dK vs)) b = some o' ∧ Fz o o'
          by_cases hb : b = a
          · subst hb
            rw [h1] at e; cases e
            exact ⟨_, upd_same, .inr ⟨od, vs, rfl, rfl⟩⟩
          · exact ⟨o, by rw [upd_ne hb]; exact e, .inl rfl⟩, fun _ _ e => e⟩
        have sm : Sm (B1.put a (.frz od (.dK vs))).hp H1 := fun b o e => by
          have e' : upd B1.hp a (.frz od (.dK vs)) b = some o := e
          by_cases hb : b = a
          · subst hb
            rw [upd_same] at e'; cases e'
            exact ⟨_, h3, .inl rfl⟩
          · rw [upd_ne hb] at e'
            exact hb1 b o e'
        have r2 : Ok X.K w1 (B1.put a (.frz od (.dK vs))) H1 := ⟨sm, r1.len, fun i c e => by
          obtain ⟨b, u, z1, z2, z3⟩ := r1.on i c e
          exact ⟨b, u, z1, z2, z3.mono le⟩, fun b h => by
          have hb : b ≠ a := fun z => hm (by rw [← z]; exact h)
          show upd B1.hp a _ b = none
          rw [upd_ne hb]; exact r1.no b h, r1.dj⟩
        have f2 : Fu false B1 H1 (B1.put a (.frz od (.dK vs))) H1 := ⟨fun _ _ e _ => .inl e, le, sm, fun b e n _ _ => by
          have hb : b ≠ a := fun z => by rw [z, h1] at e; cases e
          show upd B1.hp a _ b = none
          rw [upd_ne hb]; exact e, fun _ _ m => m, fun z => nomatch z⟩
        exact .inl ⟨od, h3, o1 _ _ _ f2 r2 (walkD_keys upd_same (RepsK.mono le _ _ h2))⟩
    · exact .inl ⟨o, hb1.get h1 (fun _ z => nomatch z), o1 _ _ _ (Fu.refl hb1) r1 (walkD_keys h1 h2)⟩
  | _ => exact o1.elim
end

/-! ### comprehensions -/
theorem forall_mem_of {is js : List Nat} (h : is.all (fun i => js.contains i) = true) : ∀ i ∈ is, i ∈ js := fun i hi => by
  have := List.all_eq_true.mp h i hi
  simpa using this
section
variable {X : Cx} {W : Bool} {E : XS} {k : Nat} {elt tgx iter : Expr} {ifs : List Expr} {scope : Scope} {own : List (Str × Nat)} {pos spos : Pos} {it : SI Wl} {tg : Tg} {gg : TG} {tt : SB Wl} {te : SE Wl}
theorem pe_lcN (hx : PF X E k) (hgo : TgOk W X.K gg tg) (ok : BlkOk X.N X.env.scope scope own) (hsub : tg.slots.all (fun i => (own.map (·.2)).contains i) = true) (hi : PI X tgx iter (iD W X.K E it))
    (hg : ∀ (s : Shared) (H : Hp) (C : Addr) (cl : List (Str × Addr)) (fp : List Addr), PG (X.blk s H scope (compEnvC scope cl C X.env) fp) tgx gg)
    (ht : ∀ (s : Shared) (H : Hp) (C : Addr) (cl : List (Str × Addr)) (fp : List Addr), PF (X.blk s H scope (compEnvC scope cl C X.env) fp) (cst E0) k → PTs (X.blk s H scope (compEnvC scope cl C X.env) fp) ifs (tT W X.K (cst E0) tt))
    (he : ∀ (s : Shared) (H : Hp) (C : Addr) (cl : List (Str × Addr)) (fp : List Addr), PF (X.blk s H scope (compEnvC scope cl C X.env) fp) (cst E0) k → PE (X.blk s H scope (compEnvC scope cl C X.env) fp) elt (tD W X.K (cst E0) te))
    (hs : ∀ x, foldedSetIterable iter X.env x = pure x) :
    PE X (.ListComp elt [⟨tgx, iter, ifs, 0⟩] scope pos) (tN W X.K E (eLc it tg tt te (own.map (·.2)))) :=
  (pe_lc hx.calm hx.nd hi ok hg (fun s H C cl fp => ht s H C cl fp (hx.blk s H scope C cl fp)) (fun s H C cl fp => he s H C cl fp (hx.blk s H scope C cl fp)) hs).weak fun _ _ _ q => lc_N hgo (forall_mem_of hsub) q
theorem ps_setLcN {i : Nat} {y : Str} {py : Pos} (hx : PF X E k) (hy : X.N[i]? = some y) (hyl : X.env.scope.names.lookup y = some .local) (hsw : swapsWith (.ListComp elt [⟨tgx, iter, ifs, 0⟩] scope pos) (some (.Name y py)) spos.line X.env = pure true)
    (hgo : TgOk W X.K gg tg) (ok : BlkOk X.N X.env.scope scope own) (hsub : tg.slots.all (fun i => (own.map (·.2)).contains i) = true) (hi : PI X tgx iter (iD W X.K E it))
    (hg : ∀ (s : Shared) (H : Hp) (C : Addr) (cl : List (Str × Addr)) (fp : List Addr), PG (X.blk s H scope (compEnvC scope cl C X.env) fp) tgx gg)
    (ht : ∀ (s : Shared) (H : Hp) (C : Addr) (cl : List (Str × Addr)) (fp : List Addr), PF (X.blk s H scope (compEnvC scope cl C X.env) fp) (cst E0) k → PTs (X.blk s H scope (compEnvC scope cl C X.env) fp) ifs (tT W X.K (cst E0) tt))
    (he : ∀ (s : Shared) (H : Hp) (C : Addr) (cl : List (Str × Addr)) (fp : List Addr), PF (X.blk s H scope (compEnvC scope cl C X.env) fp) (cst E0) k → PE (X.blk s H scope (compEnvC scope cl C X.env) fp) elt (tD W X.K (cst E0) te))
    (hs : ∀ x, foldedSetIterable iter X.env x = pure x) :
    PS X (.Assign [.Name y py] (.ListComp elt [⟨tgx, iter, ifs, 0⟩] scope pos) spos) (tAsg (tN W X.K E (eLc it tg tt te (own.map (·.2)))) (gName i)) :=
  (ps_setLc hx.calm hx.nd hy hyl hsw hi ok hg (fun s H C cl fp => ht s H C cl fp (hx.blk s H scope C cl fp)) (fun s H C cl fp => he s H C cl fp (hx.blk s H scope C cl fp)) hs).weak fun _ _ _ q => lc_N hgo (forall_mem_of hsub) q
theorem pts_yesD : PTs X [] (tT W X.K E bYes) := ⟨fun pins s sg H Q I q => pts_nil.run pins s sg H Q I (by
  obtain ⟨rh, w, B, hb, he, r, o⟩ := q
  exact o true B H (Fu.refl hb) r rfl)⟩
theorem ptsE {X : Cx} {c : Expr} {t : TT} (h : PT X c t) : PTs X [c] t := pts_one h
end
end G
namespace G
open PySem L2 PyProof.Rows PySem.Spec

/-! ### one's own changes -/
def putD (kvs : List (Key × D)) (k : Key) (d : D) : List (Key × D) := if (kvs.any fun kv => decide (kv.1 = k)) = true then kvs.map (fun kv => if kv.1 = k then (kv.1, d) else kv) else kvs ++ [(k, d)]
section
variable {T : Type}
/-- the own list, the own dict in a slot -/
def ownL (rh : Env) (ow : List Nat) (i : Nat) : Option (List D) := if ow.contains i then match rh[i]? with
  | some (some (.lst xs)) => if xs.length < 50000 then some xs else none
  | _ => none
  else none
def ownD (rh : Env) (ow : List Nat) (i : Nat) : Option (List (Key × D)) := if ow.contains i then match rh[i]? with
  | some (some (.dic xs)) => if xs.length < 50000 then some xs else none
  | _ => none
  else none
def onL (o : Option (List D)) (k : List D → RS T) : RS T := match o with
  | some xs => k xs
  | none => .fail
def onD (o : Option (List (Key × D))) (k : List (Key × D) → RS T) : RS T := match o with
  | some xs => k xs
  | none => .fail
def sApp (i : Nat) (e : SE T) (us : List Nat) : SS T := fun rh ow w => onL (ownL rh (give ow us) i) fun xs => fin (e (wipeE rh (give ow us)) w) fun d w1 => .nx (rh.set i (some (.lst (xs ++ [d])))) (give ow us) w1
def sAppP (i : Nat) (e : SE T) : SS T := fun rh ow w => onL (ownL rh ow i) fun xs => fin (e rh w) fun d _ => if imm d then .nx (rh.set i (some (.lst (xs ++ [d])))) ow w else .fail
def lstOf : D → Option (List D)
  | .lst xs => if xs.length ≤ 50000 then some xs else none
  | _ => none
def sExt (i : Nat) (e : SE T) (us : List Nat) : SS T := fun rh ow w => onL (ownL rh (give ow us) i) fun xs => fin (e (wipeE rh (give ow us)) w) fun d w1 => onL (lstOf d) fun ys => .nx (rh.set i (some (.lst (xs ++ ys)))) (give ow us) w1
def sExtP (i : Nat) (e : SE T) : SS T := fun rh ow w => onL (ownL rh ow i) fun xs => fin (e rh w) fun d _ => onL (lstOf d) fun ys => if imms ys then .nx (rh.set i (some (.lst (xs ++ ys)))) ow w else .fail
def onK (o : Option Key) (k : Key → RS T) : RS T := match o with
  | some xs => k xs
  | none => .fail
def sPut (i : Nat) (ek e : SE T) (us : List Nat) : SS T := fun rh ow w => onD (ownD rh (give ow us) i) fun xs => fin (e (wipeE rh (give ow us)) w) fun d w1 => fin (ek (wipeE rh (give ow us)) w1) fun y w2 => onK (keyOf y) fun k => .nx (rh.set i (some (.dic (putD xs k d)))) (give ow us) w2
def sPutP (i : Nat) (ek e : SE T) : SS T := fun rh ow w => onD (ownD rh ow i) fun xs => fin (e rh w) fun d _ => if imm d then fin (ek rh w) fun y _ => onK (keyOf y) fun k => .nx (rh.set i (some (.dic (putD xs k d)))) ow w else .fail
end
theorem ownL_some {rh : Env} {ow : List Nat} {i : Nat} {xs : List D} (h : ownL rh ow i = some xs) : i ∈ ow ∧ rh[i]? = some (some (.lst xs)) ∧ xs.length < 50000 := by
  unfold ownL at h
  split at h
  · rename_i hi
    split at h
    · rename_i ys hy
      split at h
      · rename_i hl
        cases h
        exact ⟨by simpa using hi, hy, hl⟩
      · cases h
    · cases h
  · cases h
theorem ownD_some {rh : Env} {ow : List Nat} {i : Nat} {xs : List (Key × D)} (h : ownD rh ow i = some xs) : i ∈ ow ∧ rh[i]? = some (some (.dic xs)) ∧ xs.length < 50000 := by
  unfold ownD at h
  split at h
  · rename_i hi
    split at h
    · rename_i ys hy
      split at h
      · rename_i hl
        cases h
        exact ⟨by simpa using hi, hy, hl⟩
      · cases h
    · cases h
  · cases h
section
variable {K : PySem.W.Frag} {B : Base}
theorem repsK_map : ∀ {kvs : List (Key × D)} {vs : List (Key × V)} (k : Key) {d : D} {v : V}, RepsK K B kvs vs → Rep K B d v → RepsK K B (kvs.map fun kv => if kv.1 = k then (kv.1, d) else kv) (vs.map fun kv => if kv.1 = k then (kv.1, v) else kv)
  | [], vs, k, d, v, h, p => by cases (show vs = [] from h); rfl
  | (k', x) :: xs, vs, k, d, v, h, p => by
    obtain ⟨u, r, rfl, h1, h2⟩ := h
    simp only [List.map_cons]
    by_cases e : k' = k
    · simp only [e, if_true]
      exact ⟨v, _, rfl, p, repsK_map k h2 p⟩
    · simp only [e, if_false]
      exact ⟨u, _, rfl, h1, repsK_map k h2 p⟩
theorem repsK_app : ∀ {kvs : List (Key × D)} {vs : List (Key × V)} (k : Key) {d : D} {v : V}, RepsK K B kvs vs → Rep K B d v → RepsK K B (kvs ++ [(k, d)]) (vs ++ [(k, v)])
  | [], vs, k, d, v, h, p => by cases (show vs = [] from h); exact ⟨v, [], rfl, p, rfl⟩
  | (k', x) :: xs, vs, k, d, v, h, p => by
    obtain ⟨u, r, rfl, h1, h2⟩ := h
    exact ⟨u, _, rfl, h1, repsK_app k h2 p⟩
theorem repsK_any {k : Key} : ∀ {kvs : List (Key × D)} {vs : List (Key × V)}, RepsK K B kvs vs → (vs.any fun kv => decide (kv.1 = k)) = kvs.any fun kv => decide (kv.1 = k)
  | [], vs, h => by cases (show vs = [] from h); rfl
  | (k', x) :: xs, vs, h => by
    obtain ⟨u, r, rfl, h1, h2⟩ := h
    simp only [List.any_cons, repsK_any h2]
theorem repsK_put {kvs : List (Key × D)} {vs : List (Key × V)} (k : Key) {d : D} {v : V} (h : RepsK K B kvs vs) (p : Rep K B d v) : RepsK K B (putD kvs k d) (putK vs k v) := by
  unfold putD putK
  rw [repsK_any h]
  split
  · exact repsK_map k h p
  · exact repsK_app k h p
end
section
variable {X : Cx} {W : Bool} {E : XK} {fe fk : SE Wl} {i : Nat} {us : List Nat} {Ds : Ends} {sg : L2.St} {H : Hp}
theorem lt_sz {n : Nat} (h : n < 50000) : n < sizeLine := Nat.lt_of_lt_of_le h (by decide)
theorem lt_sz2 {n m : Nat} (h : n < 50000) (k : m ≤ 50000) : n + m ≤ sizeLine := Nat.le_trans (by omega : n + m ≤ 100000) (by decide)
/-- the own list's place -/
theorem StB.lst {K : PySem.W.Frag} {B0 B : Base} {H0 H : Hp} {sg : L2.St} {rh : Env} {ow : List Nat} {xs : List D} (s : StB W K B0 H0 sg rh ow B H) (hi : i ∈ ow) (h : rh[i]? = some (some (.lst xs))) : ∃ p vs, sg[i]? = some (some (.ref p)) ∧ H p = some (.lst vs) ∧ Reps K B xs vs ∧ B.hp p = none ∧ p ∉ B.cs := by
  obtain ⟨p, d, ob, a1, a2, a3, a4, a5, a6, a7⟩ := s.own i hi
  rw [h] at a2; cases a2
  cases ob with
  | lst vs => exact ⟨p, vs, a1, a3, a4, a5, a7⟩
  | _ => exact a4.elim
theorem StB.dic {K : PySem.W.Frag} {B0 B : Base} {H0 H : Hp} {sg : L2.St} {rh : Env} {ow : List Nat} {xs : List (Key × D)} (s : StB W K B0 H0 sg rh ow B H) (hi : i ∈ ow) (h : rh[i]? = some (some (.dic xs))) : ∃ p vs, sg[i]? = some (some (.ref p)) ∧ H p = some (.dK vs) ∧ RepsK K B xs vs ∧ B.hp p = none ∧ p ∉ B.cs := by
  obtain ⟨p, d, ob, a1, a2, a3, a4, a5, a6, a7⟩ := s.own i hi
  rw [h] at a2; cases a2
  cases ob with
  | dK vs => exact ⟨p, vs, a1, a3, a4, a5, a7⟩
  | _ => exact a4.elim
theorem app_D (q : tS W X.K E (sApp i fe us) Ds sg H) : tDrop (tBM X.K "list" rAppend (tVar i) (tCons (tD W X.K (cst E) fe) tNil)) Ds sg H := by
  obtain ⟨B0, H0, rh, ow, w, ⟨B, s, r⟩, o⟩ := q
  unfold sApp onL at o
  cases ho : ownL rh (give ow us) i with
  | none => rw [ho] at o; exact o.elim
  | some xs =>
    rw [ho] at o
    obtain ⟨hi, hr, hl⟩ := ownL_some ho
    obtain ⟨s1, r1⟩ := s.give r us
    obtain ⟨pp, vs, a1, a3, a4, a5, a7⟩ := s1.lst hi hr
    refine ⟨.ref pp, a1, .inl ⟨rfl, vs, .inl (.inl a3)⟩, ?_⟩
    refine tG_give us s r (fun d w1 e v B' H' s' r' p => ?_) (fun c w1 e B' H' f' r' => ?_) fun e => ?_
    · rw [e] at o
      obtain ⟨p2, vs', b1, b3, b4, b5, b7⟩ := s'.lst hi hr
      rw [a1] at b1; cases b1
      obtain ⟨s3, r3⟩ := s'.mut r' hi a1 (d := .lst (xs ++ [d])) (o := .lst (vs' ++ [v])) (Reps.app b4 (Reps.one p))
      exact ⟨pp, vs', v, rfl, rfl, b3, by rw [b4.length]; exact lt_sz hl, o sg _ ⟨B', s3, r3⟩⟩
    · rw [e] at o; exact o B' H' f' r'
    · rw [e] at o; exact o
theorem appP_D (q : tS W X.K E (sAppP i fe) Ds sg H) : tDrop (tBM X.K "list" rAppend (tVar i) (tCons (tD true X.K (cst E) fe) tNil)) Ds sg H := by
  obtain ⟨B0, H0, rh, ow, w, ⟨B, s, r⟩, o⟩ := q
  unfold sAppP onL at o
  cases ho : ownL rh ow i with
  | none => rw [ho] at o; exact o.elim
  | some xs =>
    rw [ho] at o
    obtain ⟨hi, hr, hl⟩ := ownL_some ho
    obtain ⟨pp, vs, a1, a3, a4, a5, a7⟩ := s.lst hi hr
    refine ⟨.ref pp, a1, .inl ⟨rfl, vs, .inl (.inl a3)⟩, ?_⟩
    refine tG_pure s r (fun d w1 e v B' H' s' r' h1 h2 _ p => ?_) (fun c w1 e B' H' f' r' => ?_) fun e => ?_
    · rw [e] at o
      have o' : OutS W X.K E B0 H0 Ds (if imm d then .nx (rh.set i (some (.lst (xs ++ [d])))) ow w else .fail) := o
      cases hm : imm d with
      | false => rw [hm] at o'; exact o'.elim
      | true =>
        rw [hm] at o'
        obtain ⟨p2, vs', b1, b3, b4, b5, b7⟩ := s'.lst hi hr
        rw [a1] at b1; cases b1
        obtain ⟨s3, r3⟩ := s'.mut r' hi a1 (d := .lst (xs ++ [d])) (o := .lst (vs' ++ [v])) (Reps.app b4 (Reps.one (rep_join hm h1 h2 p)))
        exact ⟨pp, vs', v, rfl, rfl, b3, by rw [b4.length]; exact lt_sz hl, o' sg _ ⟨_, s3, r3⟩⟩
    · rw [e] at o; exact o B' H' f' r'
    · rw [e] at o; exact o
theorem lstOf_some {d : D} {ys : List D} (h : lstOf d = some ys) : d = .lst ys ∧ ys.length ≤ 50000 := by
  cases d with
  | lst zs =>
    have h' : (if zs.length ≤ 50000 then some zs else none) = some ys := h
    split at h'
    · rename_i hl; cases h'; exact ⟨rfl, hl⟩
    · cases h'
  | _ => cases h
theorem ext_D (q : tS W X.K E (sExt i fe us) Ds sg H) : tDrop (tBM X.K "list" rExtend (tVar i) (tCons (tD W X.K (cst E) fe) tNil)) Ds sg H := by
  obtain ⟨B0, H0, rh, ow, w, ⟨B, s, r⟩, o⟩ := q
  unfold sExt onL at o
  cases ho : ownL rh (give ow us) i with
  | none => rw [ho] at o; exact o.elim
  | some xs =>
    rw [ho] at o
    obtain ⟨hi, hr, hl⟩ := ownL_some ho
    obtain ⟨s1, r1⟩ := s.give r us
    obtain ⟨pp, vs, a1, a3, a4, a5, a7⟩ := s1.lst hi hr
    refine ⟨.ref pp, a1, .inl ⟨rfl, vs, .inl (.inl a3)⟩, ?_⟩
    refine tG_give us s r (fun d w1 e v B' H' s' r' p => ?_) (fun c w1 e B' H' f' r' => ?_) fun e => ?_
    · rw [e] at o
      have o' : OutS W X.K E B0 H0 Ds (match lstOf d with | some ys => .nx (rh.set i (some (.lst (xs ++ ys)))) (give ow us) w1 | none => .fail) := o
      cases hd : lstOf d with
      | none => rw [hd] at o'; exact o'.elim
      | some ys =>
        rw [hd] at o'
        obtain ⟨rfl, hy⟩ := lstOf_some hd
        obtain ⟨b, ws, rfl, c1, c2⟩ := p
        obtain ⟨p2, vs', b1, b3, b4, b5, b7⟩ := s'.lst hi hr
        rw [a1] at b1; cases b1
        obtain ⟨s3, r3⟩ := s'.mut r' hi a1 (d := .lst (xs ++ ys)) (o := .lst (vs' ++ ws)) (Reps.app b4 c2)
        exact ⟨pp, b, vs', ws, rfl, rfl, b3, r'.sm.get c1 (fun _ z => nomatch z), by rw [b4.length, c2.length]; exact lt_sz2 hl hy, o' sg _ ⟨B', s3, r3⟩⟩
    · rw [e] at o; exact o B' H' f' r'
    · rw [e] at o; exact o
theorem extP_D (q : tS W X.K E (sExtP i fe) Ds sg H) : tDrop (tBM X.K "list" rExtend (tVar i) (tCons (tD true X.K (cst E) fe) tNil)) Ds sg H := by
  obtain ⟨B0, H0, rh, ow, w, ⟨B, s, r⟩, o⟩ := q
  unfold sExtP onL at o
  cases ho : ownL rh ow i with
  | none => rw [ho] at o; exact o.elim
  | some xs =>
    rw [ho] at o
    obtain ⟨hi, hr, hl⟩ := ownL_some ho
    obtain ⟨pp, vs, a1, a3, a4, a5, a7⟩ := s.lst hi hr
    refine ⟨.ref pp, a1, .inl ⟨rfl, vs, .inl (.inl a3)⟩, ?_⟩
    refine tG_pure s r (fun d w1 e v B' H' s' r' h1 h2 _ p => ?_) (fun c w1 e B' H' f' r' => ?_) fun e => ?_
    · rw [e] at o
      have o' : OutS W X.K E B0 H0 Ds (match lstOf d with | some ys => if imms ys then .nx (rh.set i (some (.lst (xs ++ ys)))) ow w else .fail | none => .fail) := o
      cases hd : lstOf d with
      | none => rw [hd] at o'; exact o'.elim
      | some ys =>
        rw [hd] at o'
        obtain ⟨rfl, hy⟩ := lstOf_some hd
        have o2 : OutS W X.K E B0 H0 Ds (if imms ys then .nx (rh.set i (some (.lst (xs ++ ys)))) ow w else .fail) := o'
        cases hm : imms ys with
        | false => rw [hm] at o2; exact o2.elim
        | true =>
          rw [hm] at o2
          obtain ⟨b, ws, rfl, c1, c2⟩ := p
          obtain ⟨p2, vs', b1, b3, b4, b5, b7⟩ := s'.lst hi hr
          rw [a1] at b1; cases b1
          obtain ⟨s3, r3⟩ := s'.mut r' hi a1 (d := .lst (xs ++ ys)) (o := .lst (vs' ++ ws)) (Reps.app b4 (reps_join hm h1 h2 c2))
          exact ⟨pp, b, vs', ws, rfl, rfl, b3, h2.get c1 (fun _ z => nomatch z), by rw [b4.length, c2.length]; exact lt_sz2 hl hy, o2 sg _ ⟨_, s3, r3⟩⟩
    · rw [e] at o; exact o B' H' f' r'
    · rw [e] at o; exact o
/-- o[k] = e -/
theorem put_D (q : tS W X.K E (sPut i fk fe us) Ds sg H) : tAsg (tD W X.K (cst E) fe) (gSub (tVar i) (tD W X.K (cst E) fk) rSetD) Ds sg H := by
  obtain ⟨B0, H0, rh, ow, w, ⟨B, s, r⟩, o⟩ := q
  unfold sPut onD at o
  cases ho : ownD rh (give ow us) i with
  | none => rw [ho] at o; exact o.elim
  | some xs =>
    rw [ho] at o
    obtain ⟨hi, hr, hl⟩ := ownD_some ho
    refine tG_give us s r (fun d w1 e v B' H' s' r' p => ?_) (fun c w1 e B' H' f' r' => ?_) fun e => ?_
    · rw [e] at o
      obtain ⟨pp, vs, a1, a3, a4, a5, a7⟩ := s'.dic hi hr
      refine ⟨.ref pp, a1, ?_⟩
      have o1 : OutS W X.K E B0 H0 Ds (fin (fk (wipeE rh (give ow us)) w1) fun y w2 => onK (keyOf y) fun k => .nx (rh.set i (some (.dic (putD xs k d)))) (give ow us) w2) := o
      refine ⟨wipeE rh (give ow us), w1, B', r'.sm, s'.en, r', ?_⟩
      cases hk : fk (wipeE rh (give ow us)) w1 with
      | ok y w2 =>
        rw [hk] at o1
        intro u B2 H2 f2 r2 pu
        have s2 := s'.later f2
        have o2 : OutS W X.K E B0 H0 Ds (match keyOf y with | some k => .nx (rh.set i (some (.dic (putD xs k d)))) (give ow us) w2 | none => .fail) := o1
        cases hy : keyOf y with
        | none => rw [hy] at o2; exact o2.elim
        | some k =>
          rw [hy] at o2
          have eu := key_rep hy pu
          subst eu
          obtain ⟨p2, vs', b1, b3, b4, b5, b7⟩ := s2.dic hi hr
          rw [a1] at b1; cases b1
          obtain ⟨s3, r3⟩ := s2.mut r2 hi a1 (d := .dic (putD xs k d)) (o := .dK (putK vs' k v)) (repsK_put k b4 (Rep.mono f2.b _ _ p))
          exact ⟨pp, _, rfl, DPut.k b3 (by rw [b4.length]; exact lt_sz hl), o2 sg _ ⟨B2, s3, r3⟩⟩
      | exc c w2 => rw [hk] at o1; exact fun B2 H2 f2 r2 => o1 B2 H2 (s'.fu.trans f2) r2
      | fail => rw [hk] at o1; exact o1
    · rw [e] at o; exact o B' H' f' r'
    · rw [e] at o; exact o
theorem putP_D (q : tS W X.K E (sPutP i fk fe) Ds sg H) : tAsg (tD true X.K (cst E) fe) (gSub (tVar i) (tD true X.K (cst E) fk) rSetD) Ds sg H := by
  obtain ⟨B0, H0, rh, ow, w, ⟨B, s, r⟩, o⟩ := q
  unfold sPutP onD at o
  cases ho : ownD rh ow i with
  | none => rw [ho] at o; exact o.elim
  | some xs =>
    rw [ho] at o
    obtain ⟨hi, hr, hl⟩ := ownD_some ho
    refine tG_pure s r (fun d w1 e v B' H' s' r' h1 h2 _ p => ?_) (fun c w1 e B' H' f' r' => ?_) fun e => ?_
    · rw [e] at o
      have o1 : OutS W X.K E B0 H0 Ds (if imm d then fin (fk rh w) fun y _ => onK (keyOf y) fun k => .nx (rh.set i (some (.dic (putD xs k d)))) ow w else .fail) := o
      cases hm : imm d with
      | false => rw [hm] at o1; exact o1.elim
      | true =>
        rw [hm] at o1
        obtain ⟨pp, vs, a1, a3, a4, a5, a7⟩ := s'.dic hi hr
        refine ⟨.ref pp, a1, ?_⟩
        have pj := rep_join hm h1 h2 p
        have o2 : OutS W X.K E B0 H0 Ds (fin (fk rh w) fun y _ => onK (keyOf y) fun k => .nx (rh.set i (some (.dic (putD xs k d)))) ow w) := o1
        refine tG_pure s' r' (fun y w2 e2 u B2 H2 s2 r2 _ _ _ pu => ?_) (fun c w2 e2 B2 H2 f2 r2 => ?_) fun e2 => ?_
        · rw [e2] at o2
          have o3 : OutS W X.K E B0 H0 Ds (match keyOf y with | some k => .nx (rh.set i (some (.dic (putD xs k d)))) ow w | none => .fail) := o2
          cases hy : keyOf y with
          | none => rw [hy] at o3; exact o3.elim
          | some k =>
            rw [hy] at o3
            have eu := key_rep hy pu
            subst eu
            obtain ⟨p2, vs', b1, b3, b4, b5, b7⟩ := s2.dic hi hr
            rw [a1] at b1; cases b1
            obtain ⟨s3, r3⟩ := s2.mut r2 hi a1 (d := .dic (putD xs k d)) (o := .dK (putK vs' k v)) (repsK_put k b4 (Rep.mono join_l _ _ pj))
            exact ⟨pp, _, rfl, DPut.k b3 (by rw [b4.length]; exact lt_sz hl), o3 sg _ ⟨_, s3, r3⟩⟩
        · rw [e2] at o2; exact o2 B2 H2 f2 r2
        · rw [e2] at o2; exact o2
    · rw [e] at o; exact o B' H' f' r'
    · rw [e] at o; exact o
/-- {} -/
def eDnew {T : Type} : SE T := fun _ w => .ok (.dic []) w
theorem pe_dnewN {E : XS} {pos : Pos} : PE X (.Dict [] [] pos) (tN W X.K E eDnew) := pe_dnewK.weak fun sg H Q q => by
  obtain ⟨rh, w, B, hb, he, r, o⟩ := q
  exact fun p hp => OutN.lay hb r o hp (o := .dK []) rfl
end
end G
namespace G
open PySem L2 PyProof.Rows PySem.Spec

abbrev ltD : D → D → Option D := cmpI fun i j => decide (i < j)
abbrev leD : D → D → Option D := cmpI fun i j => decide (i ≤ j)
abbrev gtD : D → D → Option D := cmpI fun i j => decide (j < i)
abbrev geD : D → D → Option D := cmpI fun i j => decide (j ≤ i)
section
variable {X : Cx} {W : Bool} {E : XS} {k n : Nat} {a b c o : Expr} {fa fb fc : SE Wl} {ba bb : SB Wl} {pos p p2 apos : Pos} {rest es : List Expr} {fs : SL Wl} {x : Str}
theorem q_v (i : Nat) (hN : X.N[i]? = some x := by rfl) (hv : Vis X.env.scope x := by first | exact Or.inl rfl | exact Or.inr (Or.inl rfl) | exact Or.inr (Or.inr rfl)) (hd : (x == ("__debug__" : Str)) = false := by decide) (hcd : (x == ("__classdict__" : Str)) = false := by decide) :
    PE X (.Name x pos) (tD W X.K E (eVar i)) := pe_varD (pv i hN hv hd hcd)
theorem q_i {i : Int} {j : Nat} : PE X (.Constant (.int i) j pos) (tD W X.K E (eCon (.int i))) := pe_conD pe_int fun _ => rfl
theorem q_s {z : Str} {j : Nat} : PE X (.Constant (.str z) j pos) (tD W X.K E (eCon (.str z))) := pe_conD pe_str fun _ => rfl
theorem q_n {j : Nat} : PE X (.Constant .none j pos) (tD W X.K E (eCon .non)) := pe_conD pe_non fun _ => rfl
theorem q_b {z : Bool} {j : Nat} : PE X (.Constant (.bool z) j pos) (tD W X.K E (eCon (.bl z))) := pe_conD pe_bl fun _ => rfl
theorem q_gi {i : Int} (hm : ∃ t, X.mg x = some (.int i t)) (hg : Gl X x := by rfl) (hd : (x == ("__debug__" : Str)) = false := by decide) : PE X (.Name x pos) (tD W X.K E (eCon (.int i))) :=
  let ⟨t, h⟩ := hm
  pe_conD (pe_glob (v := .int i) hg h ⟨t, rfl⟩ hd) fun _ => rfl
theorem q_gs {z : Str} (hm : ∃ t, X.mg x = some (.str z t)) (hg : Gl X x := by rfl) (hd : (x == ("__debug__" : Str)) = false := by decide) : PE X (.Name x pos) (tD W X.K E (eCon (.str z))) :=
  let ⟨t, h⟩ := hm
  pe_conD (pe_glob (v := .str z) hg h ⟨t, rfl⟩ hd) fun _ => rfl
theorem q_gc (hm : X.mg x = some (.ref (He.ga X.K x))) (hg : Gl X x := by rfl) (hd : (x == ("__debug__" : Str)) = false := by decide) : PE X (.Name x pos) (tD W X.K E (eCon (.cls x))) := pe_conD (pe_glob (v := .ref (He.ga X.K x)) hg hm rfl hd) fun _ => rfl
theorem q_ty {T : String} (hm : X.mg x = none) (hv : bootBuiltins x = some (.type T) := by rfl) (hg : Gl X x := by rfl) (hn : x ≠ "__name__" := by decide) (hd : (x == ("__debug__" : Str)) = false := by decide) : PE X (.Name x pos) (tD W X.K E (eCon (.ty T))) := pe_conD (pe_bltn (v := .ty T) hg hm hv rfl hn hd) fun _ => rfl
/-! arithmetic -/
theorem q_add (ha : PE X a (tD W X.K E fa)) (hb : PE X b (tD W X.K E fb)) : PE X (.BinOp a .Add b pos) (tD W X.K E (eOp addD fa fb)) := pe_binD op_addA ok_add ha hb
theorem q_sub (ha : PE X a (tD W X.K E fa)) (hb : PE X b (tD W X.K E fb)) : PE X (.BinOp a .Sub b pos) (tD W X.K E (eOp subD fa fb)) := pe_binD op_sub ok_sub ha hb
theorem q_mul (ha : PE X a (tD W X.K E fa)) (hb : PE X b (tD W X.K E fb)) : PE X (.BinOp a .Mult b pos) (tD W X.K E (eOp mulD fa fb)) := pe_binD op_mulA ok_mul ha hb
theorem q_mod (ha : PE X a (tD W X.K E fa)) (hb : PE X b (tD W X.K E fb)) : PE X (.BinOp a .Mod b pos) (tD W X.K E (eOp modD fa fb)) := pe_binD op_mod ok_mod ha hb
theorem q_fdiv (ha : PE X a (tD W X.K E fa)) (hb : PE X b (tD W X.K E fb)) : PE X (.BinOp a .FloorDiv b pos) (tD W X.K E (eOp fdivD fa fb)) := pe_binD op_fdiv ok_fdiv ha hb
theorem q_pow (ha : PE X a (tD W X.K E fa)) (hb : PE X b (tD W X.K E fb)) : PE X (.BinOp a .Pow b pos) (tD W X.K E (eOp powD fa fb)) := pe_binD op_pow ok_pow ha hb
theorem q_neg (ha : PE X a (tD W X.K E fa)) : PE X (.UnaryOp .USub a pos) (tD W X.K E (eUn negD fa)) := pe_unD un_neg ok_neg ha
/-! comparisons -/
theorem q_eq (hx : PF X E k) (ha : PE X a (tD W X.K E fa)) (hb : PE X b (tD W X.K E fb)) : PE X (.Compare a [.Eq] [b] pos) (tD W X.K E (eOp eqD fa fb)) := pe_cmpD (op_eqA hx.un) ok_eq ha hb (nomark _)
theorem q_ne (hx : PF X E k) (ha : PE X a (tD W X.K E fa)) (hb : PE X b (tD W X.K E fb)) : PE X (.Compare a [.NotEq] [b] pos) (tD W X.K E (eOp neD fa fb)) := pe_cmpD (op_neA hx.un) ok_ne ha hb (nomark _)
theorem q_lt (ha : PE X a (tD W X.K E fa)) (hb : PE X b (tD W X.K E fb)) : PE X (.Compare a [.Lt] [b] pos) (tD W X.K E (eOp ltD fa fb)) := pe_cmpD op_lt ok_cmpI ha hb (nomark _)
theorem q_le (ha : PE X a (tD W X.K E fa)) (hb : PE X b (tD W X.K E fb)) : PE X (.Compare a [.LtE] [b] pos) (tD W X.K E (eOp leD fa fb)) := pe_cmpD op_le ok_cmpI ha hb (nomark _)
theorem q_gt (ha : PE X a (tD W X.K E fa)) (hb : PE X b (tD W X.K E fb)) : PE X (.Compare a [.Gt] [b] pos) (tD W X.K E (eOp gtD fa fb)) := pe_cmpD op_gt ok_cmpI ha hb (nomark _)
theorem q_ge (ha : PE X a (tD W X.K E fa)) (hb : PE X b (tD W X.K E fb)) : PE X (.Compare a [.GtE] [b] pos) (tD W X.K E (eOp geD fa fb)) := pe_cmpD op_ge ok_cmpI ha hb (nomark _)
theorem q_is (ha : PE X a (tD W X.K E fa)) (hb : PE X b (tD W X.K E fb)) : PE X (.Compare a [.Is] [b] pos) (tD W X.K E (eOp isD fa fb)) := pe_cmpD op_isA ok_is ha hb (nomark _)
theorem q_isn (ha : PE X a (tD W X.K E fa)) (hb : PE X b (tD W X.K E fb)) : PE X (.Compare a [.IsNot] [b] pos) (tD W X.K E (eOp isNotD fa fb)) := pe_cmpD op_isNotA ok_isNot ha hb (nomark _)
theorem q_in (hx : PF X E k) (ha : PE X a (tD W X.K E fa)) (hb : PE X b (tD W X.K E fb)) (hm : behindInMarks .In b = false := by rfl) : PE X (.Compare a [.In] [b] pos) (tD W X.K E (eOp inD fa fb)) := pe_cmpD (op_inA hx.un1) ok_in ha hb hm
theorem q_nin (hx : PF X E k) (ha : PE X a (tD W X.K E fa)) (hb : PE X b (tD W X.K E fb)) (hm : behindInMarks .NotIn b = false := by rfl) : PE X (.Compare a [.NotIn] [b] pos) (tD W X.K E (eOp notInD fa fb)) := pe_cmpD (op_notInA hx.un1) ok_notIn ha hb hm
theorem q_lele (ha : PE X a (tD W X.K E fa)) (hb : PE X b (tD W X.K E fb)) (hc : PE X c (tD W X.K E fc)) (hm : lastMarks [.LtE, .LtE] [b, c] = false := by with_unfolding_all rfl) : PE X (.Compare a [.LtE, .LtE] [b, c] pos) (tD W X.K E (eChain leD leD fa fb fc)) := pe_chainD op_le ok_cmpI op_le ok_cmpI ha hb hc hm
/-! tests: a comparison, a chain -/
theorem bV {e : Expr} {f : SE Wl} (h : PE X e (tD W X.K E f)) (he : ∀ whole, isTrue e X.env whole = (do let v ← whole; standAt e.pos; holding [v] (truthy v)) := by intro _; rfl) : PT X e (tT W X.K E (bTru f)) := pt_truD h he
theorem t_eq (hx : PF X E k) (ha : PE X a (tD W X.K E fa)) (hb : PE X b (tD W X.K E fb)) : PT X (.Compare a [.Eq] [b] pos) (tT W X.K E (bVal (eOp eqD fa fb))) := pt_cmpD (op_eqA hx.un) ok_eq ha hb (nomark _)
theorem t_ne (hx : PF X E k) (ha : PE X a (tD W X.K E fa)) (hb : PE X b (tD W X.K E fb)) : PT X (.Compare a [.NotEq] [b] pos) (tT W X.K E (bVal (eOp neD fa fb))) := pt_cmpD (op_neA hx.un) ok_ne ha hb (nomark _)
theorem t_lt (ha : PE X a (tD W X.K E fa)) (hb : PE X b (tD W X.K E fb)) : PT X (.Compare a [.Lt] [b] pos) (tT W X.K E (bVal (eOp ltD fa fb))) := pt_cmpD op_lt ok_cmpI ha hb (nomark _)
theorem t_le (ha : PE X a (tD W X.K E fa)) (hb : PE X b (tD W X.K E fb)) : PT X (.Compare a [.LtE] [b] pos) (tT W X.K E (bVal (eOp leD fa fb))) := pt_cmpD op_le ok_cmpI ha hb (nomark _)
theorem t_gt (ha : PE X a (tD W X.K E fa)) (hb : PE X b (tD W X.K E fb)) : PT X (.Compare a [.Gt] [b] pos) (tT W X.K E (bVal (eOp gtD fa fb))) := pt_cmpD op_gt ok_cmpI ha hb (nomark _)
theorem t_ge (ha : PE X a (tD W X.K E fa)) (hb : PE X b (tD W X.K E fb)) : PT X (.Compare a [.GtE] [b] pos) (tT W X.K E (bVal (eOp geD fa fb))) := pt_cmpD op_ge ok_cmpI ha hb (nomark _)
theorem t_is (ha : PE X a (tD W X.K E fa)) (hb : PE X b (tD W X.K E fb)) : PT X (.Compare a [.Is] [b] pos) (tT W X.K E (bVal (eOp isD fa fb))) := pt_cmpD op_isA ok_is ha hb (nomark _)
theorem t_isn (ha : PE X a (tD W X.K E fa)) (hb : PE X b (tD W X.K E fb)) : PT X (.Compare a [.IsNot] [b] pos) (tT W X.K E (bVal (eOp isNotD fa fb))) := pt_cmpD op_isNotA ok_isNot ha hb (nomark _)
theorem t_in (hx : PF X E k) (ha : PE X a (tD W X.K E fa)) (hb : PE X b (tD W X.K E fb)) (hm : behindInMarks .In b = false := by rfl) : PT X (.Compare a [.In] [b] pos) (tT W X.K E (bVal (eOp inD fa fb))) := pt_cmpD (op_inA hx.un1) ok_in ha hb hm
theorem t_nin (hx : PF X E k) (ha : PE X a (tD W X.K E fa)) (hb : PE X b (tD W X.K E fb)) (hm : behindInMarks .NotIn b = false := by rfl) : PT X (.Compare a [.NotIn] [b] pos) (tT W X.K E (bVal (eOp notInD fa fb))) := pt_cmpD (op_notInA hx.un1) ok_notIn ha hb hm
theorem t_lele (ha : PE X a (tD W X.K E fa)) (hb : PE X b (tD W X.K E fb)) (hc : PE X c (tD W X.K E fc)) (hm : lastMarks [.LtE, .LtE] [b, c] = false := by with_unfolding_all rfl) : PT X (.Compare a [.LtE, .LtE] [b, c] pos) (tT W X.K E (bVal (eChain leD leD fa fb fc))) := pt_chainD op_le ok_cmpI op_le ok_cmpI ha hb hc hm
theorem t_and1 (h : PT X a (tT W X.K E ba)) : PW X (.BoolOp .And [a] pos) (tT W X.K E ba) := pw_and1 h
theorem t_or1 (h : PT X a (tT W X.K E ba)) : PW X (.BoolOp .Or [a] pos) (tT W X.K E ba) := pw_or1 h
/-! subscripts -/
theorem q_ix (hx : PF X E k) (ha : PE X a (tD W X.K E fa)) (hb : PE X b (tD W X.K E fb)) (hs : PlainIx b := by intro _ _; rfl) : PE X (.Subscript a b pos) (tD W X.K E (eOp ixD fa fb)) := pe_ixD (ix_A hx.un1) ok_ix ha hb hs
/-! lists of arguments -/
theorem q_c (ha : PE X a (tD W X.K E fa)) (hr : PA X es (tL W X.K E fs)) (hs : starEach (a :: es) X.env = (false, eval a X.env) :: starEach es X.env := by rfl) : PA X (a :: es) (tL W X.K E (lCons fa fs)) := pa_consD ha hr hs
/-! calls -/
theorem q_call {f : Addr} {m : List D → Wl → Res Wl D} {j : Nat} (F : FnG X.prog X.w X.K X.mg X.base W j f n m) (hj : j ≤ k) (hx : PF X E k) (hm : X.mg x = some (.ref f)) (ha : PA X (a :: es) (tL W X.K E fs)) (hn : ∀ rh w ds w', fs rh w = .ok ds w' → ds.length = n) (hg : Gl X x := by rfl)
    (hs : starEach (a :: es) X.env = (false, eval a X.env) :: starEach es X.env := by rfl) (hp : (backTo pos (starEach es X.env)).any (·.1) = false := by rfl) (hd : (x == ("__debug__" : Str)) = false := by decide) : PE X (.Call (.Name x p) (a :: es) [] pos) (tD W X.K E (eCall m fs)) :=
  pe_callG (F.mono hj) hx hm hg ha hn hs hp hd
theorem q_blt {id : String} {r : List V → Hp → VK → Prop} {g : List D → Option D} (hc : CallR X (.builtin id) r) (ok : BltOk W X.K r g) (hm : X.mg x = none) (ha : PA X (a :: es) (tL W X.K E fs)) (hg : Gl X x := by rfl) (hv : bootBuiltins x = some (.builtin id) := by rfl) (hn : x ≠ "__name__" := by decide) (hdb : (x == ("__debug__" : Str)) = false := by decide)
    (he : starEach (a :: es) X.env = (false, eval a X.env) :: starEach es X.env := by rfl) (hpl : (backTo pos (starEach es X.env)).any (·.1) = false := by rfl) : PE X (.Call (.Name x p) (a :: es) [] pos) (tD W X.K E (eBlt g fs)) := pe_bltD hc ok hg hm hv ha hn hdb he hpl
theorem q_bty {T : String} {r : List V → Hp → VK → Prop} {g : List D → Option D} (hc : CallR X (.type T) r) (ok : BltOk W X.K r g) (hm : X.mg x = none) (ha : PA X (a :: es) (tL W X.K E fs)) (hg : Gl X x := by rfl) (hv : bootBuiltins x = some (.type T) := by rfl) (hn : x ≠ "__name__" := by decide) (hdb : (x == ("__debug__" : Str)) = false := by decide)
    (he : starEach (a :: es) X.env = (false, eval a X.env) :: starEach es X.env := by rfl) (hpl : (backTo pos (starEach es X.env)).any (·.1) = false := by rfl) : PE X (.Call (.Name x p) (a :: es) [] pos) (tD W X.K E (eBlt g fs)) := pe_btyD hc ok hg hm hv ha hn hdb he hpl
theorem q_keys (he : PE X a (tD W X.K E fa)) (hbase : attributeBase a "keys" X.env (eval a X.env) = eval a X.env := by rfl) (hline : (apos.endLine == pos.line) = true := by rfl) : PE X (.Call (.Attribute a "keys" apos) [] [] pos) (tD W X.K E (eUn keysD fa)) := pe_keysD he hbase hline
theorem q_ikeys {tg : Expr} (he : PE X a (tD false X.K E fa)) (hbase : attributeBase a "keys" X.env (eval a X.env) = eval a X.env := by rfl) (hline : (apos.endLine == pos.line) = true := by rfl) : PI X tg (.Call (.Attribute a "keys" apos) [] [] pos) (iD false X.K E (iKeys fa)) := pi_keysD he hbase hline
theorem q_irange {tg : Expr} (hm : X.mg "range" = none) (ha : PA X [a] (tL W X.K E fs)) (hg : Gl X "range" := by rfl) (hs : starEach [a] X.env = [(false, eval a X.env)] := by rfl) : PI X tg (.Call (.Name "range" p) [a] [] pos) (iD W X.K E (iRange range1 fs)) := pi_range1D hg hm ha hs
end
section
variable {X : Cx} {W : Bool} {E : XK} {k i : Nat} {e : Expr} {fe fk : SE Wl} {pos pos' apos cpos p2 : Pos} {x : Str}
/-! assignments -/
theorem s_set (i : Nat) (us : List Nat) (hx : PF X (cst E) k) (he : PE X e (tD W X.K (cst E) fe)) (hi : X.N[i]? = some x := by rfl) (hl : Loc X.env.scope x := by first | exact Or.inl rfl | exact Or.inr rfl) (hs : swapsWith e (some (.Name x pos')) pos.line X.env = pure false := by rfl) (hf : X.fn x = true ∨ X.env.scope.names.lookup x = some .local := by first | exact .inl rfl | exact .inr rfl) :
    PS X (.Assign [.Name x pos'] e pos) (tS W X.K E (sAsg i fe us)) := (ps_set hx.nd hi hl he hs hf).weak fun _ _ _ q => asg_D q
theorem s_setP (i : Nat) (hx : PF X (cst E) k) (he : PE X e (tD true X.K (cst E) fe)) (hi : X.N[i]? = some x := by rfl) (hl : Loc X.env.scope x := by first | exact Or.inl rfl | exact Or.inr rfl) (hs : swapsWith e (some (.Name x pos')) pos.line X.env = pure false := by rfl) (hf : X.fn x = true ∨ X.env.scope.names.lookup x = some .local := by first | exact .inl rfl | exact .inr rfl) :
    PS X (.Assign [.Name x pos'] e pos) (tS W X.K E (sAsgP i fe)) := (ps_set hx.nd hi hl he hs hf).weak fun _ _ _ q => asgP_D q
theorem s_new (i : Nat) (us : List Nat) (hx : PF X (cst E) k) (he : PE X e (tN W X.K (cst E) fe)) (hi : X.N[i]? = some x := by rfl) (hl : Loc X.env.scope x := by first | exact Or.inl rfl | exact Or.inr rfl) (hs : swapsWith e (some (.Name x pos')) pos.line X.env = pure false := by rfl) (hf : X.fn x = true ∨ X.env.scope.names.lookup x = some .local := by first | exact .inl rfl | exact .inr rfl) :
    PS X (.Assign [.Name x pos'] e pos) (tS W X.K E (sNew i fe us)) := (ps_set hx.nd hi hl he hs hf).weak fun _ _ _ q => new_D q
theorem s_newP (i : Nat) (hx : PF X (cst E) k) (he : PE X e (tN true X.K (cst E) fe)) (hi : X.N[i]? = some x := by rfl) (hl : Loc X.env.scope x := by first | exact Or.inl rfl | exact Or.inr rfl) (hs : swapsWith e (some (.Name x pos')) pos.line X.env = pure false := by rfl) (hf : X.fn x = true ∨ X.env.scope.names.lookup x = some .local := by first | exact .inl rfl | exact .inr rfl) :
    PS X (.Assign [.Name x pos'] e pos) (tS W X.K E (sNewP i fe)) := (ps_set hx.nd hi hl he hs hf).weak fun _ _ _ q => newP_D q
/-! .. of comprehensions -/
theorem c_set {st : Stmt} (us : List Nat) (h : PS X st (tAsg (tN W X.K (cst E) fe) (gName i))) : PS X st (tS W X.K E (sAsg i fe us)) := h.weak fun _ _ _ q => tN_D (asg_D q)
theorem c_new {st : Stmt} (us : List Nat) (h : PS X st (tAsg (tN W X.K (cst E) fe) (gName i))) : PS X st (tS W X.K E (sNew i fe us)) := h.weak fun _ _ _ q => new_D q
theorem c_newP {st : Stmt} (h : PS X st (tAsg (tN true X.K (cst E) fe) (gName i))) : PS X st (tS W X.K E (sNewP i fe)) := h.weak fun _ _ _ q => newP_D q
/-! one's own changes -/
theorem s_app (i : Nat) (us : List Nat) (he : PE X e (tD W X.K (cst E) fe)) (hN : X.N[i]? = some x := by rfl) (hv : Vis X.env.scope x := by first | exact Or.inl rfl | exact Or.inr (Or.inl rfl) | exact Or.inr (Or.inr rfl)) (hd : (x == ("__debug__" : Str)) = false := by decide) (hcd : (x == ("__classdict__" : Str)) = false := by decide)
    (hbase : attributeBase (.Name x p2) "append" X.env (eval (.Name x p2) X.env) = eval (.Name x p2) X.env := by rfl) (hfew : ((backTo cpos (starEach [e] X.env)).all (fun x => !x.1) && (backToKw cpos (keywordEach [] X.env)).all (fun x => x.1.isSome) && decide (([e] : List Expr).length + ([] : List Keyword).length + (if ([] : List Keyword).isEmpty then 0 else 1) < 30)) = true := by rfl)
    (hline : (apos.endLine == cpos.line) = true := by rfl) (hs : starEach [e] X.env = (false, eval e X.env) :: starEach [] X.env := by rfl) (hplain : (backTo cpos (starEach [] X.env)).any (·.1) = false := by rfl) (hsw : swapsWith (.Call (.Attribute (.Name x p2) "append" apos) [e] [] cpos) none pos.line X.env = pure false := by rfl) :
    PS X (.Expr (.Call (.Attribute (.Name x p2) "append" apos) [e] [] cpos) pos) (tS W X.K E (sApp i fe us)) :=
  (ps_expr (pe_bm PySem.F.plainAttrs_list PySem.F.slot_list_append PySem.F.type_list_append mt_append (pv i hN hv hd hcd) (pa_cons he pa_nil hs) hbase hfew hline hs hplain) hsw).weak fun _ _ _ q => app_D q
theorem s_appP (i : Nat) (he : PE X e (tD true X.K (cst E) fe)) (hN : X.N[i]? = some x := by rfl) (hv : Vis X.env.scope x := by first | exact Or.inl rfl | exact Or.inr (Or.inl rfl) | exact Or.inr (Or.inr rfl)) (hd : (x == ("__debug__" : Str)) = false := by decide) (hcd : (x == ("__classdict__" : Str)) = false := by decide)
    (hbase : attributeBase (.Name x p2) "append" X.env (eval (.Name x p2) X.env) = eval (.Name x p2) X.env := by rfl) (hfew : ((backTo cpos (starEach [e] X.env)).all (fun x => !x.1) && (backToKw cpos (keywordEach [] X.env)).all (fun x => x.1.isSome) && decide (([e] : List Expr).length + ([] : List Keyword).length + (if ([] : List Keyword).isEmpty then 0 else 1) < 30)) = true := by rfl)
    (hline : (apos.endLine == cpos.line) = true := by rfl) (hs : starEach [e] X.env = (false, eval e X.env) :: starEach [] X.env := by rfl) (hplain : (backTo cpos (starEach [] X.env)).any (·.1) = false := by rfl) (hsw : swapsWith (.Call (.Attribute (.Name x p2) "append" apos) [e] [] cpos) none pos.line X.env = pure false := by rfl) :
    PS X (.Expr (.Call (.Attribute (.Name x p2) "append" apos) [e] [] cpos) pos) (tS W X.K E (sAppP i fe)) :=
  (ps_expr (pe_bm PySem.F.plainAttrs_list PySem.F.slot_list_append PySem.F.type_list_append mt_append (pv i hN hv hd hcd) (pa_cons he pa_nil hs) hbase hfew hline hs hplain) hsw).weak fun _ _ _ q => appP_D q
theorem s_ext (i : Nat) (us : List Nat) (he : PE X e (tD W X.K (cst E) fe)) (hN : X.N[i]? = some x := by rfl) (hv : Vis X.env.scope x := by first | exact Or.inl rfl | exact Or.inr (Or.inl rfl) | exact Or.inr (Or.inr rfl)) (hd : (x == ("__debug__" : Str)) = false := by decide) (hcd : (x == ("__classdict__" : Str)) = false := by decide)
    (hbase : attributeBase (.Name x p2) "extend" X.env (eval (.Name x p2) X.env) = eval (.Name x p2) X.env := by rfl) (hfew : ((backTo cpos (starEach [e] X.env)).all (fun x => !x.1) && (backToKw cpos (keywordEach [] X.env)).all (fun x => x.1.isSome) && decide (([e] : List Expr).length + ([] : List Keyword).length + (if ([] : List Keyword).isEmpty then 0 else 1) < 30)) = true := by rfl)
    (hline : (apos.endLine == cpos.line) = true := by rfl) (hs : starEach [e] X.env = (false, eval e X.env) :: starEach [] X.env := by rfl) (hplain : (backTo cpos (starEach [] X.env)).any (·.1) = false := by rfl) (hsw : swapsWith (.Call (.Attribute (.Name x p2) "extend" apos) [e] [] cpos) none pos.line X.env = pure false := by rfl) :
    PS X (.Expr (.Call (.Attribute (.Name x p2) "extend" apos) [e] [] cpos) pos) (tS W X.K E (sExt i fe us)) :=
  (ps_expr (pe_bm PySem.F.plainAttrs_list PySem.F.slot_list_extend PySem.F.type_list_extend mt_extend (pv i hN hv hd hcd) (pa_cons he pa_nil hs) hbase hfew hline hs hplain) hsw).weak fun _ _ _ q => ext_D q
theorem s_extP (i : Nat) (he : PE X e (tD true X.K (cst E) fe)) (hN : X.N[i]? = some x := by rfl) (hv : Vis X.env.scope x := by first | exact Or.inl rfl | exact Or.inr (Or.inl rfl) | exact Or.inr (Or.inr rfl)) (hd : (x == ("__debug__" : Str)) = false := by decide) (hcd : (x == ("__classdict__" : Str)) = false := by decide)
    (hbase : attributeBase (.Name x p2) "extend" X.env (eval (.Name x p2) X.env) = eval (.Name x p2) X.env := by rfl) (hfew : ((backTo cpos (starEach [e] X.env)).all (fun x => !x.1) && (backToKw cpos (keywordEach [] X.env)).all (fun x => x.1.isSome) && decide (([e] : List Expr).length + ([] : List Keyword).length + (if ([] : List Keyword).isEmpty then 0 else 1) < 30)) = true := by rfl)
    (hline : (apos.endLine == cpos.line) = true := by rfl) (hs : starEach [e] X.env = (false, eval e X.env) :: starEach [] X.env := by rfl) (hplain : (backTo cpos (starEach [] X.env)).any (·.1) = false := by rfl) (hsw : swapsWith (.Call (.Attribute (.Name x p2) "extend" apos) [e] [] cpos) none pos.line X.env = pure false := by rfl) :
    PS X (.Expr (.Call (.Attribute (.Name x p2) "extend" apos) [e] [] cpos) pos) (tS W X.K E (sExtP i fe)) :=
  (ps_expr (pe_bm PySem.F.plainAttrs_list PySem.F.slot_list_extend PySem.F.type_list_extend mt_extend (pv i hN hv hd hcd) (pa_cons he pa_nil hs) hbase hfew hline hs hplain) hsw).weak fun _ _ _ q => extP_D q
end
end G
namespace G
open PySem L2 PyProof.Rows PySem.Spec

theorem bt_len : bootBuiltins "len" = some (.builtin "len") := by kernel_rfl
theorem bt_isinstance : bootBuiltins "isinstance" = some (.builtin "isinstance") := by kernel_rfl
theorem bt_all : bootBuiltins "all" = some (.builtin "all") := by kernel_rfl
theorem bt_any : bootBuiltins "any" = some (.builtin "any") := by kernel_rfl
theorem bt_sum : bootBuiltins "sum" = some (.builtin "sum") := by kernel_rfl
theorem bt_sorted : bootBuiltins "sorted" = some (.builtin "sorted") := by kernel_rfl
theorem bt_tuple : bootBuiltins "tuple" = some (.type "tuple") := by kernel_rfl
theorem bt_list : bootBuiltins "list" = some (.type "list") := by kernel_rfl
theorem bt_int : bootBuiltins "int" = some (.type "int") := by kernel_rfl
theorem bt_str : bootBuiltins "str" = some (.type "str") := by kernel_rfl
theorem bt_dict : bootBuiltins "dict" = some (.type "dict") := by kernel_rfl
theorem bt_bool : bootBuiltins "bool" = some (.type "bool") := by kernel_rfl
theorem bt_ValueError : bootBuiltins "ValueError" = some (.type "ValueError") := by kernel_rfl
section
variable {P : Program} {w : World} {K : PySem.W.Frag} {mg : Str → Option Value} {base : Heap} {x qual : Str} {params : Arguments} {body : List Stmt} {scope : Scope} {f : Addr} {fd : FuncData}
theorem fn_ok0 {W : Bool} {ps : List Str} {k n : Nat} (F : FunD K x qual params body scope [] [] f fd) (hb : Binds K fd ps []) : FnG P w K mg base W k f n (fun _ _ => .fail) :=
  ⟨fd, ps, ⟨fun vs H Q E ⟨_, _, _, _, _, _, _, z⟩ => z.elim, fun A outer s H args us vs Q E hr he hb hv ⟨_, _, _, _, _, _, _, z⟩ => z.elim⟩, F.kp, hb⟩
end
section
variable {X : Cx} {W : Bool} {E : XK} {k : Nat} {pos pos' p p2 : Pos}
theorem ps_raiseX {c m : Str} {j : Nat} (hx : PF X (cst E) k) (hr : PR X E) (gC : X.mg c = some (.ref (He.ga X.K c))) (xk : (He.Fa.exc c).ok X.K = true) (hg : Gl X c := by rfl) (hdb : (c == ("__debug__" : Str)) = false := by decide) :
    PS X (.Raise (some (.Call (.Name c p) [.Constant (.str m) j p2] [] pos')) none pos) (tS W X.K E (sRaise c)) := by
  obtain ⟨h1, h2, h3, h4⟩ := He.exc_ok xk
  exact ps_raiseD (ps_raise hx.calm hr.tk (pmk_own PySem.F.excBase_ValueError h1 gC h2 (raises_own h3 h4) hg hdb))
end
end G
namespace G
open PySem L2 PyProof.Rows PySem.Spec

/-! ### cells -/
def cellOf (x : D) (w : Wl) : Option (Nat × Cell) := match x with
  | .obj i => (w[i]?).map fun c => (i, c)
  | _ => none
theorem cellOf_some {x : D} {w : Wl} {i : Nat} {c : Cell} (h : cellOf x w = some (i, c)) : x = .obj i ∧ w[i]? = some c := by
  cases x with
  | obj j =>
    obtain ⟨c', h1, h2⟩ := Option.map_eq_some_iff.mp (show (w[j]?).map (fun c => (j, c)) = some (i, c) from h)
    cases h2
    exact ⟨rfl, h1⟩
  | _ => cases h
def cellL (x : D) (w : Wl) : Option (Nat × List D) := match cellOf x w with
  | some (i, .lst xs) => if xs.length < 50000 then some (i, xs) else none
  | _ => none
theorem cellL_some {x : D} {w : Wl} {i : Nat} {xs : List D} (h : cellL x w = some (i, xs)) : x = .obj i ∧ w[i]? = some (.lst xs) ∧ xs.length < 50000 := by
  unfold cellL at h
  split at h
  · rename_i j ys hy
    split at h
    · rename_i hl
      cases h
      obtain ⟨h1, h2⟩ := cellOf_some hy
      exact ⟨h1, h2, hl⟩
    · cases h
  · cases h
def cellI (cn : Str) (x : D) (w : Wl) : Option (Nat × List (Str × D)) := match cellOf x w with
  | some (i, .ins c fs) => if c = cn ∧ fs.length < 1000 then some (i, fs) else none
  | _ => none
theorem cellI_some {cn : Str} {x : D} {w : Wl} {i : Nat} {fs : List (Str × D)} (h : cellI cn x w = some (i, fs)) : x = .obj i ∧ w[i]? = some (.ins cn fs) ∧ fs.length < 1000 := by
  unfold cellI at h
  split at h
  · rename_i j c gs hy
    split at h
    · rename_i hl
      cases h
      obtain ⟨h1, h2⟩ := cellOf_some hy
      rw [hl.1] at h2
      exact ⟨h1, h2, hl.2⟩
    · cases h
  · cases h
def onC {A : Type} (o : Option (Nat × A)) (k : Nat → A → Res Wl D) : Res Wl D := match o with
  | some (i, a) => k i a
  | none => .fail
/-- a list's length -/
def eLenC (fo : SE Wl) : SE Wl := fun rh w => (fo rh w).bind fun x w1 => onC (cellL x w1) fun _ xs => .ok (.int xs.length) w1
def eAppC (fo fe : SE Wl) : SE Wl := fun rh w => (fo rh w).bind fun x w1 => onC (cellL x w1) fun _ _ => (fe rh w1).bind fun d w2 => onC (cellL x w2) fun i xs => .ok .non (w2.set i (.lst (xs ++ [d])))
def ePopC (fo : SE Wl) : SE Wl := fun rh w => (fo rh w).bind fun x w1 => onC (cellL x w1) fun i xs => match xs[xs.length - 1]? with
  | some y => .ok y (w1.set i (.lst xs.dropLast))
  | none => .fail
/-- a cell's content as a value (a copy is read) -/
def bTruC (fo : SE Wl) : SB Wl := fun rh w => (fo rh w).bind fun x w1 => match cellL x w1 with
  | some (_, xs) => .ok (!xs.isEmpty) w1
  | none => .fail
def eAtt (cn f : Str) (fo : SE Wl) : SE Wl := fun rh w => (fo rh w).bind fun x w1 => onC (cellI cn x w1) fun _ fs => lift (fs.lookup f) w1
def putFD (f : Str) (v : D) : List (Str × D) → List (Str × D)
  | [] => [(f, v)]
  | (g, x) :: r => if g = f then (g, v) :: r else (g, x) :: putFD f v r
def eMeth (cn mn : Str) (m : List D → Wl → Res Wl D) (fo : SE Wl) (fs : SL Wl) : SE Wl := fun rh w => (fo rh w).bind fun x w1 => onC (cellI cn x w1) fun _ gs => match gs.lookup mn with
  | none => (fs rh w1).bind fun xs w2 => m (x :: xs) w2
  | some _ => .fail
def eMake (cn : Str) (m : List D → Wl → Res Wl D) (fs : SL Wl) : SE Wl := fun rh w => (fs rh w).bind fun xs w1 => (m (.obj w1.length :: xs) (w1 ++ [.ins cn []])).bind fun d w2 => match d with
  | .non => .ok (.obj w1.length) w2
  | _ => .fail
def toCell : D → Option Cell
  | .lst xs => some (.lst xs)
  | .dic xs => some (.dic xs)
  | _ => none
def eCellN (fe : SE Wl) : SE Wl := fun rh w => (fe rh w).bind fun d w1 => match toCell d with
  | some c => .ok (.obj w1.length) (w1 ++ [c])
  | none => .fail
def sSetA (cn f : Str) (fo fe : SE Wl) (us : List Nat) : SS Wl := fun rh ow w => fin (fe (wipeE rh (give ow us)) w) fun d w1 => fin (fo (wipeE rh (give ow us)) w1) fun x w2 => match cellI cn x w2 with
  | some (i, fs) => .nx rh (give ow us) (w2.set i (.ins cn (putFD f d fs)))
  | none => .fail
section
variable {K : PySem.W.Frag} {B : Base}
theorem repsF_look (f : Str) : ∀ {fs : List (Str × D)} {vs : List (Str × V)}, RepsF K B fs vs → (fs.lookup f = none ∧ vs.lookup f = none) ∨ ∃ d v, fs.lookup f = some d ∧ vs.lookup f = some v ∧ Rep K B d v
  | [], vs, h => by cases (show vs = [] from h); exact .inl ⟨rfl, rfl⟩
  | (g, x) :: xs, vs, h => by
    obtain ⟨v, r, rfl, h1, h2⟩ := h
    cases e : f == g with
    | true => exact .inr ⟨x, v, by simp [List.lookup, e], by simp [List.lookup, e], h1⟩
    | false =>
      have := repsF_look f h2
      simpa [List.lookup, e] using this
theorem repsF_len : ∀ {fs : List (Str × D)} {vs : List (Str × V)}, RepsF K B fs vs → vs.length = fs.length
  | [], vs, h => by cases (show vs = [] from h); rfl
  | (g, x) :: xs, vs, h => by
    obtain ⟨v, r, rfl, h1, h2⟩ := h
    simp [repsF_len h2]
theorem repsF_put (f : Str) {d : D} {v : V} (p : Rep K B d v) : ∀ {fs : List (Str × D)} {vs : List (Str × V)}, RepsF K B fs vs → RepsF K B (putFD f d fs) (putF f v vs)
  | [], vs, h => by cases (show vs = [] from h); exact ⟨v, [], rfl, p, rfl⟩
  | (g, x) :: xs, vs, h => by
    obtain ⟨u, r, rfl, h1, h2⟩ := h
    unfold putFD putF
    split
    · exact ⟨v, r, rfl, p, h2⟩
    · exact ⟨u, _, rfl, h1, repsF_put f p h2⟩
end
section
variable {K : PySem.W.Frag} {B : Base} {H : Hp} {w : Wl} {i : Nat}
theorem Ok.lst (r : Ok K w B H) {v : V} {xs : List D} (h : Rep K B (.obj i) v) (e : w[i]? = some (.lst xs)) : ∃ a vs, v = .ref a ∧ B.cs[i]? = some a ∧ H a = some (.lst vs) ∧ Reps K B xs vs := by
  obtain ⟨a, rfl, h1⟩ := h
  obtain ⟨a', o, h2, h3, vs, rfl, h4⟩ := r.on i _ e
  rw [h1] at h2; cases h2
  exact ⟨a, vs, rfl, h1, h3, h4⟩
theorem Ok.ins (r : Ok K w B H) {v : V} {cn : Str} {fs : List (Str × D)} (h : Rep K B (.obj i) v) (e : w[i]? = some (.ins cn fs)) : ∃ a dx vs, v = .ref a ∧ B.cs[i]? = some a ∧ H a = some (.ins (He.ga K cn) dx vs) ∧ B.hp dx = some (.own a) ∧ RepsF K B fs vs := by
  obtain ⟨a, rfl, h1⟩ := h
  obtain ⟨a', o, h2, h3, dx, vs, rfl, h4, h5⟩ := r.on i _ e
  rw [h1] at h2; cases h2
  exact ⟨a, dx, vs, rfl, h1, h3, h4, h5⟩
end
section
variable {X : Cx} {W : Bool} {E : XK} {k : Nat} {o e : Expr} {es : List Expr} {fo fe : SE Wl} {fs : SL Wl} {pos apos cpos p : Pos} {x : Str}
theorem q_lenC (hm : X.mg "len" = none) (ho : PE X o (tD W X.K (cst E) fo)) (hg : Gl X "len" := by rfl) (hs : starEach [o] X.env = (false, eval o X.env) :: starEach [] X.env := by rfl) (hpl : (backTo pos (starEach [] X.env)).any (·.1) = false := by rfl) : PE X (.Call (.Name "len" p) [o] [] pos) (tD W X.K (cst E) (eLenC fo)) :=
  (pe_callB call_lenA hg hm bt_len (pa_cons ho pa_nil hs) (by decide) (by decide) hs hpl).weak fun sg H Q q => by
    refine tG_imp (tG_bind (Rp := RpE X.K) q) fun v H1 q1 => ?_
    obtain ⟨rh, d, w1, B1, hb1, he1, r1, px, o1⟩ := q1
    cases hc : cellL d w1 with
    | none => rw [hc] at o1; exact o1.elim
    | some ix =>
      obtain ⟨i, xs⟩ := ix
      rw [hc] at o1
      obtain ⟨rfl, e1, hl⟩ := cellL_some hc
      obtain ⟨a, vs, rfl, h1, h2, h3⟩ := r1.lst px e1
      refine .inl ⟨_, _, rfl, .inl ⟨vs, .inl (.inl h2), rfl⟩, ?_⟩
      rw [h3.length]
      exact Out.now (Rp := RpE X.K) hb1 r1 (show Rep X.K B1 (.int xs.length) (.int xs.length) from rfl) o1
theorem q_appC (ho : PE X o (tD false X.K (cst E) fo)) (he : PE X e (tD false X.K (cst E) fe)) (hbase : attributeBase o "append" X.env (eval o X.env) = eval o X.env := by rfl)
    (hfew : ((backTo cpos (starEach [e] X.env)).all (fun x => !x.1) && (backToKw cpos (keywordEach [] X.env)).all (fun x => x.1.isSome) && decide (([e] : List Expr).length + ([] : List Keyword).length + (if ([] : List Keyword).isEmpty then 0 else 1) < 30)) = true := by rfl)
    (hline : (apos.endLine == cpos.line) = true := by rfl) (hs : starEach [e] X.env = (false, eval e X.env) :: starEach [] X.env := by rfl) (hplain : (backTo cpos (starEach [] X.env)).any (·.1) = false := by rfl) :
    PE X (.Call (.Attribute o "append" apos) [e] [] cpos) (tD false X.K (cst E) (eAppC fo fe)) :=
  (pe_bm PySem.F.plainAttrs_list PySem.F.slot_list_append PySem.F.type_list_append mt_append ho (pa_cons he pa_nil hs) hbase hfew hline hs hplain).weak fun sg H Q q => by
    refine tG_imp (tG_bind (Rp := RpE X.K) q) fun v H1 q1 => ?_
    obtain ⟨rh, d, w1, B1, hb1, he1, r1, px, o1⟩ := q1
    cases hc : cellL d w1 with
    | none => rw [hc] at o1; exact o1.elim
    | some ix =>
      obtain ⟨i, xs⟩ := ix
      rw [hc] at o1
      obtain ⟨rfl, e1, hl⟩ := cellL_some hc
      obtain ⟨a, vs, rfl, h1, h2, h3⟩ := r1.lst px e1
      refine ⟨.inl ⟨rfl, vs, .inl (.inl h2)⟩, ?_⟩
      refine ⟨rh, w1, B1, hb1, he1, r1, (Out.bind (Rp := RpE X.K) r1 o1).imp fun y H2 q2 => ?_⟩
      obtain ⟨d2, w2, B2, f2, r2, py, o2⟩ := q2
      cases hc2 : cellL (.obj i) w2 with
      | none => rw [hc2] at o2; exact o2.elim
      | some ix2 =>
        obtain ⟨i2, ys⟩ := ix2
        rw [hc2] at o2
        obtain ⟨ei, e2, hl2⟩ := cellL_some hc2
        cases ei
        obtain ⟨a2, vs2, ea, h4, h5, h6⟩ := r2.lst (Rep.mono f2.b _ _ px) e2
        cases ea
        obtain ⟨r3, f3⟩ := r2.cell h4 (c := .lst (ys ++ [d2])) (o := .lst (vs2 ++ [y])) ⟨_, rfl, Reps.app h6 (Reps.one py)⟩
        exact ⟨a, vs2, y, rfl, rfl, h5, by rw [h6.length]; exact lt_sz hl2, o2 .non B2 _ f3 r3 rfl⟩
theorem q_popC (ho : PE X o (tD false X.K (cst E) fo)) (hbase : attributeBase o "pop" X.env (eval o X.env) = eval o X.env := by rfl) (hline : (apos.endLine == cpos.line) = true := by rfl) : PE X (.Call (.Attribute o "pop" apos) [] [] cpos) (tD false X.K (cst E) (ePopC fo)) :=
  (pe_bm0 PySem.F.plainAttrs_list PySem.F.slot_list_pop PySem.F.type_list_pop mt_pop ho hbase hline).weak fun sg H Q q => by
    refine tG_imp (tG_bind (Rp := RpE X.K) q) fun v H1 q1 => ?_
    obtain ⟨rh, d, w1, B1, hb1, he1, r1, px, o1⟩ := q1
    cases hc : cellL d w1 with
    | none => rw [hc] at o1; exact o1.elim
    | some ix =>
      obtain ⟨i, xs⟩ := ix
      rw [hc] at o1
      obtain ⟨rfl, e1, hl⟩ := cellL_some hc
      obtain ⟨a, vs, rfl, h1, h2, h3⟩ := r1.lst px e1
      refine ⟨.inl ⟨rfl, vs, .inl (.inl h2)⟩, ?_⟩
      have o2 : Out false X.K E (RpE X.K) B1 H1 Q (match xs[xs.length - 1]? with | some y => .ok y (w1.set i (.lst xs.dropLast)) | none => .fail) := o1
      cases hy : xs[xs.length - 1]? with
      | none => rw [hy] at o2; exact o2.elim
      | some y =>
        rw [hy] at o2
        obtain ⟨u, h4, h5⟩ := h3.get hy
        have hd : vs.dropLast = vs.take (vs.length - 1) := List.dropLast_eq_take
        have hd2 : xs.dropLast = xs.take (xs.length - 1) := List.dropLast_eq_take
        obtain ⟨r3, f3⟩ := r1.cell h1 (c := .lst xs.dropLast) (o := .lst vs.dropLast) ⟨_, rfl, by rw [hd, hd2, h3.length]; exact h3.take _⟩
        exact ⟨a, vs, u, rfl, rfl, h2, by rw [h3.length]; exact h4, o2 u B1 _ f3 r3 h5⟩
theorem q_att {cn f : Str} (ho : PE X o (tD W X.K (cst E) fo)) (hc : (He.Fa.cls cn).ok X.K = true) (hn : (He.Fa.noat cn f).ok X.K = true) (hb : attributeBase o f X.env (eval o X.env) = eval o X.env := by rfl) : PE X (.Attribute o f pos) (tD W X.K (cst E) (eAtt cn f fo)) :=
  (pe_fld ho hb).weak fun sg H Q q => by
    refine tG_imp (tG_bind (Rp := RpE X.K) q) fun v H1 q1 => ?_
    obtain ⟨rh, d, w1, B1, hb1, he1, r1, px, o1⟩ := q1
    cases hcc : cellI cn d w1 with
    | none => rw [hcc] at o1; exact o1.elim
    | some ix =>
      obtain ⟨i, gs⟩ := ix
      rw [hcc] at o1
      obtain ⟨rfl, e1, hl⟩ := cellI_some hcc
      obtain ⟨a, dx, vs, rfl, h1, h2, h3, h4⟩ := r1.ins px e1
      obtain ⟨d2, e2, kk⟩ := out_lift o1
      rcases repsF_look f h4 with ⟨z, _⟩ | ⟨d3, u, z1, z2, z3⟩
      · rw [z] at e2; cases e2
      · rw [z1] at e2; cases e2
        exact ⟨a, _, dx, vs, u, rfl, h2, He.cls_ok hc, He.noat_ok hn, z2, now_ok hb1 r1 kk z3⟩
theorem s_setA {cn f : Str} (us : List Nat) (ho : PE X o (tD false X.K (cst E) fo)) (he : PE X e (tD false X.K (cst E) fe)) (hc : (He.Fa.cls cn).ok X.K = true) (hn : (He.Fa.noat cn f).ok X.K = true) (hs : swapsWith e (some (.Attribute o f p)) pos.line X.env = pure false := by rfl) :
    PS X (.Assign [.Attribute o f p] e pos) (tS false X.K E (sSetA cn f fo fe us)) := (ps_fld ho he hs).weak fun Ds sg H q => by
  obtain ⟨B0, H0, rh, ow, w, ⟨B, s, r⟩, o⟩ := q
  unfold sSetA at o
  refine tG_give us s r (fun d w1 e v B' H' s' r' p => ?_) (fun c w1 e B' H' f' r' => ?_) fun e => ?_
  · rw [e] at o
    have o1 : OutS false X.K E B0 H0 Ds (fin (fo (wipeE rh (give ow us)) w1) fun x w2 => match cellI cn x w2 with
      | some (i, fs) => .nx rh (give ow us) (w2.set i (.ins cn (putFD f d fs)))
      | none => .fail) := o
    refine ⟨wipeE rh (give ow us), w1, B', r'.sm, s'.en, r', ?_⟩
    cases hk : fo (wipeE rh (give ow us)) w1 with
    | ok y w2 =>
      rw [hk] at o1
      intro u B2 H2 f2 r2 pu
      have s2 := s'.later f2
      have o2 : OutS false X.K E B0 H0 Ds (match cellI cn y w2 with
        | some (i, fs) => .nx rh (give ow us) (w2.set i (.ins cn (putFD f d fs)))
        | none => .fail) := o1
      cases hcc : cellI cn y w2 with
      | none => rw [hcc] at o2; exact o2.elim
      | some ix =>
        obtain ⟨i, gs⟩ := ix
        rw [hcc] at o2
        obtain ⟨rfl, e1, hl⟩ := cellI_some hcc
        obtain ⟨a, dx, vs, rfl, h1, h2, h3, h4⟩ := r2.ins pu e1
        obtain ⟨r3, f3⟩ := r2.cell h1 (c := .ins cn (putFD f d gs)) (o := .ins (He.ga X.K cn) dx (putF f v vs)) ⟨dx, _, rfl, h3, repsF_put f (Rep.mono f2.b _ _ p) h4⟩
        exact ⟨a, _, dx, vs, rfl, h2, He.cls_ok hc, He.noat_ok hn, by rw [repsF_len h4]; exact hl, o2 sg _ ⟨B2, s2.later f3, r3⟩⟩
    | exc c w2 => rw [hk] at o1; exact fun B2 H2 f2 r2 => o1 B2 H2 (s'.fu.trans f2) r2
    | fail => rw [hk] at o1; exact o1
  · rw [e] at o; exact o B' H' f' r'
  · rw [e] at o; exact o
/-- a new object becomes a cell -/
theorem peC (h : PE X e (tN false X.K (cst E) fe)) : PE X e (tD false X.K (cst E) (eCellN fe)) := h.weak fun sg H Q q => by
  obtain ⟨rh, w, B, hb, he, r, o⟩ := q
  refine ⟨rh, w, B, hb, he, r, ?_⟩
  unfold eCellN at o
  cases hf : fe rh w with
  | fail => rw [hf] at o; exact o
  | exc c w' => rw [hf] at o; exact o
  | ok d w1 =>
    rw [hf] at o
    intro p ob B' H' f' r' h0 h1 h2 h3 h4
    have o2 : Out false X.K E (RpE X.K) B H Q (match toCell d with | some c => .ok (.obj w1.length) (w1 ++ [c]) | none => .fail) := o
    cases hc : toCell d with
    | none => rw [hc] at o2; exact o2.elim
    | some c =>
      rw [hc] at o2
      have hcr : CellR X.K B' p c ob := by
        cases d with
        | lst xs => cases hc; cases ob with
          | lst vs => exact ⟨vs, rfl, h2⟩
          | _ => exact h2.elim
        | dic xs => cases hc; cases ob with
          | dK vs => exact ⟨vs, rfl, h2⟩
          | _ => exact h2.elim
        | _ => cases hc
      obtain ⟨r3, le⟩ := r'.newCell h1 h3 h4 hcr
      have f3 : Fu false B H ⟨B'.hp, B'.cs ++ [p]⟩ H' := ⟨f'.h, f'.b.trans le, f'.bh, f'.nw, fun a n m z => by
        rcases List.mem_append.mp z with z | z
        · exact f'.nm a n m z
        · cases List.mem_singleton.mp z; exact n h0, fun z => nomatch z⟩
      exact o2 (.ref p) _ H' f3 r3 ⟨p, rfl, by rw [← r'.len]; simp⟩
/-- o.m(..) -/
theorem q_meth {cn mn : Str} {n j : Nat} {m : List D → Wl → Res Wl D} {pl : Sem Bool} (F : FnG X.prog X.w X.K X.mg X.base false j (He.ma X.K (He.ga X.K cn) mn) n m) (hj : j ≤ k) (hx : PF X (cst E) k) (hc : (He.Fa.cls cn).ok X.K = true) (hm : (He.Fa.meth cn mn).ok X.K = true) (ho : PE X o (tD false X.K (cst E) fo)) (ha : PA X (e :: es) (tL false X.K (cst E) fs)) (hn : ∀ rh w ds w', fs rh w = .ok ds w' → ds.length + 1 = n)
    (hst : starEach (e :: es) X.env = (false, eval e X.env) :: starEach es X.env := by rfl) (hpl : (backTo pos (starEach es X.env)).any (·.1) = false := by rfl)
    (ht : eval (.Call (.Attribute o mn apos) (e :: es) [] pos) X.env = (do
      let ov ← eval o X.env
      standAt apos.atName
      let (f, first) ← holding [ov] (getMethod ov mn pl)
      callWith pos f first (backTo pos (starEach (e :: es) X.env)) (backToKw pos (keywordEach [] X.env))) := by rfl) :
    PE X (.Call (.Attribute o mn apos) (e :: es) [] pos) (tD false X.K (cst E) (eMeth cn mn m fo fs)) := by
  obtain ⟨fd, ps, Fk, hk, hb⟩ := F.ex
  refine L2.PE.weak (pe_meth ho (He.cls_ok hc) (He.meth_ok hm) (Fk.mono hj) hx.room hb .nil hx.passes ha hst hpl ht) fun sg H Q q => ?_
  refine tG_imp (tG_bind (Rp := RpE X.K) q) fun v H1 q1 => ?_
  obtain ⟨rh, d, w1, B1, hb1, he1, r1, px, o1⟩ := q1
  cases hcc : cellI cn d w1 with
  | none => rw [hcc] at o1; exact o1.elim
  | some ix =>
    obtain ⟨i, gs⟩ := ix
    rw [hcc] at o1
    obtain ⟨rfl, e1, hl⟩ := cellI_some hcc
    obtain ⟨a, dx, vs, rfl, h1, h2, h3, h4⟩ := r1.ins px e1
    have o2 : Out false X.K E (RpE X.K) B1 H1 Q (match gs.lookup mn with | none => (fs rh w1).bind fun xs w2 => m (.obj i :: xs) w2 | some _ => .fail) := o1
    rcases repsF_look mn h4 with ⟨z1, z2⟩ | ⟨d3, u, z1, z2, z3⟩
    · rw [z1] at o2
      refine ⟨a, dx, vs, rfl, h2, z2, rh, w1, B1, hb1, he1, r1, ?_⟩
      have o3 : Out false X.K E (RpE X.K) B1 H1 Q ((fs rh w1).bind fun xs w2 => m (.obj i :: xs) w2) := o2
      have hl2 := hn rh w1
      cases hfs : fs rh w1 with
      | fail => rw [hfs] at o3; exact o3
      | exc c w' => rw [hfs] at o3; exact o3
      | ok xs w2 =>
        rw [hfs] at o3 hl2
        intro us B2 H2 f2 r2 pu
        rw [List.append_nil]
        have o4 : Out false X.K E (RpE X.K) B1 H1 Q (m (.obj i :: xs) w2) := o3
        exact ⟨.obj i :: xs, w2, B2, hl2 xs w2 rfl, f2.bh, r2, ⟨.ref a, us, rfl, Rep.mono f2.b _ _ px, pu⟩, Out.shift r1 r2 f2 o4⟩
    · rw [z1] at o2; exact o2.elim
theorem q_meth0 {cn mn : Str} {j : Nat} {m : List D → Wl → Res Wl D} {pl : Sem Bool} (F : FnG X.prog X.w X.K X.mg X.base false j (He.ma X.K (He.ga X.K cn) mn) 1 m) (hj : j ≤ k) (hx : PF X (cst E) k) (hc : (He.Fa.cls cn).ok X.K = true) (hm : (He.Fa.meth cn mn).ok X.K = true) (ho : PE X o (tD false X.K (cst E) fo))
    (ht : eval (.Call (.Attribute o mn apos) [] [] pos) X.env = (do
      let ov ← eval o X.env
      standAt apos.atName
      let (f, first) ← holding [ov] (getMethod ov mn pl)
      callWith pos f first (backTo pos (starEach [] X.env)) (backToKw pos (keywordEach [] X.env))) := by rfl) :
    PE X (.Call (.Attribute o mn apos) [] [] pos) (tD false X.K (cst E) (eMeth cn mn m fo lNil)) := by
  obtain ⟨fd, ps, Fk, hk, hb⟩ := F.ex
  refine L2.PE.weak (pe_meth0 ho (He.cls_ok hc) (He.meth_ok hm) (Fk.mono hj) hx.room hb .nil hx.passes ht) fun sg H Q q => ?_
  refine tG_imp (tG_bind (Rp := RpE X.K) q) fun v H1 q1 => ?_
  obtain ⟨rh, d, w1, B1, hb1, he1, r1, px, o1⟩ := q1
  cases hcc : cellI cn d w1 with
  | none => rw [hcc] at o1; exact o1.elim
  | some ix =>
    obtain ⟨i, gs⟩ := ix
    rw [hcc] at o1
    obtain ⟨rfl, e1, hl⟩ := cellI_some hcc
    obtain ⟨a, dx, vs, rfl, h1, h2, h3, h4⟩ := r1.ins px e1
    have o2 : Out false X.K E (RpE X.K) B1 H1 Q (match gs.lookup mn with | none => m [.obj i] w1 | some _ => .fail) := o1
    rcases repsF_look mn h4 with ⟨z1, z2⟩ | ⟨d3, u, z1, z2, z3⟩
    · rw [z1] at o2
      exact ⟨a, dx, vs, rfl, h2, z2, [.obj i], w1, B1, rfl, hb1, r1, ⟨.ref a, [], rfl, px, rfl⟩, o2⟩
    · rw [z1] at o2; exact o2.elim
/-- C(..) -/
theorem q_make {cn : Str} {n j : Nat} {m : List D → Wl → Res Wl D} (F : FnG X.prog X.w X.K X.mg X.base false j (He.ma X.K (He.ga X.K cn) "__init__") n m) (hj : j + 1 ≤ k) (hx : PF X (cst E) k) (hk : (He.Fa.mkr cn).ok X.K = true) (hm : X.mg cn = some (.ref (He.ga X.K cn))) (ha : PA X (e :: es) (tL false X.K (cst E) fs)) (hn : ∀ rh w ds w', fs rh w = .ok ds w' → ds.length + 1 = n) (hg : Gl X cn := by rfl)
    (hdb : (cn == ("__debug__" : Str)) = false := by decide) (he : starEach (e :: es) X.env = (false, eval e X.env) :: starEach es X.env := by rfl) (hpl : (backTo pos (starEach es X.env)).any (·.1) = false := by rfl) :
    PE X (.Call (.Name cn p) (e :: es) [] pos) (tD false X.K (cst E) (eMake cn m fs)) := by
  obtain ⟨fd, ps, Fk, hkk, hb⟩ := F.ex
  refine L2.PE.weak (pe_make (He.mkr_ok hk) Fk (hx.room.mono hj) hg hm hb .nil hx.passes ha hdb he hpl) fun sg H Q q => ?_
  obtain ⟨rh, w, B, hB, hen, r, o⟩ := q
  refine ⟨rh, w, B, hB, hen, r, ?_⟩
  have hl := hn rh w
  unfold eMake at o
  cases hf : fs rh w with
  | fail => rw [hf] at o; exact o
  | exc c w' => rw [hf] at o; exact o
  | ok ds w1 =>
    rw [hf] at o hl
    intro vs B1 H1 f1 r1 p1 x dx nx ndx hne
    rw [List.append_nil]
    have o1 : Out false X.K E (RpE X.K) B H Q ((m (.obj w1.length :: ds) (w1 ++ [.ins cn []])).bind fun d w2 => match d with | .non => .ok (.obj w1.length) w2 | _ => .fail) := o
    have o2 := Out.shift r r1 f1 o1
    -- the dict first, then the cell
    obtain ⟨f2, r2⟩ := Fu.new (W := false) r1 r1.sm ndx (.own x)
    have nx2 : upd H1 dx (.own x) x = none := by rw [upd_ne (Ne.symm hne)]; exact nx
    have hb2 : (B1.put dx (.own x)).hp x = none := not_hp r2.sm nx2
    have hm2 : x ∉ (B1.put dx (.own x)).cs := not_mk r2 nx2
    have r3 := r2.mut hb2 hm2 (.ins (He.ga X.K cn) dx [])
    obtain ⟨r4, le⟩ := r3.newCell (p := x) upd_same hb2 hm2 (c := .ins cn []) ⟨dx, [], rfl, upd_same, rfl⟩
    have f3 := f2.mut (p := x) nx hb2 (fun z => hm2 z) (.ins (He.ga X.K cn) dx [])
    have f4 : Fu false B1 H1 ⟨(B1.put dx (.own x)).hp, (B1.put dx (.own x)).cs ++ [x]⟩ (upd (upd H1 dx (.own x)) x (.ins (He.ga X.K cn) dx [])) := ⟨f3.h, f3.b.trans le, f3.bh, f3.nw, fun a n m z => by
      rcases List.mem_append.mp z with z | z
      · exact f3.nm a n m z
      · cases List.mem_singleton.mp z; exact n nx, fun z => nomatch z⟩
    have hcs : ((B1.put dx (.own x)).cs ++ [x])[w1.length]? = some x := by
      show (B1.cs ++ [x])[w1.length]? = some x
      rw [← r1.len]; simp
    refine ⟨.obj w1.length :: ds, w1 ++ [.ins cn []], _, hl ds w1 rfl, r4.sm, r4, ⟨.ref x, vs, rfl, ⟨x, rfl, hcs⟩, Reps.mono (f4.b) _ _ p1⟩, ?_⟩
    have o3 := Out.shift r1 r4 f4 o2
    refine (Out.bind (Rp := RpE X.K) r4 o3).imp fun v H5 q5 => ?_
    obtain ⟨d, w5, B5, f5, r5, p5, o5⟩ := q5
    cases d with
    | non => exact ⟨p5, o5 (.ref x) B5 H5 (Fu.refl f5.bh) r5 ⟨x, rfl, f5.b.2 _ _ hcs⟩⟩
    | _ => exact o5.elim
end
end G
namespace G
open PySem L2 PyProof.Rows PySem.Spec

/-! ### try: y = f(..) / except C as n: z = n -/
section
variable {X : Cx} {pins : List (Addr × Obj)} {sg : L2.St} {H : Hp} {s : Shared}
/-- an exception that was caught is held from then on -/
theorem inv_hold (I : L2.Inv X pins sg H s) {a C : Addr} {oe : Obj} {vs : Array Value} (e : s.heap.get? a = some oe) (z : Zc (.ref C) none oe) (d : oe.data = .fields vs) (na : H a = none) (nL : a ≠ X.env.locals)
    (h0 : ∀ o, X.s_0.heap.get? a = some o → a ∈ X.ex) (hp : ∀ p ∈ X.pn ++ pins, p.1 ≠ a) : L2.Inv X pins sg (upd H a (ExcO C a)) s := by
  have ne : ∀ b o, H b = some o → b ≠ a := fun b o q => ne_of_none q na
  refine ⟨I.ok, I.os, I.bare, ⟨I.base.keep, I.base.slot, fun b o q n hx => ?_, I.base.there, fun b xs q => ?_, fun b o u q => ?_, fun b ps q => ?_⟩, I.loc, I.cell, ?_, fun x c q => ?_, fun p hq => ?_, fun b o q => ?_, I.len⟩
  · have hb : b ≠ a := fun z => hx (by rw [z] at q ⊢; exact h0 o q)
    rw [upd_ne hb]; exact I.base.free b o q n hx
  · have h1 := I.base.tups b xs q
    rw [upd_ne (ne _ _ h1)]; exact h1
  · have h1 := I.base.frzs b o u q
    rw [upd_ne (ne _ _ h1)]; exact h1
  · obtain ⟨m, h1⟩ := I.base.tbls b ps q
    exact ⟨m, by rw [upd_ne (ne _ _ h1)]; exact h1⟩
  · rw [upd_ne (Ne.symm nL)]; exact I.free
  · have hc : c ≠ a := fun z2 => by
      obtain ⟨v, hv⟩ := I.cell x c q
      obtain ⟨oc, h1, h2⟩ := hv
      rw [z2, e] at h1; cases h1
      rw [d] at h2
      first | cases h2 | (obtain ⟨_, h2⟩ := h2; cases h2)
    rw [upd_ne hc]; exact I.freeC x c q
  · obtain ⟨h1, h2, h3⟩ := I.pin p hq
    exact ⟨h1, by rw [upd_ne (hp p hq)]; exact h2, h3⟩
  · by_cases hb : b = a
    · subst hb
      rw [upd_same] at q; cases q
      exact excO_ok e z d
    · rw [upd_ne hb] at q
      exact (I.hok b o q).stay (fun c v _ q => q) (fun c q => by rw [upd_ne (ne _ _ q)]; exact q) fun c xs q => by rw [upd_ne (ne _ _ q)]; exact q
theorem inv_suite (I : L2.Inv X pins sg H s) (a : Addr) : L2.Inv (X.suite a X.pn) pins sg H s := ⟨I.ok.suite _ _, I.os, I.bare, I.base, I.loc, I.cell, I.free, I.freeC, I.pin, I.hok, I.len⟩
theorem inv_unsuite {a : Addr} (I : L2.Inv (X.suite a X.pn) pins sg H s) (ok : X.Ok) : L2.Inv X pins sg H s := ⟨ok, I.os, I.bare, I.base, I.loc, I.cell, I.free, I.freeC, I.pin, I.hok, I.len⟩
end
/-- what the clause 'except x as n' wishes: the exception is held -/
def wHold (K : PySem.W.Frag) (c : Value) (i : Nat) (ts : TS) (Wout : WX) (Ds : Ends) : WX := fun cls d sg H =>
  ∃ b, PySem.W.exmOne K cls c = some b ∧ (b = true → ∃ C, cls = .ref C ∧ d = none ∧ ∀ a, H a = none → ts { nx := fun sg' H' => Ds.nx (sg'.set i none) H', rt := Ds.rt, bk := fun sg' H' => Ds.bk (sg'.set i none) H', ct := fun sg' H' => Ds.ct (sg'.set i none) H' } (sg.set i (some (.ref a))) (upd H a (ExcO C a))) ∧
    (b = false → Wout cls d sg H)
section
variable {X : Cx} {x n : Str} {c : Value} {i : Nat} {body suite : List Stmt} {b₀ : Stmt} {np pos pos' : Pos} {tb : WX → TS} {ts : TS} {Wout : WX}
theorem ps_try_hold (hs : X.stack = X.env :: X.outer) (hf : X.env.frame = some X.env.locals) (hN : X.N.Nodup) (hi : X.N[i]? = some n) (hln : X.env.kindOf n = some .local) (hc : Names X x c) (tk : Takes X Wout)
    (hb : ∀ (W : WX) (pn : List (Addr × Obj)) (xe : Value → Shared → Prop), Takes (X.tr pn xe) W → PassesOwn (model X.prog X.w) X.A X.env xe → PSs (X.tr pn xe) body (tb W))
    (hsu : ∀ (a : Addr), PSs (X.suite a X.pn) (b₀ :: suite) ts) :
    PS X (.Try body [.ExceptHandler (some (.Name x np)) (some n) (b₀ :: suite) pos'] [] [] pos) (fun Ds sg H => tb (wHold X.K c i ts Wout Ds) Ds sg H) := by
  refine ⟨fun pins s sg H Ds I h => ?_⟩
  have ok := I.ok
  have hfr : X.A.frames = some (X.env :: X.outer) := by rw [ok.frames, hs]
  have hloc : Loc X.env.scope n := .inl hln
  refine wpAny_Try_except ?_
  refine wpAny_mono ((hb (wHold X.K c i ts Wout Ds) (X.pn ++ pins) (fun e s₁ => wpAny (model X.prog X.w) X.A (noteFrame e X.env) (fun _ s₂ => wpAny (model X.prog X.w) X.A (setFlight e none) (fun _ s₃ =>
    wpAny (model X.prog X.w) X.A (handleBy e X.env [.ExceptHandler (some (.Name x np)) (some n) (b₀ :: suite) pos']) (SP X pins Ds) X.xe s₃) X.xe s₂) X.xe s₁) (fun u s' xx => ?_) PassesOwn.looking).run [] s sg H Ds (I.toTry _) h) (fun f s1 hsp => ?_) (fun e s1 he => he)
  · -- the catch
    obtain ⟨a, B, sI, pins', sg', H', cls, d, rfl, J', nb, up, sky, na, os, ag, b, hb1, hyes, hno⟩ := xx
    have J : L2.Inv X pins sg' H' sI := J'.ofTry ok
    have sky' : Sky B (X.env :: X.outer) a (Zc cls d) X.env.locals s'.heap := by rw [← hs]; exact sky
    show wpAny (model X.prog X.w) X.A (noteFrame (.ref a) X.env) _ _ _
    refine Sky.land Zc.steady hfr hf sky' fun h3 fl3 up3 => ?_
    have J3 : L2.Inv X pins sg' H' { s' with heap := h3 } := J.landed nb fl3.1 (up.trans up3) os ag
    obtain ⟨oe3, vs3, he3, hz3, hd3⟩ := fl3.there
    have notFr : ∀ {h : Heap} {o : Obj} {vs : Array Value}, h.FunFrames B (X.env :: X.outer) → h.get? a = some o → o.data = .fields vs → a ∉ frs (X.env :: X.outer) := fun {h o vs} ff e dd hm => by
      obtain ⟨_, o', e', hnf⟩ := ff.mem hm
      rw [e] at e'; cases e'
      exact hnf _ dd
    have nfr := notFr fl3.2.2.1 he3 hd3
    have nfs : a ∉ frs X.stack := by rw [hs]; exact nfr
    have nI : sI.heap.get? a = none := by
      cases q : sI.heap.get? a with
      | none => rfl
      | some o => have z := nb a o q nfs; rw [fl3.2.1] at z; cases z
    have nL : a ≠ X.env.locals := fun z => nfr (List.mem_filterMap.mpr ⟨X.env, List.mem_cons_self, by rw [hf, z]⟩)
    have nF : a ∉ X.fs := fun hm => by
      obtain ⟨e, he, q⟩ := List.mem_filterMap.mp hm
      exact nfr (List.mem_filterMap.mpr ⟨e, List.mem_cons_of_mem _ he, q⟩)
    have S3 := J3.suite he3 hd3 na nL nF
    refine wpAny_handleBy_cons (codeAny_handlers_test ?_) (by intro q; cases q)
    have LT : PySem.W.Looks (model X.prog X.w) h3 (typeOf (.ref a)) cls := fun A Q E s k q => wpAny_typeOf_ref (k _ _ he3) (by rw [hz3.1]; exact q)
    have LM := PySem.W.exm_one (M := model X.prog X.w) (J3.kIn) LT hb1
    have test : ∀ {Q : Value → Shared → Prop} {E : Value → Shared → Prop}, Q c { s' with heap := h3 } → wpAny (model X.prog X.w) (X.A.mark (some (.ref a))) (eval (.Name x np) X.env) Q E { s' with heap := h3 } := fun {Q E} q => by
      obtain ⟨hg, hdbg, hm | ⟨hm, hv, hnn⟩⟩ := hc
      · exact ld_glob (X := X.suite a ((a, oe3) :: (X.pn ++ pins))) S3 hg hm q hdbg
      · exact ld_blt (X := X.suite a ((a, oe3) :: (X.pn ++ pins))) S3 hg hm hv q hnn hdbg
    refine test (LM.here ?_)
    cases b with
    | true =>
      obtain ⟨C, rfl, rfl, hyes2⟩ := hyes rfl
      refine codeAny_handlers_suite_as ?_
      refine HandSPX.lands_againZ fl3 fun h4 fl4 up4 => ?_
      have J4 : L2.Inv X pins sg' H' { s' with heap := h4 } := J.landed nb fl4.1 ((up.trans up3).trans up4) os ag
      obtain ⟨oe4, vs4, he4, hz4, hd4⟩ := fl4.there
      have J5 := inv_hold J4 he4 hz4 hd4 na nL (fun o q => by
        by_cases hx : a ∈ X.ex
        · exact hx
        · obtain ⟨o', q'⟩ := J.base.there a o q hx
          rw [nI] at q'; cases q') (fun p hp z => by
        have q := (J.pin p hp).1
        rw [z, nI] at q; cases q)
      have S4 := inv_suite J5 a
      refine store_ok (X := X.suite a X.pn) (v := .ref a) S4 hN hi hloc rfl (fun s5 S5 => ?_) (.inr hln)
      refine wpAny_mono ((hsu a).run pins s5 _ _ _ S5 (hyes2 a na)) (fun f s6 hsp => ?_) (fun _ _ z => False.elim z)
      have end_ : ∀ {sg6 : L2.St} {H6 : Hp} {Q : Shared → Prop}, L2.Inv (X.suite a X.pn) pins sg6 H6 s6 → (∀ s7, L2.Inv X pins (sg6.set i none) H6 s7 → Q s7) →
          wpAny (model X.prog X.w) X.A (do bindName X.env n .none; unbindBehindTheSuite X.env n pos') (fun _ s7 => Q s7) X.xe s6 := fun {sg6 H6 Q} S6 hq => gone_ok (inv_unsuite S6 ok) hN hi hln hq
      cases f with
      | next =>
        obtain ⟨sg6, H6, S6, q6⟩ := hsp
        exact end_ S6 fun s7 J7 => ⟨_, _, J7, q6⟩
      | brk =>
        obtain ⟨sg6, H6, S6, q6⟩ := hsp
        exact end_ S6 fun s7 J7 => ⟨_, _, J7, q6⟩
      | cont =>
        obtain ⟨sg6, H6, S6, q6⟩ := hsp
        exact end_ S6 fun s7 J7 => ⟨_, _, J7, q6⟩
      | ret u =>
        obtain ⟨v6, sg6, H6, S6, r6, q6⟩ := hsp
        exact end_ S6 fun s7 J7 => ⟨_, _, _, J7, r6, q6⟩
    | false =>
      show wpAny _ X.A (handleBy (.ref a) X.env []) _ _ _
      refine wpAny_handleBy_nil ?_
      obtain ⟨k1, k2, k3, oe, vs, T, oT, ts', he, hz, hd, h1, hr⟩ := id fl3
      unfold PySem.passOn
      refine wpAny_bind (wpAny_field he hd h1 ?_)
      rw [if_neg (show ¬ ((Value.ref T == Value.none) = true) from by simp)]
      have fin : wpAny (model X.prog X.w) X.A (setFlight (.ref a) X.env.frame) (fun _ s4 => wpAny (model X.prog X.w) X.A (throw (.ref a) : Sem Flow) (SP X pins Ds) X.xe s4) X.xe { s' with heap := h3 } := by
        rw [hf]
        refine HandSPX.setFlight_upZ fl3 fun h4 hh4 up4 => wpAny_throw (tk _ _ ?_)
        exact ⟨a, B, sI, pins, sg', H', cls, d, rfl, J, nb, (up.trans up3).trans up4, .inr (.inr (by rw [hs]; exact hh4)), na, os, ag, hno rfl⟩
      first
        | exact wpAny_bind (wpAny_pure (wpAny_bind fin))
        | exact wpAny_bind fin
  · cases f with
    | next =>
      obtain ⟨sg', H', J', q⟩ := hsp
      exact wpAny_execs_nil ⟨sg', H', J'.ofTry ok, q⟩
    | brk =>
      obtain ⟨sg', H', J', q⟩ := hsp
      exact ⟨sg', H', J'.ofTry ok, q⟩
    | cont =>
      obtain ⟨sg', H', J', q⟩ := hsp
      exact ⟨sg', H', J'.ofTry ok, q⟩
    | ret u =>
      obtain ⟨v, sg', H', J', r, q⟩ := hsp
      exact ⟨v, sg', H', J'.ofTry ok, r, q⟩
end
/-- whether an exception of one class is of another -/
def XOk (K : PySem.W.Frag) (Xs : Str → Str → Option Bool) : Prop := ∀ c cn b, Xs c cn = some b → PySem.W.exmOne K (.ref (He.ga K c)) (.ref (He.ga K cn)) = some b
def sTry (Xs : Str → Str → Option Bool) (cn : Str) (i0 : Nat) (e : SE Wl) (us : List Nat) (iy ie : Nat) : SS Wl := fun rh ow w => if (give ow us).contains iy || ((give ow us).contains ie || !decide (ie < rh.length)) then .fail else match e (wipeE rh (give ow us)) w with
  | .ok d w1 => .nx (rh.set i0 (some d)) (rmv (give ow us) i0) w1
  | .exc c w1 => (match Xs c cn with
    | some true => .nx ((rh.set iy (some (.exc c))).set ie none) (give ow us) w1
    | some false => .exc c w1
    | none => .fail)
  | .fail => .fail
section
variable {W : Bool} {K : PySem.W.Frag} {B0 B : Base} {H0 H : Hp} {sg : L2.St} {rh : Env} {ow : List Nat} {w : Wl}
/-- a slot is forgotten -/
theorem StB.unset (s : StB W K B0 H0 sg rh ow B H) (i : Nat) (hi : i ∉ ow) : StB W K B0 H0 (sg.set i none) (rh.set i none) ow B H where
  fu := s.fu
  en := ⟨by rw [wipeE_length]; simp [s.len], fun j d' e => by
    obtain ⟨h1, h2⟩ := wipeE_some e
    have hj : i ≠ j := fun z => by
      subst z
      by_cases hlt : i < rh.length
      · rw [List.getElem?_set_self hlt] at h1; cases h1
      · rw [List.getElem?_eq_none (by simpa using hlt)] at h1; cases h1
    rw [List.getElem?_set_ne hj] at h1
    obtain ⟨u, h4, h5⟩ := s.en.on j d' (by rw [wipeE_out h2]; exact h1)
    exact ⟨u, by rw [List.getElem?_set_ne hj]; exact h4, h5⟩⟩
  len := by simp [s.len]
  own := fun j hj => by
    obtain ⟨p, d', o, a1, a2, a3⟩ := s.own j hj
    have hne : i ≠ j := fun z => hi (by rw [z]; exact hj)
    exact ⟨p, d', o, by rw [List.getElem?_set_ne hne]; exact a1, by rw [List.getElem?_set_ne hne]; exact a2, a3⟩
  dis := fun j hj k hk p e1 e2 => by
    have h1 : i ≠ j := fun z => hi (by rw [z]; exact hj)
    have h2 : i ≠ k := fun z => hi (by rw [z]; exact hk)
    rw [List.getElem?_set_ne h1] at e1
    rw [List.getElem?_set_ne h2] at e2
    exact s.dis j hj k hk p e1 e2
theorem rmv_not {i : Nat} (h : i ∉ ow) : rmv ow i = ow := List.filter_eq_self.mpr fun j hj => by
  have : j ≠ i := fun z => h (by rw [← z]; exact hj)
  simpa using this
end
section
variable {X : Cx} {W : Bool} {E : XK} {k : Nat} {fe : SE Wl} {i0 iy ie : Nat} {Xs : Str → Str → Option Bool} {cn n y0 y : Str} {e : Expr} {np pos pos' p0 p1 p2 p3 p4 : Pos}
theorem s_try (us : List Nat) (hx : PF X (cst E) k) (hr : PR X E) (hX : XOk X.K Xs) (gC : X.mg cn = some (.ref (He.ga X.K cn)))
    (hb : ∀ (E' : XS) (pn : List (Addr × Obj)) (xe : Value → Shared → Prop), PF (X.tr pn xe) E' k → PS (X.tr pn xe) (.Assign [.Name y0 p0] e p1) (tAsg (tD W X.K E' fe) (gName i0)))
    (hi : X.N[ie]? = some n) (hln : X.env.kindOf n = some .local) (hiy : X.N[iy]? = some y) (hyl : Loc X.env.scope y) (hyf : X.env.scope.names.lookup y = some .local) (hnv : Vis X.env.scope n) (hne : ie ≠ iy) (hg : Gl X cn := by rfl) (hdb : (cn == ("__debug__" : Str)) = false := by decide)
    (hsw : ∀ a, swapsWith (.Name n p3) (some (.Name y p2)) p4.line (X.suite a X.pn).env = pure false := by intro _; rfl) (hnd : (n == ("__debug__" : Str)) = false := by decide) (hncd : (n == ("__classdict__" : Str)) = false := by decide) :
    PS X (.Try [.Assign [.Name y0 p0] e p1] [.ExceptHandler (some (.Name cn np)) (some n) [.Assign [.Name y p2] (.Name n p3) p4] pos'] [] [] pos) (tS W X.K E (sTry Xs cn i0 fe us iy ie)) :=
  (ps_try_hold (i := ie) (tb := fun Wx => tSeq (tAsg (tD W X.K (WE Wx) fe) (gName i0)) tNext) (ts := tSeq (tAsg (tVar ie) (gName iy)) tNext) hr.hs hr.hf hx.nd hi hln ⟨hg, hdb, .inl gC⟩ hr.tk
    (fun Wx pn xe tk po => pss_cons (hb (WE Wx) pn xe ⟨hx.room, passAt tk, po, hx.calm, hx.nd⟩) pss_nil)
    (fun a => pss_cons (ps_set (X := X.suite a X.pn) hx.nd hiy hyl (pe_var (X := X.suite a X.pn) hi hnv hnd hncd) (hsw a) (.inr hyf)) pss_nil)).weak fun Ds sg H q => by
  obtain ⟨B0, H0, rh, ow, w, ⟨B, s, r⟩, o⟩ := q
  unfold sTry at o
  split at o
  · exact o.elim
  · rename_i hno
    have hno1 : iy ∉ give ow us := fun z => hno (by rw [Bool.or_eq_true]; exact .inl (List.contains_iff_mem.mpr z))
    have hno2 : ie ∉ give ow us := fun z => hno (by rw [Bool.or_eq_true, Bool.or_eq_true]; exact .inr (.inl (List.contains_iff_mem.mpr z)))
    have hno3 : ie < rh.length := by
      by_cases z : ie < rh.length
      · exact z
      · exact absurd (by rw [Bool.or_eq_true, Bool.or_eq_true]; exact .inr (.inr (by simpa using z))) hno
    obtain ⟨s1, r1⟩ := s.give r us
    refine ⟨wipeE rh (give ow us), w, _, r1.sm, s1.en, r1, ?_⟩
    cases h : fe (wipeE rh (give ow us)) w with
    | ok d w' =>
      rw [h] at o
      intro v B' H' f' r' p
      exact o _ H' ⟨_, (s1.later f').set i0 p, r'⟩
    | fail => rw [h] at o; exact o
    | exc c w' =>
      rw [h] at o
      intro B' H' f' r'
      have o2 : OutS W X.K E B0 H0 Ds (match Xs c cn with
        | some true => .nx ((rh.set iy (some (.exc c))).set ie none) (give ow us) w'
        | some false => .exc c w'
        | none => .fail) := o
      cases hb' : Xs c cn with
      | none => rw [hb'] at o2; exact o2.elim
      | some b =>
        rw [hb'] at o2
        refine ⟨b, hX c cn b hb', fun eb => ?_, fun eb => ?_⟩
        · subst eb
          refine ⟨_, rfl, rfl, fun a na => ?_⟩
          have hba := not_hp r'.sm na
          have hma := not_mk r' na
          obtain ⟨f2, r2⟩ := Fu.new (W := W) r' r'.sm na (ExcO (He.ga X.K c) a)
          have s2 := (s1.later f').later f2
          have s3 := s2.set iy (d := .exc c) (v := .ref a) ⟨a, rfl, upd_same⟩
          rw [rmv_not hno1] at s3
          have s4 := s3.unset ie hno2
          have hi2 : (sg.set ie (some (V.ref a)))[ie]? = some (some (.ref a)) := by
            have hlt : ie < sg.length := by rw [← s.len]; exact hno3
            rw [List.getElem?_set_self hlt]
          refine ⟨.ref a, hi2, ?_⟩
          show Ds.nx (((sg.set ie (some (V.ref a))).set iy (some (.ref a))).set ie none) _
          have es : ((sg.set ie (some (V.ref a))).set iy (some (.ref a))).set ie none = (sg.set iy (some (.ref a))).set ie none := by
            rw [List.set_comm _ _ (Ne.symm hne), List.set_set, List.set_comm _ _ hne]
          rw [es]
          exact o2 _ _ ⟨_, s4, r2⟩
        · subst eb
          exact o2 B' H' (s1.fu.trans f') r'
end
end G
namespace G
open PySem L2 PyProof.Rows PySem.Spec
/-! ### dict(t), t a tuple of pairs (as HandS has it for lists) -/
theorem tuple_keys_none : typeLookup (.type "tuple") "keys" = pure none := am_miss_of_fast (by first | decide +kernel | rfl)
section
variable {prog : Program} {w : World} {A : Around} {E : Value → Shared → Prop}
/-- a tuple has no attribute 'keys': an AttributeError is made, and forgotten -/
theorem miss_tuple {s : Shared} {a : Addr} {o : Obj} {xs : Array Value} {k : Nat} {Q : Option Value → Shared → Prop} (hx : s.heap.get? a = some o) (hc : o.cls = .type "tuple") (hdat : o.data = .seq xs k) (hd : o.dict = none) (hA : A.handled = none)
    (h : ∀ h' tk, (∀ b ob, s.heap.get? b = some ob → h'.get? b = some ob) → Q none { s with heap := h', toks := tk }) : wpAny (model prog w) A (getAttr? (.ref a) "keys") Q E s := by
  obtain ⟨c, dct, dat, sl⟩ := o
  simp only at hc hdat hd
  subst hc hdat hd
  obtain ⟨hp, g, d, tk, os⟩ := s
  have hT : ∀ tk', (⟨hp, g, d, tk', os⟩ : Shared).TypeIs (.ref a) "tuple" := fun _ => ⟨_, hx, rfl⟩
  have hmiss := tuple_keys_none
  have hname : (["__module__", "__name__", "__qualname__", "__doc__", "__annotations__"] : List Str).contains "keys" = false := by decide +kernel
  have hsz : ("keys" : Str).length + 100 ≤ sizeLine := by first | size_fits | decide +kernel
  have f1 := sub_AttributeError
  have f3 := PySem.F.slot_tuple_getattribute.lookup
  have f4 := PySem.F.slot_tuple_getattribute.bind (.ref a)
  have f5 := am_tuple_getattr_none
  unfold getAttr? getAttrBy? getAttrBy
  repeat (any_goals (first | assumption | exact hT _ | ((with_reducible show wpAny _ _ (call (Value.builtin "tuple.__getattribute__") _ _) _ _ _); refine call_meets PySem.F.slot_tuple_getattribute (hT _) am_entry_tuple_getattribute (PySem.F.args_tuple_getattribute_2 _ _) (meets_getattribute_miss_tuple a xs k sl "keys" _ hmiss hname hsz) ⟨hx, hA, fun h' tk' e hx' => ?_⟩) | wp_step))
  obtain ⟨t', u', he⟩ := hx'.there
  show wpAny _ _ (getattributeRaised _ _ _ _ _ _ _) _ _ _
  unfold getattributeRaised
  repeat (any_goals (first | assumption | wp_step))
  all_goals first | exact h _ _ hx'.keeps | (dsimp only; repeat (any_goals (first | assumption | exact h _ _ hx'.keeps | wp_step)))

/-- the walk over the pairs -/
theorem upd_loopT {R : Result → Shared → Prop} {S I l : Addr} {items : Array Value} {res : Value} (hh : A.handled = none) (hlI : l ≠ I) (hSI : S ≠ I) (hSl : S ≠ l) :
    ∀ (rest : List (Key × Value)) (i : Nat) (acc : List (Key × Value)) (ix : Int) (t : Tok) (s : Shared), items.size = i + rest.length → acc.length + rest.length ≤ sizeLine →
      (∀ (j : Nat) (q : Key × Value), rest[j]? = some q → ∃ (b : Addr) (u : Value), items[i + j]? = some (.ref b) ∧ b ≠ S ∧ b ≠ I ∧ IsTup s.heap b #[u, q.2] ∧ keyIs q.1 u = true) →
      s.heap.IsTupleIter I l i → s.heap.IsTuple l items → s.heap.DictOf (mixKind prog w) S acc →
      (∀ h' tk, h'.DictOf (mixKind prog w) S (merged acc rest) → (∀ b o, b ≠ S → b ≠ I → s.heap.get? b = some o → h'.get? b = some o) → R (.ok (.ret res)) { s with heap := h', toks := tk }) →
      codeAny (model prog w) A (.builtin "dict.update.loop" ⟨[.ref S, .ref I, .int ix t, res], []⟩) R s
  | [], i, acc, ix, t, s, hsz, hln, ht, hit, hl, hm, hR => by
    refine codeAny_builtin ud_entry ?_
    rw [Around.under_plainId ud_plain _]
    show wpAny _ A.in1 (pyNext (.ref I) >>= _) _ _ s
    refine wpAny_bind (wpAny_pyNext_tuple_end (A := A.in1) hh hit hl (by first | exact Array.getElem?_eq_none (Nat.le_of_eq hsz) | (simp at hsz; simp; omega)) fun h' he => ?_)
    show wpAny _ A.in1 (Builtin.Dict.addKeywords S [] >>= _) _ _ _
    refine wpAny_bind (wpAny_pure (wpAny_pure ?_))
    exact hR h' s.toks (hm.extBut he hSI) fun b o _ hb e => he b o hb e
  | q :: rest, i, acc, ix, t, s, hsz, hln, ht, hit, hl, hm, hR => by
    obtain ⟨b, u, hb, hbS, hbI, htup, hk⟩ := ht 0 q rfl
    rw [List.length_cons] at hsz hln
    refine codeAny_builtin ud_entry ?_
    rw [Around.under_plainId ud_plain _]
    show wpAny _ A.in1 (pyNext (.ref I) >>= _) _ _ s
    refine wpAny_bind (wpAny_pyNext_tuple_item (x := .ref b) hit hl (by simpa using hb) fun h1 hit1 hs1 => ?_)
    have ht1 : IsTup h1 b #[u, q.2] := htup.extBut hs1.extBut hbI
    have hl1 : h1.IsTuple l items := hl.extBut hs1.extBut hlI
    have hm1 : h1.DictOf (mixKind prog w) S acc := hm.extBut hs1.extBut hSI
    obtain ⟨o, ho, hc, n, hd⟩ := id ht1
    show wpAny _ A.in1 (holding [Value.ref b] _ >>= _) _ _ _
    refine wpAny_bind (wpAny_holding ?_)
    refine wpAny_bind (wpAny_tryCatch ?_)
    unfold Builtin.Dict.pairItems
    refine wpAny_bind (wpAny_typeOf (T := "tuple") ⟨o, ho, hc⟩ ?_)
    rw [if_pos (by first | decide | rfl | simp)]
    refine wpAny_bind (wpAny_seqItems ho hd (wpAny_pure ?_))
    show wpAny _ A.in1 (holding [u, q.2] (dictSet S u q.2)) _ _ _
    refine wpAny_holding (wpAny_dictSet_pairs (knd := mixKind prog w) (k := q.1) hk hm1 (fun h2 hm2 hs2 => ?_) (by omega))
    refine wpAny_pure ⟨plainId_quiet ud_plain _, upd_loopT (items := items) hh hlI hSI hSl rest (i + 1) (stored acc q.1 q.2) (ix + 1) 0 _ (show items.size = i + 1 + rest.length by omega) ?_ (fun j q' e => ?_) ?_ ?_ hm2 fun h' tk hd' k => ?_⟩
    · have z := stored_length_le acc q.1 q.2
      omega
    · obtain ⟨b', u', hb', hbS', hbI', htup', hk'⟩ := ht (j + 1) q' (by simpa using e)
      refine ⟨b', u', ?_, hbS', hbI', (htup'.extBut hs1.extBut hbI').extBut hs2.extBut hbS', hk'⟩
      rw [show i + 1 + j = i + (j + 1) by omega]
      exact hb'
    · exact hit1.at fun o' e => hs2.extBut I o' (Ne.symm hSI) e
    · exact hl1.extBut hs2.extBut (Ne.symm hSl)
    · exact hR h' tk hd' fun c oc h3 h4 e => k c oc h3 h4 (hs2.extBut c oc h3 (hs1.extBut c oc h4 e))

/-- dict(l) of a tuple of pairs -/
theorem call_dict_pairsT {s : Shared} {l : Addr} {ol : Obj} {items : Array Value} {n : Nat} {prs : List (Key × Value)} {Q : Value → Shared → Prop} (hh : A.handled = none) (hl : s.heap.get? l = some ol) (hc : ol.cls = .type "tuple") (hd : ol.dict = none)
    (hdat : ol.data = .seq items n) (hsz : items.size = prs.length) (hln : prs.length ≤ sizeLine)
    (ht : ∀ (j : Nat) (q : Key × Value), prs[j]? = some q → ∃ (b : Addr) (u : Value), items[j]? = some (.ref b) ∧ IsTup s.heap b #[u, q.2] ∧ keyIs q.1 u = true)
    (h : ∀ h' tk, h'.DictOf (mixKind prog w) s.heap.objs.size (merged [] prs) → (∀ b o, s.heap.get? b = some o → h'.get? b = some o) → Q (.ref s.heap.objs.size) { s with heap := h', toks := tk }) :
    wpAny (model prog w) A (call (.type "dict") [.ref l]) Q E s := by
  refine callType_codes (Q₁ := fun obj s₁ => obj = .ref s.heap.objs.size ∧ s₁ = { s with heap := s.heap.push { cls := .type "dict", data := .dict #[] } }) PySem.F.kt_called_dict (PySem.F.kt_typeCall_dict_1 _) PySem.F.entry_dict_init (kt_code_dict_new _ ⟨rfl, rfl⟩) ?_
  rintro obj s₁ ⟨rfl, rfl⟩
  have hnew : (s.heap.push { cls := .type "dict", data := .dict #[] }).DictOf (mixKind prog w) s.heap.objs.size [] := Heap.DictOf.new s.heap
  have k0 : ∀ b o, s.heap.get? b = some o → (s.heap.push { cls := .type "dict", data := .dict #[] }).get? b = some o := fun b o e => Heap.get?_push_of_some _ e
  refine ⟨hnew.typeIs, PySem.F.args_dict_init_2 _ _, ?_⟩
  unfold Builtin.«dict.__init__»
  refine wpAny_bind ?_
  unfold Builtin.Dict.selfAndRest
  refine wpAny_bind (wpAny_notOrdered_dict hnew.typeIs ?_)
  show wpAny _ _ (pure (s.heap.objs.size, [Value.ref l])) _ _ _
  refine wpAny_pure ?_
  show wpAny _ _ (Builtin.Dict.updateFrom "dict.__init__" s.heap.objs.size (.ref l) [] .none) _ _ _
  unfold Builtin.Dict.updateFrom
  refine wpAny_bind (wpAny_typeOf (T := "tuple") ⟨ol, k0 _ _ hl, hc⟩ ?_)
  rw [if_pos (by first | decide | rfl | simp)]
  refine wpAny_bind (miss_tuple (k0 _ _ hl) hc hdat hd hh fun h1 tk1 hk1 => ?_)
  rw [if_pos (show (none : Option Value).isNone = true from rfl)]
  refine wpAny_bind (wpAny_rule ?_)
  have hl1 : h1.IsTuple l items := ⟨ol, hk1 _ _ (k0 _ _ hl), hc, n, hdat⟩
  have hS1 : s.heap.objs.size < h1.objs.size := by
    have e : (s.heap.push { cls := .type "dict", data := .dict #[] }).get? s.heap.objs.size = some { cls := .type "dict", data := .dict #[] } := Heap.get?_push_size _ rfl
    exact Heap.lt_size (hk1 _ _ e)
  refine wpAny_bind (wpAny_pyIter_tuple hl1 ?_)
  have k2 : ∀ b o, h1.get? b = some o → (h1.push { cls := .type "tuple_iterator", data := .fields #[.ref l, .int 0 0] }).get? b = some o := fun b o e => Heap.get?_push_of_some _ e
  have hlt : l < s.heap.objs.size := Heap.lt_size hl
  have key := upd_loopT (prog := prog) (w := w) (A := A.in1) (R := wants (fun r s₂ => r = .none ∧ Q (.ref s.heap.objs.size) s₂) E) (S := s.heap.objs.size) (I := h1.objs.size) (l := l) (items := items) (res := Value.none) hh
    (Nat.ne_of_lt (Nat.lt_trans hlt hS1)) (Nat.ne_of_lt hS1) (Nat.ne_of_gt hlt) prs 0 [] 0 0
    { s with heap := h1.push { cls := .type "tuple_iterator", data := .fields #[.ref l, .int 0 0] }, toks := tk1 } (by rw [hsz, Nat.zero_add]) (by rw [List.length_nil, Nat.zero_add]; exact hln)
    (fun j q e => by
      obtain ⟨b, u, e1, e2, e3⟩ := ht j q e
      have hb : b < s.heap.objs.size := e2.lt
      exact ⟨b, u, by rw [Nat.zero_add]; exact e1, Nat.ne_of_lt hb, Nat.ne_of_lt (Nat.lt_trans hb hS1), e2.keeps fun c o z => k2 _ _ (hk1 _ _ (k0 _ _ z)), e3⟩)
    ⟨_, Heap.get?_push_size _ rfl, rfl, rfl⟩ (hl1.at fun o e => k2 _ _ e) ((hnew.at fun o e => hk1 _ _ e).at fun o e => k2 _ _ e)
    (fun h' tk hd' k => ⟨rfl, h h' tk hd' fun b o e => k b o (Nat.ne_of_lt (Heap.lt_size e)) (Nat.ne_of_lt (Nat.lt_trans (Heap.lt_size e) hS1)) (k2 _ _ (hk1 _ _ (k0 _ _ e)))⟩)
  first
    | exact wpAny_pure ⟨plainId_quiet ud_plain _, key⟩
    | exact wpAny_bind (wpAny_pure (wpAny_pure ⟨plainId_quiet ud_plain _, key⟩))
end

section
variable {X : Cx}
theorem call_dictT (hcalm : X.calm = true) : CallR X (.type "dict") (fun xs H Q => ∃ (a : Addr) (ps : List Addr) (kvs : List (Key × V)), xs = [.ref a] ∧ TupF H a (ps.map V.ref) ∧ Paired (fun p kv => SqT X.K H p [kV kv.1, kv.2]) ps kvs ∧
    ∀ p, H p = none → Q (.ref p) (upd H p (.dK (mergeK [] kvs)))) := by
  intro pins s sg H xs us Q I r q
  obtain ⟨a, ps, kvs, ex, hq, hp, q⟩ := q
  subst ex
  obtain ⟨u, eu, rx⟩ := vals1 r
  subst eu
  cases rx
  obtain ⟨ob, hq1, hq2⟩ := id hq
  obtain ⟨its, rv, pl, hz⟩ := I.tuple (hq.sq (K := X.K))
  have ei := refs_at rv
  subst ei
  rw [List.length_map] at hz
  obtain ⟨prs, rel, hl, hpr⟩ := pairs_of I hp
  have pl' := pl
  obtain ⟨o, ho, hc, n, hdat⟩ := pl'
  have hd : o.dict = none := by
    have z : s.heap.get? a = some ob := (I.hok a _ hq1).1
    rw [ho] at z; cases z
    exact hq2
  refine call_dict_pairsT (prs := prs) (I.ok.hd hcalm) ho hc hd hdat (by simp [hl]) (by rw [hl]; exact hz) (fun j q' e => ?_) fun h' tk hd' k => ?_
  · obtain ⟨b, u, e1, e2, e3⟩ := hpr j q' e
    exact ⟨b, u, by simp [e1], e2, e3⟩
  · have hm : (s.heap.objs.size == sysModules) = false := beq_eq_false_iff_ne.mpr (Nat.ne_of_gt I.big)
    have hlen : (mergeK [] kvs).length ≤ sizeLine := by
      refine Nat.le_trans (length_mergeK kvs []) ?_
      rw [List.length_nil, Nat.zero_add, rel.length, hl]
      exact hz
    exact ⟨.ref s.heap.objs.size, upd H s.heap.objs.size (.dK (mergeK [] kvs)), I.laid (t' := tk) k (Nat.le_refl _) (show ObjOk X.prog X.w _ _ _ (.dK (mergeK [] kvs)) from ⟨hlen, hm, merged [] prs, KV.merge rel .nil, hd'⟩), rfl, q _ (I.hok.fresh (Nat.le_refl _))⟩
end
/-! ### dict(..) as a new object; of a tuple of pairs -/
def pairD : D → Option (Key × D)
  | .tup [a, b] => (keyOf a).map fun k => (k, b)
  | _ => none
def pairsD : List D → Option (List (Key × D))
  | [] => some []
  | x :: xs => match pairD x, pairsD xs with
    | some p, some ps => some (p :: ps)
    | _, _ => none
def mergeD (kvs more : List (Key × D)) : List (Key × D) := more.foldl (fun acc kv => putD acc kv.1 kv.2) kvs
def dictN : List D → Option D
  | [.dic kvs] => some (.dic kvs)
  | [.tup xs] => (pairsD xs).map fun ps => .dic (mergeD [] ps)
  | _ => none
section
variable {K : PySem.W.Frag} {B : Base} {H : Hp}
theorem pairs_reps (hb : Sm B.hp H) : ∀ {xs : List D} {ps : List (Key × D)} {vs : List V}, pairsD xs = some ps → Reps K B xs vs → ∃ (as : List Addr) (kvs : List (Key × V)), vs = as.map V.ref ∧ Paired (fun p kv => SqT K H p [kV kv.1, kv.2]) as kvs ∧ RepsK K B ps kvs
  | [], ps, vs, e, h => by cases e; cases (show vs = [] from h); exact ⟨[], [], rfl, .nil, rfl⟩
  | x :: xs, ps, vs, e, h => by
    obtain ⟨v, r, rfl, h1, h2⟩ := h
    unfold pairsD at e
    cases e1 : pairD x with
    | none => rw [e1] at e; cases e
    | some p =>
      cases e2 : pairsD xs with
      | none => rw [e1, e2] at e; cases e
      | some ps' =>
        rw [e1, e2] at e
        cases e
        obtain ⟨as, kvs, rfl, g1, g2⟩ := pairs_reps hb e2 h2
        unfold pairD at e1
        split at e1
        · rename_i a b
          obtain ⟨k, h3, rfl⟩ := Option.map_eq_some_iff.mp e1
          obtain ⟨q, us, rfl, h4, h5⟩ := h1
          obtain ⟨u1, r1, rfl, h6, h7⟩ := h5
          obtain ⟨u2, r2, rfl, h8, h9⟩ := h7
          cases (show r2 = [] from h9)
          have ek := key_rep h3 h6
          subst ek
          exact ⟨q :: as, (k, u2) :: kvs, rfl, .cons (same_t hb h4) g1, ⟨u2, kvs, rfl, h8, g2⟩⟩
        · cases e1
theorem repsK_merge : ∀ {ps : List (Key × D)} {kvs : List (Key × V)} {acc : List (Key × D)} {acv : List (Key × V)}, RepsK K B ps kvs → RepsK K B acc acv → RepsK K B (mergeD acc ps) (mergeK acv kvs)
  | [], kvs, acc, acv, h, g => by cases (show kvs = [] from h); exact g
  | (k, x) :: xs, kvs, acc, acv, h, g => by
    obtain ⟨v, r, rfl, h1, h2⟩ := h
    exact repsK_merge (ps := xs) (kvs := r) (acc := putD acc k x) (acv := putK acv k v) h2 (repsK_put k g h1)
end
abbrev rDictN (K : PySem.W.Frag) : List V → Hp → VK → Prop := fun xs H Q => (fun (xs : List V) (H : Hp) (Q : VK) => ∃ (a : Addr) (kvs : List (Key × V)), xs = [.ref a] ∧ Rd H a (.dK kvs) ∧ ∀ p, H p = none → Q (.ref p) (upd H p (.dK kvs))) xs H Q ∨
  (fun (xs : List V) (H : Hp) (Q : VK) => ∃ (a : Addr) (ps : List Addr) (kvs : List (Key × V)), xs = [.ref a] ∧ TupF H a (ps.map V.ref) ∧ Paired (fun p kv => SqT K H p [kV kv.1, kv.2]) ps kvs ∧ ∀ p, H p = none → Q (.ref p) (upd H p (.dK (mergeK [] kvs)))) xs H Q
section
variable {X : Cx} {W : Bool} {E : XS} {a : Expr} {fs : SL Wl} {pos p : Pos}
theorem q_dictN (hc : X.calm = true) (hm : X.mg "dict" = none) (ha : PA X [a] (tL W X.K E fs)) (hg : Gl X "dict" := by rfl) (he : starEach [a] X.env = (false, eval a X.env) :: starEach [] X.env := by rfl) (hpl : (backTo pos (starEach [] X.env)).any (·.1) = false := by rfl) :
    PE X (.Call (.Name "dict" p) [a] [] pos) (tN W X.K E (eBlt dictN fs)) :=
  (pe_callTy (r := rDictN X.K) (call_dictD.or (call_dictT hc)) hg hm bt_dict ha (by decide) (by decide) he hpl).weak fun sg H Q q => by
    refine tG_imp (tN_bind (Rp := RpA X.K) q) fun xs H1 q1 => ?_
    obtain ⟨rh, ds, w1, B1, hb1, he1, r1, px, o1⟩ := q1
    cases hd : dictN ds with
    | none => rw [hd] at o1; exact o1.elim
    | some d =>
      rw [hd] at o1
      unfold dictN at hd
      split at hd
      · obtain ⟨v, r', rfl, h1, h2⟩ := px
        cases (show r' = [] from h2)
        obtain ⟨b, vs, rfl, h3, h4⟩ := h1
        cases hd
        exact .inl ⟨b, vs, rfl, same_rd hb1 h3, fun q hq => OutN.lay hb1 r1 o1 hq (o := .dK vs) h4⟩
      · obtain ⟨v, r', rfl, h1, h2⟩ := px
        cases (show r' = [] from h2)
        obtain ⟨b, vs, rfl, h3, h4⟩ := h1
        obtain ⟨ps, h5, rfl⟩ := Option.map_eq_some_iff.mp hd
        obtain ⟨as, kvs, rfl, g1, g2⟩ := pairs_reps hb1 h5 h4
        exact .inr ⟨b, as, kvs, rfl, tupF_mono hb1 h3, g1, fun q hq => OutN.lay hb1 r1 o1 hq (o := .dK (mergeK [] kvs)) (repsK_merge g2 rfl)⟩
      · cases hd
end
end G
namespace G
open PySem L2 PyProof.Rows PySem.Spec

/-! ### d.get(k, x) -/
def isDic : D → Bool
  | .dic _ => true
  | _ => false
def getD (x y z : D) : Option D := match x, keyOf y with
  | .dic kvs, some k => some ((valK kvs k).getD z)
  | _, _ => none
def eGet {T : Type} (fo fk fd : SE T) : SE T := fun rh w => (fo rh w).bind fun x w1 => if isDic x then (fk rh w1).bind fun y w2 => (fd rh w2).bind fun z w3 => lift (getD x y z) w3 else .fail
section
variable {X : Cx} {W : Bool} {E : XS} {k : Nat} {o e f : Expr} {fo fe ff : SE Wl} {apos cpos : Pos}
theorem q_get (hx : PF X E k) (ho : PE X o (tD W X.K E fo)) (he : PE X e (tD W X.K E fe)) (hf : PE X f (tD W X.K E ff)) (base : attributeBase o "get" X.env (eval o X.env) = eval o X.env := by rfl)
    (few : ((backTo cpos (starEach [e, f] X.env)).all (fun x => !x.1) && (backToKw cpos (keywordEach [] X.env)).all (fun x => x.1.isSome) && decide (([e, f] : List Expr).length + ([] : List Keyword).length + (if ([] : List Keyword).isEmpty then 0 else 1) < 30)) = true := by rfl)
    (line : (apos.endLine == cpos.line) = true := by rfl) (trees : backTo cpos (starEach [e, f] X.env) = [(false, eval e X.env), (false, eval f X.env)] := by rfl) :
    PE X (.Call (.Attribute o "get" apos) [e, f] [] cpos) (tD W X.K E (eGet fo fe ff)) := (pe_dget2 hx.un1 ho he hf ⟨base, few, line, trees⟩).weak fun sg H Q q => by
  refine tG_imp (tG_bind (Rp := RpE X.K) q) fun v H1 q1 => ?_
  obtain ⟨rh, d, w1, B1, hb1, he1, r1, px, o1⟩ := q1
  cases d with
  | dic kvs =>
    have o2 : Out W X.K (E sg) (RpE X.K) B1 H1 Q ((fe rh w1).bind fun y w2 => (ff rh w2).bind fun z w3 => lift (getD (.dic kvs) y z) w3) := o1
    obtain ⟨a, vs, rfl, h1, h2⟩ := px
    refine ⟨a, rfl, .inl ⟨vs, same_rd hb1 h1⟩, rh, w1, B1, hb1, he1, r1, (Out.bind (Rp := RpE X.K) r1 o2).imp fun y H2 q2 => ?_⟩
    obtain ⟨dy, w2, B2, f2, r2, py, o3⟩ := q2
    refine ⟨rh, w2, B2, f2.bh, he1.mono f2.b, r2, (Out.bind (Rp := RpE X.K) r2 o3).imp fun z H3 q3 => ?_⟩
    obtain ⟨dz, w3, B3, f3, r3, pz, o4⟩ := q3
    obtain ⟨d, e1, kk⟩ := out_lift o4
    unfold getD at e1
    split at e1
    · rename_i kvs' ky e2 e3
      cases e2
      cases e1
      have ey := key_rep e3 py
      subst ey
      have h3 := RepsK.mono f3.b _ _ (RepsK.mono f2.b _ _ h2)
      have h4 := same_rd r3.sm (same_rd f3.b.1 (same_rd f2.b.1 h1))
      refine ⟨valV vs ky, .inl ⟨vs, ky, h4, rfl, rfl⟩, ?_⟩
      rcases repsK_val ky h3 with ⟨a1, a2⟩ | ⟨d', v', a1, a2, a3⟩
      · rw [a2]
        rw [a1] at kk
        exact now_ok f3.bh r3 kk pz
      · rw [a2]
        rw [a1] at kk
        exact now_ok f3.bh r3 kk a3
    · cases e1
  | _ => exact o1.elim
end
/-! ### methods of lists and texts -/
def tyB (T : String) : D → Bool
  | .str _ => T == "str"
  | .lst _ => T == "list"
  | _ => false
def eBM {T : Type} (ty : String) (g : D → List D → Option D) (fo : SE T) (fs : SL T) : SE T := fun rh w => (fo rh w).bind fun x w1 => if tyB ty x then (fs rh w1).bind fun xs w2 => lift (g x xs) w2 else .fail
def MtOk (W : Bool) (K : PySem.W.Frag) (r : V → List V → Hp → VK → Prop) (g : D → List D → Option D) : Prop := ∀ (B : Base) (H : Hp) (w : Wl) (x : V) (xs : List V) (p : D) (ds : List D) (d : D) (Q : VK), Sm B.hp H → Ok K w B H → Rep K B p x → Reps K B ds xs → g p ds = some d →
  (∀ v B' H', Fu W B H B' H' → Ok K w B' H' → Rep K B' d v → Q v H') → r x xs H Q
theorem tyB_ok {K : PySem.W.Frag} {B : Base} {H : Hp} {T : String} {d : D} {v : V} (hb : Sm B.hp H) (h : tyB T d = true) (r : Rep K B d v) : tyV K T v H := by
  cases d with
  | str x => cases (show v = .str x from r); exact eq_of_beq h
  | lst xs =>
    obtain ⟨a, vs, rfl, h1, _⟩ := r
    exact .inl ⟨eq_of_beq h, vs, same_l hb h1⟩
  | _ => cases h
section
variable {X : Cx} {W : Bool} {E : XS} {o e : Expr} {es : List Expr} {fo : SE Wl} {fs : SL Wl} {apos cpos : Pos} {name : Str} {T id : String} {r : V → List V → Hp → VK → Prop} {g : D → List D → Option D}
theorem q_bm (pa : PlainAttrs T) (slot : Slot T name id) (hty : typeOf (.builtin id) = pure (.type "method_descriptor")) (hm : MtR X id r) (ok : MtOk W X.K r g) (ho : PE X o (tD W X.K E fo)) (ha : PA X (e :: es) (tL W X.K E fs)) (hbase : attributeBase o name X.env (eval o X.env) = eval o X.env := by rfl)
    (hfew : ((backTo cpos (starEach (e :: es) X.env)).all (fun x => !x.1) && (backToKw cpos (keywordEach [] X.env)).all (fun x => x.1.isSome) && decide ((e :: es).length + ([] : List Keyword).length + (if ([] : List Keyword).isEmpty then 0 else 1) < 30)) = true := by rfl)
    (hline : (apos.endLine == cpos.line) = true := by rfl) (hs : starEach (e :: es) X.env = (false, eval e X.env) :: starEach es X.env := by rfl) (hplain : (backTo cpos (starEach es X.env)).any (·.1) = false := by rfl) :
    PE X (.Call (.Attribute o name apos) (e :: es) [] cpos) (tD W X.K E (eBM T g fo fs)) := (pe_bm pa slot hty hm ho ha hbase hfew hline hs hplain).weak fun sg H Q q => by
  refine tG_imp (tG_bind (Rp := RpE X.K) q) fun v H1 q1 => ?_
  obtain ⟨rh, d, w1, B1, hb1, he1, r1, px, o1⟩ := q1
  cases ht : tyB T d with
  | false => rw [ht] at o1; exact o1.elim
  | true =>
    rw [ht] at o1
    have o2 : Out W X.K (E sg) (RpE X.K) B1 H1 Q ((fs rh w1).bind fun xs w2 => lift (g d xs) w2) := o1
    refine ⟨tyB_ok hb1 ht px, rh, w1, B1, hb1, he1, r1, (Out.bind (Rp := RpA X.K) r1 o2).imp fun ys H2 q2 => ?_⟩
    obtain ⟨ds, w2, B2, f2, r2, py, o3⟩ := q2
    obtain ⟨d2, e1, kk⟩ := out_lift o3
    exact ok B2 H2 w2 v ys d ds d2 Q f2.bh r2 (Rep.mono f2.b _ _ px) py e1 kk
end
def idxV (vs : List V) (y : V) : Option Nat := vs.findIdx? fun z => eqV z y
def indexD (x : D) (ys : List D) : Option D := match x, ys with
  | .lst xs, [y] => match vsOf xs, vOf y with
    | some vs, some v => (idxV vs v).map fun j => .int (j : Nat)
    | _, _ => none
  | _, _ => none
theorem ok_index {W : Bool} {K : PySem.W.Frag} : MtOk W K (rIndex K) indexD := by
  intro B H w x xs p ds d Q hb r px py e k
  unfold indexD at e
  split at e
  · rename_i zs y
    split at e
    · rename_i vs v h1 h2
      obtain ⟨j, e1, rfl⟩ := Option.map_eq_some_iff.mp e
      obtain ⟨a, us, rfl, h3, h4⟩ := px
      obtain ⟨u, r', rfl, h5, h6⟩ := py
      cases (show r' = [] from h6)
      obtain ⟨rfl, f2⟩ := vsOf_reps h1 h4
      obtain ⟨rfl, f1⟩ := vOf_rep h2 h5
      obtain ⟨hlt, q1, q2⟩ := List.findIdx?_eq_some_iff_getElem.mp e1
      refine ⟨a, _, _, j, us[j], rfl, rfl, same_l hb h3, f1, f2, List.getElem?_eq_getElem hlt, q1, fun m z' hm hz => ?_, now_ok hb r k rfl⟩
      obtain ⟨hl2, rfl⟩ := List.getElem?_eq_some_iff.mp hz
      have := q2 m hm
      simpa using this
    · cases e
  · cases e
/-- xs.count(y), flat -/
def rCntV (K : PySem.W.Frag) : V → List V → Hp → VK → Prop := fun x xs H Q => ∃ (p : Addr) (ys : List V) (y : V), x = .ref p ∧ xs = [y] ∧ SqL K H p ys ∧ flatV y = true ∧ ys.all flatV = true ∧ Q (.int ((ys.countP fun z => eqV z y : Nat) : Int)) H
theorem countP_vals {y : V} : ∀ {vs : List V} {us : List Value}, Vals vs us → vs.all flatV = true → us.countP (eqU y) = vs.countP fun z => eqV z y
  | _, _, .nil, _ => rfl
  | _, _, .cons (a := v) (b := u) r t, h => by
    rw [List.all_cons] at h
    obtain ⟨h1, h2⟩ := Bool.and_eq_true_iff.mp h
    rw [List.countP_cons, List.countP_cons, countP_vals t h2, eqU_of r h1]
theorem mt_countV {X : Cx} : MtR X "list.count" (rCntV X.K) := by
  intro pins s sg H x xs v us Q I rx rxs h
  obtain ⟨p, ys, y, rfl, rfl, hs, fy, fys, q⟩ := h
  cases rx
  cases rxs with
  | cons ry rt =>
    rename_i uy ut
    cases rt
    obtain ⟨its, rv, ⟨⟨cls, dd, data, sl⟩, n, ho, hc, hdn, hd⟩, hlen⟩ := I.list hs
    simp only at hc hd
    subst hc hd
    refine call_meets PySem.F.slot_list_count ⟨_, ho, rfl⟩ PySem.F.entry_list_count (PySem.F.args_list_count_2 _ _)
      (SeqAt.list_countAt p its.toArray n dd sl uy (eqU y)) ⟨ho, fun u' hu' => mem_eqAt ry fy rv fys u' (by simpa using hu'), ?_⟩
    have ec : its.toArray.toList.countP (eqU y) = ys.countP fun z => eqV z y := by rw [List.toList_toArray]; exact countP_vals rv fys
    rw [ec]
    exact ⟨.int _, H, I.tok _, ⟨_, rfl⟩, q⟩
def countD (x : D) (ys : List D) : Option D := match x, ys with
  | .lst xs, [y] => match vsOf xs, vOf y with
    | some vs, some v => some (.int ((vs.countP fun z => eqV z v : Nat) : Int))
    | _, _ => none
  | _, _ => none
theorem ok_count {W : Bool} {K : PySem.W.Frag} : MtOk W K (rCntV K) countD := by
  intro B H w x xs p ds d Q hb r px py e k
  unfold countD at e
  split at e
  · rename_i zs y
    split at e
    · rename_i vs v h1 h2
      cases e
      obtain ⟨a, us, rfl, h3, h4⟩ := px
      obtain ⟨u, r', rfl, h5, h6⟩ := py
      cases (show r' = [] from h6)
      obtain ⟨rfl, f2⟩ := vsOf_reps h1 h4
      obtain ⟨rfl, f1⟩ := vOf_rep h2 h5
      exact ⟨a, _, _, rfl, rfl, same_l hb h3, f1, f2, now_ok hb r k rfl⟩
    · cases e
  · cases e
def joinD (x : D) (ys : List D) : Option D := match x, ys with
  | .str a, [.lst xs] => match strsOf xs with
    | some ss => if (ss.map (·.length)).sum + ss.length * a.length ≤ 100000 then some (.str (Txt.join a ss)) else none
    | none => none
  | _, _ => none
abbrev rJoin (K : PySem.W.Frag) : V → List V → Hp → VK → Prop := fun x xs H Q => ∃ a p, ∃ ys : List Str, x = .str a ∧ xs = [.ref p] ∧ (SqL K H p (ys.map V.str) ∨ SqT K H p (ys.map V.str)) ∧ (ys.map (·.length)).sum + ys.length * a.length ≤ 16777216 ∧ Q (.str (Txt.join a ys)) H
theorem ok_join {W : Bool} {K : PySem.W.Frag} : MtOk W K (rJoin K) joinD := by
  intro B H w x xs p ds d Q hb r px py e k
  unfold joinD at e
  split at e
  · rename_i a zs
    split at e
    · rename_i ss h1
      split at e
      · rename_i hl
        cases e
        cases (show x = .str a from px)
        obtain ⟨u, r', rfl, h5, h6⟩ := py
        cases (show r' = [] from h6)
        obtain ⟨b, us, rfl, h3, h4⟩ := h5
        cases strs_reps h1 h4
        exact ⟨a, b, ss, rfl, rfl, .inl (same_l hb h3), by omega, now_ok hb r k rfl⟩
      · cases e
    · cases e
  · cases e
section
variable {X : Cx} {W : Bool} {E : XS} {e : Expr} {fe : SE Wl}
/-- truth of a cell's list -/
theorem t_truC (ha : PE X e (tD W X.K E fe)) (he : ∀ whole, isTrue e X.env whole = (do let v ← whole; standAt e.pos; holding [v] (truthy v)) := by intro _; rfl) : PT X e (tT W X.K E (bTruC fe)) := (pt_truth ha he).weak fun sg H Q q => by
  refine tG_imp (tG_bind (Rp := RpE X.K) q) fun x H1 q1 => ?_
  obtain ⟨rh, d, w1, B1, hb1, he1, r1, px, o1⟩ := q1
  have o2 : Out W X.K (E sg) RpT B1 H1 Q (match cellL d w1 with | some (_, xs) => .ok (!xs.isEmpty) w1 | none => .fail) := o1
  cases hc : cellL d w1 with
  | none => rw [hc] at o2; exact o2.elim
  | some ix =>
    obtain ⟨i, xs⟩ := ix
    rw [hc] at o2
    obtain ⟨rfl, e1, hl⟩ := cellL_some hc
    obtain ⟨a, vs, rfl, h1, h2, h3⟩ := r1.lst px e1
    refine ⟨!xs.isEmpty, .inl ⟨vs, .inl (.inl h2), ?_⟩, Out.now (Rp := RpT) hb1 r1 (show RpT B1 (!xs.isEmpty) (!xs.isEmpty) from rfl) o2⟩
    cases xs with
    | nil => cases (show vs = [] from h3); rfl
    | cons x r => obtain ⟨v, r', rfl, _⟩ := h3; rfl
end
end G
namespace G
open PySem L2 PyProof.Rows PySem.Spec

/-! ### a written dict of the top: get -/
def TabOk (K : PySem.W.Frag) (w : World) (d : Addr) (tab : List (Str × Int)) : Prop := (∃ es n, KDict K w d es n) ∧ ∀ z : Str, ∃ r, PySem.W.nsIn K d z = some r ∧ (match tab.lookup z with | some i => ∃ t, r = some (.int i t) | none => r = none)
def tabD (tab : List (Str × Int)) : D → D → Option D
  | .str k, z => some (match tab.lookup k with | some i => .int i | none => z)
  | _, _ => none
def rTab (tab : List (Str × Int)) : R2 := fun x y H Q => ∃ z, x = .str z ∧ Q (match tab.lookup z with | some i => .int i | none => y) H
theorem ok_tab {W : Bool} {K : PySem.W.Frag} {tab : List (Str × Int)} : OpOk W K (rTab tab) (tabD tab) := by
  intro B H w x y p q d Q hb r px py ed kk
  cases p with
  | str z =>
    cases (show x = .str z from px)
    have e2 : some (match tab.lookup z with | some i => D.int i | none => q) = some d := ed
    refine ⟨z, rfl, ?_⟩
    cases h1 : tab.lookup z with
    | some i => rw [h1] at e2; cases e2; exact now_ok hb r kk rfl
    | none => rw [h1] at e2; cases e2; exact now_ok hb r kk py
  | _ => cases ed
section
variable {X : Cx} {W : Bool} {E : XS} {k : Nat} {e f : Expr} {fe ff : SE Wl} {p apos cpos : Pos} {x : Str} {tab : List (Str × Int)}
theorem q_tab (hm : X.mg x = some (.ref (He.ga X.K x))) (ht : TabOk X.K X.w (He.ga X.K x) tab) (he : PE X e (tD W X.K E fe)) (hf : PE X f (tD W X.K E ff)) (hg : Gl X x := by rfl) (hd : (x == ("__debug__" : Str)) = false := by decide) (base : attributeBase (.Name x p) "get" X.env (eval (.Name x p) X.env) = eval (.Name x p) X.env := by rfl)
    (few : ((backTo cpos (starEach [e, f] X.env)).all (fun x => !x.1) && (backToKw cpos (keywordEach [] X.env)).all (fun x => x.1.isSome) && decide (([e, f] : List Expr).length + ([] : List Keyword).length + (if ([] : List Keyword).isEmpty then 0 else 1) < 30)) = true := by rfl)
    (line : (apos.endLine == cpos.line) = true := by rfl) (trees : backTo cpos (starEach [e, f] X.env) = [(false, eval e X.env), (false, eval f X.env)] := by rfl) :
    PE X (.Call (.Attribute (.Name x p) "get" apos) [e, f] [] cpos) (tD W X.K E (eOp (tabD tab) fe ff)) := by
  obtain ⟨⟨es, n, KD⟩, hn⟩ := ht
  refine ⟨fun pins s sg H Q I h => ?_⟩
  refine wpAny_Call_method base few line PySem.F.plainAttrs_dict PySem.F.slot_dict_get PySem.F.type_dict_get (ld_glob I hg hm ?_ hd)
  have mp := PySem.W.mapOf_K (prog := X.prog) (w := X.w) I.kIn KD.at_ KD.lit
  refine ⟨mp.typeIs, mp.noDict, ?_⟩
  rw [trees]
  have h2 : tOp (rTab tab) (tD W X.K E fe) (tD W X.K E ff) sg H Q := tOp_D ok_tab h
  refine Calls.callWith_builtin rfl (Calls.evalArgs_plain (Calls.spliced_cons (thn (he.run pins s sg H _ I h2) fun iv s2 ⟨y, H2, I2, ry, q2⟩ =>
    Calls.spliced_cons (thn (hf.run pins s2 sg H2 _ I2 q2) fun fv s3 ⟨z, H3, I3, rz, zz, ez, q3⟩ => Calls.spliced_nil ?_))))
  subst ez
  obtain ⟨t, rfl⟩ := ry
  obtain ⟨r, e1, e2⟩ := hn zz
  have mp3 := PySem.W.mapOf_K (prog := X.prog) (w := X.w) I3.kIn KD.at_ KD.lit
  have ef := PySem.W.find_K KD.at_ e1
  refine call_meetsIn PySem.F.slot_dict_get mp3.typeIs PySem.F.entry_dict_get (PySem.F.args_dict_get_3 _ _ _) (meets_dict_get_default (PySem.strKind X.prog X.w) _ (strKind_is X.prog X.w zz t) KD.low fv) ⟨_, mp3, ?_⟩
  rw [ef]
  cases hl : tab.lookup zz with
  | some i =>
    rw [hl] at e2 q3
    obtain ⟨t', rfl⟩ := e2
    exact ⟨.int i, H3, I3.tok _, ⟨t', rfl⟩, q3⟩
  | none =>
    rw [hl] at e2 q3
    subst e2
    exact ⟨z, H3, I3.tok _, rz, q3⟩
end
/-! ### .. from what the head tells -/
theorem find_none {z : Str} {P : Params} : ∀ {l : List DictEntry} {ks : List Str}, l.map He.keyOf = He.keysIn P ks → z ∉ ks → l.find? (·.key.isStr z) = none ∧ l.any (·.refKey) = false
  | [], _, _, _ => ⟨rfl, rfl⟩
  | e :: r, [], h, _ => by cases h
  | e :: r, k :: ks, h, hz => by
    have h1 : He.keyOf e :: r.map He.keyOf = some (k, PyData.keyHash P k) :: He.keysIn P ks := h
    injection h1 with h2 h3
    have hk : k ≠ z := fun q => hz (by simp [q])
    have hks : z ∉ ks := fun q => hz (by simp [q])
    obtain ⟨a1, a2⟩ := find_none h3 hks
    unfold He.keyOf at h2
    split at h2
    · rename_i x t q
      have h4 := Option.some.inj h2
      obtain ⟨h5, h6⟩ := Prod.mk.inj h4
      have hx : e.key.isStr z = false := by
        rw [q]
        show (x == z) = false
        rw [h5]
        exact beq_eq_false_iff_ne.mpr hk
      have hr : e.refKey = false := by unfold DictEntry.refKey; rw [q]
      exact ⟨by rw [List.find?_cons, hx]; exact a1, by rw [List.any_cons, hr, a2]; rfl⟩
    · cases h2
theorem dicW_es {K : PySem.W.Frag} {P : Params} {a : Addr} {ks : List Str} (h : He.dicW K a = some (He.keysIn P ks)) : ∃ oc od es n sl, K.lookup a = some ⟨oc, od, .dict es n, sl⟩ ∧ es.toList.map He.keyOf = He.keysIn P ks := by
  unfold He.dicW at h
  cases q : K.lookup a with
  | none => rw [q] at h; cases h
  | some o =>
    obtain ⟨oc, od, dt, osl⟩ := o
    rw [q] at h
    cases oc with
    | type c =>
      cases od with
      | none =>
        cases dt with
        | dict es n =>
          have h1 : (match decide (c = "dict") && (osl.isEmpty && !(a == sysModules)) with
            | true => some (es.toList.map He.keyOf)
            | false => none) = some (He.keysIn P ks) := h
          split at h1
          · exact ⟨_, _, es, n, _, rfl, Option.some.inj h1⟩
          · cases h1
        | _ => cases h
      | some b => cases dt <;> cases h
    | _ => cases od <;> cases dt <;> cases h
theorem tabOk_of {K : PySem.W.Frag} {w : World} {x : Str} {tab : List (Str × Int)} (h : He.dicW K (He.ga K x) = some (He.keysIn w.params (tab.map (·.1)))) (hv : He.valsB K (He.ga K x) (tab.map fun q => (q.1, He.Dv.int q.2)) = true) : TabOk K w (He.ga K x) tab := by
  refine ⟨He.dicW_ok h, fun z => ?_⟩
  cases hl : tab.lookup z with
  | some i =>
    have hm : (z, i) ∈ tab := by
      have : ∀ l : List (Str × Int), l.lookup z = some i → (z, i) ∈ l := by
        intro l
        induction l with
        | nil => intro h; cases h
        | cons p r ih =>
          intro h
          obtain ⟨a, b⟩ := p
          cases e : z == a with
          | true =>
            rw [List.lookup, e] at h
            cases h
            rw [eq_of_beq e]
            exact List.mem_cons_self
          | false =>
            rw [List.lookup, e] at h
            exact List.mem_cons_of_mem _ (ih h)
      exact this tab hl
    obtain ⟨u, h1, h2⟩ := He.valsB_ok hv (q := (z, He.Dv.int i)) (List.mem_map.mpr ⟨(z, i), hm, rfl⟩)
    obtain ⟨t, rfl⟩ := (show ∃ t, u = Value.int i t from h2)
    exact ⟨_, h1, t, rfl⟩
  | none =>
    have hz : z ∉ tab.map (·.1) := fun q => by
      obtain ⟨p, hp, rfl⟩ := List.mem_map.mp q
      have : ∀ l : List (Str × Int), p ∈ l → l.lookup p.1 ≠ none := by
        intro l
        induction l with
        | nil => intro h; cases h
        | cons c r ih =>
          intro h
          obtain ⟨a, b⟩ := c
          cases e : p.1 == a with
          | true => rw [List.lookup, e]; exact fun z => nomatch z
          | false =>
            rw [List.lookup, e]
            rcases List.mem_cons.mp h with rfl | h
            · simp at e
            · exact ih h
      exact this tab hp hl
    obtain ⟨oc, od, es, n, sl, h1, h2⟩ := dicW_es h
    obtain ⟨a1, a2⟩ := find_none h2 hz
    refine ⟨none, ?_, rfl⟩
    unfold PySem.W.nsIn
    rw [h1]
    show (match es.toList.find? (·.key.isStr z) with | some e => some (some e.val) | none => if es.toList.any (·.refKey) then none else some none) = _
    rw [a1, a2]
    rfl
end G
namespace G
open PySem L2 PyProof.Rows PySem.Spec

/-! ### list + list as a new object -/
def catN (x y : D) : Option D := match x, y with
  | .lst xs, .lst ys => if xs.length + ys.length ≤ 100000 then some (.lst (xs ++ ys)) else none
  | _, _ => none
section
variable {X : Cx} {W : Bool} {E : XS} {a b : Expr} {fa fb : SE Wl} {pos : Pos}
theorem q_catN (ha : PE X a (tD W X.K E fa)) (hb : PE X b (tD W X.K E fb)) : PE X (.BinOp a .Add b pos) (tN W X.K E (eOp catN fa fb)) := (pe_op op_cat ha hb).weak fun sg H Q q => by
  refine tG_imp (tN_bind (Rp := RpE X.K) q) fun x H1 q1 => ?_
  obtain ⟨rh, p, w1, B1, hb1, he1, r1, px, o1⟩ := q1
  refine ⟨rh, w1, B1, hb1, he1, r1, (OutN.bind (Rp := RpE X.K) r1 o1).imp fun y H2 q2 => ?_⟩
  obtain ⟨d2, w2, B2, f2, r2, py, o2⟩ := q2
  cases hc : catN p d2 with
  | none => rw [hc] at o2; exact o2.elim
  | some d =>
    rw [hc] at o2
    unfold catN at hc
    split at hc
    · split at hc
      · rename_i hl
        cases hc
        obtain ⟨a, vs, rfl, h1, h2⟩ := Rep.mono f2.b _ _ px
        obtain ⟨b, ws, rfl, h3, h4⟩ := py
        have l1 := h2.length
        have l2 := h4.length
        exact ⟨a, b, vs, ws, rfl, rfl, r2.sm.get h1 (fun _ z => nomatch z), r2.sm.get h3 (fun _ z => nomatch z), sz5 (by omega), fun q hq => OutN.lay r2.sm r2 o2 hq (o := .lst (vs ++ ws)) (Reps.app h2 h4)⟩
      · cases hc
    · cases hc
end
/-! ### {k: v, ..} -/
theorem fu_hide {W : Bool} {B B2 : Base} {H H2 : Hp} {p : Addr} {o1 : HO} (f : Fu W B (upd H p o1) B2 H2) (hp : H p = none) (hb2 : B2.hp p = none) (hm : p ∉ B.cs) (o2 : HO) : Fu W B H B2 (upd H2 p o2) := by
  have key : ∀ a o, H a = some o → a ≠ p ∧ upd H p o1 a = some o := fun a o e => by
    have ha : a ≠ p := ne_of_none e hp
    exact ⟨ha, by rw [upd_ne ha]; exact e⟩
  have key2 : ∀ a, H a ≠ none → a ≠ p ∧ upd H p o1 a = H a := fun a n => by
    have ha : a ≠ p := fun z => n (by rw [z]; exact hp)
    exact ⟨ha, upd_ne ha⟩
  refine ⟨fun a o e m => ?_, f.b, fun a o e => ?_, fun a e n t m => ?_, fun a n m => ?_, fun e => ⟨(f.pr e).1, fun a h => ?_⟩⟩
  · obtain ⟨ha, e'⟩ := key a o e
    rw [upd_ne ha]; exact f.h a o e' m
  · rw [upd_ne (ne_of_none e hb2)]; exact f.bh a o e
  · obtain ⟨ha, e'⟩ := key2 a n
    exact f.nw a e (by rw [e']; exact n) (by rw [e']; exact t) m
  · obtain ⟨ha, e'⟩ := key2 a n
    exact f.nm a (by rw [e']; exact n) m
  · have ha : a ≠ p := fun z => hm (by rw [← z]; exact h)
    rw [upd_ne ha, (f.pr e).2 a h, upd_ne ha]
def lPairs {T : Type} : List (SE T × SE T) → Env → T → Res T (List (D × D))
  | [], _, w => .ok [] w
  | (fk, fv) :: r, rh, w => (fk rh w).bind fun x w1 => (fv rh w1).bind fun y w2 => (lPairs r rh w2).bind fun ps w3 => .ok ((x, y) :: ps) w3
def keysOfP : List (D × D) → Option (List (Key × D))
  | [] => some []
  | (x, y) :: r => match keyOf x, keysOfP r with
    | some k, some ks => some ((k, y) :: ks)
    | _, _ => none
def eDisp {T : Type} (ps : List (SE T × SE T)) : SE T := fun rh w => (lPairs ps rh w).bind fun kvs w1 => match keysOfP kvs with
  | some ks => if ks.length ≤ 15 then .ok (.dic (mergeD [] ks)) w1 else .fail
  | none => .fail
def RepPs (K : PySem.W.Frag) (B : Base) : List (D × D) → List (V × V) → Prop
  | [], vs => vs = []
  | (x, y) :: r, vs => ∃ u v r', vs = (u, v) :: r' ∧ Rep K B x u ∧ Rep K B y v ∧ RepPs K B r r'
theorem RepPs.mono {K : PySem.W.Frag} {B B' : Base} (e : B.Le B') : ∀ {ps : List (D × D)} {vs : List (V × V)}, RepPs K B ps vs → RepPs K B' ps vs
  | [], vs, h => h
  | (x, y) :: r, vs, h => by
    obtain ⟨u, v, r', e1, h1, h2, h3⟩ := h
    exact ⟨u, v, r', e1, Rep.mono e _ _ h1, Rep.mono e _ _ h2, RepPs.mono e h3⟩
section
variable {W : Bool} {K : PySem.W.Frag} {E : XS}
theorem tPairs_D : ∀ (fs : List (SE Wl × SE Wl)) {sg : L2.St} {H : Hp} {Q : List (V × V) → Hp → Prop}, tG W K E (RepPs K) (lPairs fs) sg H Q → tPairs (fs.map fun f => (tD W K E f.1, tD W K E f.2)) sg H Q
  | [], sg, H, Q, q => by
    obtain ⟨rh, w, B, hb, he, r, o⟩ := q
    exact o [] B H (Fu.refl hb) r rfl
  | (fk, fv) :: r, sg, H, Q, q => by
    refine tG_imp (tG_bind (Rp := RpE K) q) fun x H1 q1 => ?_
    obtain ⟨rh, d, w1, B1, hb1, he1, r1, px, o1⟩ := q1
    refine ⟨rh, w1, B1, hb1, he1, r1, (Out.bind (Rp := RpE K) r1 o1).imp fun y H2 q2 => ?_⟩
    obtain ⟨d2, w2, B2, f2, r2, py, o2⟩ := q2
    refine tPairs_D r ⟨rh, w2, B2, f2.bh, he1.mono f2.b, r2, (Out.bind (Rp := RepPs K) r2 o2).imp fun ps H3 q3 => ?_⟩
    obtain ⟨ds, w3, B3, f3, r3, pps, o3⟩ := q3
    exact o3 ((x, y) :: ps) B3 H3 (Fu.refl f3.bh) r3 ⟨x, y, ps, rfl, Rep.mono f3.b _ _ (Rep.mono f2.b _ _ px), Rep.mono f3.b _ _ py, pps⟩
theorem keysOfP_reps {B : Base} : ∀ {ps : List (D × D)} {ks : List (Key × D)} {vs : List (V × V)}, keysOfP ps = some ks → RepPs K B ps vs → ∃ kvs : List (Key × V), vs = kvs.map (fun kv => (kV kv.1, kv.2)) ∧ RepsK K B ks kvs
  | [], ks, vs, e, h => by cases e; cases (show vs = [] from h); exact ⟨[], rfl, rfl⟩
  | (x, y) :: r, ks, vs, e, h => by
    obtain ⟨u, v, r', rfl, h1, h2, h3⟩ := h
    unfold keysOfP at e
    cases e1 : keyOf x with
    | none => rw [e1] at e; cases e
    | some k =>
      cases e2 : keysOfP r with
      | none => rw [e1, e2] at e; cases e
      | some ks' =>
        rw [e1, e2] at e
        cases e
        obtain ⟨kvs, rfl, g⟩ := keysOfP_reps e2 h3
        have ek := key_rep e1 h1
        subst ek
        exact ⟨(k, v) :: kvs, rfl, ⟨v, kvs, rfl, h2, g⟩⟩
end
section
variable {X : Cx} {W : Bool} {E : XS} {pos : Pos} {keys : List (Option Expr)} {values : List Expr}
theorem q_dispN {fs : List (SE Wl × SE Wl)} (h : PPs X pos keys values (fs.map fun f => (tD W X.K E f.1, tD W X.K E f.2))) (hall : keys.all (·.isSome) = true := by rfl) (hl : keys.length = values.length := by rfl) (h0 : keys ≠ [] := by simp) (h15 : keys.length ≤ 15 := by decide) : PE X (.Dict keys values pos) (tN W X.K E (eDisp fs)) :=
  (pe_disp h hall hl h0 h15).weak fun sg H Q q p hp => by
    obtain ⟨rh, w, B, hb, he, r, o⟩ := q
    have hbp := not_hp hb hp
    have hmp := not_mk r hp
    have r1 := r.mut hbp hmp (.dK [])
    refine tPairs_D fs ⟨rh, w, B, r1.sm, he, r1, ?_⟩
    unfold eDisp at o
    cases hf : lPairs fs rh w with
    | fail => rw [hf] at o; exact o
    | exc c w' =>
      rw [hf] at o
      intro B' H' f' r'
      -- the new dict is left behind
      have hHp : H' p = some (.dK []) := f'.at upd_same hmp hbp
      have hb' : B'.hp p = none := f'.nw p hbp (by rw [upd_same]; exact fun z => nomatch z) (by rw [upd_same]; rfl) hmp
      have f2 := fu_hide f' hp hb' hmp (.dK [])
      have e : upd H' p (.dK []) = H' := by
        funext a
        by_cases ha : a = p
        · subst ha
          rw [upd_same, hHp]
        · rw [upd_ne ha]
      rw [e] at f2
      exact o B' H' f2 r'
    | ok kvs w1 =>
      rw [hf] at o
      intro ps B' H' f' r' pp
      have hHp : H' p = some (.dK []) := f'.at upd_same hmp hbp
      have hn : upd H p (.dK []) p ≠ none := by rw [upd_same]; exact fun z => nomatch z
      have hb' : B'.hp p = none := f'.nw p hbp hn (by rw [upd_same]; rfl) hmp
      have hm' : p ∉ B'.cs := f'.nm p hn hmp
      have o2 : OutN W X.K (E sg) B H Q (match keysOfP kvs with | some ks => if ks.length ≤ 15 then .ok (.dic (mergeD [] ks)) w1 else .fail | none => .fail) := o
      cases hk : keysOfP kvs with
      | none => rw [hk] at o2; exact o2.elim
      | some ks =>
        rw [hk] at o2
        have o3 : OutN W X.K (E sg) B H Q (if ks.length ≤ 15 then .ok (.dic (mergeD [] ks)) w1 else .fail) := o2
        split at o3
        · rename_i hl15
          obtain ⟨kv, rfl, g⟩ := keysOfP_reps hk pp
          refine ⟨hHp, kv, rfl, by rw [g.length]; exact hl15, ?_⟩
          exact o3 p _ B' _ (fu_hide f' hp hb' hmp _) (r'.mut hb' hm' _) hp upd_same (show FreshR X.K B' (.dic (mergeD [] ks)) (.dK (mergeK [] kv)) from repsK_merge g rfl) hb' hm'
        · exact o3.elim
end
/-! ### o[k] = e, one's own dict -/
section
variable {X : Cx} {W : Bool} {E : XK} {k i : Nat} {e y : Expr} {fe fk : SE Wl} {pos p p2 : Pos} {x : Str}
theorem s_put (i : Nat) (us : List Nat) (hx : PF X (cst E) k) (he : PE X e (tD W X.K (cst E) fe)) (hk : PE X y (tD W X.K (cst E) fk)) (hN : X.N[i]? = some x := by rfl) (hv : Vis X.env.scope x := by first | exact Or.inl rfl | exact Or.inr (Or.inl rfl) | exact Or.inr (Or.inr rfl)) (hd : (x == ("__debug__" : Str)) = false := by decide) (hcd : (x == ("__classdict__" : Str)) = false := by decide)
    (ha : ∀ v, assign (.Subscript (.Name x p2) y p) X.env v = (do
      let ov ← holding [v] (eval (.Name x p2) X.env)
      let iv ← holding [v, ov] (eval y X.env)
      standAt p
      holding [v, ov, iv] (setItem ov iv v)
      release [v, ov, iv] []) := by intro _; rfl) (hs : swapsWithSole [.Subscript (.Name x p2) y p] e pos.line X.env = pure false := by rfl) (hw : swappedStores [.Subscript (.Name x p2) y p] e X.env = pure none := by rfl) (h1 : (assignEach [.Subscript (.Name x p2) y p] X.env).map (·.2) = [assign (.Subscript (.Name x p2) y p) X.env] := by rfl) :
    PS X (.Assign [.Subscript (.Name x p2) y p] e pos) (tS W X.K E (sPut i fk fe us)) := (ps_asg he (pg_sub (pv i hN hv hd hcd) hk (set_dict hx.un1) ha) hs hw h1).weak fun _ _ _ q => put_D q
theorem s_putP (i : Nat) (hx : PF X (cst E) k) (he : PE X e (tD true X.K (cst E) fe)) (hk : PE X y (tD true X.K (cst E) fk)) (hN : X.N[i]? = some x := by rfl) (hv : Vis X.env.scope x := by first | exact Or.inl rfl | exact Or.inr (Or.inl rfl) | exact Or.inr (Or.inr rfl)) (hd : (x == ("__debug__" : Str)) = false := by decide) (hcd : (x == ("__classdict__" : Str)) = false := by decide)
    (ha : ∀ v, assign (.Subscript (.Name x p2) y p) X.env v = (do
      let ov ← holding [v] (eval (.Name x p2) X.env)
      let iv ← holding [v, ov] (eval y X.env)
      standAt p
      holding [v, ov, iv] (setItem ov iv v)
      release [v, ov, iv] []) := by intro _; rfl) (hs : swapsWithSole [.Subscript (.Name x p2) y p] e pos.line X.env = pure false := by rfl) (hw : swappedStores [.Subscript (.Name x p2) y p] e X.env = pure none := by rfl) (h1 : (assignEach [.Subscript (.Name x p2) y p] X.env).map (·.2) = [assign (.Subscript (.Name x p2) y p) X.env] := by rfl) :
    PS X (.Assign [.Subscript (.Name x p2) y p] e pos) (tS W X.K E (sPutP i fk fe)) := (ps_asg he (pg_sub (pv i hN hv hd hcd) hk (set_dict hx.un1) ha) hs hw h1).weak fun _ _ _ q => putP_D q
/-- a, b = e (names) -/
theorem s_setT {tgx : Expr} {tg : Tg} {gg : TG} (us : List Nat) (hgo : TgOk W X.K gg tg) (hg : PG X tgx gg) (he : PE X e (tD W X.K (cst E) fe)) (hs : swapsWithSole [tgx] e pos.line X.env = pure false := by rfl) (hw : swappedStores [tgx] e X.env = pure none := by rfl) (h1 : (assignEach [tgx] X.env).map (·.2) = [assign tgx X.env] := by rfl) :
    PS X (.Assign [tgx] e pos) (tS W X.K E (sAsgT tg fe us)) := (ps_asg he hg hs hw h1).weak fun _ _ _ q => asgT_D hgo q
end
end G
namespace G
open PySem L2 PyProof.Rows PySem.Spec

/-! ### o.f, o.g = e -/
def gFld (K : PySem.W.Frag) (ta : TE) (f : Str) : TG := fun v sg H Q => ta sg H fun x H2 => ∃ a C dx fs, x = .ref a ∧ H2 a = some (.ins C dx fs) ∧ Cls K C ∧ NoAttr K C f ∧ fs.length < 1000 ∧ Q sg (upd H2 a (.ins C dx (putF f v fs)))
theorem pg_fldG {X : Cx} {o : Expr} {ta : TE} {f : Str} {pos : Pos} (ho : PE X o ta) : PG X (.Attribute o f pos) (gFld X.K ta f) := by
  refine ⟨fun pins s sg H v u Q I r h => ?_⟩
  rw [PySem.assign_Attribute]
  refine wpAny_bind (wpAny_holding (thn (ho.run pins s sg H _ I h) fun ov s1 ⟨x, H1, I1, r1, a, C, dx, fs, ex, ea, c, n, l, q⟩ => ?_))
  subst ex
  obtain rfl : ov = Value.ref a := r1
  refine wpAny_bind (wpAny_standAt (wpAny_bind (wpAny_holding (setattr_ok I1 ea c n l r fun s2 I2 => ?_))))
  exact wpAny_release ⟨sg, _, I2, q⟩
def twoOf : D → Option (D × D)
  | .tup [a, b] => some (a, b)
  | _ => none
def sSetA2 (cn f g : Str) (i : Nat) (fe : SE Wl) (us : List Nat) : SS Wl := fun rh ow w => if (give ow us).contains i then .fail else fin (fe (wipeE rh (give ow us)) w) fun d w1 => match twoOf d, rh[i]? with
  | some (a, b), some (some x) => (match cellI cn x w1 with
    | some (j, fs) => if (putFD f a fs).length < 1000 then .nx rh (give ow us) ((w1.set j (.ins cn (putFD f a fs))).set j (.ins cn (putFD g b (putFD f a fs)))) else .fail
    | none => .fail)
  | _, _ => .fail
section
variable {X : Cx} {E : XK} {k i : Nat} {e : Expr} {fe : SE Wl} {pos p p1 p2 p3 p4 : Pos} {x cn f g : Str} {kk : Nat}
theorem s_setA2 (i : Nat) (us : List Nat) (hx : PF X (cst E) k) (he : PE X e (tD false X.K (cst E) fe)) (hc : (He.Fa.cls cn).ok X.K = true) (hf : (He.Fa.noat cn f).ok X.K = true) (hg : (He.Fa.noat cn g).ok X.K = true) (hN : X.N[i]? = some x := by rfl) (hv : Vis X.env.scope x := by first | exact Or.inl rfl | exact Or.inr (Or.inl rfl) | exact Or.inr (Or.inr rfl)) (hd : (x == ("__debug__" : Str)) = false := by decide) (hcd : (x == ("__classdict__" : Str)) = false := by decide)
    (hs1 : (assignEach [.Attribute (.Name x p1) f p2, .Attribute (.Name x p3) g p4] X.env).map (·.2) = assign (.Attribute (.Name x p1) f p2) X.env :: (assignEach [.Attribute (.Name x p3) g p4] X.env).map (·.2) := by rfl)
    (hs2 : (assignEach [.Attribute (.Name x p3) g p4] X.env).map (·.2) = assign (.Attribute (.Name x p3) g p4) X.env :: (assignEach [] X.env).map (·.2) := by rfl)
    (hn : (assignEach [.Attribute (.Name x p1) f p2, .Attribute (.Name x p3) g p4] X.env).length = 2 := by rfl) (hst : (assignEach [.Attribute (.Name x p1) f p2, .Attribute (.Name x p3) g p4] X.env).findIdx? (·.1) = none := by rfl)
    (hs : swapsWithSole [.Tuple [.Attribute (.Name x p1) f p2, .Attribute (.Name x p3) g p4] kk p] e pos.line X.env = pure false := by rfl) (hw : swappedStores [.Tuple [.Attribute (.Name x p1) f p2, .Attribute (.Name x p3) g p4] kk p] e X.env = pure none := by rfl)
    (h1 : (assignEach [.Tuple [.Attribute (.Name x p1) f p2, .Attribute (.Name x p3) g p4] kk p] X.env).map (·.2) = [assign (.Tuple [.Attribute (.Name x p1) f p2, .Attribute (.Name x p3) g p4] kk p) X.env] := by rfl) :
    PS X (.Assign [.Tuple [.Attribute (.Name x p1) f p2, .Attribute (.Name x p3) g p4] kk p] e pos) (tS false X.K E (sSetA2 cn f g i fe us)) :=
  (ps_asg he (pg_tup (n := 2) hx.calm (pgs_cons (pg_fldG (pv i hN hv hd hcd)) (pgs_cons (pg_fldG (pv i hN hv hd hcd)) pgs_nil hs2) hs1) hn hst) hs hw h1).weak fun Ds sg H q => by
  obtain ⟨B0, H0, rh, ow, w, ⟨B, s, r⟩, o⟩ := q
  unfold sSetA2 at o
  split at o
  · exact o.elim
  · rename_i hni
    have hni' : i ∉ give ow us := fun z => hni (List.contains_iff_mem.mpr z)
    refine tG_give us s r (fun d w1 e v B' H' s' r' p => ?_) (fun c w1 e B' H' f' r' => ?_) fun e => ?_
    · rw [e] at o
      have o1 : OutS false X.K E B0 H0 Ds (match twoOf d, rh[i]? with
        | some (a, b), some (some x) => (match cellI cn x w1 with
          | some (j, fs) => if (putFD f a fs).length < 1000 then .nx rh (give ow us) ((w1.set j (.ins cn (putFD f a fs))).set j (.ins cn (putFD g b (putFD f a fs)))) else .fail
          | none => .fail)
        | _, _ => .fail) := o
      cases ht : twoOf d with
      | none => rw [ht] at o1; exact o1.elim
      | some ab =>
        obtain ⟨da, db⟩ := ab
        cases hr : rh[i]? with
        | none => rw [ht, hr] at o1; exact o1.elim
        | some ox =>
          cases ox with
          | none => rw [ht, hr] at o1; exact o1.elim
          | some dx =>
            rw [ht, hr] at o1
            have o1b : OutS false X.K E B0 H0 Ds (match cellI cn dx w1 with
              | some (j, fs) => if (putFD f da fs).length < 1000 then .nx rh (give ow us) ((w1.set j (.ins cn (putFD f da fs))).set j (.ins cn (putFD g db (putFD f da fs)))) else .fail
              | none => .fail) := o1
            cases hcc : cellI cn dx w1 with
            | none => rw [hcc] at o1b; exact o1b.elim
            | some ix =>
              obtain ⟨j, gs⟩ := ix
              rw [hcc] at o1b
              have o2 : OutS false X.K E B0 H0 Ds (if (putFD f da gs).length < 1000 then .nx rh (give ow us) ((w1.set j (.ins cn (putFD f da gs))).set j (.ins cn (putFD g db (putFD f da gs)))) else .fail) := o1b
              split at o2
              · rename_i hl2
                unfold twoOf at ht
                split at ht
                · cases ht
                  obtain ⟨q, us', rfl, h3, h4⟩ := p
                  obtain ⟨u1, r1', rfl, h6, h7⟩ := h4
                  obtain ⟨u2, r2', rfl, h8, h9⟩ := h7
                  cases (show r2' = [] from h9)
                  obtain ⟨rfl, e1, hl⟩ := cellI_some hcc
                  obtain ⟨vx, hvx, px⟩ := s'.en.on i (.obj j) (by rw [wipeE_out hni']; exact hr)
                  obtain ⟨a, dx, vs, rfl, g1, g2, g3, g4⟩ := r'.ins px e1
                  obtain ⟨r3, f3⟩ := r'.cell g1 (c := .ins cn (putFD f da gs)) (o := .ins (He.ga X.K cn) dx (putF f u1 vs)) ⟨dx, _, rfl, g3, repsF_put f h6 g4⟩
                  have s3 := s'.later f3
                  have hlt : j < w1.length := (List.getElem?_eq_some_iff.mp e1).1
                  have e3 : (w1.set j (.ins cn (putFD f da gs)))[j]? = some (.ins cn (putFD f da gs)) := List.getElem?_set_self hlt
                  obtain ⟨a', dx', vs', ea, g5, g6, g7, g8⟩ := r3.ins px e3
                  cases ea
                  have hdx : dx' = dx ∧ vs' = putF f u1 vs := by
                    rw [upd_same] at g6
                    cases g6
                    exact ⟨rfl, rfl⟩
                  obtain ⟨rfl, rfl⟩ := hdx
                  obtain ⟨r4, f4⟩ := r3.cell g5 (c := .ins cn (putFD g db (putFD f da gs))) (o := .ins (He.ga X.K cn) dx' (putF g u2 (putF f u1 vs))) ⟨dx', _, rfl, g7, repsF_put g h8 g8⟩
                  refine ⟨q, [u1, u2], rfl, same_t r'.sm h3, rfl, u1, [u2], rfl, ?_⟩
                  refine ⟨.ref a, hvx, a, _, dx', vs, rfl, g2, He.cls_ok hc, He.noat_ok hf, by rw [repsF_len g4]; exact hl, ?_⟩
                  refine ⟨u2, [], rfl, ?_⟩
                  refine ⟨.ref a, hvx, a, _, dx', putF f u1 vs, rfl, upd_same, He.cls_ok hc, He.noat_ok hg, by rw [repsF_len g8]; exact hl2, ?_⟩
                  exact ⟨rfl, o2 sg _ ⟨B', s3.later f4, r4⟩⟩
                · cases ht
              · exact o2.elim
    · rw [e] at o; exact o B' H' f' r'
    · rw [e] at o; exact o
end
end G
namespace G
open PySem L2
theorem len_succ {T : Type} {fs : SL T} {n : Nat} (h : ∀ rh w ds w', fs rh w = .ok ds w' → ds.length = n) : ∀ rh w ds w', fs rh w = .ok ds w' → ds.length + 1 = n + 1 := fun rh w ds w' e => by rw [h rh w ds w' e]
end G
namespace G
open PySem L2 PyProof.Rows PySem.Spec

/-! ### facts of the head: one Bool more -/
def obsB (fa : List He.Fa) (fn : List He.DefD) (ts : List He.Tab) (ex : PySem.W.Frag → Bool) (K : PySem.W.Frag) : He.AlT × Bool := (He.obsT fa fn ts K, ex K)
def obsBG (n : Nat) (fa : List He.Fa) (fn : List He.DefD) (ts : List He.Tab) (ex : PySem.W.Frag → Bool) (g : Addr → Option Obj) : He.AlT × Bool := obsB fa fn ts ex (He.frG g (He.asD g n))
def hookB (n : Nat) (fa : List He.Fa) (fn : List He.DefD) (ts : List He.Tab) (ex : PySem.W.Frag → Bool) : PySem.W.Hook where
  α := He.AlT × Bool
  obs := fun s => obsBG n fa fn ts ex s.heap.get?
  val := fun w => (He.valT fn ts w, true)
  says := fun w h => ∃ K : PySem.W.Frag, K.In h ∧ obsB fa fn ts ex K = (He.valT fn ts w, true)
  of := fun _ _ e => ⟨_, He.frG_in, e⟩
  keeps := fun _ _ _ ⟨K, hK, c⟩ k => ⟨K, PySem.W.Frag.In.keeps hK k, c⟩
theorem obsBG_eq {n : Nat} {fa : List He.Fa} {fn : List He.DefD} {ts : List He.Tab} {ex : PySem.W.Frag → Bool} {g : Addr → Option Obj} {s : Shared} (h : ∀ a, g a = s.heap.get? a) : obsBG n fa fn ts ex g = (hookB n fa fn ts ex).obs s := by
  have e : g = s.heap.get? := funext h
  rw [e] <;> rfl
/-! ### classes of exceptions -/
def excB (K : PySem.W.Frag) (c : Str) : Bool :=
  He.eqO (PySem.W.findIn K (.ref (He.ga K c)) "__getattribute__") (some (some (.builtin "BaseException.__getattribute__"))) && (He.eqO (PySem.W.findIn K (.ref (He.ga K c)) "__getattr__") (some none) && (decide (PySem.W.subIn K (.ref (He.ga K c)) (.type "BaseException") = some true) &&
    (PySem.W.hasDictIn K (He.ga K c) && (He.eqO (PySem.W.findIn K (.ref (He.ga K c)) "__class__") (some (some (.builtin "object.__class__"))) && (He.eqO (PySem.W.specialIn K (.builtin "object.__class__") "__get__") (some (some (.builtin "getset_descriptor.__get__"))) &&
      (decide (PySem.W.takesIn K (.builtin "object.__class__") = some true) && decide (PySem.W.mroIn K (He.ga K c) (.type "object") = some true)))))))
theorem excB_ok {K : PySem.W.Frag} {c : Str} (h : excB K c = true) : ExcC K (He.ga K c) := by
  obtain ⟨h1, h⟩ := He.ba h
  obtain ⟨h2, h⟩ := He.ba h
  obtain ⟨h3, h⟩ := He.ba h
  obtain ⟨h4, h⟩ := He.ba h
  obtain ⟨h5, h⟩ := He.ba h
  obtain ⟨h6, h⟩ := He.ba h
  obtain ⟨h7, h8⟩ := He.ba h
  exact ⟨He.eqO_ok h1, He.eqO_ok h2, of_decide_eq_true h3, h4, He.eqO_ok h5, He.eqO_ok h6, of_decide_eq_true h7, of_decide_eq_true h8⟩
def clsB (K : PySem.W.Frag) (rs xs : List Str) : Bool := rs.all fun c => excB K c && ((xs.all fun x => decide (PySem.W.kitOne K (.ref (He.ga K c)) (.ref (He.ga K x)) = some (decide (c = x)))) && decide (PySem.W.kitOne K (.ref (He.ga K c)) (.type "ValueError") = some true))
def CsOf (rs xs : List Str) : Str → D → Option Bool := fun c d => if rs.contains c then match d with
  | .cls x => if xs.contains x then some (decide (c = x)) else none
  | .ty n => if n = "ValueError" then some true else none
  | _ => none
  else none
theorem clsOk_of {K : PySem.W.Frag} {rs xs : List Str} (h : clsB K rs xs = true) : ClsOk K (CsOf rs xs) := by
  intro c d b e
  unfold CsOf at e
  split at e
  · rename_i hc
    obtain ⟨h1, h2⟩ := He.ba (List.all_eq_true.mp h c (by simpa using hc))
    obtain ⟨h3, h4⟩ := He.ba h2
    refine ⟨excB_ok h1, ?_⟩
    split at e
    · rename_i x
      split at e
      · rename_i hx
        cases e
        exact ⟨of_decide_eq_true (List.all_eq_true.mp h3 x (by simpa using hx)), .inr ⟨x, rfl⟩⟩
      · cases e
    · rename_i n
      split at e
      · rename_i hn
        cases e
        subst hn
        exact ⟨of_decide_eq_true h4, .inl ⟨_, rfl⟩⟩
      · cases e
    · cases e
  · cases e
def exmB (K : PySem.W.Frag) (rs : List Str) (top : Str) : Bool := rs.all fun c => decide (PySem.W.exmOne K (.ref (He.ga K c)) (.ref (He.ga K top)) = some true)
def XsOf (rs : List Str) (top : Str) : Str → Str → Option Bool := fun c cn => if rs.contains c && decide (cn = top) then some true else none
theorem xOk_of {K : PySem.W.Frag} {rs : List Str} {top : Str} (h : exmB K rs top = true) : XOk K (XsOf rs top) := by
  intro c cn b e
  unfold XsOf at e
  split at e
  · rename_i hc
    cases e
    obtain ⟨h1, h2⟩ := He.ba hc
    have := of_decide_eq_true h2
    subst this
    exact of_decide_eq_true (List.all_eq_true.mp h c (by simpa using h1))
  · cases e
end G
namespace G
open PySem L2 PyProof.Rows PySem.Spec
/-! ### the end of a law -/
theorem cx_none {P : Program} {w : World} {outer : List PySem.Env} {H : Hp} {s : Shared} {e : Value} {s' : Shared} (h : L2.CX P w outer H s (fun _ _ _ => False) e s') : False := by
  obtain ⟨_, _, _, _, _, _, _, _, _, _, _, _, z⟩ := h
  exact z
theorem walk_ofW {l : PySem.W.OpenLaw} {n k : Nat} {q : Program} {loose : List Str} {XP : (Str → Option Value) → Heap → Prop} {YP : World → Heap → Prop} {d : DefRec} {x : Str}
    (hn : l.most = some n) (hn2 : n ≤ sizeLine) (hdf : d.params.defaults = []) (hr : Room k callerA)
    (F : ∀ (w : World) (mg : Str → Option Value) (fa : Addr) (h : Heap), YP w h → h.Ns mainGlobals mg → mg d.name = some (.ref fa) →
      ∃ (K : PySem.W.Frag) (fd : FuncData) (sp : Sp), K.In h ∧ (∀ (s : Shared) (u : Value), BindsTo s fd ⟨[u], []⟩ [(x, u)]) ∧
        (∀ (H : Hp) (a : Addr) (ns : List Int), ns.length ≤ n → Only H → SqL K H a (ns.map V.int) → sp [.ref a] H (fun v _ => v = .bl true) fun _ _ _ => False) ∧
        ∀ base : Heap, K.In base → base.Ns mainGlobals mg → FnOk l.prog w K mg base (L2.CX l.prog w) k fa fd [x] sp) :
    PySem.W.WalkO q loose XP YP l.row.toRowW d [] (fun f vs => PySem.call f vs) := by
  refine Att.attach_call hn hdf fun w s₀ s₁ mg mb fa o pm cd doc a vs ns G Y ho hd hcd hmg hobj hints hlen hg => ?_
  obtain ⟨K, fd, sp, KX, hb, hsp, hF⟩ := F w mg fa _ Y G.T.g hmg
  exact law_call KX G.T.g G.T.b G.T.builtins G.T.nolimit hg hobj hints (Nat.le_trans hlen hn2) hr hF hb (fun H hO hS => hsp H a ns hlen hO hS) fun H e s' => cx_none
/-- the law's promise at a script -/
theorem sp_script {K : PySem.W.Frag} {m : List D → Wl → Res Wl D} {ns : List Int} {w' : Wl} (e : m [.scr ns] [] = .ok (.bl true) w') {H : Hp} {a : Addr} (h : SqL K H a (ns.map V.int)) : spD false K 1 m [.ref a] H (fun v _ => v = .bl true) fun _ _ _ => False := by
  refine ⟨[.scr ns], [], ⟨fun b => if b = a then H a else none, []⟩, rfl, ?_, ?_, ⟨.ref a, [], rfl, ⟨a, rfl, ?_⟩, rfl⟩, ?_⟩
  · exact .of fun b o e => by
      have e' : (if b = a then H a else none) = some o := e
      split at e'
      · rename_i hb; rw [hb]; exact e'
      · cases e'
  · refine ⟨.of (fun b o e => ?_), rfl, (fun i c e => ?_), (fun b h => nomatch h), (fun i j b e => ?_)⟩
    rotate_left
    · exact absurd e (by simp)
    · exact absurd e (by simp)
    have e' : (if b = a then H a else none) = some o := e
    split at e'
    · rename_i hb; rw [hb]; exact e'
    · cases e'
  · rcases h with (h | ⟨o, h⟩) | h
    · exact .inl (.inl (by show (if a = a then H a else none) = _; rw [if_pos rfl]; exact h))
    · exact .inl (.inr ⟨o, by show (if a = a then H a else none) = _; rw [if_pos rfl]; exact h⟩)
    · exact .inr h
  · rw [e]
    exact fun v B' H' _ _ p => p
end G
namespace L
open PySem PySem.Spec PyProof.Rows L2 G
def top (i : Nat) : Stmt := PySem.Challenge.pw_gifttables_k42_refused_hands.main.body.getD i (.Pass ⟨0, 0, 0, 0⟩)
def dd_fresh_of : He.DefD := ⟨("fresh_of", none), "fresh_of", "fresh_of", defArgs (top 33), defBody (top 33), defScope (top 33), [], []⟩
def dd_gifts : He.DefD := ⟨("gifts", none), "gifts", "gifts", defArgs (top 27), defBody (top 27), defScope (top 27), [], []⟩
def dd_inner_tables : He.DefD := ⟨("inner_tables", none), "inner_tables", "inner_tables", defArgs (top 28), defBody (top 28), defScope (top 28), [], []⟩
def dd_is_rising : He.DefD := ⟨("is_rising", none), "is_rising", "is_rising", defArgs (top 29), defBody (top 29), defScope (top 29), [], []⟩
def dd_is_whole : He.DefD := ⟨("is_whole", none), "is_whole", "is_whole", defArgs (top 22), defBody (top 22), defScope (top 22), [], []⟩
def dd_is_word : He.DefD := ⟨("is_word", none), "is_word", "is_word", defArgs (top 23), defBody (top 23), defScope (top 23), [], []⟩
def dd_is_gift : He.DefD := ⟨("is_gift", none), "is_gift", "is_gift", defArgs (top 24), defBody (top 24), defScope (top 24), [], []⟩
def dd_is_row : He.DefD := ⟨("is_row", none), "is_row", "is_row", defArgs (top 25), defBody (top 25), defScope (top 25), [], []⟩
def dd_is_table : He.DefD := ⟨("is_table", none), "is_table", "is_table", defArgs (top 26), defBody (top 26), defScope (top 26), [], []⟩
def dd_look_book : He.DefD := ⟨("look_book", none), "look_book", "look_book", defArgs (top 30), defBody (top 30), defScope (top 30), [], []⟩
def dd_fresh : He.DefD := ⟨("fresh", none), "fresh", "fresh", defArgs (top 34), defBody (top 34), defScope (top 34), [], []⟩
def dd_Hand_init : He.DefD := ⟨("Hand", some "__init__"), "__init__", "Hand.__init__", defArgs (inClass (top 42) 0), defBody (inClass (top 42) 0), defScope (inClass (top 42) 0), [], []⟩
def dd_following : He.DefD := ⟨("following", none), "following", "following", defArgs (top 41), defBody (top 41), defScope (top 41), [], []⟩
def dd_Hand_below : He.DefD := ⟨("Hand", some "below"), "below", "Hand.below", defArgs (inClass (top 42) 1), defBody (inClass (top 42) 1), defScope (inClass (top 42) 1), [], []⟩
def dd_heap_with : He.DefD := ⟨("heap_with", none), "heap_with", "heap_with", defArgs (top 37), defBody (top 37), defScope (top 37), [], []⟩
def dd_state_then : He.DefD := ⟨("state_then", none), "state_then", "state_then", defArgs (top 36), defBody (top 36), defScope (top 36), [], []⟩
def dd_weights : He.DefD := ⟨("weights", none), "weights", "weights", defArgs (top 35), defBody (top 35), defScope (top 35), [], []⟩
def dd_Hand_drawn : He.DefD := ⟨("Hand", some "drawn"), "drawn", "Hand.drawn", defArgs (inClass (top 42) 3), defBody (inClass (top 42) 3), defScope (inClass (top 42) 3), [], []⟩
def dd_look_table : He.DefD := ⟨("look_table", none), "look_table", "look_table", defArgs (top 31), defBody (top 31), defScope (top 31), [], []⟩
def dd_Hand_draw : He.DefD := ⟨("Hand", some "draw"), "draw", "Hand.draw", defArgs (inClass (top 42) 2), defBody (inClass (top 42) 2), defScope (inClass (top 42) 2), [], []⟩
def dd_Hand_stands : He.DefD := ⟨("Hand", some "stands"), "stands", "Hand.stands", defArgs (inClass (top 42) 6), defBody (inClass (top 42) 6), defScope (inClass (top 42) 6), [], []⟩
def dd_law_cell : He.DefD := ⟨("_law_cell", none), "_law_cell", "_law_cell", defArgs (top 44), defBody (top 44), defScope (top 44), [], []⟩
def dd_law_mix : He.DefD := ⟨("_law_mix", none), "_law_mix", "_law_mix", defArgs (top 45), defBody (top 45), defScope (top 45), [], []⟩
def dd_law_draw : He.DefD := ⟨("_law_draw", none), "_law_draw", "_law_draw", defArgs (top 46), defBody (top 46), defScope (top 46), [], []⟩
def dd_law_pick : He.DefD := ⟨("_law_pick", none), "_law_pick", "_law_pick", defArgs (top 47), defBody (top 47), defScope (top 47), [], []⟩
def dd_law_gift : He.DefD := ⟨("_law_gift", none), "_law_gift", "_law_gift", defArgs (top 49), defBody (top 49), defScope (top 49), [], []⟩
def dd_law_table : He.DefD := ⟨("_law_table", none), "_law_table", "_law_table", defArgs (top 50), defBody (top 50), defScope (top 50), [], []⟩
def dd_law_book : He.DefD := ⟨("_law_book", none), "_law_book", "_law_book", defArgs (top 51), defBody (top 51), defScope (top 51), [], []⟩
def dd_Hand_back : He.DefD := ⟨("Hand", some "back"), "back", "Hand.back", defArgs (inClass (top 42) 5), defBody (inClass (top 42) 5), defScope (inClass (top 42) 5), [], []⟩
def dd_Hand_many : He.DefD := ⟨("Hand", some "many"), "many", "Hand.many", defArgs (inClass (top 42) 4), defBody (inClass (top 42) 4), defScope (inClass (top 42) 4), [], []⟩
def dd_law_one : He.DefD := ⟨("_law_one", none), "_law_one", "_law_one", defArgs (top 52), defBody (top 52), defScope (top 52), [], []⟩
def dd_law_refusal : He.DefD := ⟨("_law_refusal", none), "_law_refusal", "_law_refusal", defArgs (top 48), defBody (top 48), defScope (top 48), [], []⟩
def dd_law_told : He.DefD := ⟨("_law_told", none), "_law_told", "_law_told", defArgs (top 53), defBody (top 53), defScope (top 53), [], []⟩
def dd_law : He.DefD := ⟨("law", none), "law", "law", defArgs (top 54), defBody (top 54), defScope (top 54), [], []⟩
def fn : List He.DefD := ([dd_fresh_of, dd_gifts, dd_inner_tables, dd_is_rising, dd_is_whole, dd_is_word, dd_is_gift, dd_is_row, dd_is_table, dd_look_book, dd_fresh, dd_Hand_init, dd_following, dd_Hand_below, dd_heap_with, dd_state_then, dd_weights, dd_Hand_drawn, dd_look_table, dd_Hand_draw] : List He.DefD) ++ ([dd_Hand_stands, dd_law_cell, dd_law_mix, dd_law_draw, dd_law_pick, dd_law_gift, dd_law_table, dd_law_book, dd_Hand_back, dd_Hand_many, dd_law_one, dd_law_refusal, dd_law_told, dd_law] : List He.DefD)
def fa : List He.Fa := ([.free "tuple", .glo "gifts", .free "sorted", .glo "inner_tables", .free "all", .free "int", .free "isinstance", .free "bool", .free "str", .free "len", .str "SMALL" "abcdefghijklmnopqrstuvwxyz", .glo "is_word", .int "MOST_MANY" 9, .glo "is_whole", .int "MOST_SEVERAL" 2, .glo "is_gift", .int "MOST_WEIGHT" 20, .glo "SIZES", .int "MOST_ROWS" 4, .glo "is_row"] : List He.Fa) ++ ([.free "sum", .int "MOST_BAG" 12, .int "MOST_SURE" 10, .free "dict", .int "MOST_TABLES" 4, .exc "BadBook", .glo "BadBook", .glo "is_table", .glo "is_rising", .glo "look_book", .glo "fresh_of", .int "ROOM" 2147483647, .exc "BadNumber", .glo "BadNumber", .cls "Hand", .noat "Hand" "book", .noat "Hand" "number", .glo "fresh", .noat "Hand" "state", .noat "Hand" "past"] : List He.Fa) ++ ([.int "BY" 48271, .glo "following", .free "range", .free "list", .glo "weights", .meth "Hand" "below", .glo "state_then", .glo "heap_with", .meth "Hand" "drawn", .exc "NoTable", .glo "NoTable", .glo "look_table", .glo "_law_cell", .glo "_law_mix", .glo "_law_draw", .glo "_law_pick", .glo "_law_gift", .glo "_law_table", .exc "Nothing", .glo "Nothing"] : List He.Fa) ++ ([.meth "Hand" "draw", .mkr "Hand", .glo "Hand", .meth "Hand" "stands", .meth "Hand" "many", .meth "Hand" "back", .glo "BadState", .glo "TooMany", .glo "BadItem", .glo "NotPlain", .glo "BadHeap", .glo "BadText", .free "ValueError", .glo "_law_one", .glo "GiftError", .glo "_law_refusal", .glo "_law_book", .glo "_law_told", .glo "law"] : List He.Fa)
def excR : List Str := ["BadBook", "BadNumber", "NoTable", "Nothing"]
def excA : List Str := ["BadBook", "NoTable", "BadState", "BadItem", "BadNumber", "TooMany", "BadHeap", "NotPlain", "Nothing", "BadText"]
def ts : List He.Tab := [(fun K => He.ga K "SIZES", ["draw", "bag", "sure", "unlike"])]
def exB (K : PySem.W.Frag) : Bool := clsB K excR excA && (exmB K excR "GiftError" && (He.valsB K (He.ga K "SIZES") ([("draw", 2), ("bag", 2), ("sure", 4), ("unlike", 2)].map fun q => (q.1, He.Dv.int q.2))))
def names : List PySem.Str := (["BY", "BadBook", "BadHeap", "BadItem", "BadNumber", "BadState", "BadText", "GiftError", "Hand", "MOST_BAG", "MOST_MANY", "MOST_ROWS", "MOST_SEVERAL", "MOST_SURE", "MOST_TABLES", "MOST_WEIGHT", "NoTable", "NotPlain", "Nothing", "ROOM", "SIZES", "SMALL", "TooMany", "_law_book", "_law_cell"] : List PySem.Str) ++ (["_law_draw", "_law_gift", "_law_mix", "_law_one", "_law_pick", "_law_refusal", "_law_table", "_law_told", "following", "fresh", "fresh_of", "gifts", "heap_with", "inner_tables", "is_gift", "is_rising", "is_row", "is_table", "is_whole", "is_word", "look_book", "look_table", "state_then", "weights"] : List PySem.Str)
abbrev R : PySem.W.OpenRow := PySem.W.OpenLaw.row PySem.Challenge.rw_gifttables_k42_refused_hands
abbrev hk : PySem.W.Hook := hookB 5 fa fn ts exB
def ob (s : PySem.W.SharedT) : He.AlT × Bool := obsBG 5 fa fn ts exB (HandSHeadRun.getT s)
theorem ob_eq (s : PySem.W.SharedT) : ob s = hk.obs s.abs := obsBG_eq (HandSHeadRun.getT_eq s)
theorem run_f (w : World) : HandSHeadRun.RunEq R (PySem.W.view R.prog [54]) hk ob 20000 names (w.withFollow "special-get-raises" false) := by
  intro os
  kernel_rfl
theorem run_t (w : World) : HandSHeadRun.RunEq R (PySem.W.view R.prog [54]) hk ob 20000 names (w.withFollow "special-get-raises" true) := by
  intro os
  kernel_rfl
theorem run (w : World) : HandSHeadRun.RunEq R (PySem.W.view R.prog [54]) hk ob 20000 names w := PySem.W.byRow2 "special-get-raises" run_f run_t w
def CsL : Str → D → Option Bool := CsOf excR excA
def XsL : Str → Str → Option Bool := XsOf excR "GiftError"
structure Fx (w : World) (K : PySem.W.Frag) (mg : Str → Option Value) : Prop where
  cls : ClsOk K CsL
  xok : XOk K XsL
  n_tuple : mg "tuple" = none
  d_fresh_of : ∃ fd, FunD K "fresh_of" "fresh_of" (defArgs (top 33)) (defBody (top 33)) (defScope (top 33)) [] [] (He.ga K "fresh_of") fd
  d_gifts : ∃ fd, FunD K "gifts" "gifts" (defArgs (top 27)) (defBody (top 27)) (defScope (top 27)) [] [] (He.ga K "gifts") fd
  g_gifts : mg "gifts" = some (.ref (He.ga K "gifts"))
  d_inner_tables : ∃ fd, FunD K "inner_tables" "inner_tables" (defArgs (top 28)) (defBody (top 28)) (defScope (top 28)) [] [] (He.ga K "inner_tables") fd
  n_sorted : mg "sorted" = none
  g_inner_tables : mg "inner_tables" = some (.ref (He.ga K "inner_tables"))
  n_all : mg "all" = none
  d_is_rising : ∃ fd, FunD K "is_rising" "is_rising" (defArgs (top 29)) (defBody (top 29)) (defScope (top 29)) [] [] (He.ga K "is_rising") fd
  n_int : mg "int" = none
  n_isinstance : mg "isinstance" = none
  n_bool : mg "bool" = none
  d_is_whole : ∃ fd, FunD K "is_whole" "is_whole" (defArgs (top 22)) (defBody (top 22)) (defScope (top 22)) [] [] (He.ga K "is_whole") fd
  n_str : mg "str" = none
  n_len : mg "len" = none
  c_SMALL : ∃ t, mg "SMALL" = some (.str "abcdefghijklmnopqrstuvwxyz" t)
  d_is_word : ∃ fd, FunD K "is_word" "is_word" (defArgs (top 23)) (defBody (top 23)) (defScope (top 23)) [] [] (He.ga K "is_word") fd
  g_is_word : mg "is_word" = some (.ref (He.ga K "is_word"))
  c_MOST_MANY : ∃ t, mg "MOST_MANY" = some (.int 9 t)
  g_is_whole : mg "is_whole" = some (.ref (He.ga K "is_whole"))
  c_MOST_SEVERAL : ∃ t, mg "MOST_SEVERAL" = some (.int 2 t)
  g_is_gift : mg "is_gift" = some (.ref (He.ga K "is_gift"))
  d_is_gift : ∃ fd, FunD K "is_gift" "is_gift" (defArgs (top 24)) (defBody (top 24)) (defScope (top 24)) [] [] (He.ga K "is_gift") fd
  c_MOST_WEIGHT : ∃ t, mg "MOST_WEIGHT" = some (.int 20 t)
  d_is_row : ∃ fd, FunD K "is_row" "is_row" (defArgs (top 25)) (defBody (top 25)) (defScope (top 25)) [] [] (He.ga K "is_row") fd
  g_SIZES : mg "SIZES" = some (.ref (He.ga K "SIZES"))
  t_SIZES : TabOk K w (He.ga K "SIZES") [("draw", 2), ("bag", 2), ("sure", 4), ("unlike", 2)]
  c_MOST_ROWS : ∃ t, mg "MOST_ROWS" = some (.int 4 t)
  g_is_row : mg "is_row" = some (.ref (He.ga K "is_row"))
  n_sum : mg "sum" = none
  c_MOST_BAG : ∃ t, mg "MOST_BAG" = some (.int 12 t)
  c_MOST_SURE : ∃ t, mg "MOST_SURE" = some (.int 10 t)
  d_is_table : ∃ fd, FunD K "is_table" "is_table" (defArgs (top 26)) (defBody (top 26)) (defScope (top 26)) [] [] (He.ga K "is_table") fd
  n_dict : mg "dict" = none
  c_MOST_TABLES : ∃ t, mg "MOST_TABLES" = some (.int 4 t)
  x_BadBook : (He.Fa.exc "BadBook").ok K = true
  g_BadBook : mg "BadBook" = some (.ref (He.ga K "BadBook"))
  g_is_table : mg "is_table" = some (.ref (He.ga K "is_table"))
  g_is_rising : mg "is_rising" = some (.ref (He.ga K "is_rising"))
  d_look_book : ∃ fd, FunD K "look_book" "look_book" (defArgs (top 30)) (defBody (top 30)) (defScope (top 30)) [] [] (He.ga K "look_book") fd
  g_look_book : mg "look_book" = some (.ref (He.ga K "look_book"))
  g_fresh_of : mg "fresh_of" = some (.ref (He.ga K "fresh_of"))
  d_fresh : ∃ fd, FunD K "fresh" "fresh" (defArgs (top 34)) (defBody (top 34)) (defScope (top 34)) [] [] (He.ga K "fresh") fd
  c_ROOM : ∃ t, mg "ROOM" = some (.int 2147483647 t)
  x_BadNumber : (He.Fa.exc "BadNumber").ok K = true
  g_BadNumber : mg "BadNumber" = some (.ref (He.ga K "BadNumber"))
  cl_Hand : (He.Fa.cls "Hand").ok K = true
  na_Hand_book : (He.Fa.noat "Hand" "book").ok K = true
  na_Hand_number : (He.Fa.noat "Hand" "number").ok K = true
  g_fresh : mg "fresh" = some (.ref (He.ga K "fresh"))
  na_Hand_state : (He.Fa.noat "Hand" "state").ok K = true
  na_Hand_past : (He.Fa.noat "Hand" "past").ok K = true
  d_Hand_init : ∃ fd, FunD K "__init__" "Hand.__init__" (defArgs (inClass (top 42) 0)) (defBody (inClass (top 42) 0)) (defScope (inClass (top 42) 0)) [] [] (He.ma K (He.ga K "Hand") "__init__") fd
  c_BY : ∃ t, mg "BY" = some (.int 48271 t)
  d_following : ∃ fd, FunD K "following" "following" (defArgs (top 41)) (defBody (top 41)) (defScope (top 41)) [] [] (He.ga K "following") fd
  g_following : mg "following" = some (.ref (He.ga K "following"))
  d_Hand_below : ∃ fd, FunD K "below" "Hand.below" (defArgs (inClass (top 42) 1)) (defBody (inClass (top 42) 1)) (defScope (inClass (top 42) 1)) [] [] (He.ma K (He.ga K "Hand") "below") fd
  d_heap_with : ∃ fd, FunD K "heap_with" "heap_with" (defArgs (top 37)) (defBody (top 37)) (defScope (top 37)) [] [] (He.ga K "heap_with") fd
  n_range : mg "range" = none
  d_state_then : ∃ fd, FunD K "state_then" "state_then" (defArgs (top 36)) (defBody (top 36)) (defScope (top 36)) [] [] (He.ga K "state_then") fd
  n_list : mg "list" = none
  d_weights : ∃ fd, FunD K "weights" "weights" (defArgs (top 35)) (defBody (top 35)) (defScope (top 35)) [] [] (He.ga K "weights") fd
  g_weights : mg "weights" = some (.ref (He.ga K "weights"))
  me_Hand_below : (He.Fa.meth "Hand" "below").ok K = true
  g_state_then : mg "state_then" = some (.ref (He.ga K "state_then"))
  g_heap_with : mg "heap_with" = some (.ref (He.ga K "heap_with"))
  me_Hand_drawn : (He.Fa.meth "Hand" "drawn").ok K = true
  d_Hand_drawn : ∃ fd, FunD K "drawn" "Hand.drawn" (defArgs (inClass (top 42) 3)) (defBody (inClass (top 42) 3)) (defScope (inClass (top 42) 3)) [] [] (He.ma K (He.ga K "Hand") "drawn") fd
  x_NoTable : (He.Fa.exc "NoTable").ok K = true
  g_NoTable : mg "NoTable" = some (.ref (He.ga K "NoTable"))
  d_look_table : ∃ fd, FunD K "look_table" "look_table" (defArgs (top 31)) (defBody (top 31)) (defScope (top 31)) [] [] (He.ga K "look_table") fd
  g_look_table : mg "look_table" = some (.ref (He.ga K "look_table"))
  d_Hand_draw : ∃ fd, FunD K "draw" "Hand.draw" (defArgs (inClass (top 42) 2)) (defBody (inClass (top 42) 2)) (defScope (inClass (top 42) 2)) [] [] (He.ma K (He.ga K "Hand") "draw") fd
  d_Hand_stands : ∃ fd, FunD K "stands" "Hand.stands" (defArgs (inClass (top 42) 6)) (defBody (inClass (top 42) 6)) (defScope (inClass (top 42) 6)) [] [] (He.ma K (He.ga K "Hand") "stands") fd
  d_law_cell : ∃ fd, FunD K "_law_cell" "_law_cell" (defArgs (top 44)) (defBody (top 44)) (defScope (top 44)) [] [] (He.ga K "_law_cell") fd
  g_law_cell : mg "_law_cell" = some (.ref (He.ga K "_law_cell"))
  d_law_mix : ∃ fd, FunD K "_law_mix" "_law_mix" (defArgs (top 45)) (defBody (top 45)) (defScope (top 45)) [] [] (He.ga K "_law_mix") fd
  g_law_mix : mg "_law_mix" = some (.ref (He.ga K "_law_mix"))
  d_law_draw : ∃ fd, FunD K "_law_draw" "_law_draw" (defArgs (top 46)) (defBody (top 46)) (defScope (top 46)) [] [] (He.ga K "_law_draw") fd
  g_law_draw : mg "_law_draw" = some (.ref (He.ga K "_law_draw"))
  d_law_pick : ∃ fd, FunD K "_law_pick" "_law_pick" (defArgs (top 47)) (defBody (top 47)) (defScope (top 47)) [] [] (He.ga K "_law_pick") fd
  g_law_pick : mg "_law_pick" = some (.ref (He.ga K "_law_pick"))
  g_law_gift : mg "_law_gift" = some (.ref (He.ga K "_law_gift"))
  d_law_gift : ∃ fd, FunD K "_law_gift" "_law_gift" (defArgs (top 49)) (defBody (top 49)) (defScope (top 49)) [] [] (He.ga K "_law_gift") fd
  d_law_table : ∃ fd, FunD K "_law_table" "_law_table" (defArgs (top 50)) (defBody (top 50)) (defScope (top 50)) [] [] (He.ga K "_law_table") fd
  g_law_table : mg "_law_table" = some (.ref (He.ga K "_law_table"))
  d_law_book : ∃ fd, FunD K "_law_book" "_law_book" (defArgs (top 51)) (defBody (top 51)) (defScope (top 51)) [] [] (He.ga K "_law_book") fd
  x_Nothing : (He.Fa.exc "Nothing").ok K = true
  g_Nothing : mg "Nothing" = some (.ref (He.ga K "Nothing"))
  d_Hand_back : ∃ fd, FunD K "back" "Hand.back" (defArgs (inClass (top 42) 5)) (defBody (inClass (top 42) 5)) (defScope (inClass (top 42) 5)) [] [] (He.ma K (He.ga K "Hand") "back") fd
  me_Hand_draw : (He.Fa.meth "Hand" "draw").ok K = true
  d_Hand_many : ∃ fd, FunD K "many" "Hand.many" (defArgs (inClass (top 42) 4)) (defBody (inClass (top 42) 4)) (defScope (inClass (top 42) 4)) [] [] (He.ma K (He.ga K "Hand") "many") fd
  mk_Hand : (He.Fa.mkr "Hand").ok K = true
  g_Hand : mg "Hand" = some (.ref (He.ga K "Hand"))
  me_Hand_stands : (He.Fa.meth "Hand" "stands").ok K = true
  me_Hand_many : (He.Fa.meth "Hand" "many").ok K = true
  me_Hand_back : (He.Fa.meth "Hand" "back").ok K = true
  d_law_one : ∃ fd, FunD K "_law_one" "_law_one" (defArgs (top 52)) (defBody (top 52)) (defScope (top 52)) [] [] (He.ga K "_law_one") fd
  g_BadState : mg "BadState" = some (.ref (He.ga K "BadState"))
  g_TooMany : mg "TooMany" = some (.ref (He.ga K "TooMany"))
  g_BadItem : mg "BadItem" = some (.ref (He.ga K "BadItem"))
  g_NotPlain : mg "NotPlain" = some (.ref (He.ga K "NotPlain"))
  g_BadHeap : mg "BadHeap" = some (.ref (He.ga K "BadHeap"))
  g_BadText : mg "BadText" = some (.ref (He.ga K "BadText"))
  n_ValueError : mg "ValueError" = none
  d_law_refusal : ∃ fd, FunD K "_law_refusal" "_law_refusal" (defArgs (top 48)) (defBody (top 48)) (defScope (top 48)) [] [] (He.ga K "_law_refusal") fd
  g_law_one : mg "_law_one" = some (.ref (He.ga K "_law_one"))
  g_GiftError : mg "GiftError" = some (.ref (He.ga K "GiftError"))
  g_law_refusal : mg "_law_refusal" = some (.ref (He.ga K "_law_refusal"))
  d_law_told : ∃ fd, FunD K "_law_told" "_law_told" (defArgs (top 53)) (defBody (top 53)) (defScope (top 53)) [] [] (He.ga K "_law_told") fd
  g_law_book : mg "_law_book" = some (.ref (He.ga K "_law_book"))
  g_law_told : mg "_law_told" = some (.ref (He.ga K "_law_told"))
  d_law : ∃ fd, FunD K "law" "law" (defArgs (top 54)) (defBody (top 54)) (defScope (top 54)) [] [] (He.ga K "law") fd
  g_law : mg "law" = some (.ref (He.ga K "law"))
section
variable {P : Program} {w : World} {K : PySem.W.Frag} {mg : Str → Option Value} {base : Heap}
theorem sc_fresh_of : FnScope ["table", "weight", "gift"] ["table"] (defScope (top 33)) := ⟨rfl, rfl, rfl, by decide +kernel, rfl, by decide +kernel, by decide +kernel⟩
def F_fresh_of : SS Wl := (sSeq (sIf (bVal (eOp eqD (eOp ixD (eVar 0) (eCon (.int 0))) (eCon (.str "bag")))) (sSeq (sRet (eBlt tupleD (lCons (eLc (iItems (eOp ixD (eVar 0) (eCon (.int 1)))) (Tg.tp [1, 2]) bYes (eVar 1) [1, 2]) lNil))) sNil) sNil) (sSeq (sRet (eIf (bVal (eOp eqD (eOp ixD (eVar 0) (eCon (.int 0))) (eCon (.str "sure")))) (eCon (.int 0)) (eCon .non))) sNil))
def M_fresh_of : List D → Wl → Res Wl D := fnRun 3 F_fresh_of
theorem ok_fresh_of (fx : Fx w K mg) : FnG P w K mg base true 1 (He.ga K "fresh_of") 1 M_fresh_of := by
  obtain ⟨fd, F⟩ := fx.d_fresh_of
  conv at F => arg 6; whnf
  conv at F => arg 5; whnf
  exact fn_okC F sc_fresh_of (F.bindsN fun _ _ _ _ _ _ us hl => match us, hl with | [_], _ => rfl) fun cdv A outer s H E hx hr => (pss_consD (ps_ifD (t_eq hx (q_ix hx (q_v 0) q_i) q_s) (pss_consD (ps_retD (q_bty call_tupF ok_tuple fx.n_tuple (q_c (peN (pe_lcN hx (tg_tp [1, 2]) (blkOk_by (own := [("weight", 1), ("gift", 2)]) (by kernel_rfl)) (by kernel_rfl) (pi_itemsD (q_ix hx (q_v 0) q_i)) (fun s H C cl fp => (pg_tup (hx.blk s H _ C cl fp).calm (pgs_cons (pg_name (i := 1) (hx.blk s H _ C cl fp).nd rfl (by first | exact Or.inl rfl | exact Or.inr rfl)) (pgs_cons (pg_name (i := 2) (hx.blk s H _ C cl fp).nd rfl (by first | exact Or.inl rfl | exact Or.inr rfl)) pgs_nil)))) (fun s H C cl fp hx' => pts_yesD) (fun s H C cl fp hx' => (q_v 1)) (by intro _; rfl))) pa_nilD) (hv := bt_tuple))) pss_nilD) pss_nilD) (pss_consD (ps_retD (pe_ifD (t_eq hx (q_ix hx (q_v 0) q_i) q_s) q_i q_n)) pss_nilD))
theorem sc_gifts : FnScope ["gift"] ["gift"] (defScope (top 27)) := ⟨rfl, rfl, rfl, by decide +kernel, rfl, by decide +kernel, by decide +kernel⟩
def F_gifts : SS Wl := (sSeq (sRet (eIf (bVal (eOp eqD (eOp ixD (eVar 0) (eCon (.int 0))) (eCon (.str "several")))) (eOp ixD (eVar 0) (eCon (.int 1))) (eTup (lCons (eVar 0) lNil)))) sNil)
def M_gifts : List D → Wl → Res Wl D := fnRun 1 F_gifts
theorem ok_gifts (fx : Fx w K mg) : FnG P w K mg base true 1 (He.ga K "gifts") 1 M_gifts := by
  obtain ⟨fd, F⟩ := fx.d_gifts
  conv at F => arg 6; whnf
  conv at F => arg 5; whnf
  exact fn_okC F sc_gifts (F.bindsN fun _ _ _ _ _ _ us hl => match us, hl with | [_], _ => rfl) fun cdv A outer s H E hx hr => (pss_consD (ps_retD (pe_ifD (t_eq hx (q_ix hx (q_v 0) q_i) q_s) (q_ix hx (q_v 0) q_i) (pe_tupD (q_c (q_v 0) pa_nilD)))) pss_nilD)
theorem sc_inner_tables : FnScope ["table", "found", "weight", "gift", "one"] ["table"] (defScope (top 28)) := ⟨rfl, rfl, rfl, by decide +kernel, rfl, by decide +kernel, by decide +kernel⟩
def F_inner_tables : SS Wl := (sSeq (sNew 1 (eLst lNil) []) (sSeq (sFor (iItems (eOp ixD (eVar 0) (eCon (.int 1)))) [0] (Tg.tp [2, 3]) (sSeq (sExt 1 (eLc (iItems (eCall M_gifts (lCons (eVar 3) lNil))) (Tg.nm 4) (bVal (eOp eqD (eOp ixD (eVar 4) (eCon (.int 0))) (eCon (.str "table")))) (eOp ixD (eVar 4) (eCon (.int 1))) [4]) [3, 4]) sNil)) (sSeq (sRet (eVar 1)) sNil)))
def M_inner_tables : List D → Wl → Res Wl D := fnRun 5 F_inner_tables
theorem ok_inner_tables (fx : Fx w K mg) : FnG P w K mg base true 2 (He.ga K "inner_tables") 1 M_inner_tables := by
  obtain ⟨fd, F⟩ := fx.d_inner_tables
  conv at F => arg 6; whnf
  conv at F => arg 5; whnf
  exact fn_okC F sc_inner_tables (F.bindsN fun _ _ _ _ _ _ us hl => match us, hl with | [_], _ => rfl) fun cdv A outer s H E hx hr => (pss_consD (s_new 1 [] hx (pe_lstN pa_nilD)) (pss_consD (ps_forD [0] (tg_tp [2, 3]) hx.own hx.calm (pi_itemsD (q_ix hx (q_v 0) q_i)) (pg_tup hx.calm (pgs_cons (pg_name (i := 2) hx.nd rfl (by first | exact Or.inl rfl | exact Or.inr rfl)) (pgs_cons (pg_name (i := 3) hx.nd rfl (by first | exact Or.inl rfl | exact Or.inr rfl)) pgs_nil))) (pss_consD (s_ext 1 [3, 4] (peN (pe_lcN hx (tg_nm 4) (blkOk_by (own := [("one", 4)]) (by kernel_rfl)) (by kernel_rfl) (pi_itemsD (q_call (ok_gifts fx).weak (by decide) hx fx.g_gifts (q_c (q_v 3) pa_nilD) (lCons_len lNil_len))) (fun s H C cl fp => (pg_name (i := 4) (hx.blk s H _ C cl fp).nd rfl (by first | exact Or.inl rfl | exact Or.inr rfl))) (fun s H C cl fp hx' => (ptsE (t_eq hx' (q_ix hx' (q_v 4) q_i) q_s))) (fun s H C cl fp hx' => (q_ix hx' (q_v 4) q_i)) (by intro _; rfl)))) pss_nilD) (by intro _; rfl)) (pss_consD (ps_retD (q_v 1)) pss_nilD)))
theorem sc_is_rising : FnScope ["book", "done", "left", "ready", "name", "one"] ["book"] (defScope (top 29)) := ⟨rfl, rfl, rfl, by decide +kernel, rfl, by decide +kernel, by decide +kernel⟩
def F_is_rising : SS Wl := (sSeq (sNew 1 (eLst lNil) []) (sSeq (sAsg 2 (eBlt sortedA (lCons (eUn keysD (eVar 0)) lNil)) [0]) (sSeq (whileD (bTru (eVar 2)) (sSeq (sNewP 3 (eLc (iItems (eVar 2)) (Tg.nm 4) (bTru (eBlt allD (lCons (eLc (iItems (eCall M_inner_tables (lCons (eOp ixD (eVar 0) (eVar 4)) lNil))) (Tg.nm 5) bYes (eOp inD (eVar 5) (eVar 1)) [5]) lNil))) (eVar 4) [4])) (sSeq (sIf (bNot (bTru (eVar 3))) (sSeq (sRet (eCon (.bl false))) sNil) sNil) (sSeq (sExt 1 (eVar 3) [3]) (sSeq (sAsg 2 (eLc (iItems (eVar 2)) (Tg.nm 4) (bVal (eOp notInD (eVar 4) (eVar 3))) (eVar 4) [4]) [2, 3, 4]) sNil)))) 100) (sSeq (sRet (eCon (.bl true))) sNil))))
def M_is_rising : List D → Wl → Res Wl D := fnRun 6 F_is_rising
theorem ok_is_rising (fx : Fx w K mg) : FnG P w K mg base true 3 (He.ga K "is_rising") 1 M_is_rising := by
  obtain ⟨fd, F⟩ := fx.d_is_rising
  conv at F => arg 6; whnf
  conv at F => arg 5; whnf
  exact fn_okC F sc_is_rising (F.bindsN fun _ _ _ _ _ _ us hl => match us, hl with | [_], _ => rfl) fun cdv A outer s H E hx hr => (pss_consD (s_new 1 [] hx (pe_lstN pa_nilD)) (pss_consD (s_set 2 [0] hx (q_blt (call_sortedA hx.calm) ok_sortedA fx.n_sorted (q_c (q_keys (q_v 0)) pa_nilD) (hv := bt_sorted))) (pss_consD (ps_whileD 100 hx.own (bV (q_v 2)) (pss_consD (s_newP 3 hx (pe_lcN hx (tg_nm 4) (blkOk_by (own := [("name", 4)]) (by kernel_rfl)) (by kernel_rfl) (pi_itemsD (q_v 2)) (fun s H C cl fp => (pg_name (i := 4) (hx.blk s H _ C cl fp).nd rfl (by first | exact Or.inl rfl | exact Or.inr rfl))) (fun s H C cl fp hx' => (ptsE (bV (q_blt (cr_all hx'.calm) ok_all fx.n_all (q_c (peN (pe_lcN hx' (tg_nm 5) (blkOk_by (own := [("one", 5)]) (by kernel_rfl)) (by kernel_rfl) (pi_itemsD (q_call (ok_inner_tables fx).weak (by decide) hx' fx.g_inner_tables (q_c (q_ix hx' (q_v 0) (q_v 4)) pa_nilD) (lCons_len lNil_len))) (fun s H C cl fp => (pg_name (i := 5) (hx'.blk s H _ C cl fp).nd rfl (by first | exact Or.inl rfl | exact Or.inr rfl))) (fun s H C cl fp hx'' => pts_yesD) (fun s H C cl fp hx'' => (q_in hx'' (q_v 5) (q_v 1))) (by intro _; rfl))) pa_nilD) (hv := bt_all))))) (fun s H C cl fp hx' => (q_v 4)) (by intro _; rfl))) (pss_consD (ps_ifD (pt_notD (bV (q_v 3))) (pss_consD (ps_retD q_b) pss_nilD) pss_nilD) (pss_consD (s_ext 1 [3] (q_v 3)) (pss_consD (c_set [2, 3, 4] (ps_setLcN (i := 2) hx rfl rfl rfl (tg_nm 4) (blkOk_by (own := [("name", 4)]) (by kernel_rfl)) (by kernel_rfl) (pi_itemsD (q_v 2)) (fun s H C cl fp => (pg_name (i := 4) (hx.blk s H _ C cl fp).nd rfl (by first | exact Or.inl rfl | exact Or.inr rfl))) (fun s H C cl fp hx' => (ptsE (t_nin hx' (q_v 4) (q_v 3)))) (fun s H C cl fp hx' => (q_v 4)) (by intro _; rfl))) pss_nilD))))) (pss_consD (ps_retD q_b) pss_nilD))))
theorem sc_is_whole : FnScope ["thing", "least_one", "most"] ["thing", "least_one", "most"] (defScope (top 22)) := ⟨rfl, rfl, rfl, by decide +kernel, rfl, by decide +kernel, by decide +kernel⟩
def F_is_whole : SS Wl := (sSeq (sRet (eAnd (eBlt (isiD CsL) (lCons (eVar 0) (lCons (eCon (.ty "int")) lNil))) (eAnd (eUn notB (eBlt (isiD CsL) (lCons (eVar 0) (lCons (eCon (.ty "bool")) lNil)))) (eChain leD leD (eVar 1) (eVar 0) (eVar 2))))) sNil)
def M_is_whole : List D → Wl → Res Wl D := fnRun 3 F_is_whole
theorem ok_is_whole (fx : Fx w K mg) : FnG P w K mg base true 1 (He.ga K "is_whole") 3 M_is_whole := by
  obtain ⟨fd, F⟩ := fx.d_is_whole
  conv at F => arg 6; whnf
  conv at F => arg 5; whnf
  exact fn_okC F sc_is_whole (F.bindsN fun _ _ _ _ _ _ us hl => match us, hl with | [_, _, _], _ => rfl) fun cdv A outer s H E hx hr => (pss_consD (ps_retD (pe_andD (q_blt call_isA2 (ok_isi fx.cls) fx.n_isinstance (q_c (q_v 0) (q_c (q_ty fx.n_int (hv := bt_int)) pa_nilD)) (hv := bt_isinstance)) (pe_andD (pe_notD (q_blt call_isA2 (ok_isi fx.cls) fx.n_isinstance (q_c (q_v 0) (q_c (q_ty fx.n_bool (hv := bt_bool)) pa_nilD)) (hv := bt_isinstance))) (pe_one (q_lele (q_v 1) (q_v 0) (q_v 2)))))) pss_nilD)
theorem sc_is_word : FnScope ["thing", "sign"] ["thing"] (defScope (top 23)) := ⟨rfl, rfl, rfl, by decide +kernel, rfl, by decide +kernel, by decide +kernel⟩
def F_is_word : SS Wl := (sSeq (sRet (eAnd (eBlt (isiD CsL) (lCons (eVar 0) (lCons (eCon (.ty "str")) lNil))) (eAnd (eChain leD leD (eCon (.int 1)) (eBlt lenD (lCons (eVar 0) lNil)) (eCon (.int 8))) (eBlt allD (lCons (eLc (iItems (eVar 0)) (Tg.nm 1) bYes (eOp inD (eVar 1) (eCon (.str "abcdefghijklmnopqrstuvwxyz"))) [1]) lNil))))) sNil)
def M_is_word : List D → Wl → Res Wl D := fnRun 2 F_is_word
theorem ok_is_word (fx : Fx w K mg) : FnG P w K mg base true 1 (He.ga K "is_word") 1 M_is_word := by
  obtain ⟨fd, F⟩ := fx.d_is_word
  conv at F => arg 6; whnf
  conv at F => arg 5; whnf
  exact fn_okC F sc_is_word (F.bindsN fun _ _ _ _ _ _ us hl => match us, hl with | [_], _ => rfl) fun cdv A outer s H E hx hr => (pss_consD (ps_retD (pe_andD (q_blt call_isA2 (ok_isi fx.cls) fx.n_isinstance (q_c (q_v 0) (q_c (q_ty fx.n_str (hv := bt_str)) pa_nilD)) (hv := bt_isinstance)) (pe_andD (q_lele q_i (q_blt call_lenA ok_len fx.n_len (q_c (q_v 0) pa_nilD) (hv := bt_len)) q_i) (pe_one (q_blt (cr_all hx.calm) ok_all fx.n_all (q_c (peN (pe_lcN hx (tg_nm 1) (blkOk_by (own := [("sign", 1)]) (by kernel_rfl)) (by kernel_rfl) (pi_itemsD (q_v 0)) (fun s H C cl fp => (pg_name (i := 1) (hx.blk s H _ C cl fp).nd rfl (by first | exact Or.inl rfl | exact Or.inr rfl))) (fun s H C cl fp hx' => pts_yesD) (fun s H C cl fp hx' => (q_in hx' (q_v 1) (q_gs fx.c_SMALL))) (by intro _; rfl))) pa_nilD) (hv := bt_all)))))) pss_nilD)
theorem sc_is_gift : FnScope ["thing", "is_inner", "one"] ["thing", "is_inner"] (defScope (top 24)) := ⟨rfl, rfl, rfl, by decide +kernel, rfl, by decide +kernel, by decide +kernel⟩
def F_is_gift (self : List D → Wl → Res Wl D) : SS Wl := (sSeq (sIf (bOr (bNot (bTru (eBlt (isiD CsL) (lCons (eVar 0) (lCons (eCon (.ty "tuple")) lNil))))) (bVal (eOp eqD (eBlt lenD (lCons (eVar 0) lNil)) (eCon (.int 0))))) (sSeq (sRet (eCon (.bl false))) sNil) sNil) (sSeq (sIf (bVal (eOp eqD (eOp ixD (eVar 0) (eCon (.int 0))) (eCon (.str "none")))) (sSeq (sRet (eOp eqD (eBlt lenD (lCons (eVar 0) lNil)) (eCon (.int 1)))) sNil) sNil) (sSeq (sIf (bVal (eOp eqD (eOp ixD (eVar 0) (eCon (.int 0))) (eCon (.str "item")))) (sSeq (sRet (eAnd (eOp eqD (eBlt lenD (lCons (eVar 0) lNil)) (eCon (.int 3))) (eAnd (eCall M_is_word (lCons (eOp ixD (eVar 0) (eCon (.int 1))) lNil)) (eCall M_is_whole (lCons (eOp ixD (eVar 0) (eCon (.int 2))) (lCons (eCon (.int 1)) (lCons (eCon (.int 9)) lNil))))))) sNil) sNil) (sSeq (sIf (bVal (eOp eqD (eOp ixD (eVar 0) (eCon (.int 0))) (eCon (.str "table")))) (sSeq (sRet (eAnd (eOp eqD (eBlt lenD (lCons (eVar 0) lNil)) (eCon (.int 2))) (eCall M_is_word (lCons (eOp ixD (eVar 0) (eCon (.int 1))) lNil)))) sNil) sNil) (sSeq (sIf (bOr (bVal (eOp neD (eOp ixD (eVar 0) (eCon (.int 0))) (eCon (.str "several")))) (bOr (bVal (eOp neD (eBlt lenD (lCons (eVar 0) lNil)) (eCon (.int 2)))) (bOr (bTru (eVar 1)) (bNot (bTru (eBlt (isiD CsL) (lCons (eOp ixD (eVar 0) (eCon (.int 1))) (lCons (eCon (.ty "tuple")) lNil)))))))) (sSeq (sRet (eCon (.bl false))) sNil) sNil) (sSeq (sRet (eAnd (eChain leD leD (eCon (.int 1)) (eBlt lenD (lCons (eOp ixD (eVar 0) (eCon (.int 1))) lNil)) (eCon (.int 2))) (eBlt allD (lCons (eLc (iItems (eOp ixD (eVar 0) (eCon (.int 1)))) (Tg.nm 2) bYes (eCall self (lCons (eVar 2) (lCons (eCon (.bl true)) lNil))) [2]) lNil)))) sNil))))))
def M_is_gift : Nat → List D → Wl → Res Wl D
  | 0 => fun _ _ => .fail
  | n + 1 => fnRun 3 (F_is_gift (M_is_gift n))
theorem ok_is_gift (fx : Fx w K mg) : ∀ n : Nat, FnG P w K mg base true (1 + n) (He.ga K "is_gift") 2 (M_is_gift n)
  | 0 => by
    obtain ⟨fd, F⟩ := fx.d_is_gift
    exact fn_ok0 (ps := ["thing", "is_inner"]) F (F.bindsN fun _ _ _ _ _ _ us hl => match us, hl with | [_, _], _ => rfl)
  | n + 1 => by
    obtain ⟨fd, F⟩ := fx.d_is_gift
    conv at F => arg 6; whnf
    conv at F => arg 5; whnf
    have ih := ok_is_gift fx n
    exact fn_okC F sc_is_gift (F.bindsN fun _ _ _ _ _ _ us hl => match us, hl with | [_, _], _ => rfl) fun cdv A outer s H E hx hr => (pss_consD (ps_ifD (PW.pt (pw_orD (pt_notD (bV (q_blt call_isA2 (ok_isi fx.cls) fx.n_isinstance (q_c (q_v 0) (q_c (q_ty fx.n_tuple (hv := bt_tuple)) pa_nilD)) (hv := bt_isinstance)))) (t_or1 (t_eq hx (q_blt call_lenA ok_len fx.n_len (q_c (q_v 0) pa_nilD) (hv := bt_len)) q_i)))) (pss_consD (ps_retD q_b) pss_nilD) pss_nilD) (pss_consD (ps_ifD (t_eq hx (q_ix hx (q_v 0) q_i) q_s) (pss_consD (ps_retD (q_eq hx (q_blt call_lenA ok_len fx.n_len (q_c (q_v 0) pa_nilD) (hv := bt_len)) q_i)) pss_nilD) pss_nilD) (pss_consD (ps_ifD (t_eq hx (q_ix hx (q_v 0) q_i) q_s) (pss_consD (ps_retD (pe_andD (q_eq hx (q_blt call_lenA ok_len fx.n_len (q_c (q_v 0) pa_nilD) (hv := bt_len)) q_i) (pe_andD (q_call (ok_is_word fx).weak (Nat.le_add_right_of_le (by decide)) hx fx.g_is_word (q_c (q_ix hx (q_v 0) q_i) pa_nilD) (lCons_len lNil_len)) (pe_one (q_call (ok_is_whole fx).weak (Nat.le_add_right_of_le (by decide)) hx fx.g_is_whole (q_c (q_ix hx (q_v 0) q_i) (q_c q_i (q_c (q_gi fx.c_MOST_MANY) pa_nilD))) (lCons_len (lCons_len (lCons_len lNil_len)))))))) pss_nilD) pss_nilD) (pss_consD (ps_ifD (t_eq hx (q_ix hx (q_v 0) q_i) q_s) (pss_consD (ps_retD (pe_andD (q_eq hx (q_blt call_lenA ok_len fx.n_len (q_c (q_v 0) pa_nilD) (hv := bt_len)) q_i) (pe_one (q_call (ok_is_word fx).weak (Nat.le_add_right_of_le (by decide)) hx fx.g_is_word (q_c (q_ix hx (q_v 0) q_i) pa_nilD) (lCons_len lNil_len))))) pss_nilD) pss_nilD) (pss_consD (ps_ifD (PW.pt (pw_orD (t_ne hx (q_ix hx (q_v 0) q_i) q_s) (pw_orD (t_ne hx (q_blt call_lenA ok_len fx.n_len (q_c (q_v 0) pa_nilD) (hv := bt_len)) q_i) (pw_orD (bV (q_v 1)) (t_or1 (pt_notD (bV (q_blt call_isA2 (ok_isi fx.cls) fx.n_isinstance (q_c (q_ix hx (q_v 0) q_i) (q_c (q_ty fx.n_tuple (hv := bt_tuple)) pa_nilD)) (hv := bt_isinstance))))))))) (pss_consD (ps_retD q_b) pss_nilD) pss_nilD) (pss_consD (ps_retD (pe_andD (q_lele q_i (q_blt call_lenA ok_len fx.n_len (q_c (q_ix hx (q_v 0) q_i) pa_nilD) (hv := bt_len)) (q_gi fx.c_MOST_SEVERAL)) (pe_one (q_blt (cr_all hx.calm) ok_all fx.n_all (q_c (peN (pe_lcN hx (tg_nm 2) (blkOk_by (own := [("one", 2)]) (by kernel_rfl)) (by kernel_rfl) (pi_itemsD (q_ix hx (q_v 0) q_i)) (fun s H C cl fp => (pg_name (i := 2) (hx.blk s H _ C cl fp).nd rfl (by first | exact Or.inl rfl | exact Or.inr rfl))) (fun s H C cl fp hx' => pts_yesD) (fun s H C cl fp hx' => (q_call ih.weak (Nat.le_refl _) hx' fx.g_is_gift (q_c (q_v 2) (q_c q_b pa_nilD)) (lCons_len (lCons_len lNil_len)))) (by intro _; rfl))) pa_nilD) (hv := bt_all))))) pss_nilD))))))
theorem sc_is_row : FnScope ["thing"] ["thing"] (defScope (top 25)) := ⟨rfl, rfl, rfl, by decide +kernel, rfl, by decide +kernel, by decide +kernel⟩
def F_is_row : SS Wl := (sSeq (sIf (bOr (bNot (bTru (eBlt (isiD CsL) (lCons (eVar 0) (lCons (eCon (.ty "tuple")) lNil))))) (bVal (eOp neD (eBlt lenD (lCons (eVar 0) lNil)) (eCon (.int 2))))) (sSeq (sRet (eCon (.bl false))) sNil) sNil) (sSeq (sRet (eAnd (eCall M_is_whole (lCons (eOp ixD (eVar 0) (eCon (.int 0))) (lCons (eCon (.int 1)) (lCons (eCon (.int 20)) lNil)))) (eCall (M_is_gift 3) (lCons (eOp ixD (eVar 0) (eCon (.int 1))) (lCons (eCon (.bl false)) lNil))))) sNil))
def M_is_row : List D → Wl → Res Wl D := fnRun 1 F_is_row
theorem ok_is_row (fx : Fx w K mg) : FnG P w K mg base true 5 (He.ga K "is_row") 1 M_is_row := by
  obtain ⟨fd, F⟩ := fx.d_is_row
  conv at F => arg 6; whnf
  conv at F => arg 5; whnf
  exact fn_okC F sc_is_row (F.bindsN fun _ _ _ _ _ _ us hl => match us, hl with | [_], _ => rfl) fun cdv A outer s H E hx hr => (pss_consD (ps_ifD (PW.pt (pw_orD (pt_notD (bV (q_blt call_isA2 (ok_isi fx.cls) fx.n_isinstance (q_c (q_v 0) (q_c (q_ty fx.n_tuple (hv := bt_tuple)) pa_nilD)) (hv := bt_isinstance)))) (t_or1 (t_ne hx (q_blt call_lenA ok_len fx.n_len (q_c (q_v 0) pa_nilD) (hv := bt_len)) q_i)))) (pss_consD (ps_retD q_b) pss_nilD) pss_nilD) (pss_consD (ps_retD (pe_andD (q_call (ok_is_whole fx).weak (by decide) hx fx.g_is_whole (q_c (q_ix hx (q_v 0) q_i) (q_c q_i (q_c (q_gi fx.c_MOST_WEIGHT) pa_nilD))) (lCons_len (lCons_len (lCons_len lNil_len)))) (pe_one (q_call (ok_is_gift fx 3).weak (by decide) hx fx.g_is_gift (q_c (q_ix hx (q_v 0) q_i) (q_c q_b pa_nilD)) (lCons_len (lCons_len lNil_len)))))) pss_nilD))
theorem sc_is_table : FnScope ["thing", "row"] ["thing"] (defScope (top 26)) := ⟨rfl, rfl, rfl, by decide +kernel, rfl, by decide +kernel, by decide +kernel⟩
def F_is_table : SS Wl := (sSeq (sIf (bOr (bNot (bTru (eBlt (isiD CsL) (lCons (eVar 0) (lCons (eCon (.ty "tuple")) lNil))))) (bOr (bVal (eOp ltD (eBlt lenD (lCons (eVar 0) lNil)) (eCon (.int 2)))) (bNot (bTru (eBlt (isiD CsL) (lCons (eOp ixD (eVar 0) (eCon (.int 0))) (lCons (eCon (.ty "str")) lNil))))))) (sSeq (sRet (eCon (.bl false))) sNil) sNil) (sSeq (sIf (bOr (bVal (eOp neD (eOp (tabD [("draw", 2), ("bag", 2), ("sure", 4), ("unlike", 2)]) (eOp ixD (eVar 0) (eCon (.int 0))) (eCon (.int 0))) (eBlt lenD (lCons (eVar 0) lNil)))) (bNot (bTru (eBlt (isiD CsL) (lCons (eOp ixD (eVar 0) (eCon (.int 1))) (lCons (eCon (.ty "tuple")) lNil)))))) (sSeq (sRet (eCon (.bl false))) sNil) sNil) (sSeq (sIf (bOr (bNot (bVal (eChain leD leD (eCon (.int 1)) (eBlt lenD (lCons (eOp ixD (eVar 0) (eCon (.int 1))) lNil)) (eCon (.int 4))))) (bNot (bTru (eBlt allD (lCons (eLc (iItems (eOp ixD (eVar 0) (eCon (.int 1)))) (Tg.nm 1) bYes (eCall M_is_row (lCons (eVar 1) lNil)) [1]) lNil))))) (sSeq (sRet (eCon (.bl false))) sNil) sNil) (sSeq (sIf (bVal (eOp eqD (eOp ixD (eVar 0) (eCon (.int 0))) (eCon (.str "bag")))) (sSeq (sRet (eOp leD (eBlt sumD (lCons (eLc (iItems (eOp ixD (eVar 0) (eCon (.int 1)))) (Tg.nm 1) bYes (eOp ixD (eVar 1) (eCon (.int 0))) [1]) lNil)) (eCon (.int 12)))) sNil) sNil) (sSeq (sIf (bVal (eOp eqD (eOp ixD (eVar 0) (eCon (.int 0))) (eCon (.str "unlike")))) (sSeq (sRet (eOp geD (eBlt lenD (lCons (eOp ixD (eVar 0) (eCon (.int 1))) lNil)) (eCon (.int 2)))) sNil) sNil) (sSeq (sRet (eOr (eOp eqD (eOp ixD (eVar 0) (eCon (.int 0))) (eCon (.str "draw"))) (eAnd (eCall M_is_whole (lCons (eOp ixD (eVar 0) (eCon (.int 2))) (lCons (eCon (.int 0)) (lCons (eOp subD (eBlt lenD (lCons (eOp ixD (eVar 0) (eCon (.int 1))) lNil)) (eCon (.int 1))) lNil)))) (eCall M_is_whole (lCons (eOp ixD (eVar 0) (eCon (.int 3))) (lCons (eCon (.int 1)) (lCons (eCon (.int 10)) lNil))))))) sNil))))))
def M_is_table : List D → Wl → Res Wl D := fnRun 2 F_is_table
theorem ok_is_table (fx : Fx w K mg) : FnG P w K mg base true 6 (He.ga K "is_table") 1 M_is_table := by
  obtain ⟨fd, F⟩ := fx.d_is_table
  conv at F => arg 6; whnf
  conv at F => arg 5; whnf
  exact fn_okC F sc_is_table (F.bindsN fun _ _ _ _ _ _ us hl => match us, hl with | [_], _ => rfl) fun cdv A outer s H E hx hr => (pss_consD (ps_ifD (PW.pt (pw_orD (pt_notD (bV (q_blt call_isA2 (ok_isi fx.cls) fx.n_isinstance (q_c (q_v 0) (q_c (q_ty fx.n_tuple (hv := bt_tuple)) pa_nilD)) (hv := bt_isinstance)))) (pw_orD (t_lt (q_blt call_lenA ok_len fx.n_len (q_c (q_v 0) pa_nilD) (hv := bt_len)) q_i) (t_or1 (pt_notD (bV (q_blt call_isA2 (ok_isi fx.cls) fx.n_isinstance (q_c (q_ix hx (q_v 0) q_i) (q_c (q_ty fx.n_str (hv := bt_str)) pa_nilD)) (hv := bt_isinstance)))))))) (pss_consD (ps_retD q_b) pss_nilD) pss_nilD) (pss_consD (ps_ifD (PW.pt (pw_orD (t_ne hx (q_tab fx.g_SIZES fx.t_SIZES (q_ix hx (q_v 0) q_i) q_i) (q_blt call_lenA ok_len fx.n_len (q_c (q_v 0) pa_nilD) (hv := bt_len))) (t_or1 (pt_notD (bV (q_blt call_isA2 (ok_isi fx.cls) fx.n_isinstance (q_c (q_ix hx (q_v 0) q_i) (q_c (q_ty fx.n_tuple (hv := bt_tuple)) pa_nilD)) (hv := bt_isinstance))))))) (pss_consD (ps_retD q_b) pss_nilD) pss_nilD) (pss_consD (ps_ifD (PW.pt (pw_orD (pt_notD (t_lele q_i (q_blt call_lenA ok_len fx.n_len (q_c (q_ix hx (q_v 0) q_i) pa_nilD) (hv := bt_len)) (q_gi fx.c_MOST_ROWS))) (t_or1 (pt_notD (bV (q_blt (cr_all hx.calm) ok_all fx.n_all (q_c (peN (pe_lcN hx (tg_nm 1) (blkOk_by (own := [("row", 1)]) (by kernel_rfl)) (by kernel_rfl) (pi_itemsD (q_ix hx (q_v 0) q_i)) (fun s H C cl fp => (pg_name (i := 1) (hx.blk s H _ C cl fp).nd rfl (by first | exact Or.inl rfl | exact Or.inr rfl))) (fun s H C cl fp hx' => pts_yesD) (fun s H C cl fp hx' => (q_call (ok_is_row fx).weak (by decide) hx' fx.g_is_row (q_c (q_v 1) pa_nilD) (lCons_len lNil_len))) (by intro _; rfl))) pa_nilD) (hv := bt_all))))))) (pss_consD (ps_retD q_b) pss_nilD) pss_nilD) (pss_consD (ps_ifD (t_eq hx (q_ix hx (q_v 0) q_i) q_s) (pss_consD (ps_retD (q_le (q_blt (cr_sumA hx.calm) ok_sum fx.n_sum (q_c (peN (pe_lcN hx (tg_nm 1) (blkOk_by (own := [("row", 1)]) (by kernel_rfl)) (by kernel_rfl) (pi_itemsD (q_ix hx (q_v 0) q_i)) (fun s H C cl fp => (pg_name (i := 1) (hx.blk s H _ C cl fp).nd rfl (by first | exact Or.inl rfl | exact Or.inr rfl))) (fun s H C cl fp hx' => pts_yesD) (fun s H C cl fp hx' => (q_ix hx' (q_v 1) q_i)) (by intro _; rfl))) pa_nilD) (hv := bt_sum)) (q_gi fx.c_MOST_BAG))) pss_nilD) pss_nilD) (pss_consD (ps_ifD (t_eq hx (q_ix hx (q_v 0) q_i) q_s) (pss_consD (ps_retD (q_ge (q_blt call_lenA ok_len fx.n_len (q_c (q_ix hx (q_v 0) q_i) pa_nilD) (hv := bt_len)) q_i)) pss_nilD) pss_nilD) (pss_consD (ps_retD (pe_orD (q_eq hx (q_ix hx (q_v 0) q_i) q_s) (pe_one (pe_andD (q_call (ok_is_whole fx).weak (by decide) hx fx.g_is_whole (q_c (q_ix hx (q_v 0) q_i) (q_c q_i (q_c (q_sub (q_blt call_lenA ok_len fx.n_len (q_c (q_ix hx (q_v 0) q_i) pa_nilD) (hv := bt_len)) q_i) pa_nilD))) (lCons_len (lCons_len (lCons_len lNil_len)))) (pe_one (q_call (ok_is_whole fx).weak (by decide) hx fx.g_is_whole (q_c (q_ix hx (q_v 0) q_i) (q_c q_i (q_c (q_gi fx.c_MOST_SURE) pa_nilD))) (lCons_len (lCons_len (lCons_len lNil_len))))))))) pss_nilD))))))
theorem sc_look_book : FnScope ["book", "name", "one"] ["book"] (defScope (top 30)) := ⟨rfl, rfl, rfl, by decide +kernel, rfl, by decide +kernel, by decide +kernel⟩
def F_look_book : SS Wl := (sSeq (sIf (bOr (bNot (bTru (eBlt (isiD CsL) (lCons (eVar 0) (lCons (eCon (.ty "dict")) lNil))))) (bNot (bVal (eChain leD leD (eCon (.int 1)) (eBlt lenD (lCons (eVar 0) lNil)) (eCon (.int 4)))))) (sSeq (sRaise "BadBook") sNil) sNil) (sSeq (sFor (iKeys (eVar 0)) [0] (Tg.nm 1) (sSeq (sIf (bOr (bNot (bTru (eCall M_is_word (lCons (eVar 1) lNil)))) (bNot (bTru (eCall M_is_table (lCons (eOp ixD (eVar 0) (eVar 1)) lNil))))) (sSeq (sRaise "BadBook") sNil) sNil) sNil)) (sSeq (sFor (iKeys (eVar 0)) [0] (Tg.nm 1) (sSeq (sIf (bNot (bTru (eBlt allD (lCons (eLc (iItems (eCall M_inner_tables (lCons (eOp ixD (eVar 0) (eVar 1)) lNil))) (Tg.nm 2) bYes (eOp inD (eVar 2) (eVar 0)) [2]) lNil)))) (sSeq (sRaise "BadBook") sNil) sNil) sNil)) (sSeq (sIf (bNot (bTru (eCall M_is_rising (lCons (eVar 0) lNil)))) (sSeq (sRaise "BadBook") sNil) sNil) sNil))))
def M_look_book : List D → Wl → Res Wl D := fnRun 3 F_look_book
theorem ok_look_book (fx : Fx w K mg) : FnG P w K mg base false 7 (He.ga K "look_book") 1 M_look_book := by
  obtain ⟨fd, F⟩ := fx.d_look_book
  conv at F => arg 6; whnf
  conv at F => arg 5; whnf
  exact fn_okC F sc_look_book (F.bindsN fun _ _ _ _ _ _ us hl => match us, hl with | [_], _ => rfl) fun cdv A outer s H E hx hr => (pss_consD (ps_ifD (PW.pt (pw_orD (pt_notD (bV (q_blt call_isA2 (ok_isi fx.cls) fx.n_isinstance (q_c (q_v 0) (q_c (q_ty fx.n_dict (hv := bt_dict)) pa_nilD)) (hv := bt_isinstance)))) (t_or1 (pt_notD (t_lele q_i (q_blt call_lenA ok_len fx.n_len (q_c (q_v 0) pa_nilD) (hv := bt_len)) (q_gi fx.c_MOST_TABLES)))))) (pss_consD (ps_raiseX hx hr fx.g_BadBook fx.x_BadBook) pss_nilD) pss_nilD) (pss_consD (ps_forD [0] (tg_nm 1) hx.own hx.calm (q_ikeys (q_v 0)) (pg_name (i := 1) hx.nd rfl (by first | exact Or.inl rfl | exact Or.inr rfl)) (pss_consD (ps_ifD (PW.pt (pw_orD (pt_notD (bV (q_call (ok_is_word fx).weak (by decide) hx fx.g_is_word (q_c (q_v 1) pa_nilD) (lCons_len lNil_len)))) (t_or1 (pt_notD (bV (q_call (ok_is_table fx).weak (by decide) hx fx.g_is_table (q_c (q_ix hx (q_v 0) (q_v 1)) pa_nilD) (lCons_len lNil_len))))))) (pss_consD (ps_raiseX hx hr fx.g_BadBook fx.x_BadBook) pss_nilD) pss_nilD) pss_nilD) (by intro _; rfl)) (pss_consD (ps_forD [0] (tg_nm 1) hx.own hx.calm (q_ikeys (q_v 0)) (pg_name (i := 1) hx.nd rfl (by first | exact Or.inl rfl | exact Or.inr rfl)) (pss_consD (ps_ifD (pt_notD (bV (q_blt (cr_all hx.calm) ok_all fx.n_all (q_c (peN (pe_lcN hx (tg_nm 2) (blkOk_by (own := [("one", 2)]) (by kernel_rfl)) (by kernel_rfl) (pi_itemsD (q_call (ok_inner_tables fx).weak (by decide) hx fx.g_inner_tables (q_c (q_ix hx (q_v 0) (q_v 1)) pa_nilD) (lCons_len lNil_len))) (fun s H C cl fp => (pg_name (i := 2) (hx.blk s H _ C cl fp).nd rfl (by first | exact Or.inl rfl | exact Or.inr rfl))) (fun s H C cl fp hx' => pts_yesD) (fun s H C cl fp hx' => (q_in hx' (q_v 2) (q_v 0))) (by intro _; rfl))) pa_nilD) (hv := bt_all)))) (pss_consD (ps_raiseX hx hr fx.g_BadBook fx.x_BadBook) pss_nilD) pss_nilD) pss_nilD) (by intro _; rfl)) (pss_consD (ps_ifD (pt_notD (bV (q_call (ok_is_rising fx).weak (by decide) hx fx.g_is_rising (q_c (q_v 0) pa_nilD) (lCons_len lNil_len)))) (pss_consD (ps_raiseX hx hr fx.g_BadBook fx.x_BadBook) pss_nilD) pss_nilD) pss_nilD))))
theorem sc_fresh : FnScope ["book", "name"] ["book"] (defScope (top 34)) := ⟨rfl, rfl, rfl, by decide +kernel, rfl, by decide +kernel, by decide +kernel⟩
def F_fresh : SS Wl := (sSeq (sExpr (eCall M_look_book (lCons (eVar 0) lNil)) [0]) (sSeq (sRet (eBlt tupleD (lCons (eLc (iItems (eBlt sortedA (lCons (eUn keysD (eVar 0)) lNil))) (Tg.nm 1) bYes (eCall M_fresh_of (lCons (eOp ixD (eVar 0) (eVar 1)) lNil)) [1]) lNil))) sNil))
def M_fresh : List D → Wl → Res Wl D := fnRun 2 F_fresh
theorem ok_fresh (fx : Fx w K mg) : FnG P w K mg base false 8 (He.ga K "fresh") 1 M_fresh := by
  obtain ⟨fd, F⟩ := fx.d_fresh
  conv at F => arg 6; whnf
  conv at F => arg 5; whnf
  exact fn_okC F sc_fresh (F.bindsN fun _ _ _ _ _ _ us hl => match us, hl with | [_], _ => rfl) fun cdv A outer s H E hx hr => (pss_consD (ps_exprD [0] (q_call (ok_look_book fx) (by decide) hx fx.g_look_book (q_c (q_v 0) pa_nilD) (lCons_len lNil_len)) rfl) (pss_consD (ps_retD (q_bty call_tupF ok_tuple fx.n_tuple (q_c (peN (pe_lcN hx (tg_nm 1) (blkOk_by (own := [("name", 1)]) (by kernel_rfl)) (by kernel_rfl) (pi_itemsD (q_blt (call_sortedA hx.calm) ok_sortedA fx.n_sorted (q_c (q_keys (q_v 0)) pa_nilD) (hv := bt_sorted))) (fun s H C cl fp => (pg_name (i := 1) (hx.blk s H _ C cl fp).nd rfl (by first | exact Or.inl rfl | exact Or.inr rfl))) (fun s H C cl fp hx' => pts_yesD) (fun s H C cl fp hx' => (q_call (ok_fresh_of fx).weak (by decide) hx' fx.g_fresh_of (q_c (q_ix hx' (q_v 0) (q_v 1)) pa_nilD) (lCons_len lNil_len))) (by intro _; rfl))) pa_nilD) (hv := bt_tuple))) pss_nilD))
theorem sc_Hand_init : FnScope ["self", "book", "seed"] ["self", "book", "seed"] (defScope (inClass (top 42) 0)) := ⟨rfl, rfl, rfl, by decide +kernel, rfl, by decide +kernel, by decide +kernel⟩
def F_Hand_init : SS Wl := (sSeq (sExpr (eCall M_look_book (lCons (eVar 1) lNil)) [1]) (sSeq (sIf (bNot (bTru (eCall M_is_whole (lCons (eVar 2) (lCons (eCon (.int 1)) (lCons (eOp subD (eCon (.int 2147483647)) (eCon (.int 1))) lNil)))))) (sSeq (sRaise "BadNumber") sNil) sNil) (sSeq (sSetA "Hand" "book" (eVar 0) (eBlt dictN (lCons (eVar 1) lNil)) [1]) (sSeq (sSetA "Hand" "number" (eVar 0) (eVar 2) [2]) (sSeq (sSetA "Hand" "state" (eVar 0) (eCall M_fresh (lCons (eVar 1) lNil)) [1]) (sSeq (sSetA "Hand" "past" (eVar 0) (eCellN (eLst lNil)) []) sNil))))))
def M_Hand_init : List D → Wl → Res Wl D := fnRun 3 F_Hand_init
theorem ok_Hand_init (fx : Fx w K mg) : FnG P w K mg base false 9 (He.ma K (He.ga K "Hand") "__init__") 3 M_Hand_init := by
  obtain ⟨fd, F⟩ := fx.d_Hand_init
  conv at F => arg 6; whnf
  conv at F => arg 5; whnf
  exact fn_okC F sc_Hand_init (F.bindsN fun _ _ _ _ _ _ us hl => match us, hl with | [_, _, _], _ => rfl) fun cdv A outer s H E hx hr => (pss_consD (ps_exprD [1] (q_call (ok_look_book fx) (by decide) hx fx.g_look_book (q_c (q_v 1) pa_nilD) (lCons_len lNil_len)) rfl) (pss_consD (ps_ifD (pt_notD (bV (q_call (ok_is_whole fx).weak (by decide) hx fx.g_is_whole (q_c (q_v 2) (q_c q_i (q_c (q_sub (q_gi fx.c_ROOM) q_i) pa_nilD))) (lCons_len (lCons_len (lCons_len lNil_len)))))) (pss_consD (ps_raiseX hx hr fx.g_BadNumber fx.x_BadNumber) pss_nilD) pss_nilD) (pss_consD (s_setA [1] (q_v 0) (peN (q_dictN hx.calm fx.n_dict (q_c (q_v 1) pa_nilD))) fx.cl_Hand fx.na_Hand_book) (pss_consD (s_setA [2] (q_v 0) (q_v 2) fx.cl_Hand fx.na_Hand_number) (pss_consD (s_setA [1] (q_v 0) (q_call (ok_fresh fx) (by decide) hx fx.g_fresh (q_c (q_v 1) pa_nilD) (lCons_len lNil_len)) fx.cl_Hand fx.na_Hand_state) (pss_consD (s_setA [] (q_v 0) (peC (pe_lstN pa_nilD)) fx.cl_Hand fx.na_Hand_past) pss_nilD))))))
theorem sc_following : FnScope ["number"] ["number"] (defScope (top 41)) := ⟨rfl, rfl, rfl, by decide +kernel, rfl, by decide +kernel, by decide +kernel⟩
def F_following : SS Wl := (sSeq (sRet (eOp modD (eOp mulD (eVar 0) (eCon (.int 48271))) (eCon (.int 2147483647)))) sNil)
def M_following : List D → Wl → Res Wl D := fnRun 1 F_following
theorem ok_following (fx : Fx w K mg) : FnG P w K mg base true 1 (He.ga K "following") 1 M_following := by
  obtain ⟨fd, F⟩ := fx.d_following
  conv at F => arg 6; whnf
  conv at F => arg 5; whnf
  exact fn_okC F sc_following (F.bindsN fun _ _ _ _ _ _ us hl => match us, hl with | [_], _ => rfl) fun cdv A outer s H E hx hr => (pss_consD (ps_retD (q_mod (q_mul (q_v 0) (q_gi fx.c_BY)) (q_gi fx.c_ROOM))) pss_nilD)
theorem sc_Hand_below : FnScope ["self", "many"] ["self", "many"] (defScope (inClass (top 42) 1)) := ⟨rfl, rfl, rfl, by decide +kernel, rfl, by decide +kernel, by decide +kernel⟩
def F_Hand_below : SS Wl := (sSeq (sSetA "Hand" "number" (eVar 0) (eCall M_following (lCons (eAtt "Hand" "number" (eVar 0)) lNil)) [0]) (sSeq (whileD (bVal (eOp geD (eOp subD (eAtt "Hand" "number" (eVar 0)) (eCon (.int 1))) (eOp mulD (eOp fdivD (eOp subD (eCon (.int 2147483647)) (eCon (.int 1))) (eVar 1)) (eVar 1)))) (sSeq (sSetA "Hand" "number" (eVar 0) (eCall M_following (lCons (eAtt "Hand" "number" (eVar 0)) lNil)) [0]) sNil) 100) (sSeq (sRet (eOp modD (eOp subD (eAtt "Hand" "number" (eVar 0)) (eCon (.int 1))) (eVar 1))) sNil)))
def M_Hand_below : List D → Wl → Res Wl D := fnRun 2 F_Hand_below
theorem ok_Hand_below (fx : Fx w K mg) : FnG P w K mg base false 2 (He.ma K (He.ga K "Hand") "below") 2 M_Hand_below := by
  obtain ⟨fd, F⟩ := fx.d_Hand_below
  conv at F => arg 6; whnf
  conv at F => arg 5; whnf
  exact fn_okC F sc_Hand_below (F.bindsN fun _ _ _ _ _ _ us hl => match us, hl with | [_, _], _ => rfl) fun cdv A outer s H E hx hr => (pss_consD (s_setA [0] (q_v 0) (q_call (ok_following fx).weak (by decide) hx fx.g_following (q_c (q_att (q_v 0) fx.cl_Hand fx.na_Hand_number) pa_nilD) (lCons_len lNil_len)) fx.cl_Hand fx.na_Hand_number) (pss_consD (ps_whileD 100 hx.own (t_ge (q_sub (q_att (q_v 0) fx.cl_Hand fx.na_Hand_number) q_i) (q_mul (q_fdiv (q_sub (q_gi fx.c_ROOM) q_i) (q_v 1)) (q_v 1))) (pss_consD (s_setA [0] (q_v 0) (q_call (ok_following fx).weak (by decide) hx fx.g_following (q_c (q_att (q_v 0) fx.cl_Hand fx.na_Hand_number) pa_nilD) (lCons_len lNil_len)) fx.cl_Hand fx.na_Hand_number) pss_nilD)) (pss_consD (ps_retD (q_mod (q_sub (q_att (q_v 0) fx.cl_Hand fx.na_Hand_number) q_i) (q_v 1))) pss_nilD)))
theorem sc_heap_with : FnScope ["heap", "word", "many", "found", "one"] ["heap", "word", "many"] (defScope (top 37)) := ⟨rfl, rfl, rfl, by decide +kernel, rfl, by decide +kernel, by decide +kernel⟩
def F_heap_with : SS Wl := (sSeq (sNew 3 (eBlt dictN (lCons (eVar 0) lNil)) [0]) (sSeq (sPutP 3 (eVar 1) (eOp addD (eGet (eVar 3) (eVar 1) (eCon (.int 0))) (eVar 2))) (sSeq (sRet (eBlt tupleD (lCons (eLc (iItems (eBlt sortedA (lCons (eUn keysD (eVar 3)) lNil))) (Tg.nm 4) bYes (eTup (lCons (eVar 4) (lCons (eOp ixD (eVar 3) (eVar 4)) lNil))) [4]) lNil))) sNil)))
def M_heap_with : List D → Wl → Res Wl D := fnRun 5 F_heap_with
theorem ok_heap_with (fx : Fx w K mg) : FnG P w K mg base true 1 (He.ga K "heap_with") 3 M_heap_with := by
  obtain ⟨fd, F⟩ := fx.d_heap_with
  conv at F => arg 6; whnf
  conv at F => arg 5; whnf
  exact fn_okC F sc_heap_with (F.bindsN fun _ _ _ _ _ _ us hl => match us, hl with | [_, _, _], _ => rfl) fun cdv A outer s H E hx hr => (pss_consD (s_new 3 [0] hx (q_dictN hx.calm fx.n_dict (q_c (q_v 0) pa_nilD))) (pss_consD (s_putP 3 hx (q_add (q_get hx (q_v 3) (q_v 1) q_i) (q_v 2)) (q_v 1)) (pss_consD (ps_retD (q_bty call_tupF ok_tuple fx.n_tuple (q_c (peN (pe_lcN hx (tg_nm 4) (blkOk_by (own := [("one", 4)]) (by kernel_rfl)) (by kernel_rfl) (pi_itemsD (q_blt (call_sortedA hx.calm) ok_sortedA fx.n_sorted (q_c (q_keys (q_v 3)) pa_nilD) (hv := bt_sorted))) (fun s H C cl fp => (pg_name (i := 4) (hx.blk s H _ C cl fp).nd rfl (by first | exact Or.inl rfl | exact Or.inr rfl))) (fun s H C cl fp hx' => pts_yesD) (fun s H C cl fp hx' => (pe_tupD (q_c (q_v 4) (q_c (q_ix hx' (q_v 3) (q_v 4)) pa_nilD)))) (by intro _; rfl))) pa_nilD) (hv := bt_tuple))) pss_nilD)))
theorem sc_state_then : FnScope ["table", "state", "place", "left", "k"] ["table", "state", "place"] (defScope (top 36)) := ⟨rfl, rfl, rfl, by decide +kernel, rfl, by decide +kernel, by decide +kernel⟩
def F_state_then : SS Wl := (sSeq (sIf (bVal (eOp eqD (eOp ixD (eVar 0) (eCon (.int 0))) (eCon (.str "bag")))) (sSeq (sAsg 3 (eBlt tupleD (lCons (eLc (iRange range1 (lCons (eBlt lenD (lCons (eVar 1) lNil)) lNil)) (Tg.nm 4) bYes (eOp subD (eOp ixD (eVar 1) (eVar 4)) (eBlt intD (lCons (eOp eqD (eVar 4) (eVar 2)) lNil))) [4]) lNil)) [1, 2, 4]) (sSeq (sRet (eIf (bVal (eOp gtD (eBlt sumD (lCons (eVar 3) lNil)) (eCon (.int 0)))) (eVar 3) (eCall M_fresh_of (lCons (eVar 0) lNil)))) sNil)) sNil) (sSeq (sIf (bVal (eOp eqD (eOp ixD (eVar 0) (eCon (.int 0))) (eCon (.str "sure")))) (sSeq (sRet (eIf (bVal (eOp eqD (eVar 2) (eOp ixD (eVar 0) (eCon (.int 2))))) (eCon (.int 0)) (eOp addD (eVar 1) (eCon (.int 1))))) sNil) sNil) (sSeq (sRet (eIf (bVal (eOp eqD (eOp ixD (eVar 0) (eCon (.int 0))) (eCon (.str "unlike")))) (eVar 2) (eCon .non))) sNil)))
def M_state_then : List D → Wl → Res Wl D := fnRun 5 F_state_then
theorem ok_state_then (fx : Fx w K mg) : FnG P w K mg base true 2 (He.ga K "state_then") 3 M_state_then := by
  obtain ⟨fd, F⟩ := fx.d_state_then
  conv at F => arg 6; whnf
  conv at F => arg 5; whnf
  exact fn_okC F sc_state_then (F.bindsN fun _ _ _ _ _ _ us hl => match us, hl with | [_, _, _], _ => rfl) fun cdv A outer s H E hx hr => (pss_consD (ps_ifD (t_eq hx (q_ix hx (q_v 0) q_i) q_s) (pss_consD (s_set 3 [1, 2, 4] hx (q_bty call_tupF ok_tuple fx.n_tuple (q_c (peN (pe_lcN hx (tg_nm 4) (blkOk_by (own := [("k", 4)]) (by kernel_rfl)) (by kernel_rfl) (q_irange fx.n_range (q_c (q_blt call_lenA ok_len fx.n_len (q_c (q_v 1) pa_nilD) (hv := bt_len)) pa_nilD)) (fun s H C cl fp => (pg_name (i := 4) (hx.blk s H _ C cl fp).nd rfl (by first | exact Or.inl rfl | exact Or.inr rfl))) (fun s H C cl fp hx' => pts_yesD) (fun s H C cl fp hx' => (q_sub (q_ix hx' (q_v 1) (q_v 4)) (q_bty call_intA ok_int fx.n_int (q_c (q_eq hx' (q_v 4) (q_v 2)) pa_nilD) (hv := bt_int)))) (by intro _; rfl))) pa_nilD) (hv := bt_tuple))) (pss_consD (ps_retD (pe_ifD (t_gt (q_blt (cr_sumA hx.calm) ok_sum fx.n_sum (q_c (q_v 3) pa_nilD) (hv := bt_sum)) q_i) (q_v 3) (q_call (ok_fresh_of fx).weak (by decide) hx fx.g_fresh_of (q_c (q_v 0) pa_nilD) (lCons_len lNil_len)))) pss_nilD)) pss_nilD) (pss_consD (ps_ifD (t_eq hx (q_ix hx (q_v 0) q_i) q_s) (pss_consD (ps_retD (pe_ifD (t_eq hx (q_v 2) (q_ix hx (q_v 0) q_i)) q_i (q_add (q_v 1) q_i))) pss_nilD) pss_nilD) (pss_consD (ps_retD (pe_ifD (t_eq hx (q_ix hx (q_v 0) q_i) q_s) (q_v 2) q_n)) pss_nilD)))
theorem sc_weights : FnScope ["table", "state", "own", "weight", "gift", "k"] ["table", "state"] (defScope (top 35)) := ⟨rfl, rfl, rfl, by decide +kernel, rfl, by decide +kernel, by decide +kernel⟩
def F_weights : SS Wl := (sSeq (sAsg 2 (eLc (iItems (eOp ixD (eVar 0) (eCon (.int 1)))) (Tg.tp [3, 4]) bYes (eVar 3) [3, 4]) [0, 3, 4]) (sSeq (sIf (bVal (eOp eqD (eOp ixD (eVar 0) (eCon (.int 0))) (eCon (.str "bag")))) (sSeq (sRet (eBlt listVD (lCons (eVar 1) lNil))) sNil) sNil) (sSeq (sIf (bAnd (bVal (eOp eqD (eOp ixD (eVar 0) (eCon (.int 0))) (eCon (.str "sure")))) (bVal (eOp eqD (eVar 1) (eOp ixD (eVar 0) (eCon (.int 3)))))) (sSeq (sRet (eLc (iRange range1 (lCons (eBlt lenD (lCons (eVar 2) lNil)) lNil)) (Tg.nm 5) bYes (eBlt intD (lCons (eOp eqD (eVar 5) (eOp ixD (eVar 0) (eCon (.int 2)))) lNil)) [5])) sNil) sNil) (sSeq (sIf (bAnd (bVal (eOp eqD (eOp ixD (eVar 0) (eCon (.int 0))) (eCon (.str "unlike")))) (bVal (eOp isNotD (eVar 1) (eCon .non)))) (sSeq (sRet (eLc (iRange range1 (lCons (eBlt lenD (lCons (eVar 2) lNil)) lNil)) (Tg.nm 5) bYes (eIf (bVal (eOp eqD (eVar 5) (eVar 1))) (eCon (.int 0)) (eOp ixD (eVar 2) (eVar 5))) [5])) sNil) sNil) (sSeq (sRet (eVar 2)) sNil)))))
def M_weights : List D → Wl → Res Wl D := fnRun 6 F_weights
theorem ok_weights (fx : Fx w K mg) : FnG P w K mg base true 1 (He.ga K "weights") 2 M_weights := by
  obtain ⟨fd, F⟩ := fx.d_weights
  conv at F => arg 6; whnf
  conv at F => arg 5; whnf
  exact fn_okC F sc_weights (F.bindsN fun _ _ _ _ _ _ us hl => match us, hl with | [_, _], _ => rfl) fun cdv A outer s H E hx hr => (pss_consD (s_set 2 [0, 3, 4] hx (peN (pe_lcN hx (tg_tp [3, 4]) (blkOk_by (own := [("weight", 3), ("gift", 4)]) (by kernel_rfl)) (by kernel_rfl) (pi_itemsD (q_ix hx (q_v 0) q_i)) (fun s H C cl fp => (pg_tup (hx.blk s H _ C cl fp).calm (pgs_cons (pg_name (i := 3) (hx.blk s H _ C cl fp).nd rfl (by first | exact Or.inl rfl | exact Or.inr rfl)) (pgs_cons (pg_name (i := 4) (hx.blk s H _ C cl fp).nd rfl (by first | exact Or.inl rfl | exact Or.inr rfl)) pgs_nil)))) (fun s H C cl fp hx' => pts_yesD) (fun s H C cl fp hx' => (q_v 3)) (by intro _; rfl)))) (pss_consD (ps_ifD (t_eq hx (q_ix hx (q_v 0) q_i) q_s) (pss_consD (ps_retD (q_bty (call_listA hx.calm) ok_listA fx.n_list (q_c (q_v 1) pa_nilD) (hv := bt_list))) pss_nilD) pss_nilD) (pss_consD (ps_ifD (PW.pt (pw_andD (t_eq hx (q_ix hx (q_v 0) q_i) q_s) (t_and1 (t_eq hx (q_v 1) (q_ix hx (q_v 0) q_i))))) (pss_consD (ps_retD (peN (pe_lcN hx (tg_nm 5) (blkOk_by (own := [("k", 5)]) (by kernel_rfl)) (by kernel_rfl) (q_irange fx.n_range (q_c (q_blt call_lenA ok_len fx.n_len (q_c (q_v 2) pa_nilD) (hv := bt_len)) pa_nilD)) (fun s H C cl fp => (pg_name (i := 5) (hx.blk s H _ C cl fp).nd rfl (by first | exact Or.inl rfl | exact Or.inr rfl))) (fun s H C cl fp hx' => pts_yesD) (fun s H C cl fp hx' => (q_bty call_intA ok_int fx.n_int (q_c (q_eq hx' (q_v 5) (q_ix hx' (q_v 0) q_i)) pa_nilD) (hv := bt_int))) (by intro _; rfl)))) pss_nilD) pss_nilD) (pss_consD (ps_ifD (PW.pt (pw_andD (t_eq hx (q_ix hx (q_v 0) q_i) q_s) (t_and1 (t_isn (q_v 1) q_n)))) (pss_consD (ps_retD (peN (pe_lcN hx (tg_nm 5) (blkOk_by (own := [("k", 5)]) (by kernel_rfl)) (by kernel_rfl) (q_irange fx.n_range (q_c (q_blt call_lenA ok_len fx.n_len (q_c (q_v 2) pa_nilD) (hv := bt_len)) pa_nilD)) (fun s H C cl fp => (pg_name (i := 5) (hx.blk s H _ C cl fp).nd rfl (by first | exact Or.inl rfl | exact Or.inr rfl))) (fun s H C cl fp hx' => pts_yesD) (fun s H C cl fp hx' => (pe_ifD (t_eq hx' (q_v 5) (q_v 1)) q_i (q_ix hx' (q_v 2) (q_v 5)))) (by intro _; rfl)))) pss_nilD) pss_nilD) (pss_consD (ps_retD (q_v 2)) pss_nilD)))))
theorem sc_Hand_drawn : FnScope ["self", "name", "heap", "at", "table", "some", "number", "place", "gift"] ["self", "name", "heap"] (defScope (inClass (top 42) 3)) := ⟨rfl, rfl, rfl, by decide +kernel, rfl, by decide +kernel, by decide +kernel⟩
def F_Hand_drawn (self : List D → Wl → Res Wl D) : SS Wl := (sSeq (sAsg 3 (eBM "list" indexD (eBlt sortedA (lCons (eUn keysD (eAtt "Hand" "book" (eVar 0))) lNil)) (lCons (eVar 1) lNil)) [0, 1]) (sSeq (sAsg 4 (eOp ixD (eAtt "Hand" "book" (eVar 0)) (eVar 1)) [0, 1]) (sSeq (sAsg 5 (eCall M_weights (lCons (eVar 4) (lCons (eOp ixD (eAtt "Hand" "state" (eVar 0)) (eVar 3)) lNil))) [0, 3, 4]) (sSeq (sAsg 6 (eMeth "Hand" "below" M_Hand_below (eVar 0) (lCons (eBlt sumD (lCons (eVar 5) lNil)) lNil)) [0, 5]) (sSeq (sAsg 7 (eCon (.int 0)) []) (sSeq (whileD (bVal (eOp geD (eVar 6) (eOp ixD (eVar 5) (eVar 7)))) (sSeq (sAsg 6 (eOp subD (eVar 6) (eOp ixD (eVar 5) (eVar 7))) [5, 6, 7]) (sSeq (sAsg 7 (eOp addD (eVar 7) (eCon (.int 1))) [7]) sNil)) 100) (sSeq (sSetA "Hand" "state" (eVar 0) (eOp addD (eOp addD (eSl (eAtt "Hand" "state" (eVar 0)) oNone (oSome (eVar 3))) (eTup (lCons (eCall M_state_then (lCons (eVar 4) (lCons (eOp ixD (eAtt "Hand" "state" (eVar 0)) (eVar 3)) (lCons (eVar 7) lNil)))) lNil))) (eSl (eAtt "Hand" "state" (eVar 0)) (oSome (eOp addD (eVar 3) (eCon (.int 1)))) oNone)) [0, 3, 4, 7]) (sSeq (sFor (iItems (eCall M_gifts (lCons (eOp ixD (eOp ixD (eOp ixD (eVar 4) (eCon (.int 1))) (eVar 7)) (eCon (.int 1))) lNil))) [4, 7] (Tg.nm 8) (sSeq (sIf (bVal (eOp eqD (eOp ixD (eVar 8) (eCon (.int 0))) (eCon (.str "item")))) (sSeq (sAsg 2 (eCall M_heap_with (lCons (eVar 2) (lCons (eOp ixD (eVar 8) (eCon (.int 1))) (lCons (eOp ixD (eVar 8) (eCon (.int 2))) lNil)))) [2, 8]) sNil) (sSeq (sIf (bVal (eOp eqD (eOp ixD (eVar 8) (eCon (.int 0))) (eCon (.str "table")))) (sSeq (sAsg 2 (eMeth "Hand" "drawn" self (eVar 0) (lCons (eOp ixD (eVar 8) (eCon (.int 1))) (lCons (eVar 2) lNil))) [0, 2, 8]) sNil) sNil) sNil)) sNil)) (sSeq (sRet (eVar 2)) sNil)))))))))
def M_Hand_drawn : Nat → List D → Wl → Res Wl D
  | 0 => fun _ _ => .fail
  | n + 1 => fnRun 9 (F_Hand_drawn (M_Hand_drawn n))
theorem ok_Hand_drawn (fx : Fx w K mg) : ∀ n : Nat, FnG P w K mg base false (2 + n) (He.ma K (He.ga K "Hand") "drawn") 3 (M_Hand_drawn n)
  | 0 => by
    obtain ⟨fd, F⟩ := fx.d_Hand_drawn
    exact fn_ok0 (ps := ["self", "name", "heap"]) F (F.bindsN fun _ _ _ _ _ _ us hl => match us, hl with | [_, _, _], _ => rfl)
  | n + 1 => by
    obtain ⟨fd, F⟩ := fx.d_Hand_drawn
    conv at F => arg 6; whnf
    conv at F => arg 5; whnf
    have ih := ok_Hand_drawn fx n
    exact fn_okC F sc_Hand_drawn (F.bindsN fun _ _ _ _ _ _ us hl => match us, hl with | [_, _, _], _ => rfl) fun cdv A outer s H E hx hr => (pss_consD (s_set 3 [0, 1] hx (q_bm PySem.F.plainAttrs_list PySem.F.slot_list_index PySem.F.type_list_index mt_index ok_index (q_blt (call_sortedA hx.calm) ok_sortedA fx.n_sorted (q_c (q_keys (q_att (q_v 0) fx.cl_Hand fx.na_Hand_book)) pa_nilD) (hv := bt_sorted)) (q_c (q_v 1) pa_nilD))) (pss_consD (s_set 4 [0, 1] hx (q_ix hx (q_att (q_v 0) fx.cl_Hand fx.na_Hand_book) (q_v 1))) (pss_consD (s_set 5 [0, 3, 4] hx (q_call (ok_weights fx).weak (Nat.le_add_right_of_le (by decide)) hx fx.g_weights (q_c (q_v 4) (q_c (q_ix hx (q_att (q_v 0) fx.cl_Hand fx.na_Hand_state) (q_v 3)) pa_nilD)) (lCons_len (lCons_len lNil_len)))) (pss_consD (s_set 6 [0, 5] hx (q_meth (ok_Hand_below fx) (Nat.le_add_right_of_le (by decide)) hx fx.cl_Hand fx.me_Hand_below (q_v 0) (q_c (q_blt (cr_sumA hx.calm) ok_sum fx.n_sum (q_c (q_v 5) pa_nilD) (hv := bt_sum)) pa_nilD) (len_succ (lCons_len lNil_len)))) (pss_consD (s_set 7 [] hx q_i) (pss_consD (ps_whileD 100 hx.own (t_ge (q_v 6) (q_ix hx (q_v 5) (q_v 7))) (pss_consD (s_set 6 [5, 6, 7] hx (q_sub (q_v 6) (q_ix hx (q_v 5) (q_v 7)))) (pss_consD (s_set 7 [7] hx (q_add (q_v 7) q_i)) pss_nilD))) (pss_consD (s_setA [0, 3, 4, 7] (q_v 0) (q_add (q_add (pe_slD (q_att (q_v 0) fx.cl_Hand fx.na_Hand_state) po_noneD (po_someD (q_v 3))) (pe_tupD (q_c (q_call (ok_state_then fx).weak (Nat.le_add_right_of_le (by decide)) hx fx.g_state_then (q_c (q_v 4) (q_c (q_ix hx (q_att (q_v 0) fx.cl_Hand fx.na_Hand_state) (q_v 3)) (q_c (q_v 7) pa_nilD))) (lCons_len (lCons_len (lCons_len lNil_len)))) pa_nilD))) (pe_slD (q_att (q_v 0) fx.cl_Hand fx.na_Hand_state) (po_someD (q_add (q_v 3) q_i)) po_noneD)) fx.cl_Hand fx.na_Hand_state) (pss_consD (ps_forD [4, 7] (tg_nm 8) hx.own hx.calm (pi_itemsD (q_call (ok_gifts fx).weak (Nat.le_add_right_of_le (by decide)) hx fx.g_gifts (q_c (q_ix hx (q_ix hx (q_ix hx (q_v 4) q_i) (q_v 7)) q_i) pa_nilD) (lCons_len lNil_len))) (pg_name (i := 8) hx.nd rfl (by first | exact Or.inl rfl | exact Or.inr rfl)) (pss_consD (ps_ifD (t_eq hx (q_ix hx (q_v 8) q_i) q_s) (pss_consD (s_set 2 [2, 8] hx (q_call (ok_heap_with fx).weak (Nat.le_add_right_of_le (by decide)) hx fx.g_heap_with (q_c (q_v 2) (q_c (q_ix hx (q_v 8) q_i) (q_c (q_ix hx (q_v 8) q_i) pa_nilD))) (lCons_len (lCons_len (lCons_len lNil_len))))) pss_nilD) (pss_consD (ps_ifD (t_eq hx (q_ix hx (q_v 8) q_i) q_s) (pss_consD (s_set 2 [0, 2, 8] hx (q_meth ih (Nat.le_refl _) hx fx.cl_Hand fx.me_Hand_drawn (q_v 0) (q_c (q_ix hx (q_v 8) q_i) (q_c (q_v 2) pa_nilD)) (len_succ (lCons_len (lCons_len lNil_len))))) pss_nilD) pss_nilD) pss_nilD)) pss_nilD) (by intro _; rfl)) (pss_consD (ps_retD (q_v 2)) pss_nilD)))))))))
theorem sc_look_table : FnScope ["book", "name"] ["book", "name"] (defScope (top 31)) := ⟨rfl, rfl, rfl, by decide +kernel, rfl, by decide +kernel, by decide +kernel⟩
def F_look_table : SS Wl := (sSeq (sExpr (eCall M_look_book (lCons (eVar 0) lNil)) [0]) (sSeq (sIf (bOr (bNot (bTru (eBlt (isiD CsL) (lCons (eVar 1) (lCons (eCon (.ty "str")) lNil))))) (bVal (eOp notInD (eVar 1) (eVar 0)))) (sSeq (sRaise "NoTable") sNil) sNil) sNil))
def M_look_table : List D → Wl → Res Wl D := fnRun 2 F_look_table
theorem ok_look_table (fx : Fx w K mg) : FnG P w K mg base false 8 (He.ga K "look_table") 2 M_look_table := by
  obtain ⟨fd, F⟩ := fx.d_look_table
  conv at F => arg 6; whnf
  conv at F => arg 5; whnf
  exact fn_okC F sc_look_table (F.bindsN fun _ _ _ _ _ _ us hl => match us, hl with | [_, _], _ => rfl) fun cdv A outer s H E hx hr => (pss_consD (ps_exprD [0] (q_call (ok_look_book fx) (by decide) hx fx.g_look_book (q_c (q_v 0) pa_nilD) (lCons_len lNil_len)) rfl) (pss_consD (ps_ifD (PW.pt (pw_orD (pt_notD (bV (q_blt call_isA2 (ok_isi fx.cls) fx.n_isinstance (q_c (q_v 1) (q_c (q_ty fx.n_str (hv := bt_str)) pa_nilD)) (hv := bt_isinstance)))) (t_or1 (t_nin hx (q_v 1) (q_v 0))))) (pss_consD (ps_raiseX hx hr fx.g_NoTable fx.x_NoTable) pss_nilD) pss_nilD) pss_nilD))
theorem sc_Hand_draw : FnScope ["self", "name"] ["self", "name"] (defScope (inClass (top 42) 2)) := ⟨rfl, rfl, rfl, by decide +kernel, rfl, by decide +kernel, by decide +kernel⟩
def F_Hand_draw : SS Wl := (sSeq (sExpr (eCall M_look_table (lCons (eAtt "Hand" "book" (eVar 0)) (lCons (eVar 1) lNil))) [0, 1]) (sSeq (sExpr (eAppC (eAtt "Hand" "past" (eVar 0)) (eTup (lCons (eAtt "Hand" "number" (eVar 0)) (lCons (eAtt "Hand" "state" (eVar 0)) lNil)))) [0]) (sSeq (sRet (eMeth "Hand" "drawn" (M_Hand_drawn 5) (eVar 0) (lCons (eVar 1) (lCons (eTup lNil) lNil)))) sNil)))
def M_Hand_draw : List D → Wl → Res Wl D := fnRun 2 F_Hand_draw
theorem ok_Hand_draw (fx : Fx w K mg) : FnG P w K mg base false 9 (He.ma K (He.ga K "Hand") "draw") 2 M_Hand_draw := by
  obtain ⟨fd, F⟩ := fx.d_Hand_draw
  conv at F => arg 6; whnf
  conv at F => arg 5; whnf
  exact fn_okC F sc_Hand_draw (F.bindsN fun _ _ _ _ _ _ us hl => match us, hl with | [_, _], _ => rfl) fun cdv A outer s H E hx hr => (pss_consD (ps_exprD [0, 1] (q_call (ok_look_table fx) (by decide) hx fx.g_look_table (q_c (q_att (q_v 0) fx.cl_Hand fx.na_Hand_book) (q_c (q_v 1) pa_nilD)) (lCons_len (lCons_len lNil_len))) rfl) (pss_consD (ps_exprD [0] (q_appC (q_att (q_v 0) fx.cl_Hand fx.na_Hand_past) (pe_tupD (q_c (q_att (q_v 0) fx.cl_Hand fx.na_Hand_number) (q_c (q_att (q_v 0) fx.cl_Hand fx.na_Hand_state) pa_nilD)))) rfl) (pss_consD (ps_retD (q_meth (ok_Hand_drawn fx 5) (by decide) hx fx.cl_Hand fx.me_Hand_drawn (q_v 0) (q_c (q_v 1) (q_c (pe_tupD pa_nilD) pa_nilD)) (len_succ (lCons_len (lCons_len lNil_len))))) pss_nilD)))
theorem sc_Hand_stands : FnScope ["self"] ["self"] (defScope (inClass (top 42) 6)) := ⟨rfl, rfl, rfl, by decide +kernel, rfl, by decide +kernel, by decide +kernel⟩
def F_Hand_stands : SS Wl := (sSeq (sRet (eTup (lCons (eAtt "Hand" "number" (eVar 0)) (lCons (eAtt "Hand" "state" (eVar 0)) lNil)))) sNil)
def M_Hand_stands : List D → Wl → Res Wl D := fnRun 1 F_Hand_stands
theorem ok_Hand_stands (fx : Fx w K mg) : FnG P w K mg base false 1 (He.ma K (He.ga K "Hand") "stands") 1 M_Hand_stands := by
  obtain ⟨fd, F⟩ := fx.d_Hand_stands
  conv at F => arg 6; whnf
  conv at F => arg 5; whnf
  exact fn_okC F sc_Hand_stands (F.bindsN fun _ _ _ _ _ _ us hl => match us, hl with | [_], _ => rfl) fun cdv A outer s H E hx hr => (pss_consD (ps_retD (pe_tupD (q_c (q_att (q_v 0) fx.cl_Hand fx.na_Hand_number) (q_c (q_att (q_v 0) fx.cl_Hand fx.na_Hand_state) pa_nilD)))) pss_nilD)
theorem sc_law_cell : FnScope ["script", "k"] ["script", "k"] (defScope (top 44)) := ⟨rfl, rfl, rfl, by decide +kernel, rfl, by decide +kernel, by decide +kernel⟩
def F_law_cell : SS Wl := (sSeq (sIf (bTru (eVar 0)) (sSeq (sRet (eOp ixD (eVar 0) (eOp modD (eVar 1) (eBlt lenD (lCons (eVar 0) lNil))))) sNil) sNil) (sSeq (sRet (eCon (.int 0))) sNil))
def M_law_cell : List D → Wl → Res Wl D := fnRun 2 F_law_cell
theorem ok_law_cell (fx : Fx w K mg) : FnG P w K mg base true 1 (He.ga K "_law_cell") 2 M_law_cell := by
  obtain ⟨fd, F⟩ := fx.d_law_cell
  conv at F => arg 6; whnf
  conv at F => arg 5; whnf
  exact fn_okC F sc_law_cell (F.bindsN fun _ _ _ _ _ _ us hl => match us, hl with | [_, _], _ => rfl) fun cdv A outer s H E hx hr => (pss_consD (ps_ifD (bV (q_v 0)) (pss_consD (ps_retD (q_ix hx (q_v 0) (q_mod (q_v 1) (q_blt call_lenA ok_len fx.n_len (q_c (q_v 0) pa_nilD) (hv := bt_len))))) pss_nilD) pss_nilD) (pss_consD (ps_retD q_i) pss_nilD))
theorem sc_law_mix : FnScope ["script", "k", "number"] ["script", "k"] (defScope (top 45)) := ⟨rfl, rfl, rfl, by decide +kernel, rfl, by decide +kernel, by decide +kernel⟩
def F_law_mix : SS Wl := (sSeq (sAsg 2 (eOp modD (eOp addD (eCall M_law_cell (lCons (eVar 0) (lCons (eVar 1) lNil))) (eOp mulD (eCon (.int 104729)) (eOp addD (eVar 1) (eCon (.int 1))))) (eCon (.int 4294967291))) [0, 1]) (sSeq (sAsg 2 (eOp modD (eOp powD (eVar 2) (eCon (.int 5))) (eCon (.int 4294967279))) [2]) (sSeq (sRet (eOp modD (eOp addD (eOp mulD (eOp fdivD (eVar 2) (eCon (.int 64))) (eCon (.int 69621))) (eVar 2)) (eCon (.int 4294967231)))) sNil)))
def M_law_mix : List D → Wl → Res Wl D := fnRun 3 F_law_mix
theorem ok_law_mix (fx : Fx w K mg) : FnG P w K mg base true 2 (He.ga K "_law_mix") 2 M_law_mix := by
  obtain ⟨fd, F⟩ := fx.d_law_mix
  conv at F => arg 6; whnf
  conv at F => arg 5; whnf
  exact fn_okC F sc_law_mix (F.bindsN fun _ _ _ _ _ _ us hl => match us, hl with | [_, _], _ => rfl) fun cdv A outer s H E hx hr => (pss_consD (s_set 2 [0, 1] hx (q_mod (q_add (q_call (ok_law_cell fx).weak (by decide) hx fx.g_law_cell (q_c (q_v 0) (q_c (q_v 1) pa_nilD)) (lCons_len (lCons_len lNil_len))) (q_mul q_i (q_add (q_v 1) q_i))) q_i)) (pss_consD (s_set 2 [2] hx (q_mod (q_pow (q_v 2) q_i) q_i)) (pss_consD (ps_retD (q_mod (q_add (q_mul (q_fdiv (q_v 2) q_i) q_i) (q_v 2)) q_i)) pss_nilD)))
theorem sc_law_draw : FnScope ["script", "town", "many"] ["script", "town", "many"] (defScope (top 46)) := ⟨rfl, rfl, rfl, by decide +kernel, rfl, by decide +kernel, by decide +kernel⟩
def F_law_draw : SS Wl := (sSeq (sExpr (eAppC (eVar 1) (eCon (.int 0))) [1]) (sSeq (sRet (eOp modD (eOp fdivD (eCall M_law_mix (lCons (eVar 0) (lCons (eLenC (eVar 1)) lNil))) (eCon (.int 8))) (eVar 2))) sNil))
def M_law_draw : List D → Wl → Res Wl D := fnRun 3 F_law_draw
theorem ok_law_draw (fx : Fx w K mg) : FnG P w K mg base false 3 (He.ga K "_law_draw") 3 M_law_draw := by
  obtain ⟨fd, F⟩ := fx.d_law_draw
  conv at F => arg 6; whnf
  conv at F => arg 5; whnf
  exact fn_okC F sc_law_draw (F.bindsN fun _ _ _ _ _ _ us hl => match us, hl with | [_, _, _], _ => rfl) fun cdv A outer s H E hx hr => (pss_consD (ps_exprD [1] (q_appC (q_v 1) q_i) rfl) (pss_consD (ps_retD (q_mod (q_fdiv (q_call (ok_law_mix fx).weak (by decide) hx fx.g_law_mix (q_c (q_v 0) (q_c (q_lenC fx.n_len (q_v 1)) pa_nilD)) (lCons_len (lCons_len lNil_len))) q_i) (q_v 2))) pss_nilD))
theorem sc_law_pick : FnScope ["script", "town", "some"] ["script", "town", "some"] (defScope (top 47)) := ⟨rfl, rfl, rfl, by decide +kernel, rfl, by decide +kernel, by decide +kernel⟩
def F_law_pick : SS Wl := (sSeq (sRet (eOp ixD (eVar 2) (eCall M_law_draw (lCons (eVar 0) (lCons (eVar 1) (lCons (eBlt lenD (lCons (eVar 2) lNil)) lNil)))))) sNil)
def M_law_pick : List D → Wl → Res Wl D := fnRun 3 F_law_pick
theorem ok_law_pick (fx : Fx w K mg) : FnG P w K mg base false 4 (He.ga K "_law_pick") 3 M_law_pick := by
  obtain ⟨fd, F⟩ := fx.d_law_pick
  conv at F => arg 6; whnf
  conv at F => arg 5; whnf
  exact fn_okC F sc_law_pick (F.bindsN fun _ _ _ _ _ _ us hl => match us, hl with | [_, _, _], _ => rfl) fun cdv A outer s H E hx hr => (pss_consD (ps_retD (q_ix hx (q_v 2) (q_call (ok_law_draw fx) (by decide) hx fx.g_law_draw (q_c (q_v 0) (q_c (q_v 1) (q_c (q_blt call_lenA ok_len fx.n_len (q_c (q_v 2) pa_nilD) (hv := bt_len)) pa_nilD))) (lCons_len (lCons_len (lCons_len lNil_len)))))) pss_nilD)
theorem sc_law_gift : FnScope ["script", "town", "inner", "names", "deep", "sort", "word", "many", "signs", "k"] ["script", "town", "inner", "names", "deep"] (defScope (top 49)) := ⟨rfl, rfl, rfl, by decide +kernel, rfl, by decide +kernel, by decide +kernel⟩
def F_law_gift (self : List D → Wl → Res Wl D) : SS Wl := (sSeq (sAsg 5 (eCall M_law_draw (lCons (eVar 0) (lCons (eVar 1) (lCons (eCon (.int 8)) lNil)))) [0, 1]) (sSeq (sIf (bVal (eOp eqD (eVar 5) (eCon (.int 0)))) (sSeq (sRet (eTup (lCons (eCon (.str "none")) lNil))) sNil) sNil) (sSeq (sIf (bAnd (bVal (eOp ltD (eVar 5) (eCon (.int 3)))) (bVal (eOp neD (eVar 3) (eLst lNil)))) (sSeq (sRet (eTup (lCons (eCon (.str "table")) (lCons (eCall M_law_pick (lCons (eVar 0) (lCons (eVar 1) (lCons (eVar 3) lNil)))) lNil)))) sNil) sNil) (sSeq (sIf (bAnd (bVal (eOp eqD (eVar 5) (eCon (.int 3)))) (bNot (bTru (eVar 2)))) (sSeq (sAsg 7 (eOp addD (eCon (.int 1)) (eCall M_law_draw (lCons (eVar 0) (lCons (eVar 1) (lCons (eCon (.int 2)) lNil))))) [0, 1]) (sSeq (sRet (eTup (lCons (eCon (.str "several")) (lCons (eBlt tupleD (lCons (eLc (iRange range1 (lCons (eVar 7) lNil)) (Tg.nm 9) bYes (eCall self (lCons (eVar 0) (lCons (eVar 1) (lCons (eCon (.bl true)) (lCons (eSl (eVar 3) oNone (oSome (eCon (.int 1)))) (lCons (eVar 4) lNil)))))) [9]) lNil)) lNil)))) sNil)) sNil) (sSeq (sAsg 6 (eCall M_law_pick (lCons (eVar 0) (lCons (eVar 1) (lCons (eLst (lCons (eCon (.str "gem")) (lCons (eCon (.str "hat")) (lCons (eCon (.str "key")) (lCons (eCon (.str "oak")) lNil))))) lNil)))) [0, 1]) (sSeq (sIfG (bVal (eOp eqD (eCall M_law_draw (lCons (eVar 0) (lCons (eVar 1) (lCons (eCon (.int 12)) lNil)))) (eCon (.int 0)))) [0, 1] (sSeq (sAsg 8 (eCon (.str "abcdefghijklmnopqrstuvwxyz")) []) (sSeq (sAsg 6 (eBM "str" joinD (eCon (.str "")) (lCons (eLc (iRange range1 (lCons (eOp addD (eCon (.int 1)) (eCall M_law_draw (lCons (eVar 0) (lCons (eVar 1) (lCons (eCon (.int 8)) lNil))))) lNil)) (Tg.nm 9) bYes (eCall M_law_pick (lCons (eVar 0) (lCons (eVar 1) (lCons (eVar 8) lNil)))) [9]) lNil)) [0, 1, 8, 9]) sNil)) sNil) (sSeq (sRet (eTup (lCons (eCon (.str "item")) (lCons (eVar 6) (lCons (eCall M_law_pick (lCons (eVar 0) (lCons (eVar 1) (lCons (eLst (lCons (eCon (.int 1)) (lCons (eCon (.int 1)) (lCons (eCon (.int 2)) (lCons (eCon (.int 9)) lNil))))) lNil)))) lNil))))) sNil)))))))
def M_law_gift : Nat → List D → Wl → Res Wl D
  | 0 => fun _ _ => .fail
  | n + 1 => fnRun 10 (F_law_gift (M_law_gift n))
theorem ok_law_gift (fx : Fx w K mg) : ∀ n : Nat, FnG P w K mg base false (4 + n) (He.ga K "_law_gift") 5 (M_law_gift n)
  | 0 => by
    obtain ⟨fd, F⟩ := fx.d_law_gift
    exact fn_ok0 (ps := ["script", "town", "inner", "names", "deep"]) F (F.bindsN fun _ _ _ _ _ _ us hl => match us, hl with | [_, _, _, _, _], _ => rfl)
  | n + 1 => by
    obtain ⟨fd, F⟩ := fx.d_law_gift
    conv at F => arg 6; whnf
    conv at F => arg 5; whnf
    have ih := ok_law_gift fx n
    exact fn_okC F sc_law_gift (F.bindsN fun _ _ _ _ _ _ us hl => match us, hl with | [_, _, _, _, _], _ => rfl) fun cdv A outer s H E hx hr => (pss_consD (s_set 5 [0, 1] hx (q_call (ok_law_draw fx) (Nat.le_add_right_of_le (by decide)) hx fx.g_law_draw (q_c (q_v 0) (q_c (q_v 1) (q_c q_i pa_nilD))) (lCons_len (lCons_len (lCons_len lNil_len))))) (pss_consD (ps_ifD (t_eq hx (q_v 5) q_i) (pss_consD (ps_retD (pe_tupD (q_c q_s pa_nilD))) pss_nilD) pss_nilD) (pss_consD (ps_ifD (PW.pt (pw_andD (t_lt (q_v 5) q_i) (t_and1 (t_ne hx (q_v 3) (pe_lstD pa_nilD))))) (pss_consD (ps_retD (pe_tupD (q_c q_s (q_c (q_call (ok_law_pick fx) (Nat.le_add_right_of_le (by decide)) hx fx.g_law_pick (q_c (q_v 0) (q_c (q_v 1) (q_c (q_v 3) pa_nilD))) (lCons_len (lCons_len (lCons_len lNil_len)))) pa_nilD)))) pss_nilD) pss_nilD) (pss_consD (ps_ifD (PW.pt (pw_andD (t_eq hx (q_v 5) q_i) (t_and1 (pt_notD (bV (q_v 2)))))) (pss_consD (s_set 7 [0, 1] hx (q_add q_i (q_call (ok_law_draw fx) (Nat.le_add_right_of_le (by decide)) hx fx.g_law_draw (q_c (q_v 0) (q_c (q_v 1) (q_c q_i pa_nilD))) (lCons_len (lCons_len (lCons_len lNil_len)))))) (pss_consD (ps_retD (pe_tupD (q_c q_s (q_c (q_bty call_tupF ok_tuple fx.n_tuple (q_c (peN (pe_lcN hx (tg_nm 9) (blkOk_by (own := [("k", 9)]) (by kernel_rfl)) (by kernel_rfl) (q_irange fx.n_range (q_c (q_v 7) pa_nilD)) (fun s H C cl fp => (pg_name (i := 9) (hx.blk s H _ C cl fp).nd rfl (by first | exact Or.inl rfl | exact Or.inr rfl))) (fun s H C cl fp hx' => pts_yesD) (fun s H C cl fp hx' => (q_call ih (Nat.le_refl _) hx' fx.g_law_gift (q_c (q_v 0) (q_c (q_v 1) (q_c q_b (q_c (pe_slD (q_v 3) po_noneD (po_someD q_i)) (q_c (q_v 4) pa_nilD))))) (lCons_len (lCons_len (lCons_len (lCons_len (lCons_len lNil_len))))))) (by intro _; rfl))) pa_nilD) (hv := bt_tuple)) pa_nilD)))) pss_nilD)) pss_nilD) (pss_consD (s_set 6 [0, 1] hx (q_call (ok_law_pick fx) (Nat.le_add_right_of_le (by decide)) hx fx.g_law_pick (q_c (q_v 0) (q_c (q_v 1) (q_c (pe_lstD (q_c q_s (q_c q_s (q_c q_s (q_c q_s pa_nilD))))) pa_nilD))) (lCons_len (lCons_len (lCons_len lNil_len))))) (pss_consD (ps_ifGD [0, 1] (t_eq hx (q_call (ok_law_draw fx) (Nat.le_add_right_of_le (by decide)) hx fx.g_law_draw (q_c (q_v 0) (q_c (q_v 1) (q_c q_i pa_nilD))) (lCons_len (lCons_len (lCons_len lNil_len)))) q_i) (pss_consD (s_set 8 [] hx q_s) (pss_consD (s_set 6 [0, 1, 8, 9] hx (q_bm PySem.F.plainAttrs_str PySem.F.slot_str_join PySem.F.type_str_join mt_join ok_join q_s (q_c (peN (pe_lcN hx (tg_nm 9) (blkOk_by (own := [("k", 9)]) (by kernel_rfl)) (by kernel_rfl) (q_irange fx.n_range (q_c (q_add q_i (q_call (ok_law_draw fx) (Nat.le_add_right_of_le (by decide)) hx fx.g_law_draw (q_c (q_v 0) (q_c (q_v 1) (q_c q_i pa_nilD))) (lCons_len (lCons_len (lCons_len lNil_len))))) pa_nilD)) (fun s H C cl fp => (pg_name (i := 9) (hx.blk s H _ C cl fp).nd rfl (by first | exact Or.inl rfl | exact Or.inr rfl))) (fun s H C cl fp hx' => pts_yesD) (fun s H C cl fp hx' => (q_call (ok_law_pick fx) (Nat.le_add_right_of_le (by decide)) hx' fx.g_law_pick (q_c (q_v 0) (q_c (q_v 1) (q_c (q_v 8) pa_nilD))) (lCons_len (lCons_len (lCons_len lNil_len))))) (by intro _; rfl))) pa_nilD))) pss_nilD)) pss_nilD) (pss_consD (ps_retD (pe_tupD (q_c q_s (q_c (q_v 6) (q_c (q_call (ok_law_pick fx) (Nat.le_add_right_of_le (by decide)) hx fx.g_law_pick (q_c (q_v 0) (q_c (q_v 1) (q_c (pe_lstD (q_c q_i (q_c q_i (q_c q_i (q_c q_i pa_nilD))))) pa_nilD))) (lCons_len (lCons_len (lCons_len lNil_len)))) pa_nilD))))) pss_nilD)))))))
theorem sc_law_table : FnScope ["script", "town", "names", "sort", "rows", "k", "weight", "most"] ["script", "town", "names"] (defScope (top 50)) := ⟨rfl, rfl, rfl, by decide +kernel, rfl, by decide +kernel, by decide +kernel⟩
def F_law_table : SS Wl := (sSeq (sAsg 3 (eCall M_law_pick (lCons (eVar 0) (lCons (eVar 1) (lCons (eLst (lCons (eCon (.str "draw")) (lCons (eCon (.str "bag")) (lCons (eCon (.str "sure")) (lCons (eCon (.str "unlike")) lNil))))) lNil)))) [0, 1]) (sSeq (sNew 4 (eLst lNil) []) (sSeq (sFor (iRange range1 (lCons (eCall M_law_pick (lCons (eVar 0) (lCons (eVar 1) (lCons (eLst (lCons (eCon (.int 2)) (lCons (eCon (.int 2)) (lCons (eCon (.int 3)) (lCons (eCon (.int 4)) lNil))))) lNil)))) lNil)) [0, 1] (Tg.nm 5) (sSeq (sAsg 6 (eCall M_law_pick (lCons (eVar 0) (lCons (eVar 1) (lCons (eIf (bVal (eOp eqD (eVar 3) (eCon (.str "bag")))) (eLst (lCons (eCon (.int 1)) (lCons (eCon (.int 2)) (lCons (eCon (.int 3)) lNil)))) (eLst (lCons (eCon (.int 1)) (lCons (eCon (.int 2)) (lCons (eCon (.int 3)) (lCons (eCon (.int 20)) lNil)))))) lNil)))) [0, 1, 3]) (sSeq (sApp 4 (eTup (lCons (eVar 6) (lCons (eCall (M_law_gift 3) (lCons (eVar 0) (lCons (eVar 1) (lCons (eCon (.bl false)) (lCons (eVar 2) (lCons (eCon (.int 0)) lNil)))))) lNil))) [0, 1, 2, 6]) sNil))) (sSeq (sAsg 4 (eSl (eVar 4) (oSome (eOp mulD (eCall M_law_draw (lCons (eVar 0) (lCons (eVar 1) (lCons (eCon (.int 2)) lNil)))) (eBlt intD (lCons (eOp neD (eVar 3) (eCon (.str "unlike"))) lNil)))) oNone) [0, 1, 3, 4]) (sSeq (sIfG (bAnd (bVal (eOp eqD (eVar 3) (eCon (.str "bag")))) (bAnd (bVal (eOp eqD (eBlt lenD (lCons (eVar 4) lNil)) (eCon (.int 1)))) (bVal (eOp eqD (eCall M_law_draw (lCons (eVar 0) (lCons (eVar 1) (lCons (eCon (.int 2)) lNil)))) (eCon (.int 0)))))) [0, 1, 3, 4] (sSeq (sAsg 4 (eLst (lCons (eTup (lCons (eCon (.int 12)) (lCons (eOp ixD (eOp ixD (eVar 4) (eCon (.int 0))) (eCon (.int 1))) lNil))) lNil)) [4]) sNil) sNil) (sSeq (sIf (bVal (eOp eqD (eVar 3) (eCon (.str "sure")))) (sSeq (sAsg 7 (eOp addD (eCon (.int 1)) (eCall M_law_draw (lCons (eVar 0) (lCons (eVar 1) (lCons (eCall M_law_pick (lCons (eVar 0) (lCons (eVar 1) (lCons (eLst (lCons (eCon (.int 3)) (lCons (eCon (.int 10)) lNil))) lNil)))) lNil))))) [0, 1]) (sSeq (sRet (eTup (lCons (eVar 3) (lCons (eBlt tupleD (lCons (eVar 4) lNil)) (lCons (eCall M_law_draw (lCons (eVar 0) (lCons (eVar 1) (lCons (eBlt lenD (lCons (eVar 4) lNil)) lNil)))) (lCons (eVar 7) lNil)))))) sNil)) sNil) (sSeq (sRet (eTup (lCons (eVar 3) (lCons (eBlt tupleD (lCons (eVar 4) lNil)) lNil)))) sNil)))))))
def M_law_table : List D → Wl → Res Wl D := fnRun 8 F_law_table
theorem ok_law_table (fx : Fx w K mg) : FnG P w K mg base false 8 (He.ga K "_law_table") 3 M_law_table := by
  obtain ⟨fd, F⟩ := fx.d_law_table
  conv at F => arg 6; whnf
  conv at F => arg 5; whnf
  exact fn_okC F sc_law_table (F.bindsN fun _ _ _ _ _ _ us hl => match us, hl with | [_, _, _], _ => rfl) fun cdv A outer s H E hx hr => (pss_consD (s_set 3 [0, 1] hx (q_call (ok_law_pick fx) (by decide) hx fx.g_law_pick (q_c (q_v 0) (q_c (q_v 1) (q_c (pe_lstD (q_c q_s (q_c q_s (q_c q_s (q_c q_s pa_nilD))))) pa_nilD))) (lCons_len (lCons_len (lCons_len lNil_len))))) (pss_consD (s_new 4 [] hx (pe_lstN pa_nilD)) (pss_consD (ps_forD [0, 1] (tg_nm 5) hx.own hx.calm (q_irange fx.n_range (q_c (q_call (ok_law_pick fx) (by decide) hx fx.g_law_pick (q_c (q_v 0) (q_c (q_v 1) (q_c (pe_lstD (q_c q_i (q_c q_i (q_c q_i (q_c q_i pa_nilD))))) pa_nilD))) (lCons_len (lCons_len (lCons_len lNil_len)))) pa_nilD)) (pg_name (i := 5) hx.nd rfl (by first | exact Or.inl rfl | exact Or.inr rfl)) (pss_consD (s_set 6 [0, 1, 3] hx (q_call (ok_law_pick fx) (by decide) hx fx.g_law_pick (q_c (q_v 0) (q_c (q_v 1) (q_c (pe_ifD (t_eq hx (q_v 3) q_s) (pe_lstD (q_c q_i (q_c q_i (q_c q_i pa_nilD)))) (pe_lstD (q_c q_i (q_c q_i (q_c q_i (q_c q_i pa_nilD)))))) pa_nilD))) (lCons_len (lCons_len (lCons_len lNil_len))))) (pss_consD (s_app 4 [0, 1, 2, 6] (pe_tupD (q_c (q_v 6) (q_c (q_call (ok_law_gift fx 3) (by decide) hx fx.g_law_gift (q_c (q_v 0) (q_c (q_v 1) (q_c q_b (q_c (q_v 2) (q_c q_i pa_nilD))))) (lCons_len (lCons_len (lCons_len (lCons_len (lCons_len lNil_len)))))) pa_nilD)))) pss_nilD)) (by intro _; rfl)) (pss_consD (s_set 4 [0, 1, 3, 4] hx (pe_slD (q_v 4) (po_someD (q_mul (q_call (ok_law_draw fx) (by decide) hx fx.g_law_draw (q_c (q_v 0) (q_c (q_v 1) (q_c q_i pa_nilD))) (lCons_len (lCons_len (lCons_len lNil_len)))) (q_bty call_intA ok_int fx.n_int (q_c (q_ne hx (q_v 3) q_s) pa_nilD) (hv := bt_int)))) po_noneD)) (pss_consD (ps_ifGD [0, 1, 3, 4] (PW.pt (pw_andD (t_eq hx (q_v 3) q_s) (pw_andD (t_eq hx (q_blt call_lenA ok_len fx.n_len (q_c (q_v 4) pa_nilD) (hv := bt_len)) q_i) (t_and1 (t_eq hx (q_call (ok_law_draw fx) (by decide) hx fx.g_law_draw (q_c (q_v 0) (q_c (q_v 1) (q_c q_i pa_nilD))) (lCons_len (lCons_len (lCons_len lNil_len)))) q_i))))) (pss_consD (s_set 4 [4] hx (pe_lstD (q_c (pe_tupD (q_c q_i (q_c (q_ix hx (q_ix hx (q_v 4) q_i) q_i) pa_nilD))) pa_nilD))) pss_nilD) pss_nilD) (pss_consD (ps_ifD (t_eq hx (q_v 3) q_s) (pss_consD (s_set 7 [0, 1] hx (q_add q_i (q_call (ok_law_draw fx) (by decide) hx fx.g_law_draw (q_c (q_v 0) (q_c (q_v 1) (q_c (q_call (ok_law_pick fx) (by decide) hx fx.g_law_pick (q_c (q_v 0) (q_c (q_v 1) (q_c (pe_lstD (q_c q_i (q_c q_i pa_nilD))) pa_nilD))) (lCons_len (lCons_len (lCons_len lNil_len)))) pa_nilD))) (lCons_len (lCons_len (lCons_len lNil_len)))))) (pss_consD (ps_retD (pe_tupD (q_c (q_v 3) (q_c (q_bty call_tupF ok_tuple fx.n_tuple (q_c (q_v 4) pa_nilD) (hv := bt_tuple)) (q_c (q_call (ok_law_draw fx) (by decide) hx fx.g_law_draw (q_c (q_v 0) (q_c (q_v 1) (q_c (q_blt call_lenA ok_len fx.n_len (q_c (q_v 4) pa_nilD) (hv := bt_len)) pa_nilD))) (lCons_len (lCons_len (lCons_len lNil_len)))) (q_c (q_v 7) pa_nilD)))))) pss_nilD)) pss_nilD) (pss_consD (ps_retD (pe_tupD (q_c (q_v 3) (q_c (q_bty call_tupF ok_tuple fx.n_tuple (q_c (q_v 4) pa_nilD) (hv := bt_tuple)) pa_nilD)))) pss_nilD)))))))
theorem sc_law_book : FnScope ["script", "town", "most", "names", "book", "k", "turn", "found", "name"] ["script", "town", "most"] (defScope (top 51)) := ⟨rfl, rfl, rfl, by decide +kernel, rfl, by decide +kernel, by decide +kernel⟩
def F_law_book : SS Wl := (sSeq (sAsg 3 (eSl (eLst (lCons (eCon (.str "a")) (lCons (eCon (.str "box")) (lCons (eCon (.str "chest")) (lCons (eCon (.str "treasure")) lNil))))) oNone (oSome (eOp addD (eCon (.int 1)) (eCall M_law_draw (lCons (eVar 0) (lCons (eVar 1) (lCons (eVar 2) lNil))))))) [0, 1, 2]) (sSeq (sNew 4 eDnew []) (sSeq (sFor (iRange range1 (lCons (eBlt lenD (lCons (eVar 3) lNil)) lNil)) [3] (Tg.nm 5) (sSeq (sPut 4 (eOp ixD (eVar 3) (eVar 5)) (eCall M_law_table (lCons (eVar 0) (lCons (eVar 1) (lCons (eSl (eVar 3) oNone (oSome (eVar 5))) lNil)))) [0, 1, 3, 5]) sNil)) (sSeq (sAsg 6 (eCall M_law_draw (lCons (eVar 0) (lCons (eVar 1) (lCons (eBlt lenD (lCons (eVar 3) lNil)) lNil)))) [0, 1, 3]) (sSeq (sNew 7 eDnew []) (sSeq (sFor (iItems (eOp addD (eSl (eVar 3) (oSome (eVar 6)) oNone) (eSl (eVar 3) oNone (oSome (eVar 6))))) [3, 6] (Tg.nm 8) (sSeq (sPutP 7 (eVar 8) (eOp ixD (eVar 4) (eVar 8))) sNil)) (sSeq (sRet (eTup (lCons (eVar 7) (lCons (eCall M_law_pick (lCons (eVar 0) (lCons (eVar 1) (lCons (eOp addD (eVar 3) (eSl (eVar 3) (oSome (eUn negD (eCon (.int 1)))) oNone)) lNil)))) lNil)))) sNil)))))))
def M_law_book : List D → Wl → Res Wl D := fnRun 9 F_law_book
theorem ok_law_book (fx : Fx w K mg) : FnG P w K mg base false 9 (He.ga K "_law_book") 3 M_law_book := by
  obtain ⟨fd, F⟩ := fx.d_law_book
  conv at F => arg 6; whnf
  conv at F => arg 5; whnf
  exact fn_okC F sc_law_book (F.bindsN fun _ _ _ _ _ _ us hl => match us, hl with | [_, _, _], _ => rfl) fun cdv A outer s H E hx hr => (pss_consD (s_set 3 [0, 1, 2] hx (pe_slD (pe_lstD (q_c q_s (q_c q_s (q_c q_s (q_c q_s pa_nilD))))) po_noneD (po_someD (q_add q_i (q_call (ok_law_draw fx) (by decide) hx fx.g_law_draw (q_c (q_v 0) (q_c (q_v 1) (q_c (q_v 2) pa_nilD))) (lCons_len (lCons_len (lCons_len lNil_len)))))))) (pss_consD (s_new 4 [] hx pe_dnewN) (pss_consD (ps_forD [3] (tg_nm 5) hx.own hx.calm (q_irange fx.n_range (q_c (q_blt call_lenA ok_len fx.n_len (q_c (q_v 3) pa_nilD) (hv := bt_len)) pa_nilD)) (pg_name (i := 5) hx.nd rfl (by first | exact Or.inl rfl | exact Or.inr rfl)) (pss_consD (s_put 4 [0, 1, 3, 5] hx (q_call (ok_law_table fx) (by decide) hx fx.g_law_table (q_c (q_v 0) (q_c (q_v 1) (q_c (pe_slD (q_v 3) po_noneD (po_someD (q_v 5))) pa_nilD))) (lCons_len (lCons_len (lCons_len lNil_len)))) (q_ix hx (q_v 3) (q_v 5))) pss_nilD) (by intro _; rfl)) (pss_consD (s_set 6 [0, 1, 3] hx (q_call (ok_law_draw fx) (by decide) hx fx.g_law_draw (q_c (q_v 0) (q_c (q_v 1) (q_c (q_blt call_lenA ok_len fx.n_len (q_c (q_v 3) pa_nilD) (hv := bt_len)) pa_nilD))) (lCons_len (lCons_len (lCons_len lNil_len))))) (pss_consD (s_new 7 [] hx pe_dnewN) (pss_consD (ps_forD [3, 6] (tg_nm 8) hx.own hx.calm (pi_itemsD (q_add (pe_slD (q_v 3) (po_someD (q_v 6)) po_noneD) (pe_slD (q_v 3) po_noneD (po_someD (q_v 6))))) (pg_name (i := 8) hx.nd rfl (by first | exact Or.inl rfl | exact Or.inr rfl)) (pss_consD (s_putP 7 hx (q_ix hx (q_v 4) (q_v 8)) (q_v 8)) pss_nilD) (by intro _; rfl)) (pss_consD (ps_retD (pe_tupD (q_c (q_v 7) (q_c (q_call (ok_law_pick fx) (by decide) hx fx.g_law_pick (q_c (q_v 0) (q_c (q_v 1) (q_c (q_add (q_v 3) (pe_slD (q_v 3) (po_someD (q_neg q_i)) po_noneD)) pa_nilD))) (lCons_len (lCons_len (lCons_len lNil_len)))) pa_nilD)))) pss_nilD)))))))
theorem sc_Hand_back : FnScope ["self"] ["self"] (defScope (inClass (top 42) 5)) := ⟨rfl, rfl, rfl, by decide +kernel, rfl, by decide +kernel, by decide +kernel⟩
def F_Hand_back : SS Wl := (sSeq (sIf (bNot (bTruC (eAtt "Hand" "past" (eVar 0)))) (sSeq (sRaise "Nothing") sNil) sNil) (sSeq (sSetA2 "Hand" "number" "state" 0 (ePopC (eAtt "Hand" "past" (eVar 0))) [0]) sNil))
def M_Hand_back : List D → Wl → Res Wl D := fnRun 1 F_Hand_back
theorem ok_Hand_back (fx : Fx w K mg) : FnG P w K mg base false 1 (He.ma K (He.ga K "Hand") "back") 1 M_Hand_back := by
  obtain ⟨fd, F⟩ := fx.d_Hand_back
  conv at F => arg 6; whnf
  conv at F => arg 5; whnf
  exact fn_okC F sc_Hand_back (F.bindsN fun _ _ _ _ _ _ us hl => match us, hl with | [_], _ => rfl) fun cdv A outer s H E hx hr => (pss_consD (ps_ifD (pt_notD (t_truC (q_att (q_v 0) fx.cl_Hand fx.na_Hand_past))) (pss_consD (ps_raiseX hx hr fx.g_Nothing fx.x_Nothing) pss_nilD) pss_nilD) (pss_consD (s_setA2 0 [0] hx (q_popC (q_att (q_v 0) fx.cl_Hand fx.na_Hand_past)) fx.cl_Hand fx.na_Hand_number fx.na_Hand_state) pss_nilD))
theorem sc_Hand_many : FnScope ["self", "name", "draws", "k"] ["self", "name", "draws"] (defScope (inClass (top 42) 4)) := ⟨rfl, rfl, rfl, by decide +kernel, rfl, by decide +kernel, by decide +kernel⟩
def F_Hand_many : SS Wl := (sSeq (sExpr (eCall M_look_table (lCons (eAtt "Hand" "book" (eVar 0)) (lCons (eVar 1) lNil))) [0, 1]) (sSeq (sIf (bNot (bTru (eCall M_is_whole (lCons (eVar 2) (lCons (eCon (.int 0)) (lCons (eCon (.int 1000)) lNil)))))) (sSeq (sRaise "BadNumber") sNil) sNil) (sSeq (sRet (eLc (iRange range1 (lCons (eVar 2) lNil)) (Tg.nm 3) bYes (eMeth "Hand" "draw" M_Hand_draw (eVar 0) (lCons (eVar 1) lNil)) [3])) sNil)))
def M_Hand_many : List D → Wl → Res Wl D := fnRun 4 F_Hand_many
theorem ok_Hand_many (fx : Fx w K mg) : FnG P w K mg base false 10 (He.ma K (He.ga K "Hand") "many") 3 M_Hand_many := by
  obtain ⟨fd, F⟩ := fx.d_Hand_many
  conv at F => arg 6; whnf
  conv at F => arg 5; whnf
  exact fn_okC F sc_Hand_many (F.bindsN fun _ _ _ _ _ _ us hl => match us, hl with | [_, _, _], _ => rfl) fun cdv A outer s H E hx hr => (pss_consD (ps_exprD [0, 1] (q_call (ok_look_table fx) (by decide) hx fx.g_look_table (q_c (q_att (q_v 0) fx.cl_Hand fx.na_Hand_book) (q_c (q_v 1) pa_nilD)) (lCons_len (lCons_len lNil_len))) rfl) (pss_consD (ps_ifD (pt_notD (bV (q_call (ok_is_whole fx).weak (by decide) hx fx.g_is_whole (q_c (q_v 2) (q_c q_i (q_c q_i pa_nilD))) (lCons_len (lCons_len (lCons_len lNil_len)))))) (pss_consD (ps_raiseX hx hr fx.g_BadNumber fx.x_BadNumber) pss_nilD) pss_nilD) (pss_consD (ps_retD (peN (pe_lcN hx (tg_nm 3) (blkOk_by (own := [("k", 3)]) (by kernel_rfl)) (by kernel_rfl) (q_irange fx.n_range (q_c (q_v 2) pa_nilD)) (fun s H C cl fp => (pg_name (i := 3) (hx.blk s H _ C cl fp).nd rfl (by first | exact Or.inl rfl | exact Or.inr rfl))) (fun s H C cl fp hx' => pts_yesD) (fun s H C cl fp hx' => (q_meth (ok_Hand_draw fx) (by decide) hx' fx.cl_Hand fx.me_Hand_draw (q_v 0) (q_c (q_v 1) pa_nilD) (len_succ (lCons_len lNil_len)))) (by intro _; rfl)))) pss_nilD)))
theorem sc_law_one : FnScope ["kind", "hand", "one", "other"] ["kind", "hand", "one", "other"] (defScope (top 52)) := ⟨rfl, rfl, rfl, by decide +kernel, rfl, by decide +kernel, by decide +kernel⟩
def F_law_one : SS Wl := (sSeq (sIf (bVal (eOp eqD (eVar 0) (eCon (.int 0)))) (sSeq (sRet (eMeth "Hand" "stands" M_Hand_stands (eMake "Hand" M_Hand_init (lCons (eVar 2) (lCons (eVar 3) lNil))) lNil)) sNil) sNil) (sSeq (sIf (bVal (eOp eqD (eVar 0) (eCon (.int 1)))) (sSeq (sRet (eMeth "Hand" "draw" M_Hand_draw (eVar 1) (lCons (eVar 2) lNil))) sNil) sNil) (sSeq (sRet (eIf (bVal (eOp eqD (eVar 0) (eCon (.int 2)))) (eMeth "Hand" "many" M_Hand_many (eVar 1) (lCons (eVar 2) (lCons (eVar 3) lNil))) (eMeth "Hand" "back" M_Hand_back (eVar 1) lNil))) sNil)))
def M_law_one : List D → Wl → Res Wl D := fnRun 4 F_law_one
theorem ok_law_one (fx : Fx w K mg) : FnG P w K mg base false 11 (He.ga K "_law_one") 4 M_law_one := by
  obtain ⟨fd, F⟩ := fx.d_law_one
  conv at F => arg 6; whnf
  conv at F => arg 5; whnf
  exact fn_okC F sc_law_one (F.bindsN fun _ _ _ _ _ _ us hl => match us, hl with | [_, _, _, _], _ => rfl) fun cdv A outer s H E hx hr => (pss_consD (ps_ifD (t_eq hx (q_v 0) q_i) (pss_consD (ps_retD (q_meth0 (ok_Hand_stands fx) (by decide) hx fx.cl_Hand fx.me_Hand_stands (q_make (ok_Hand_init fx) (by decide) hx fx.mk_Hand fx.g_Hand (q_c (q_v 2) (q_c (q_v 3) pa_nilD)) (len_succ (lCons_len (lCons_len lNil_len)))))) pss_nilD) pss_nilD) (pss_consD (ps_ifD (t_eq hx (q_v 0) q_i) (pss_consD (ps_retD (q_meth (ok_Hand_draw fx) (by decide) hx fx.cl_Hand fx.me_Hand_draw (q_v 1) (q_c (q_v 2) pa_nilD) (len_succ (lCons_len lNil_len)))) pss_nilD) pss_nilD) (pss_consD (ps_retD (pe_ifD (t_eq hx (q_v 0) q_i) (q_meth (ok_Hand_many fx) (by decide) hx fx.cl_Hand fx.me_Hand_many (q_v 1) (q_c (q_v 2) (q_c (q_v 3) pa_nilD)) (len_succ (lCons_len (lCons_len lNil_len)))) (q_meth0 (ok_Hand_back fx) (by decide) hx fx.cl_Hand fx.me_Hand_back (q_v 1)))) pss_nilD)))
theorem sc_law_refusal : FnScope ["caught", "kinds", "words"] ["caught"] (defScope (top 48)) := ⟨rfl, rfl, rfl, by decide +kernel, rfl, by decide +kernel, by decide +kernel⟩
def F_law_refusal : SS Wl := (sSeq (sIf (bVal (eOp isD (eVar 0) (eCon .non))) (sSeq (sRet (eTup (lCons (eCon (.str "ok")) lNil))) sNil) sNil) (sSeq (sNew 1 (eLst (lCons (eBlt (isiD CsL) (lCons (eVar 0) (lCons (eCon (.cls "BadBook")) lNil))) (lCons (eBlt (isiD CsL) (lCons (eVar 0) (lCons (eCon (.cls "NoTable")) lNil))) (lCons (eBlt (isiD CsL) (lCons (eVar 0) (lCons (eCon (.cls "BadState")) lNil))) lNil)))) [0]) (sSeq (sNew 1 (eOp catN (eVar 1) (eLst (lCons (eBlt (isiD CsL) (lCons (eVar 0) (lCons (eCon (.cls "BadItem")) lNil))) (lCons (eBlt (isiD CsL) (lCons (eVar 0) (lCons (eCon (.cls "BadNumber")) lNil))) (lCons (eBlt (isiD CsL) (lCons (eVar 0) (lCons (eCon (.cls "TooMany")) lNil))) lNil))))) [0, 1]) (sSeq (sNew 1 (eOp catN (eVar 1) (eLst (lCons (eBlt (isiD CsL) (lCons (eVar 0) (lCons (eCon (.cls "BadHeap")) lNil))) (lCons (eBlt (isiD CsL) (lCons (eVar 0) (lCons (eCon (.cls "NotPlain")) lNil))) (lCons (eBlt (isiD CsL) (lCons (eVar 0) (lCons (eCon (.cls "Nothing")) lNil))) lNil))))) [0, 1]) (sSeq (sApp 1 (eBlt (isiD CsL) (lCons (eVar 0) (lCons (eCon (.cls "BadText")) lNil))) [0]) (sSeq (sIf (bOr (bVal (eOp neD (eBM "list" countD (eVar 1) (lCons (eCon (.bl true)) lNil)) (eCon (.int 1)))) (bNot (bTru (eBlt (isiD CsL) (lCons (eVar 0) (lCons (eCon (.ty "ValueError")) lNil)))))) (sSeq (sRet (eTup (lCons (eCon (.str "wrong")) lNil))) sNil) sNil) (sSeq (sAsg 2 (eLst (lCons (eCon (.str "book")) (lCons (eCon (.str "table")) (lCons (eCon (.str "state")) (lCons (eCon (.str "item")) (lCons (eCon (.str "number")) (lCons (eCon (.str "many")) (lCons (eCon (.str "heap")) (lCons (eCon (.str "plain")) (lCons (eCon (.str "nothing")) (lCons (eCon (.str "text")) lNil))))))))))) []) (sSeq (sRet (eTup (lCons (eCon (.str "refused")) (lCons (eOp ixD (eVar 2) (eBM "list" indexD (eVar 1) (lCons (eCon (.bl true)) lNil))) lNil)))) sNil))))))))
def M_law_refusal : List D → Wl → Res Wl D := fnRun 3 F_law_refusal
theorem ok_law_refusal (fx : Fx w K mg) : FnG P w K mg base true 1 (He.ga K "_law_refusal") 1 M_law_refusal := by
  obtain ⟨fd, F⟩ := fx.d_law_refusal
  conv at F => arg 6; whnf
  conv at F => arg 5; whnf
  exact fn_okC F sc_law_refusal (F.bindsN fun _ _ _ _ _ _ us hl => match us, hl with | [_], _ => rfl) fun cdv A outer s H E hx hr => (pss_consD (ps_ifD (t_is (q_v 0) q_n) (pss_consD (ps_retD (pe_tupD (q_c q_s pa_nilD))) pss_nilD) pss_nilD) (pss_consD (s_new 1 [0] hx (pe_lstN (q_c (q_blt call_isA2 (ok_isi fx.cls) fx.n_isinstance (q_c (q_v 0) (q_c (q_gc fx.g_BadBook) pa_nilD)) (hv := bt_isinstance)) (q_c (q_blt call_isA2 (ok_isi fx.cls) fx.n_isinstance (q_c (q_v 0) (q_c (q_gc fx.g_NoTable) pa_nilD)) (hv := bt_isinstance)) (q_c (q_blt call_isA2 (ok_isi fx.cls) fx.n_isinstance (q_c (q_v 0) (q_c (q_gc fx.g_BadState) pa_nilD)) (hv := bt_isinstance)) pa_nilD))))) (pss_consD (s_new 1 [0, 1] hx (q_catN (q_v 1) (pe_lstD (q_c (q_blt call_isA2 (ok_isi fx.cls) fx.n_isinstance (q_c (q_v 0) (q_c (q_gc fx.g_BadItem) pa_nilD)) (hv := bt_isinstance)) (q_c (q_blt call_isA2 (ok_isi fx.cls) fx.n_isinstance (q_c (q_v 0) (q_c (q_gc fx.g_BadNumber) pa_nilD)) (hv := bt_isinstance)) (q_c (q_blt call_isA2 (ok_isi fx.cls) fx.n_isinstance (q_c (q_v 0) (q_c (q_gc fx.g_TooMany) pa_nilD)) (hv := bt_isinstance)) pa_nilD)))))) (pss_consD (s_new 1 [0, 1] hx (q_catN (q_v 1) (pe_lstD (q_c (q_blt call_isA2 (ok_isi fx.cls) fx.n_isinstance (q_c (q_v 0) (q_c (q_gc fx.g_BadHeap) pa_nilD)) (hv := bt_isinstance)) (q_c (q_blt call_isA2 (ok_isi fx.cls) fx.n_isinstance (q_c (q_v 0) (q_c (q_gc fx.g_NotPlain) pa_nilD)) (hv := bt_isinstance)) (q_c (q_blt call_isA2 (ok_isi fx.cls) fx.n_isinstance (q_c (q_v 0) (q_c (q_gc fx.g_Nothing) pa_nilD)) (hv := bt_isinstance)) pa_nilD)))))) (pss_consD (s_app 1 [0] (q_blt call_isA2 (ok_isi fx.cls) fx.n_isinstance (q_c (q_v 0) (q_c (q_gc fx.g_BadText) pa_nilD)) (hv := bt_isinstance))) (pss_consD (ps_ifD (PW.pt (pw_orD (t_ne hx (q_bm PySem.F.plainAttrs_list PySem.F.slot_list_count PySem.F.type_list_count mt_countV ok_count (q_v 1) (q_c q_b pa_nilD)) q_i) (t_or1 (pt_notD (bV (q_blt call_isA2 (ok_isi fx.cls) fx.n_isinstance (q_c (q_v 0) (q_c (q_ty fx.n_ValueError (hv := bt_ValueError)) pa_nilD)) (hv := bt_isinstance))))))) (pss_consD (ps_retD (pe_tupD (q_c q_s pa_nilD))) pss_nilD) pss_nilD) (pss_consD (s_set 2 [] hx (pe_lstD (q_c q_s (q_c q_s (q_c q_s (q_c q_s (q_c q_s (q_c q_s (q_c q_s (q_c q_s (q_c q_s (q_c q_s pa_nilD)))))))))))) (pss_consD (ps_retD (pe_tupD (q_c q_s (q_c (q_ix hx (q_v 2) (q_bm PySem.F.plainAttrs_list PySem.F.slot_list_index PySem.F.type_list_index mt_index ok_index (q_v 1) (q_c q_b pa_nilD))) pa_nilD)))) pss_nilD))))))))
theorem sc_law_told : FnScope ["kind", "hand", "one", "other", "caught", "found", "e"] ["kind", "hand", "one", "other"] (defScope (top 53)) := ⟨rfl, rfl, rfl, by decide +kernel, rfl, by decide +kernel, by decide +kernel⟩
def F_law_told : SS Wl := (sSeq (sAsg 4 (eCon .non) []) (sSeq (sAsg 5 (eCon .non) []) (sSeq (sTry XsL "GiftError" 5 (eCall M_law_one (lCons (eVar 0) (lCons (eVar 1) (lCons (eVar 2) (lCons (eVar 3) lNil))))) [0, 1, 2, 3] 4 6) (sSeq (sRet (eIf (bVal (eOp isD (eVar 4) (eCon .non))) (eTup (lCons (eCon (.str "found")) (lCons (eVar 5) lNil))) (eCall M_law_refusal (lCons (eVar 4) lNil)))) sNil))))
def M_law_told : List D → Wl → Res Wl D := fnRun 7 F_law_told
theorem ok_law_told (fx : Fx w K mg) : FnG P w K mg base false 12 (He.ga K "_law_told") 4 M_law_told := by
  obtain ⟨fd, F⟩ := fx.d_law_told
  conv at F => arg 6; whnf
  conv at F => arg 5; whnf
  exact fn_okC F sc_law_told (F.bindsN fun _ _ _ _ _ _ us hl => match us, hl with | [_, _, _, _], _ => rfl) fun cdv A outer s H E hx hr => (pss_consD (s_set 4 [] hx q_n) (pss_consD (s_set 5 [] hx q_n) (pss_consD (s_try [0, 1, 2, 3] hx hr fx.xok fx.g_GiftError (fun E1 pn xe hx' => ps_set hx'.nd rfl (by first | exact Or.inl rfl | exact Or.inr rfl) (q_call (ok_law_one fx) (by decide) hx' fx.g_law_one (q_c (q_v 0) (q_c (q_v 1) (q_c (q_v 2) (q_c (q_v 3) pa_nilD)))) (lCons_len (lCons_len (lCons_len (lCons_len lNil_len))))) rfl (by first | exact Or.inl rfl | exact Or.inr rfl)) rfl rfl rfl (by first | exact Or.inl rfl | exact Or.inr rfl) rfl (Or.inl rfl) (by decide)) (pss_consD (ps_retD (pe_ifD (t_is (q_v 4) q_n) (pe_tupD (q_c q_s (q_c (q_v 5) pa_nilD))) (q_call (ok_law_refusal fx).weak (by decide) hx fx.g_law_refusal (q_c (q_v 4) pa_nilD) (lCons_len lNil_len)))) pss_nilD))))
theorem sc_law : FnScope ["script", "town", "seed", "bad", "none", "draws", "some", "hand", "many", "turn", "found", "book", "name", "face", "k"] ["script"] (defScope (top 54)) := ⟨rfl, rfl, rfl, by decide +kernel, rfl, by decide +kernel, by decide +kernel⟩
def F_law : SS Wl := (sSeq (sAsg 1 (eCellN (eLst lNil)) []) (sSeq (sAsgT (Tg.tp [11, 12]) (eCall M_law_book (lCons (eVar 0) (lCons (eVar 1) (lCons (eCon (.int 3)) lNil)))) [0, 1]) (sSeq (sAsg 2 (eCall M_law_pick (lCons (eVar 0) (lCons (eVar 1) (lCons (eLst (lCons (eCon (.int 0)) (lCons (eCon (.int 2147483647)) (lCons (eOp subD (eCon (.int 0)) (eCon (.int 1))) (lCons (eCon .non) (lCons (eCon (.bl true)) (lCons (eCon (.str "1")) (lCons (eCon (.int 1000000000000)) lNil)))))))) lNil)))) [0, 1]) (sSeq (sAsg 3 (eCall M_law_pick (lCons (eVar 0) (lCons (eVar 1) (lCons (eLst (lCons (eCon .non) (lCons eDnew (lCons (eDisp [((eCon (.str "A")), (eOp ixD (eVar 11) (eVar 12)))]) (lCons (eDisp [((eCon (.str "a")), (eCon .non))]) (lCons (eLst (lCons (eVar 11) lNil)) lNil)))))) lNil)))) [0, 1, 11, 12]) (sSeq (sAsg 4 (eCall M_law_pick (lCons (eVar 0) (lCons (eVar 1) (lCons (eLst (lCons (eCon (.str "")) (lCons (eCon (.str "nothere")) (lCons (eCon .non) (lCons (eCon (.int 5)) (lCons (eTup (lCons (eVar 12) lNil)) lNil)))))) lNil)))) [0, 1, 12]) (sSeq (sAsg 5 (eCall M_law_pick (lCons (eVar 0) (lCons (eVar 1) (lCons (eLst (lCons (eOp subD (eCon (.int 0)) (eCon (.int 1))) (lCons (eCon (.int 1001)) (lCons (eCon .non) (lCons (eCon (.bl true)) (lCons (eCon (.str "1")) lNil)))))) lNil)))) [0, 1]) (sSeq (sAsg 6 (eLst (lCons (eCall M_law_told (lCons (eCon (.int 0)) (lCons (eCon .non) (lCons (eVar 3) (lCons (eVar 2) lNil))))) (lCons (eCall M_law_told (lCons (eCon (.int 0)) (lCons (eCon .non) (lCons (eVar 3) (lCons (eCon (.int 1)) lNil))))) (lCons (eCall M_law_told (lCons (eCon (.int 0)) (lCons (eCon .non) (lCons (eVar 11) (lCons (eVar 2) lNil))))) lNil)))) [2, 3, 11]) (sSeq (sIf (bVal (eOp neD (eVar 6) (eOp addD (eOp mulD (eLst (lCons (eTup (lCons (eCon (.str "refused")) (lCons (eCon (.str "book")) lNil))) lNil)) (eCon (.int 2))) (eLst (lCons (eTup (lCons (eCon (.str "refused")) (lCons (eCon (.str "number")) lNil))) lNil))))) (sSeq (sRet (eCon (.bl false))) sNil) sNil) (sSeq (sAsg 7 (eMake "Hand" M_Hand_init (lCons (eVar 11) (lCons (eOp addD (eCon (.int 1)) (eCall M_law_draw (lCons (eVar 0) (lCons (eVar 1) (lCons (eCon (.int 1000)) lNil))))) lNil))) [0, 1, 11]) (sSeq (sIfG (bVal (eOp neD (eCall M_law_told (lCons (eCon (.int 3)) (lCons (eVar 7) (lCons (eCon .non) (lCons (eCon .non) lNil))))) (eTup (lCons (eCon (.str "refused")) (lCons (eCon (.str "nothing")) lNil))))) [7] (sSeq (sRet (eCon (.bl false))) sNil) sNil) (sSeq (sAsg 8 (eCall M_law_draw (lCons (eVar 0) (lCons (eVar 1) (lCons (eCon (.int 6)) lNil)))) [0, 1]) (sSeq (sFor (iRange range1 (lCons (eVar 8) lNil)) [8] (Tg.nm 9) (sSeq (sExpr (eMeth "Hand" "draw" M_Hand_draw (eVar 7) (lCons (eVar 12) lNil)) [7, 12]) (sSeq (sAsg 13 (eMeth "Hand" "stands" M_Hand_stands (eVar 7) lNil) [7]) (sSeq (sAsg 6 (eLst (lCons (eCall M_law_told (lCons (eCon (.int 1)) (lCons (eVar 7) (lCons (eVar 4) (lCons (eCon .non) lNil))))) (lCons (eCall M_law_told (lCons (eCon (.int 2)) (lCons (eVar 7) (lCons (eVar 4) (lCons (eVar 5) lNil))))) (lCons (eCall M_law_told (lCons (eCon (.int 2)) (lCons (eVar 7) (lCons (eVar 4) (lCons (eCon (.int 3)) lNil))))) lNil)))) [4, 5, 7]) (sSeq (sIfG (bOr (bVal (eOp neD (eVar 6) (eOp mulD (eLst (lCons (eTup (lCons (eCon (.str "refused")) (lCons (eCon (.str "table")) lNil))) lNil)) (eCon (.int 3))))) (bVal (eOp neD (eCall M_law_told (lCons (eCon (.int 2)) (lCons (eVar 7) (lCons (eVar 12) (lCons (eVar 5) lNil))))) (eTup (lCons (eCon (.str "refused")) (lCons (eCon (.str "number")) lNil)))))) [5, 6, 7, 12] (sSeq (sRet (eCon (.bl false))) sNil) sNil) (sSeq (sIfG (bVal (eOp neD (eMeth "Hand" "stands" M_Hand_stands (eVar 7) lNil) (eVar 13))) [7, 13] (sSeq (sRet (eCon (.bl false))) sNil) sNil) sNil)))))) (sSeq (sAsg 6 (eLc (iRange range1 (lCons (eOp addD (eVar 8) (eCon (.int 1))) lNil)) (Tg.nm 14) bYes (eCall M_law_told (lCons (eCon (.int 3)) (lCons (eVar 7) (lCons (eCon .non) (lCons (eCon .non) lNil))))) [14]) [7, 8, 14]) (sSeq (sIf (bVal (eOp neD (eVar 6) (eOp addD (eOp mulD (eLst (lCons (eTup (lCons (eCon (.str "found")) (lCons (eCon .non) lNil))) lNil)) (eVar 8)) (eLst (lCons (eTup (lCons (eCon (.str "refused")) (lCons (eCon (.str "nothing")) lNil))) lNil))))) (sSeq (sRet (eCon (.bl false))) sNil) sNil) (sSeq (sAsg 10 (eCall M_law_told (lCons (eCon (.int 2)) (lCons (eVar 7) (lCons (eVar 12) (lCons (eCon (.int 1000)) lNil))))) [7, 12]) (sSeq (sRet (eAnd (eOp eqD (eOp ixD (eVar 10) (eCon (.int 0))) (eCon (.str "found"))) (eAnd (eOp eqD (eBlt lenD (lCons (eOp ixD (eVar 10) (eCon (.int 1))) lNil)) (eCon (.int 1000))) (eOp eqD (eCall M_law_told (lCons (eCon (.int 2)) (lCons (eVar 7) (lCons (eVar 12) (lCons (eCon (.int 0)) lNil))))) (eTup (lCons (eCon (.str "found")) (lCons (eLst lNil) lNil))))))) sNil))))))))))))))))
def M_law : List D → Wl → Res Wl D := fnRun 15 F_law
theorem ok_law (fx : Fx w K mg) : FnG P w K mg base false 13 (He.ga K "law") 1 M_law := by
  obtain ⟨fd, F⟩ := fx.d_law
  conv at F => arg 6; whnf
  conv at F => arg 5; whnf
  exact fn_okC F sc_law (F.bindsN fun _ _ _ _ _ _ us hl => match us, hl with | [_], _ => rfl) fun cdv A outer s H E hx hr => (pss_consD (s_set 1 [] hx (peC (pe_lstN pa_nilD))) (pss_consD (s_setT [0, 1] (tg_tp [11, 12]) (pg_tup hx.calm (pgs_cons (pg_name (i := 11) hx.nd rfl (by first | exact Or.inl rfl | exact Or.inr rfl)) (pgs_cons (pg_name (i := 12) hx.nd rfl (by first | exact Or.inl rfl | exact Or.inr rfl)) pgs_nil))) (q_call (ok_law_book fx) (by decide) hx fx.g_law_book (q_c (q_v 0) (q_c (q_v 1) (q_c q_i pa_nilD))) (lCons_len (lCons_len (lCons_len lNil_len))))) (pss_consD (s_set 2 [0, 1] hx (q_call (ok_law_pick fx) (by decide) hx fx.g_law_pick (q_c (q_v 0) (q_c (q_v 1) (q_c (pe_lstD (q_c q_i (q_c q_i (q_c (q_sub q_i q_i) (q_c q_n (q_c q_b (q_c q_s (q_c q_i pa_nilD)))))))) pa_nilD))) (lCons_len (lCons_len (lCons_len lNil_len))))) (pss_consD (s_set 3 [0, 1, 11, 12] hx (q_call (ok_law_pick fx) (by decide) hx fx.g_law_pick (q_c (q_v 0) (q_c (q_v 1) (q_c (pe_lstD (q_c q_n (q_c (peN pe_dnewN) (q_c (peN (q_dispN (fs := [((eCon (.str "A")), (eOp ixD (eVar 11) (eVar 12)))]) (pps_cons q_s (q_ix hx (q_v 11) (q_v 12)) pps_nil))) (q_c (peN (q_dispN (fs := [((eCon (.str "a")), (eCon .non))]) (pps_cons q_s q_n pps_nil))) (q_c (pe_lstD (q_c (q_v 11) pa_nilD)) pa_nilD)))))) pa_nilD))) (lCons_len (lCons_len (lCons_len lNil_len))))) (pss_consD (s_set 4 [0, 1, 12] hx (q_call (ok_law_pick fx) (by decide) hx fx.g_law_pick (q_c (q_v 0) (q_c (q_v 1) (q_c (pe_lstD (q_c q_s (q_c q_s (q_c q_n (q_c q_i (q_c (pe_tupD (q_c (q_v 12) pa_nilD)) pa_nilD)))))) pa_nilD))) (lCons_len (lCons_len (lCons_len lNil_len))))) (pss_consD (s_set 5 [0, 1] hx (q_call (ok_law_pick fx) (by decide) hx fx.g_law_pick (q_c (q_v 0) (q_c (q_v 1) (q_c (pe_lstD (q_c (q_sub q_i q_i) (q_c q_i (q_c q_n (q_c q_b (q_c q_s pa_nilD)))))) pa_nilD))) (lCons_len (lCons_len (lCons_len lNil_len))))) (pss_consD (s_set 6 [2, 3, 11] hx (pe_lstD (q_c (q_call (ok_law_told fx) (by decide) hx fx.g_law_told (q_c q_i (q_c q_n (q_c (q_v 3) (q_c (q_v 2) pa_nilD)))) (lCons_len (lCons_len (lCons_len (lCons_len lNil_len))))) (q_c (q_call (ok_law_told fx) (by decide) hx fx.g_law_told (q_c q_i (q_c q_n (q_c (q_v 3) (q_c q_i pa_nilD)))) (lCons_len (lCons_len (lCons_len (lCons_len lNil_len))))) (q_c (q_call (ok_law_told fx) (by decide) hx fx.g_law_told (q_c q_i (q_c q_n (q_c (q_v 11) (q_c (q_v 2) pa_nilD)))) (lCons_len (lCons_len (lCons_len (lCons_len lNil_len))))) pa_nilD))))) (pss_consD (ps_ifD (t_ne hx (q_v 6) (q_add (q_mul (pe_lstD (q_c (pe_tupD (q_c q_s (q_c q_s pa_nilD))) pa_nilD)) q_i) (pe_lstD (q_c (pe_tupD (q_c q_s (q_c q_s pa_nilD))) pa_nilD)))) (pss_consD (ps_retD q_b) pss_nilD) pss_nilD) (pss_consD (s_set 7 [0, 1, 11] hx (q_make (ok_Hand_init fx) (by decide) hx fx.mk_Hand fx.g_Hand (q_c (q_v 11) (q_c (q_add q_i (q_call (ok_law_draw fx) (by decide) hx fx.g_law_draw (q_c (q_v 0) (q_c (q_v 1) (q_c q_i pa_nilD))) (lCons_len (lCons_len (lCons_len lNil_len))))) pa_nilD)) (len_succ (lCons_len (lCons_len lNil_len))))) (pss_consD (ps_ifGD [7] (t_ne hx (q_call (ok_law_told fx) (by decide) hx fx.g_law_told (q_c q_i (q_c (q_v 7) (q_c q_n (q_c q_n pa_nilD)))) (lCons_len (lCons_len (lCons_len (lCons_len lNil_len))))) (pe_tupD (q_c q_s (q_c q_s pa_nilD)))) (pss_consD (ps_retD q_b) pss_nilD) pss_nilD) (pss_consD (s_set 8 [0, 1] hx (q_call (ok_law_draw fx) (by decide) hx fx.g_law_draw (q_c (q_v 0) (q_c (q_v 1) (q_c q_i pa_nilD))) (lCons_len (lCons_len (lCons_len lNil_len))))) (pss_consD (ps_forD [8] (tg_nm 9) hx.own hx.calm (q_irange fx.n_range (q_c (q_v 8) pa_nilD)) (pg_name (i := 9) hx.nd rfl (by first | exact Or.inl rfl | exact Or.inr rfl)) (pss_consD (ps_exprD [7, 12] (q_meth (ok_Hand_draw fx) (by decide) hx fx.cl_Hand fx.me_Hand_draw (q_v 7) (q_c (q_v 12) pa_nilD) (len_succ (lCons_len lNil_len))) rfl) (pss_consD (s_set 13 [7] hx (q_meth0 (ok_Hand_stands fx) (by decide) hx fx.cl_Hand fx.me_Hand_stands (q_v 7))) (pss_consD (s_set 6 [4, 5, 7] hx (pe_lstD (q_c (q_call (ok_law_told fx) (by decide) hx fx.g_law_told (q_c q_i (q_c (q_v 7) (q_c (q_v 4) (q_c q_n pa_nilD)))) (lCons_len (lCons_len (lCons_len (lCons_len lNil_len))))) (q_c (q_call (ok_law_told fx) (by decide) hx fx.g_law_told (q_c q_i (q_c (q_v 7) (q_c (q_v 4) (q_c (q_v 5) pa_nilD)))) (lCons_len (lCons_len (lCons_len (lCons_len lNil_len))))) (q_c (q_call (ok_law_told fx) (by decide) hx fx.g_law_told (q_c q_i (q_c (q_v 7) (q_c (q_v 4) (q_c q_i pa_nilD)))) (lCons_len (lCons_len (lCons_len (lCons_len lNil_len))))) pa_nilD))))) (pss_consD (ps_ifGD [5, 6, 7, 12] (PW.pt (pw_orD (t_ne hx (q_v 6) (q_mul (pe_lstD (q_c (pe_tupD (q_c q_s (q_c q_s pa_nilD))) pa_nilD)) q_i)) (t_or1 (t_ne hx (q_call (ok_law_told fx) (by decide) hx fx.g_law_told (q_c q_i (q_c (q_v 7) (q_c (q_v 12) (q_c (q_v 5) pa_nilD)))) (lCons_len (lCons_len (lCons_len (lCons_len lNil_len))))) (pe_tupD (q_c q_s (q_c q_s pa_nilD))))))) (pss_consD (ps_retD q_b) pss_nilD) pss_nilD) (pss_consD (ps_ifGD [7, 13] (t_ne hx (q_meth0 (ok_Hand_stands fx) (by decide) hx fx.cl_Hand fx.me_Hand_stands (q_v 7)) (q_v 13)) (pss_consD (ps_retD q_b) pss_nilD) pss_nilD) pss_nilD))))) (by intro _; rfl)) (pss_consD (c_set [7, 8, 14] (ps_setLcN (i := 6) hx rfl rfl rfl (tg_nm 14) (blkOk_by (own := [("k", 14)]) (by kernel_rfl)) (by kernel_rfl) (q_irange fx.n_range (q_c (q_add (q_v 8) q_i) pa_nilD)) (fun s H C cl fp => (pg_name (i := 14) (hx.blk s H _ C cl fp).nd rfl (by first | exact Or.inl rfl | exact Or.inr rfl))) (fun s H C cl fp hx' => pts_yesD) (fun s H C cl fp hx' => (q_call (ok_law_told fx) (by decide) hx' fx.g_law_told (q_c q_i (q_c (q_v 7) (q_c q_n (q_c q_n pa_nilD)))) (lCons_len (lCons_len (lCons_len (lCons_len lNil_len)))))) (by intro _; rfl))) (pss_consD (ps_ifD (t_ne hx (q_v 6) (q_add (q_mul (pe_lstD (q_c (pe_tupD (q_c q_s (q_c q_n pa_nilD))) pa_nilD)) (q_v 8)) (pe_lstD (q_c (pe_tupD (q_c q_s (q_c q_s pa_nilD))) pa_nilD)))) (pss_consD (ps_retD q_b) pss_nilD) pss_nilD) (pss_consD (s_set 10 [7, 12] hx (q_call (ok_law_told fx) (by decide) hx fx.g_law_told (q_c q_i (q_c (q_v 7) (q_c (q_v 12) (q_c q_i pa_nilD)))) (lCons_len (lCons_len (lCons_len (lCons_len lNil_len)))))) (pss_consD (ps_retD (pe_andD (q_eq hx (q_ix hx (q_v 10) q_i) q_s) (pe_andD (q_eq hx (q_blt call_lenA ok_len fx.n_len (q_c (q_ix hx (q_v 10) q_i) pa_nilD) (hv := bt_len)) q_i) (pe_one (q_eq hx (q_call (ok_law_told fx) (by decide) hx fx.g_law_told (q_c q_i (q_c (q_v 7) (q_c (q_v 12) (q_c q_i pa_nilD)))) (lCons_len (lCons_len (lCons_len (lCons_len lNil_len))))) (pe_tupD (q_c q_s (q_c (pe_lstD pa_nilD) pa_nilD)))))))) pss_nilD))))))))))))))))
theorem ok_law_fd (fx : Fx w K mg) {fd : FuncData} (F : FunD K "law" "law" (defArgs (top 54)) (defBody (top 54)) (defScope (top 54)) [] [] (He.ga K "law") fd) : FnOk P w K mg base (L2.CX P w) 13 (He.ga K "law") fd ["script"] (spD false K 1 M_law) := by
  conv at F => arg 6; whnf
  conv at F => arg 5; whnf
  exact fn_okE F sc_law fun cdv A outer s H E hx hr => (pss_consD (s_set 1 [] hx (peC (pe_lstN pa_nilD))) (pss_consD (s_setT [0, 1] (tg_tp [11, 12]) (pg_tup hx.calm (pgs_cons (pg_name (i := 11) hx.nd rfl (by first | exact Or.inl rfl | exact Or.inr rfl)) (pgs_cons (pg_name (i := 12) hx.nd rfl (by first | exact Or.inl rfl | exact Or.inr rfl)) pgs_nil))) (q_call (ok_law_book fx) (by decide) hx fx.g_law_book (q_c (q_v 0) (q_c (q_v 1) (q_c q_i pa_nilD))) (lCons_len (lCons_len (lCons_len lNil_len))))) (pss_consD (s_set 2 [0, 1] hx (q_call (ok_law_pick fx) (by decide) hx fx.g_law_pick (q_c (q_v 0) (q_c (q_v 1) (q_c (pe_lstD (q_c q_i (q_c q_i (q_c (q_sub q_i q_i) (q_c q_n (q_c q_b (q_c q_s (q_c q_i pa_nilD)))))))) pa_nilD))) (lCons_len (lCons_len (lCons_len lNil_len))))) (pss_consD (s_set 3 [0, 1, 11, 12] hx (q_call (ok_law_pick fx) (by decide) hx fx.g_law_pick (q_c (q_v 0) (q_c (q_v 1) (q_c (pe_lstD (q_c q_n (q_c (peN pe_dnewN) (q_c (peN (q_dispN (fs := [((eCon (.str "A")), (eOp ixD (eVar 11) (eVar 12)))]) (pps_cons q_s (q_ix hx (q_v 11) (q_v 12)) pps_nil))) (q_c (peN (q_dispN (fs := [((eCon (.str "a")), (eCon .non))]) (pps_cons q_s q_n pps_nil))) (q_c (pe_lstD (q_c (q_v 11) pa_nilD)) pa_nilD)))))) pa_nilD))) (lCons_len (lCons_len (lCons_len lNil_len))))) (pss_consD (s_set 4 [0, 1, 12] hx (q_call (ok_law_pick fx) (by decide) hx fx.g_law_pick (q_c (q_v 0) (q_c (q_v 1) (q_c (pe_lstD (q_c q_s (q_c q_s (q_c q_n (q_c q_i (q_c (pe_tupD (q_c (q_v 12) pa_nilD)) pa_nilD)))))) pa_nilD))) (lCons_len (lCons_len (lCons_len lNil_len))))) (pss_consD (s_set 5 [0, 1] hx (q_call (ok_law_pick fx) (by decide) hx fx.g_law_pick (q_c (q_v 0) (q_c (q_v 1) (q_c (pe_lstD (q_c (q_sub q_i q_i) (q_c q_i (q_c q_n (q_c q_b (q_c q_s pa_nilD)))))) pa_nilD))) (lCons_len (lCons_len (lCons_len lNil_len))))) (pss_consD (s_set 6 [2, 3, 11] hx (pe_lstD (q_c (q_call (ok_law_told fx) (by decide) hx fx.g_law_told (q_c q_i (q_c q_n (q_c (q_v 3) (q_c (q_v 2) pa_nilD)))) (lCons_len (lCons_len (lCons_len (lCons_len lNil_len))))) (q_c (q_call (ok_law_told fx) (by decide) hx fx.g_law_told (q_c q_i (q_c q_n (q_c (q_v 3) (q_c q_i pa_nilD)))) (lCons_len (lCons_len (lCons_len (lCons_len lNil_len))))) (q_c (q_call (ok_law_told fx) (by decide) hx fx.g_law_told (q_c q_i (q_c q_n (q_c (q_v 11) (q_c (q_v 2) pa_nilD)))) (lCons_len (lCons_len (lCons_len (lCons_len lNil_len))))) pa_nilD))))) (pss_consD (ps_ifD (t_ne hx (q_v 6) (q_add (q_mul (pe_lstD (q_c (pe_tupD (q_c q_s (q_c q_s pa_nilD))) pa_nilD)) q_i) (pe_lstD (q_c (pe_tupD (q_c q_s (q_c q_s pa_nilD))) pa_nilD)))) (pss_consD (ps_retD q_b) pss_nilD) pss_nilD) (pss_consD (s_set 7 [0, 1, 11] hx (q_make (ok_Hand_init fx) (by decide) hx fx.mk_Hand fx.g_Hand (q_c (q_v 11) (q_c (q_add q_i (q_call (ok_law_draw fx) (by decide) hx fx.g_law_draw (q_c (q_v 0) (q_c (q_v 1) (q_c q_i pa_nilD))) (lCons_len (lCons_len (lCons_len lNil_len))))) pa_nilD)) (len_succ (lCons_len (lCons_len lNil_len))))) (pss_consD (ps_ifGD [7] (t_ne hx (q_call (ok_law_told fx) (by decide) hx fx.g_law_told (q_c q_i (q_c (q_v 7) (q_c q_n (q_c q_n pa_nilD)))) (lCons_len (lCons_len (lCons_len (lCons_len lNil_len))))) (pe_tupD (q_c q_s (q_c q_s pa_nilD)))) (pss_consD (ps_retD q_b) pss_nilD) pss_nilD) (pss_consD (s_set 8 [0, 1] hx (q_call (ok_law_draw fx) (by decide) hx fx.g_law_draw (q_c (q_v 0) (q_c (q_v 1) (q_c q_i pa_nilD))) (lCons_len (lCons_len (lCons_len lNil_len))))) (pss_consD (ps_forD [8] (tg_nm 9) hx.own hx.calm (q_irange fx.n_range (q_c (q_v 8) pa_nilD)) (pg_name (i := 9) hx.nd rfl (by first | exact Or.inl rfl | exact Or.inr rfl)) (pss_consD (ps_exprD [7, 12] (q_meth (ok_Hand_draw fx) (by decide) hx fx.cl_Hand fx.me_Hand_draw (q_v 7) (q_c (q_v 12) pa_nilD) (len_succ (lCons_len lNil_len))) rfl) (pss_consD (s_set 13 [7] hx (q_meth0 (ok_Hand_stands fx) (by decide) hx fx.cl_Hand fx.me_Hand_stands (q_v 7))) (pss_consD (s_set 6 [4, 5, 7] hx (pe_lstD (q_c (q_call (ok_law_told fx) (by decide) hx fx.g_law_told (q_c q_i (q_c (q_v 7) (q_c (q_v 4) (q_c q_n pa_nilD)))) (lCons_len (lCons_len (lCons_len (lCons_len lNil_len))))) (q_c (q_call (ok_law_told fx) (by decide) hx fx.g_law_told (q_c q_i (q_c (q_v 7) (q_c (q_v 4) (q_c (q_v 5) pa_nilD)))) (lCons_len (lCons_len (lCons_len (lCons_len lNil_len))))) (q_c (q_call (ok_law_told fx) (by decide) hx fx.g_law_told (q_c q_i (q_c (q_v 7) (q_c (q_v 4) (q_c q_i pa_nilD)))) (lCons_len (lCons_len (lCons_len (lCons_len lNil_len))))) pa_nilD))))) (pss_consD (ps_ifGD [5, 6, 7, 12] (PW.pt (pw_orD (t_ne hx (q_v 6) (q_mul (pe_lstD (q_c (pe_tupD (q_c q_s (q_c q_s pa_nilD))) pa_nilD)) q_i)) (t_or1 (t_ne hx (q_call (ok_law_told fx) (by decide) hx fx.g_law_told (q_c q_i (q_c (q_v 7) (q_c (q_v 12) (q_c (q_v 5) pa_nilD)))) (lCons_len (lCons_len (lCons_len (lCons_len lNil_len))))) (pe_tupD (q_c q_s (q_c q_s pa_nilD))))))) (pss_consD (ps_retD q_b) pss_nilD) pss_nilD) (pss_consD (ps_ifGD [7, 13] (t_ne hx (q_meth0 (ok_Hand_stands fx) (by decide) hx fx.cl_Hand fx.me_Hand_stands (q_v 7)) (q_v 13)) (pss_consD (ps_retD q_b) pss_nilD) pss_nilD) pss_nilD))))) (by intro _; rfl)) (pss_consD (c_set [7, 8, 14] (ps_setLcN (i := 6) hx rfl rfl rfl (tg_nm 14) (blkOk_by (own := [("k", 14)]) (by kernel_rfl)) (by kernel_rfl) (q_irange fx.n_range (q_c (q_add (q_v 8) q_i) pa_nilD)) (fun s H C cl fp => (pg_name (i := 14) (hx.blk s H _ C cl fp).nd rfl (by first | exact Or.inl rfl | exact Or.inr rfl))) (fun s H C cl fp hx' => pts_yesD) (fun s H C cl fp hx' => (q_call (ok_law_told fx) (by decide) hx' fx.g_law_told (q_c q_i (q_c (q_v 7) (q_c q_n (q_c q_n pa_nilD)))) (lCons_len (lCons_len (lCons_len (lCons_len lNil_len)))))) (by intro _; rfl))) (pss_consD (ps_ifD (t_ne hx (q_v 6) (q_add (q_mul (pe_lstD (q_c (pe_tupD (q_c q_s (q_c q_n pa_nilD))) pa_nilD)) (q_v 8)) (pe_lstD (q_c (pe_tupD (q_c q_s (q_c q_s pa_nilD))) pa_nilD)))) (pss_consD (ps_retD q_b) pss_nilD) pss_nilD) (pss_consD (s_set 10 [7, 12] hx (q_call (ok_law_told fx) (by decide) hx fx.g_law_told (q_c q_i (q_c (q_v 7) (q_c (q_v 12) (q_c q_i pa_nilD)))) (lCons_len (lCons_len (lCons_len (lCons_len lNil_len)))))) (pss_consD (ps_retD (pe_andD (q_eq hx (q_ix hx (q_v 10) q_i) q_s) (pe_andD (q_eq hx (q_blt call_lenA ok_len fx.n_len (q_c (q_ix hx (q_v 10) q_i) pa_nilD) (hv := bt_len)) q_i) (pe_one (q_eq hx (q_call (ok_law_told fx) (by decide) hx fx.g_law_told (q_c q_i (q_c (q_v 7) (q_c (q_v 12) (q_c q_i pa_nilD)))) (lCons_len (lCons_len (lCons_len (lCons_len lNil_len))))) (pe_tupD (q_c q_s (q_c (pe_lstD pa_nilD) pa_nilD)))))))) pss_nilD))))))))))))))))
end
theorem fx_of {w : World} {K : PySem.W.Frag} {h : Heap} {mg : Str → Option Value} (X : K.In h) (G : h.Ns mainGlobals mg) (c0 : obsB fa fn ts exB K = (He.valT fn ts w, true)) : Fx w K mg := by
  have ct : He.SaysT fa fn ts w K := congrArg (fun z : He.AlT × Bool => z.1) c0
  have c : He.SaysD fa fn K := ct.d
  have cx : exB K = true := congrArg (fun z : He.AlT × Bool => z.2) c0
  have e : ts.map (fun t => He.dicW K (t.1 K)) = ts.map fun t => some (He.keysIn w.params t.2) := congrArg (fun z : He.AlT => z.2) ct
  obtain ⟨hx0, cx1⟩ := He.ba cx
  obtain ⟨hx1, cx2⟩ := He.ba cx1
  have hx2 := cx2
  have tb0 := (List.cons.inj e).1
  exact ⟨clsOk_of hx0, xOk_of hx1,
    He.free_ok X G (c.fact 0 (f := .free "tuple") rfl),
    c.def_ 0 (d := dd_fresh_of) rfl,
    c.def_ 1 (d := dd_gifts) rfl,
    He.glo_ok X G (c.fact 1 (f := .glo "gifts") rfl),
    c.def_ 2 (d := dd_inner_tables) rfl,
    He.free_ok X G (c.fact 2 (f := .free "sorted") rfl),
    He.glo_ok X G (c.fact 3 (f := .glo "inner_tables") rfl),
    He.free_ok X G (c.fact 4 (f := .free "all") rfl),
    c.def_ 3 (d := dd_is_rising) rfl,
    He.free_ok X G (c.fact 5 (f := .free "int") rfl),
    He.free_ok X G (c.fact 6 (f := .free "isinstance") rfl),
    He.free_ok X G (c.fact 7 (f := .free "bool") rfl),
    c.def_ 4 (d := dd_is_whole) rfl,
    He.free_ok X G (c.fact 8 (f := .free "str") rfl),
    He.free_ok X G (c.fact 9 (f := .free "len") rfl),
    He.str_ok X G (c.fact 10 (f := .str "SMALL" "abcdefghijklmnopqrstuvwxyz") rfl),
    c.def_ 5 (d := dd_is_word) rfl,
    He.glo_ok X G (c.fact 11 (f := .glo "is_word") rfl),
    He.int_ok X G (c.fact 12 (f := .int "MOST_MANY" 9) rfl),
    He.glo_ok X G (c.fact 13 (f := .glo "is_whole") rfl),
    He.int_ok X G (c.fact 14 (f := .int "MOST_SEVERAL" 2) rfl),
    He.glo_ok X G (c.fact 15 (f := .glo "is_gift") rfl),
    c.def_ 6 (d := dd_is_gift) rfl,
    He.int_ok X G (c.fact 16 (f := .int "MOST_WEIGHT" 20) rfl),
    c.def_ 7 (d := dd_is_row) rfl,
    He.glo_ok X G (c.fact 17 (f := .glo "SIZES") rfl),
    tabOk_of (tab := [("draw", 2), ("bag", 2), ("sure", 4), ("unlike", 2)]) tb0 hx2,
    He.int_ok X G (c.fact 18 (f := .int "MOST_ROWS" 4) rfl),
    He.glo_ok X G (c.fact 19 (f := .glo "is_row") rfl),
    He.free_ok X G (c.fact 20 (f := .free "sum") rfl),
    He.int_ok X G (c.fact 21 (f := .int "MOST_BAG" 12) rfl),
    He.int_ok X G (c.fact 22 (f := .int "MOST_SURE" 10) rfl),
    c.def_ 8 (d := dd_is_table) rfl,
    He.free_ok X G (c.fact 23 (f := .free "dict") rfl),
    He.int_ok X G (c.fact 24 (f := .int "MOST_TABLES" 4) rfl),
    c.fact 25 (f := .exc "BadBook") rfl,
    He.glo_ok X G (c.fact 26 (f := .glo "BadBook") rfl),
    He.glo_ok X G (c.fact 27 (f := .glo "is_table") rfl),
    He.glo_ok X G (c.fact 28 (f := .glo "is_rising") rfl),
    c.def_ 9 (d := dd_look_book) rfl,
    He.glo_ok X G (c.fact 29 (f := .glo "look_book") rfl),
    He.glo_ok X G (c.fact 30 (f := .glo "fresh_of") rfl),
    c.def_ 10 (d := dd_fresh) rfl,
    He.int_ok X G (c.fact 31 (f := .int "ROOM" 2147483647) rfl),
    c.fact 32 (f := .exc "BadNumber") rfl,
    He.glo_ok X G (c.fact 33 (f := .glo "BadNumber") rfl),
    c.fact 34 (f := .cls "Hand") rfl,
    c.fact 35 (f := .noat "Hand" "book") rfl,
    c.fact 36 (f := .noat "Hand" "number") rfl,
    He.glo_ok X G (c.fact 37 (f := .glo "fresh") rfl),
    c.fact 38 (f := .noat "Hand" "state") rfl,
    c.fact 39 (f := .noat "Hand" "past") rfl,
    c.def_ 11 (d := dd_Hand_init) rfl,
    He.int_ok X G (c.fact 40 (f := .int "BY" 48271) rfl),
    c.def_ 12 (d := dd_following) rfl,
    He.glo_ok X G (c.fact 41 (f := .glo "following") rfl),
    c.def_ 13 (d := dd_Hand_below) rfl,
    c.def_ 14 (d := dd_heap_with) rfl,
    He.free_ok X G (c.fact 42 (f := .free "range") rfl),
    c.def_ 15 (d := dd_state_then) rfl,
    He.free_ok X G (c.fact 43 (f := .free "list") rfl),
    c.def_ 16 (d := dd_weights) rfl,
    He.glo_ok X G (c.fact 44 (f := .glo "weights") rfl),
    c.fact 45 (f := .meth "Hand" "below") rfl,
    He.glo_ok X G (c.fact 46 (f := .glo "state_then") rfl),
    He.glo_ok X G (c.fact 47 (f := .glo "heap_with") rfl),
    c.fact 48 (f := .meth "Hand" "drawn") rfl,
    c.def_ 17 (d := dd_Hand_drawn) rfl,
    c.fact 49 (f := .exc "NoTable") rfl,
    He.glo_ok X G (c.fact 50 (f := .glo "NoTable") rfl),
    c.def_ 18 (d := dd_look_table) rfl,
    He.glo_ok X G (c.fact 51 (f := .glo "look_table") rfl),
    c.def_ 19 (d := dd_Hand_draw) rfl,
    c.def_ 20 (d := dd_Hand_stands) rfl,
    c.def_ 21 (d := dd_law_cell) rfl,
    He.glo_ok X G (c.fact 52 (f := .glo "_law_cell") rfl),
    c.def_ 22 (d := dd_law_mix) rfl,
    He.glo_ok X G (c.fact 53 (f := .glo "_law_mix") rfl),
    c.def_ 23 (d := dd_law_draw) rfl,
    He.glo_ok X G (c.fact 54 (f := .glo "_law_draw") rfl),
    c.def_ 24 (d := dd_law_pick) rfl,
    He.glo_ok X G (c.fact 55 (f := .glo "_law_pick") rfl),
    He.glo_ok X G (c.fact 56 (f := .glo "_law_gift") rfl),
    c.def_ 25 (d := dd_law_gift) rfl,
    c.def_ 26 (d := dd_law_table) rfl,
    He.glo_ok X G (c.fact 57 (f := .glo "_law_table") rfl),
    c.def_ 27 (d := dd_law_book) rfl,
    c.fact 58 (f := .exc "Nothing") rfl,
    He.glo_ok X G (c.fact 59 (f := .glo "Nothing") rfl),
    c.def_ 28 (d := dd_Hand_back) rfl,
    c.fact 60 (f := .meth "Hand" "draw") rfl,
    c.def_ 29 (d := dd_Hand_many) rfl,
    c.fact 61 (f := .mkr "Hand") rfl,
    He.glo_ok X G (c.fact 62 (f := .glo "Hand") rfl),
    c.fact 63 (f := .meth "Hand" "stands") rfl,
    c.fact 64 (f := .meth "Hand" "many") rfl,
    c.fact 65 (f := .meth "Hand" "back") rfl,
    c.def_ 30 (d := dd_law_one) rfl,
    He.glo_ok X G (c.fact 66 (f := .glo "BadState") rfl),
    He.glo_ok X G (c.fact 67 (f := .glo "TooMany") rfl),
    He.glo_ok X G (c.fact 68 (f := .glo "BadItem") rfl),
    He.glo_ok X G (c.fact 69 (f := .glo "NotPlain") rfl),
    He.glo_ok X G (c.fact 70 (f := .glo "BadHeap") rfl),
    He.glo_ok X G (c.fact 71 (f := .glo "BadText") rfl),
    He.free_ok X G (c.fact 72 (f := .free "ValueError") rfl),
    c.def_ 31 (d := dd_law_refusal) rfl,
    He.glo_ok X G (c.fact 73 (f := .glo "_law_one") rfl),
    He.glo_ok X G (c.fact 74 (f := .glo "GiftError") rfl),
    He.glo_ok X G (c.fact 75 (f := .glo "_law_refusal") rfl),
    c.def_ 32 (d := dd_law_told) rfl,
    He.glo_ok X G (c.fact 76 (f := .glo "_law_book") rfl),
    He.glo_ok X G (c.fact 77 (f := .glo "_law_told") rfl),
    c.def_ 33 (d := dd_law) rfl,
    He.glo_ok X G (c.fact 78 (f := .glo "law") rfl)⟩
/-! ### what a reading ends in -/
def Sa {A : Type} (r : Res Wl A) (Q : A → Wl → Prop) : Prop := ∃ a w, r = .ok a w ∧ Q a w
def Ss (r : RS Wl) (N : G.Env → List Nat → Wl → Prop) (R : D → Wl → Prop) : Prop := (∃ rh ow w, r = .nx rh ow w ∧ N rh ow w) ∨ ∃ d w, r = .ret d w ∧ R d w
section
variable {A C : Type} {w : Wl} {rh : G.Env} {ow us vs : List Nat} {i n : Nat} {N : G.Env → List Nat → Wl → Prop} {R : D → Wl → Prop}
theorem sa_ok {a : A} {Q : A → Wl → Prop} : Sa (.ok a w) Q ↔ Q a w := ⟨fun ⟨_, _, e, q⟩ => by cases e; exact q, fun q => ⟨_, _, rfl, q⟩⟩
theorem sa_fail {Q : A → Wl → Prop} : Sa .fail Q ↔ False := ⟨fun ⟨_, _, e, _⟩ => (nomatch e), False.elim⟩
theorem sa_exc {c : Str} {Q : A → Wl → Prop} : Sa (.exc c w) Q ↔ False := ⟨fun ⟨_, _, e, _⟩ => (nomatch e), False.elim⟩
theorem ss_bad {r : RS Wl} (h1 : ∀ a b c, r ≠ .nx a b c) (h2 : ∀ a b, r ≠ .ret a b) : Ss r N R ↔ False := by
  constructor
  · intro h
    rcases h with ⟨_, _, _, e, _⟩ | ⟨_, _, e, _⟩
    · exact h1 _ _ _ e
    · exact h2 _ _ e
  · exact False.elim
theorem ss_fail : Ss .fail N R ↔ False := ss_bad (by simp) (by simp)
theorem ss_exc {c : Str} : Ss (.exc c w) N R ↔ False := ss_bad (by simp) (by simp)
theorem ss_brk : Ss (.brk rh ow w) N R ↔ False := ss_bad (by simp) (by simp)
theorem ss_ct : Ss (.ct rh ow w) N R ↔ False := ss_bad (by simp) (by simp)
theorem Sa.mono {r : Res Wl A} {Q Q' : A → Wl → Prop} (h : Sa r Q) (f : ∀ a w, Q a w → Q' a w) : Sa r Q' := let ⟨a, w, e, q⟩ := h; ⟨a, w, e, f a w q⟩
theorem sa_bind {r : Res Wl A} {f : A → Wl → Res Wl C} {Q : C → Wl → Prop} : Sa (Res.bind r f) Q ↔ Sa r fun a w => Sa (f a w) Q := by
  cases r with
  | ok a w => rw [sa_ok]
  | exc c w => simp only [ss_brk, ss_ct, ss_exc, sa_exc, sa_fail, ss_fail]
  | fail => simp only [ss_brk, ss_ct, ss_exc, sa_exc, sa_fail, ss_fail]
theorem ss_nx : Ss (.nx rh ow w) N R ↔ N rh ow w := ⟨fun h => by (rcases h with ⟨_, _, _, e, q⟩ | ⟨_, _, e, q⟩ <;> cases e; exact q), fun q => .inl ⟨_, _, _, rfl, q⟩⟩
theorem ss_ret {d : D} : Ss (.ret d w) N R ↔ R d w := ⟨fun h => by (rcases h with ⟨_, _, _, e, q⟩ | ⟨_, _, e, q⟩ <;> cases e; exact q), fun q => .inr ⟨_, _, rfl, q⟩⟩
theorem Ss.mono {r : RS Wl} {N' : G.Env → List Nat → Wl → Prop} {R' : D → Wl → Prop} (h : Ss r N R) (f : ∀ rh ow w, N rh ow w → N' rh ow w) (g : ∀ d w, R d w → R' d w) : Ss r N' R' := by
  rcases h with ⟨a, b, c, e, q⟩ | ⟨a, b, e, q⟩
  · exact .inl ⟨a, b, c, e, f _ _ _ q⟩
  · exact .inr ⟨a, b, e, g _ _ q⟩
theorem ss_seq {f g : SS Wl} : Ss (sSeq f g rh ow w) N R ↔ Ss (f rh ow w) (fun rh ow w => Ss (g rh ow w) N R) R := by
  unfold sSeq
  cases f rh ow w with
  | nx a b c => simp only [ss_nx]
  | ret a b => simp only [ss_ret]
  | brk a b c => simp only [ss_brk, ss_ct, ss_exc, sa_exc, sa_fail, ss_fail]
  | ct a b c => simp only [ss_brk, ss_ct, ss_exc, sa_exc, sa_fail, ss_fail]
  | exc a b => simp only [ss_brk, ss_ct, ss_exc, sa_exc, sa_fail, ss_fail]
  | fail => simp only [ss_brk, ss_ct, ss_exc, sa_exc, sa_fail, ss_fail]
theorem ss_fin {r : Res Wl A} {k : A → Wl → RS Wl} : Ss (fin r k) N R ↔ Sa r fun a w => Ss (k a w) N R := by
  cases r with
  | ok a w => rw [sa_ok]
  | exc c w => simp only [ss_brk, ss_ct, ss_exc, sa_exc, sa_fail, ss_fail]
  | fail => simp only [ss_brk, ss_ct, ss_exc, sa_exc, sa_fail, ss_fail]
theorem ss_nil : Ss (sNil rh ow w) N R ↔ N rh ow w := ss_nx
theorem sa_fn {F : SS Wl} {ds : List D} {Q : D → Wl → Prop} : Sa (fnRun n F ds w) Q ↔ Ss (F (ds.map some ++ List.replicate (n - ds.length) none) [] w) (fun _ _ w => Q .non w) Q := by
  unfold fnRun
  cases F (ds.map some ++ List.replicate (n - ds.length) none) [] w with
  | nx a b c => simp only [ss_nx, sa_ok]
  | ret a b => simp only [ss_ret, sa_ok]
  | brk a b c => simp only [ss_brk, ss_ct, ss_exc, sa_exc, sa_fail, ss_fail]
  | ct a b c => simp only [ss_brk, ss_ct, ss_exc, sa_exc, sa_fail, ss_fail]
  | exc a b => simp only [ss_brk, ss_ct, ss_exc, sa_exc, sa_fail, ss_fail]
  | fail => simp only [ss_brk, ss_ct, ss_exc, sa_exc, sa_fail, ss_fail]
variable {Q : D → Wl → Prop} {QL : List D → Wl → Prop} {QB : Bool → Wl → Prop} {d x y : D} {fa fb fc fo fk : SE Wl} {fs : SL Wl} {g g' : D → D → Option D} {gu : D → Option D} {gb : List D → Option D} {a b : SB Wl} {f h : SS Wl} {it : SI Wl} {tg : Tg}
theorem sa_eVar (e : rh[i]? = some (some d)) : Sa (eVar i rh w) Q ↔ Q d w := by
  have : eVar i rh w = .ok d w := by unfold eVar; rw [e]
  rw [this, sa_ok]
theorem len_lst (xs : List D) : lenD [.lst xs] = some (.int xs.length) := rfl
theorem len_tup (xs : List D) : lenD [.tup xs] = some (.int xs.length) := rfl
theorem len_dic (xs : List (Key × D)) : lenD [.dic xs] = some (.int xs.length) := rfl
theorem items_lst (xs : List D) : itemsOf (.lst xs) = some xs := rfl
theorem items_tup (xs : List D) : itemsOf (.tup xs) = some xs := rfl
theorem isB_bl (k : Bool) : isB (.bl k) = some k := rfl
theorem tru_bl (k : Bool) : truD (.bl k) = some k := rfl
theorem sa_v0 : Sa (eVar 0 (some d :: rh) w) Q ↔ Q d w := sa_ok
theorem sa_v1 {a0 : Option D} : Sa (eVar 1 (a0 :: some d :: rh) w) Q ↔ Q d w := sa_ok
theorem sa_v2 {a0 a1 : Option D} : Sa (eVar 2 (a0 :: a1 :: some d :: rh) w) Q ↔ Q d w := sa_ok
theorem sa_v3 {a0 a1 a2 : Option D} : Sa (eVar 3 (a0 :: a1 :: a2 :: some d :: rh) w) Q ↔ Q d w := sa_ok
theorem sa_v4 {a0 a1 a2 a3 : Option D} : Sa (eVar 4 (a0 :: a1 :: a2 :: a3 :: some d :: rh) w) Q ↔ Q d w := sa_ok
theorem sa_v5 {a0 a1 a2 a3 a4 : Option D} : Sa (eVar 5 (a0 :: a1 :: a2 :: a3 :: a4 :: some d :: rh) w) Q ↔ Q d w := sa_ok
theorem sa_v6 {a0 a1 a2 a3 a4 a5 : Option D} : Sa (eVar 6 (a0 :: a1 :: a2 :: a3 :: a4 :: a5 :: some d :: rh) w) Q ↔ Q d w := sa_ok
theorem sa_v7 {a0 a1 a2 a3 a4 a5 a6 : Option D} : Sa (eVar 7 (a0 :: a1 :: a2 :: a3 :: a4 :: a5 :: a6 :: some d :: rh) w) Q ↔ Q d w := sa_ok
theorem sa_v8 {a0 a1 a2 a3 a4 a5 a6 a7 : Option D} : Sa (eVar 8 (a0 :: a1 :: a2 :: a3 :: a4 :: a5 :: a6 :: a7 :: some d :: rh) w) Q ↔ Q d w := sa_ok
theorem sa_v9 {a0 a1 a2 a3 a4 a5 a6 a7 a8 : Option D} : Sa (eVar 9 (a0 :: a1 :: a2 :: a3 :: a4 :: a5 :: a6 :: a7 :: a8 :: some d :: rh) w) Q ↔ Q d w := sa_ok
theorem sa_v10 {a0 a1 a2 a3 a4 a5 a6 a7 a8 a9 : Option D} : Sa (eVar 10 (a0 :: a1 :: a2 :: a3 :: a4 :: a5 :: a6 :: a7 :: a8 :: a9 :: some d :: rh) w) Q ↔ Q d w := sa_ok
theorem sa_v11 {a0 a1 a2 a3 a4 a5 a6 a7 a8 a9 a10 : Option D} : Sa (eVar 11 (a0 :: a1 :: a2 :: a3 :: a4 :: a5 :: a6 :: a7 :: a8 :: a9 :: a10 :: some d :: rh) w) Q ↔ Q d w := sa_ok
theorem sa_v12 {a0 a1 a2 a3 a4 a5 a6 a7 a8 a9 a10 a11 : Option D} : Sa (eVar 12 (a0 :: a1 :: a2 :: a3 :: a4 :: a5 :: a6 :: a7 :: a8 :: a9 :: a10 :: a11 :: some d :: rh) w) Q ↔ Q d w := sa_ok
theorem sa_v13 {a0 a1 a2 a3 a4 a5 a6 a7 a8 a9 a10 a11 a12 : Option D} : Sa (eVar 13 (a0 :: a1 :: a2 :: a3 :: a4 :: a5 :: a6 :: a7 :: a8 :: a9 :: a10 :: a11 :: a12 :: some d :: rh) w) Q ↔ Q d w := sa_ok
theorem sa_v14 {a0 a1 a2 a3 a4 a5 a6 a7 a8 a9 a10 a11 a12 a13 : Option D} : Sa (eVar 14 (a0 :: a1 :: a2 :: a3 :: a4 :: a5 :: a6 :: a7 :: a8 :: a9 :: a10 :: a11 :: a12 :: a13 :: some d :: rh) w) Q ↔ Q d w := sa_ok
theorem sa_eCon : Sa (eCon d rh w) Q ↔ Q d w := sa_ok
theorem sa_lift : Sa (lift (some d) w) Q ↔ Q d w := sa_ok
theorem sa_liftB {k : Bool} : Sa (liftB (some k) w) QB ↔ QB k w := sa_ok
theorem sa_liftL {ds : List D} : Sa (liftL (some ds) w) QL ↔ QL ds w := sa_ok
theorem sa_eOp : Sa (eOp g fa fb rh w) Q ↔ Sa (fa rh w) fun x w1 => Sa (fb rh w1) fun y w2 => Sa (lift (g x y) w2) Q := by simp only [eOp, sa_bind]
theorem sa_eUn : Sa (eUn gu fa rh w) Q ↔ Sa (fa rh w) fun x w1 => Sa (lift (gu x) w1) Q := by simp only [eUn, sa_bind]
theorem sa_lNil : Sa (lNil rh w) QL ↔ QL [] w := sa_ok
theorem sa_lCons : Sa (lCons fa fs rh w) QL ↔ Sa (fa rh w) fun x w1 => Sa (fs rh w1) fun xs w2 => QL (x :: xs) w2 := by simp only [lCons, sa_bind, sa_ok]
theorem sa_eBlt : Sa (eBlt gb fs rh w) Q ↔ Sa (fs rh w) fun xs w1 => Sa (lift (gb xs) w1) Q := by simp only [eBlt, sa_bind]
theorem sa_eCall {m : List D → Wl → Res Wl D} : Sa (eCall m fs rh w) Q ↔ Sa (fs rh w) fun xs w1 => Sa (m xs w1) Q := by simp only [eCall, sa_bind]
theorem sa_ite {p : Prop} [Decidable p] {r r' : Res Wl A} {Q : A → Wl → Prop} : Sa (if p then r else r') Q ↔ if p then Sa r Q else Sa r' Q := by split <;> rfl
theorem ss_ite {p : Prop} [Decidable p] {r r' : RS Wl} : Ss (if p then r else r') N R ↔ if p then Ss r N R else Ss r' N R := by split <;> rfl
theorem sa_eTup : Sa (eTup fs rh w) Q ↔ Sa (fs rh w) fun xs w1 => xs.length ≤ 100000 ∧ Q (.tup xs) w1 := by
  simp only [eTup, sa_bind, sa_ite, sa_ok, sa_fail, if_false_right, and_comm]
theorem sa_eLst : Sa (eLst fs rh w) Q ↔ Sa (fs rh w) fun xs w1 => xs.length ≤ 100000 ∧ Q (.lst xs) w1 := by
  simp only [eLst, sa_bind, sa_ite, sa_ok, sa_fail, if_false_right, and_comm]
theorem sa_eIf : Sa (eIf a fa fb rh w) Q ↔ Sa (a rh w) fun b w1 => if b then Sa (fa rh w1) Q else Sa (fb rh w1) Q := by simp only [eIf, sa_bind, sa_ite]
theorem sa_eAnd : Sa (eAnd fa fb rh w) Q ↔ Sa (fa rh w) fun x w1 => Sa (liftB (isB x) w1) fun b w2 => if b then Sa (fb rh w2) Q else Q (.bl false) w2 := by simp only [eAnd, sa_bind, sa_ite, sa_ok]
theorem sa_eOr : Sa (eOr fa fb rh w) Q ↔ Sa (fa rh w) fun x w1 => Sa (liftB (isB x) w1) fun b w2 => if b then Q (.bl true) w2 else Sa (fb rh w2) Q := by simp only [eOr, sa_bind, sa_ite, sa_ok]
theorem sa_bAnd : Sa (bAnd a b rh w) QB ↔ Sa (a rh w) fun x w1 => if x then Sa (b rh w1) QB else QB false w1 := by simp only [bAnd, sa_bind, sa_ite, sa_ok]
theorem sa_bOr : Sa (bOr a b rh w) QB ↔ Sa (a rh w) fun x w1 => if x then QB true w1 else Sa (b rh w1) QB := by simp only [bOr, sa_bind, sa_ite, sa_ok]
theorem sa_bNot : Sa (bNot a rh w) QB ↔ Sa (a rh w) fun x w1 => QB (!x) w1 := by simp only [bNot, sa_bind, sa_ok]
theorem sa_bTru : Sa (bTru fa rh w) QB ↔ Sa (fa rh w) fun x w1 => Sa (liftB (truD x) w1) QB := by simp only [bTru, sa_bind]
theorem sa_bVal : Sa (bVal fa rh w) QB ↔ Sa (fa rh w) fun x w1 => Sa (liftB (isB x) w1) QB := by simp only [bVal, sa_bind]
theorem sa_iItems : Sa (G.iItems fa rh w) QL ↔ Sa (fa rh w) fun x w1 => Sa (liftL (itemsOf x) w1) QL := by simp only [G.iItems, sa_bind]
theorem sa_iKeys : Sa (G.iKeys fa rh w) QL ↔ Sa (fa rh w) fun x w1 => Sa (liftL (keysL x) w1) QL := by simp only [G.iKeys, sa_bind]
theorem sa_iRange {gr : List D → Option (List D)} : Sa (iRange gr fs rh w) QL ↔ Sa (fs rh w) fun xs w1 => Sa (liftL (gr xs) w1) QL := by simp only [iRange, sa_bind]
theorem sa_eChain : Sa (eChain g g' fa fb fc rh w) Q ↔ Sa (fa rh w) fun x w1 => Sa (fb rh w1) fun y w2 => Sa (lift (g x y) w2) fun z w3 => Sa (liftB (isB z) w3) fun k w4 => if k then Sa (fc rh w4) fun u w5 => Sa (lift (g' y u) w5) Q else Q (.bl false) w4 := by
  simp only [eChain, sa_bind, sa_ite, sa_ok]
theorem ss_if : Ss (sIf a f h rh ow w) N R ↔ Sa (a rh w) fun b _ => if b then Ss (f rh ow w) N R else Ss (h rh ow w) N R := by simp only [sIf, ss_fin, ss_ite]
theorem ss_ifG : Ss (sIfG a us f h rh ow w) N R ↔ Sa (a (wipeE rh (give ow us)) w) fun b w1 => if b then Ss (f rh (give ow us) w1) N R else Ss (h rh (give ow us) w1) N R := by simp only [sIfG, ss_fin, ss_ite]
theorem ss_sret : Ss (sRet fa rh ow w) N R ↔ Sa (fa rh w) R := by simp only [sRet, ss_fin, ss_ret]
theorem ss_expr : Ss (sExpr fa us rh ow w) N R ↔ Sa (fa (wipeE rh (give ow us)) w) fun _ w1 => N rh (give ow us) w1 := by simp only [sExpr, ss_fin, ss_nx]
theorem ss_asg : Ss (sAsg i fa us rh ow w) N R ↔ Sa (fa (wipeE rh (give ow us)) w) fun d w1 => N (rh.set i (some d)) (rmv (give ow us) i) w1 := by simp only [sAsg, ss_fin, ss_nx]
theorem ss_new (hi : i < rh.length) : Ss (sNew i fa us rh ow w) N R ↔ Sa (fa (wipeE rh (give ow us)) w) fun d w1 => N (rh.set i (some d)) (i :: rmv (give ow us) i) w1 := by simp only [sNew, hi, if_true, ss_fin, ss_nx]
theorem ss_for : Ss (sFor it us tg f rh ow w) N R ↔ Sa (it (wipeE rh (give ow us)) w) fun ds w1 => Ss (forD tg f ds rh (give ow us) w1) N R := by simp only [sFor, ss_fin]
theorem ss_app {xs : List D} (ho : ownL rh (give ow us) i = some xs) : Ss (sApp i fa us rh ow w) N R ↔ Sa (fa (wipeE rh (give ow us)) w) fun d w1 => N (rh.set i (some (.lst (xs ++ [d])))) (give ow us) w1 := by simp only [sApp, ho, onL, ss_fin, ss_nx]
theorem ss_asgT (hu : uses tg.slots (give ow us) = false) : Ss (sAsgT tg fa us rh ow w) N R ↔ Sa (fa (wipeE rh (give ow us)) w) fun d w1 => ∃ rh', tgSet tg d rh = some rh' ∧ N rh' (give ow us) w1 := by
  simp only [sAsgT, hu, Bool.false_eq_true, if_false, ss_fin]
  constructor
  · intro q
    refine q.mono fun x w1 q => ?_
    cases hc : tgSet tg x rh with
    | none => simp only [hc, ss_fail] at q
    | some z => simp only [hc, ss_nx] at q; exact ⟨z, rfl, q⟩
  · intro q
    refine q.mono fun x w1 q => ?_
    obtain ⟨z, hc, q⟩ := q
    simp only [hc, ss_nx]
    exact q
theorem ss_put {xs : List (Key × D)} (ho : ownD rh (give ow us) i = some xs) : Ss (sPut i fk fa us rh ow w) N R ↔ Sa (fa (wipeE rh (give ow us)) w) fun d w1 => Sa (fk (wipeE rh (give ow us)) w1) fun y w2 => ∃ k, keyOf y = some k ∧ N (rh.set i (some (.dic (putD xs k d)))) (give ow us) w2 := by
  simp only [sPut, ho, onD, ss_fin]
  constructor
  · intro q
    refine q.mono fun x w1 q => q.mono fun y w2 q => ?_
    cases hc : keyOf y with
    | none => simp only [hc, onK, ss_fail] at q
    | some z => simp only [hc, onK, ss_nx] at q; exact ⟨z, rfl, q⟩
  · intro q
    refine q.mono fun x w1 q => q.mono fun y w2 q => ?_
    obtain ⟨z, hc, q⟩ := q
    simp only [hc, onK, ss_nx]
    exact q
theorem ss_putP {xs : List (Key × D)} (ho : ownD rh ow i = some xs) : Ss (sPutP i fk fa rh ow w) N R ↔ Sa (fa rh w) fun d _ => imm d = true ∧ Sa (fk rh w) fun y _ => ∃ k, keyOf y = some k ∧ N (rh.set i (some (.dic (putD xs k d)))) ow w := by
  simp only [sPutP, ho, onD, ss_fin]
  constructor
  · intro q
    refine q.mono fun x w1 q => ?_
    split at q
    · rename_i hi
      refine ⟨hi, ?_⟩
      rw [ss_fin] at q
      refine q.mono fun y w2 q => ?_
      cases hc : keyOf y with
      | none => simp only [hc, onK, ss_fail] at q
      | some z => simp only [hc, onK, ss_nx] at q; exact ⟨z, rfl, q⟩
    · simp only [ss_fail] at q
  · intro q
    refine q.mono fun x w1 q => ?_
    rw [if_pos q.1, ss_fin]
    refine q.2.mono fun y w2 q => ?_
    obtain ⟨z, hc, q⟩ := q
    simp only [hc, onK, ss_nx]
    exact q
theorem ss_ext {xs : List D} (ho : ownL rh (give ow us) i = some xs) : Ss (sExt i fa us rh ow w) N R ↔ Sa (fa (wipeE rh (give ow us)) w) fun d w1 => ∃ ys, lstOf d = some ys ∧ N (rh.set i (some (.lst (xs ++ ys)))) (give ow us) w1 := by
  simp only [sExt, ho, onL, ss_fin]
  constructor
  · intro q
    refine q.mono fun x w1 q => ?_
    cases hc : lstOf x with
    | none => simp only [hc, onL, ss_fail] at q
    | some z => simp only [hc, onL, ss_nx] at q; exact ⟨z, rfl, q⟩
  · intro q
    refine q.mono fun x w1 q => ?_
    obtain ⟨z, hc, q⟩ := q
    simp only [hc, onL, ss_nx]
    exact q
theorem ss_newP (hi : i < rh.length) : Ss (sNewP i fa rh ow w) N R ↔ Sa (fa rh w) fun d _ => ∃ xs, d = .lst xs ∧ imms xs = true ∧ N (rh.set i (some d)) (i :: rmv ow i) w := by
  simp only [sNewP, hi, if_true, ss_fin]
  constructor
  · intro q
    refine q.mono fun x w1 q => ?_
    cases x with
    | lst xs =>
      simp only [ss_ite, ss_nx, ss_fail, if_false_right] at q
      exact ⟨xs, rfl, q.1, q.2⟩
    | _ => simp only [ss_fail] at q
  · intro q
    refine q.mono fun x w1 q => ?_
    obtain ⟨xs, rfl, h1, q⟩ := q
    simp only [h1, if_true, ss_nx]
    exact q
theorem sa_eBM {ty : String} {gm : D → List D → Option D} : Sa (eBM ty gm fo fs rh w) Q ↔ Sa (fo rh w) fun x w1 => tyB ty x = true ∧ Sa (fs rh w1) fun xs w2 => Sa (lift (gm x xs) w2) Q := by
  simp only [eBM, sa_bind, sa_ite, sa_fail, if_false_right]
theorem sa_onC {α : Type} {o : Option (Nat × α)} {k : Nat → α → Res Wl D} : Sa (onC o k) Q ↔ ∃ j c, o = some (j, c) ∧ Sa (k j c) Q := by
  cases o with
  | none => simp [onC, sa_fail]
  | some z =>
    obtain ⟨a, c⟩ := z
    constructor
    · intro q; exact ⟨a, c, rfl, q⟩
    · rintro ⟨_, _, e, q⟩; cases e; exact q
theorem sa_eAtt {cn fn : Str} : Sa (eAtt cn fn fo rh w) Q ↔ Sa (fo rh w) fun x w1 => ∃ j gs, cellI cn x w1 = some (j, gs) ∧ Sa (lift (gs.lookup fn) w1) Q := by
  simp only [eAtt, sa_bind, sa_onC]
theorem ss_setA {cn fn : Str} : Ss (sSetA cn fn fo fa us rh ow w) N R ↔ Sa (fa (wipeE rh (give ow us)) w) fun d w1 => Sa (fo (wipeE rh (give ow us)) w1) fun x w2 => ∃ j gs, cellI cn x w2 = some (j, gs) ∧ N rh (give ow us) (w2.set j (.ins cn (putFD fn d gs))) := by
  simp only [sSetA, ss_fin]
  constructor
  · intro q
    refine q.mono fun x w1 q => q.mono fun y w2 q => ?_
    cases hc : cellI cn y w2 with
    | none => simp only [hc, ss_fail] at q
    | some z => simp only [hc, ss_nx] at q; exact ⟨z.1, z.2, rfl, q⟩
  · intro q
    refine q.mono fun x w1 q => q.mono fun y w2 q => ?_
    obtain ⟨z, gs, hc, q⟩ := q
    simp only [hc, ss_nx]
    exact q
theorem sa_eGet : Sa (eGet fo fk fa rh w) Q ↔ Sa (fo rh w) fun x w1 => isDic x = true ∧ Sa (fk rh w1) fun y w2 => Sa (fa rh w2) fun z w3 => Sa (lift (G.getD x y z) w3) Q := by
  simp only [eGet, sa_bind, sa_ite, sa_fail, if_false_right]
theorem ss_while {a : SB Wl} {n : Nat} : Ss (whileD a f (n + 1) rh ow w) N R ↔ Sa (a rh w) fun b _ => if b then Ss (G.nextT (whileD a f n) (f rh ow w)) N R else N rh ow w := by
  simp only [whileD, ss_fin, ss_ite, ss_nx]
theorem ss_next {k : SS Wl} {s : RS Wl} (h : Ss s (fun rh ow w => Ss (k rh ow w) N R) R) : Ss (G.nextT k s) N R := by
  rcases h with ⟨a, b, c, e, q⟩ | ⟨a, b, e, q⟩
  · rw [e]; exact q
  · rw [e]; exact ss_ret.mpr q
theorem sa_eDnew : Sa (eDnew rh w) Q ↔ Q (.dic []) w := sa_ok
variable {QO : Option Int → Wl → Prop} {lo hi : G.Env → Wl → Res Wl (Option Int)}
theorem sa_oNone : Sa (oNone rh w) QO ↔ QO none w := sa_ok
theorem sa_oSome : Sa (oSome fa rh w) QO ↔ Sa (fa rh w) fun x w1 => ∃ j, x = .int j ∧ QO (some j) w1 := by
  simp only [oSome, sa_bind]
  constructor
  · intro q
    refine q.mono fun x w1 q => ?_
    cases x with
    | int j => exact ⟨j, rfl, by simpa only [isI, sa_ok] using q⟩
    | _ => simp only [isI, sa_fail] at q
  · intro q
    refine q.mono fun x w1 q => ?_
    obtain ⟨j, rfl, q⟩ := q
    simpa only [isI, sa_ok] using q
theorem sa_eSl : Sa (eSl fa lo hi rh w) Q ↔ Sa (fa rh w) fun x w1 => Sa (lo rh w1) fun l w2 => Sa (hi rh w2) fun u w3 => Sa (lift (slD x l u) w3) Q := by simp only [eSl, sa_bind]
theorem sa_eLc {te : SE Wl} {tt : SB Wl} : Sa (eLc it tg tt te vs rh w) Q ↔ Sa (it rh w) fun ds w1 => ds.length ≤ 100000 ∧ Sa (lcLoop tg tt te (wipeE rh vs) ds [] w1) fun out w2 => Q (.lst out) w2 := by
  simp only [eLc, sa_bind, sa_ite, sa_ok, sa_fail, if_false_right, and_comm]
theorem sa_eMeth {cn mn : Str} {m : List D → Wl → Res Wl D} : Sa (eMeth cn mn m fo fs rh w) Q ↔ Sa (fo rh w) fun x w1 => ∃ j gs, cellI cn x w1 = some (j, gs) ∧ gs.lookup mn = none ∧ Sa (fs rh w1) fun xs w2 => Sa (m (x :: xs) w2) Q := by
  simp only [eMeth, sa_bind]
  constructor
  · intro q
    refine q.mono fun x w1 q => ?_
    cases hc : cellI cn x w1 with
    | none => rw [hc] at q; exact (sa_fail.mp q).elim
    | some jg =>
      obtain ⟨j, gs⟩ := jg
      rw [hc] at q
      refine ⟨j, gs, rfl, ?_⟩
      cases hl : gs.lookup mn with
      | none => simp only [onC, hl, sa_bind] at q; exact ⟨rfl, q⟩
      | some z => simp only [onC, hl, sa_fail] at q
  · intro q
    refine q.mono fun x w1 q => ?_
    obtain ⟨j, gs, hc, hl, q⟩ := q
    simp only [hc, onC, hl, sa_bind]
    exact q
/-- a loop over a list: what holds of all that is behind, ahead, and the world -/
theorem for_inv {ds : List D} (I : List D → G.Env → List Nat → Wl → Prop) (h0 : I ds rh ow w)
    (step : ∀ d ds rh ow w, I (d :: ds) rh ow w → uses tg.slots ow = false ∧ ∃ rh', tgSet tg d rh = some rh' ∧ Ss (f rh' ow w) (I ds) R) (fine : ∀ rh ow w, I [] rh ow w → N rh ow w) : Ss (forD tg f ds rh ow w) N R := by
  induction ds generalizing rh ow w with
  | nil => rw [forD, ss_nx]; exact fine _ _ _ h0
  | cons d ds ih =>
    obtain ⟨h1, rh', h2, h3⟩ := step d ds rh ow w h0
    simp only [forD, h1, h2]
    simp only [Bool.false_eq_true, if_false]
    rcases h3 with ⟨a, b, c, e, q⟩ | ⟨a, b, e, q⟩
    · rw [e]; exact ih q
    · rw [e]; exact ss_ret.mpr q
/-- a comprehension: what holds of what is behind, ahead, and the world -/
theorem lc_inv {te : SE Wl} {ds acc : List D} (I : List D → List D → Wl → Prop) (h0 : I ds acc w)
    (step : ∀ d ds acc w, I (d :: ds) acc w → Sa (te (rh.set i (some d)) w) fun y w2 => I ds (acc ++ [y]) w2) (fine : ∀ acc w, I [] acc w → QL acc w) : Sa (lcLoop (.nm i) bYes te rh ds acc w) QL := by
  induction ds generalizing acc w with
  | nil => rw [lcLoop, sa_ok]; exact fine _ _ h0
  | cons d ds ih =>
    obtain ⟨y, w2, e, q⟩ := step d ds acc w h0
    have : lcLoop (.nm i) bYes te rh (d :: ds) acc w = lcLoop (.nm i) bYes te rh ds (acc ++ [y]) w2 := by
      simp [lcLoop, tgSet, bYes, Res.bind, e, noX]
    rw [this]
    exact ih q
end
theorem k1 : kitB "int" "int" = some true := by kernel_rfl
theorem k2 : kitB "int" "bool" = some false := by kernel_rfl
theorem k3 : kitB "str" "str" = some true := by kernel_rfl
theorem k4 : kitB "tuple" "tuple" = some true := by kernel_rfl
theorem k5 : kitB "dict" "dict" = some true := by kernel_rfl
theorem e_none_none : eqD (.str "none") (.str "none") = some (.bl true) := by kernel_rfl
theorem n_none_none : neD (.str "none") (.str "none") = some (.bl false) := by kernel_rfl
theorem e_none_item : eqD (.str "none") (.str "item") = some (.bl false) := by kernel_rfl
theorem n_none_item : neD (.str "none") (.str "item") = some (.bl true) := by kernel_rfl
theorem e_none_table : eqD (.str "none") (.str "table") = some (.bl false) := by kernel_rfl
theorem n_none_table : neD (.str "none") (.str "table") = some (.bl true) := by kernel_rfl
theorem e_none_several : eqD (.str "none") (.str "several") = some (.bl false) := by kernel_rfl
theorem n_none_several : neD (.str "none") (.str "several") = some (.bl true) := by kernel_rfl
theorem e_item_none : eqD (.str "item") (.str "none") = some (.bl false) := by kernel_rfl
theorem n_item_none : neD (.str "item") (.str "none") = some (.bl true) := by kernel_rfl
theorem e_item_item : eqD (.str "item") (.str "item") = some (.bl true) := by kernel_rfl
theorem n_item_item : neD (.str "item") (.str "item") = some (.bl false) := by kernel_rfl
theorem e_item_table : eqD (.str "item") (.str "table") = some (.bl false) := by kernel_rfl
theorem n_item_table : neD (.str "item") (.str "table") = some (.bl true) := by kernel_rfl
theorem e_item_several : eqD (.str "item") (.str "several") = some (.bl false) := by kernel_rfl
theorem n_item_several : neD (.str "item") (.str "several") = some (.bl true) := by kernel_rfl
theorem e_table_none : eqD (.str "table") (.str "none") = some (.bl false) := by kernel_rfl
theorem n_table_none : neD (.str "table") (.str "none") = some (.bl true) := by kernel_rfl
theorem e_table_item : eqD (.str "table") (.str "item") = some (.bl false) := by kernel_rfl
theorem n_table_item : neD (.str "table") (.str "item") = some (.bl true) := by kernel_rfl
theorem e_table_table : eqD (.str "table") (.str "table") = some (.bl true) := by kernel_rfl
theorem n_table_table : neD (.str "table") (.str "table") = some (.bl false) := by kernel_rfl
theorem e_table_several : eqD (.str "table") (.str "several") = some (.bl false) := by kernel_rfl
theorem n_table_several : neD (.str "table") (.str "several") = some (.bl true) := by kernel_rfl
theorem e_several_none : eqD (.str "several") (.str "none") = some (.bl false) := by kernel_rfl
theorem n_several_none : neD (.str "several") (.str "none") = some (.bl true) := by kernel_rfl
theorem e_several_item : eqD (.str "several") (.str "item") = some (.bl false) := by kernel_rfl
theorem n_several_item : neD (.str "several") (.str "item") = some (.bl true) := by kernel_rfl
theorem e_several_table : eqD (.str "several") (.str "table") = some (.bl false) := by kernel_rfl
theorem n_several_table : neD (.str "several") (.str "table") = some (.bl true) := by kernel_rfl
theorem e_several_several : eqD (.str "several") (.str "several") = some (.bl true) := by kernel_rfl
theorem n_several_several : neD (.str "several") (.str "several") = some (.bl false) := by kernel_rfl
theorem e_draw_draw : eqD (.str "draw") (.str "draw") = some (.bl true) := by kernel_rfl
theorem n_draw_draw : neD (.str "draw") (.str "draw") = some (.bl false) := by kernel_rfl
theorem e_draw_bag : eqD (.str "draw") (.str "bag") = some (.bl false) := by kernel_rfl
theorem n_draw_bag : neD (.str "draw") (.str "bag") = some (.bl true) := by kernel_rfl
theorem e_draw_sure : eqD (.str "draw") (.str "sure") = some (.bl false) := by kernel_rfl
theorem n_draw_sure : neD (.str "draw") (.str "sure") = some (.bl true) := by kernel_rfl
theorem e_draw_unlike : eqD (.str "draw") (.str "unlike") = some (.bl false) := by kernel_rfl
theorem n_draw_unlike : neD (.str "draw") (.str "unlike") = some (.bl true) := by kernel_rfl
theorem e_bag_draw : eqD (.str "bag") (.str "draw") = some (.bl false) := by kernel_rfl
theorem n_bag_draw : neD (.str "bag") (.str "draw") = some (.bl true) := by kernel_rfl
theorem e_bag_bag : eqD (.str "bag") (.str "bag") = some (.bl true) := by kernel_rfl
theorem n_bag_bag : neD (.str "bag") (.str "bag") = some (.bl false) := by kernel_rfl
theorem e_bag_sure : eqD (.str "bag") (.str "sure") = some (.bl false) := by kernel_rfl
theorem n_bag_sure : neD (.str "bag") (.str "sure") = some (.bl true) := by kernel_rfl
theorem e_bag_unlike : eqD (.str "bag") (.str "unlike") = some (.bl false) := by kernel_rfl
theorem n_bag_unlike : neD (.str "bag") (.str "unlike") = some (.bl true) := by kernel_rfl
theorem e_sure_draw : eqD (.str "sure") (.str "draw") = some (.bl false) := by kernel_rfl
theorem n_sure_draw : neD (.str "sure") (.str "draw") = some (.bl true) := by kernel_rfl
theorem e_sure_bag : eqD (.str "sure") (.str "bag") = some (.bl false) := by kernel_rfl
theorem n_sure_bag : neD (.str "sure") (.str "bag") = some (.bl true) := by kernel_rfl
theorem e_sure_sure : eqD (.str "sure") (.str "sure") = some (.bl true) := by kernel_rfl
theorem n_sure_sure : neD (.str "sure") (.str "sure") = some (.bl false) := by kernel_rfl
theorem e_sure_unlike : eqD (.str "sure") (.str "unlike") = some (.bl false) := by kernel_rfl
theorem n_sure_unlike : neD (.str "sure") (.str "unlike") = some (.bl true) := by kernel_rfl
theorem e_unlike_draw : eqD (.str "unlike") (.str "draw") = some (.bl false) := by kernel_rfl
theorem n_unlike_draw : neD (.str "unlike") (.str "draw") = some (.bl true) := by kernel_rfl
theorem e_unlike_bag : eqD (.str "unlike") (.str "bag") = some (.bl false) := by kernel_rfl
theorem n_unlike_bag : neD (.str "unlike") (.str "bag") = some (.bl true) := by kernel_rfl
theorem e_unlike_sure : eqD (.str "unlike") (.str "sure") = some (.bl false) := by kernel_rfl
theorem n_unlike_sure : neD (.str "unlike") (.str "sure") = some (.bl true) := by kernel_rfl
theorem e_unlike_unlike : eqD (.str "unlike") (.str "unlike") = some (.bl true) := by kernel_rfl
theorem n_unlike_unlike : neD (.str "unlike") (.str "unlike") = some (.bl false) := by kernel_rfl
theorem eqD_int (a b : Int) : eqD (.int a) (.int b) = some (.bl (decide (a = b))) := by
  show ((if (SeqAt.shaped (.int a) && SeqAt.shaped (.int b)) = true then some (PyData.eqv (.int a) (.int b)) else none).map D.bl : Option D) = _
  rw [if_pos (by rfl)]
  simp only [PyData.eqv, Option.map_some]
  rfl
theorem neD_int (a b : Int) : neD (.int a) (.int b) = some (.bl (!decide (a = b))) := by
  show ((if (SeqAt.shaped (.int a) && SeqAt.shaped (.int b)) = true then some (PyData.eqv (.int a) (.int b)) else none).map (fun k => D.bl (!k)) : Option D) = _
  rw [if_pos (by rfl)]
  simp only [PyData.eqv, Option.map_some]
  rfl
theorem eqB_self {x : D} {p : PyData} (h : toPy x = some p) (hs : SeqAt.shaped p = true) : eqB x x = some true := by
  have hr := SeqAt.eqv_refl p (SeqAt.canLay_of_shaped hs)
  cases x <;> first | (simp [eqB]; done) | (simp [eqB, h, hs, hr])
/-- a sign of the alphabet -/
def smallC (c : Nat) : Bool := 97 ≤ c && c ≤ 122
theorem occ_small (c : Nat) (h : smallC c = true) : (Builtin.Str.occurrences "abcdefghijklmnopqrstuvwxyz" ⟨#[c]⟩ 0 26 1).isEmpty = false := by
  unfold smallC at h
  simp at h
  have : ∀ c : Fin 123, 97 ≤ c.val → (Builtin.Str.occurrences "abcdefghijklmnopqrstuvwxyz" ⟨#[c.val]⟩ 0 26 1).isEmpty = false := by decide +kernel
  exact this ⟨c, by omega⟩ h.1
/-- comprehensions without effects -/
theorem lc_filt {tt : SB Wl} {te : SE Wl} {p : D → Bool} {g : D → D} {rh : G.Env} {i : Nat} {w : Wl} : ∀ (ds acc : List D) (h : ∀ d ∈ ds, tt (rh.set i (some d)) w = .ok (p d) w ∧ (p d = true → te (rh.set i (some d)) w = .ok (g d) w)), lcLoop (.nm i) tt te rh ds acc w = .ok (acc ++ (ds.filter p).map g) w
  | [], acc, _ => by simp [lcLoop]
  | d :: ds, acc, h => by
    obtain ⟨h1, h2⟩ := h d (List.mem_cons_self ..)
    cases hp : p d with
    | true =>
      have ih := lc_filt (tt := tt) (te := te) (rh := rh) (w := w) ds (acc ++ [g d]) fun d' hd => h d' (List.mem_cons_of_mem _ hd)
      simp [lcLoop, tgSet, Res.bind, h1, h2 hp, ih, hp, noX]
    | false =>
      have ih := lc_filt (tt := tt) (te := te) (rh := rh) (w := w) ds acc fun d' hd => h d' (List.mem_cons_of_mem _ hd)
      simp [lcLoop, tgSet, Res.bind, h1, ih, hp, noX]
theorem lc_pure {te : SE Wl} {g : D → D} {rh : G.Env} {i : Nat} {w : Wl} (ds acc : List D) (h : ∀ d ∈ ds, te (rh.set i (some d)) w = .ok (g d) w) : lcLoop (.nm i) bYes te rh ds acc w = .ok (acc ++ ds.map g) w := by
  have := lc_filt (tt := bYes) (te := te) (p := fun _ => true) (g := g) (rh := rh) (i := i) (w := w) ds acc fun d hd => ⟨rfl, fun _ => h d hd⟩
  rwa [List.filter_eq_self.mpr (fun _ _ => rfl)] at this
/-- the same with a tuple as target -/
theorem lc_pair {te : SE Wl} {α : Type} {m : α → D × D} {g : α → D} {rh : G.Env} {i j : Nat} {w : Wl} : ∀ (xs : List α) (acc : List D) (h : ∀ x ∈ xs, te ((rh.set i (some (m x).1)).set j (some (m x).2)) w = .ok (g x) w), lcLoop (.tp [i, j]) bYes te rh (xs.map fun x => .tup [(m x).1, (m x).2]) acc w = .ok (acc ++ xs.map g) w
  | [], acc, _ => by simp [lcLoop]
  | d :: ds, acc, h => by
    have ih := lc_pair (te := te) (rh := rh) (w := w) ds (acc ++ [g d]) fun d' hd => h d' (List.mem_cons_of_mem _ hd)
    simp [lcLoop, tgSet, setAll, bYes, Res.bind, h d (List.mem_cons_self ..), ih, noX]
theorem bls_map {α : Type} (p : α → Bool) : ∀ ds : List α, blsOf (ds.map fun d => D.bl (p d)) = some (ds.map p)
  | [] => rfl
  | d :: ds => by simp [blsOf, bls_map p ds]
theorem ints_map {α : Type} (p : α → Int) : ∀ ds : List α, intsOf (ds.map fun d => D.int (p d)) = some (ds.map p)
  | [] => rfl
  | d :: ds => by simp [intsOf, ints_map p ds]
theorem all_bl {α : Type} (p : α → Bool) (ds : List α) : allD [.lst (ds.map fun d => D.bl (p d))] = some (.bl (ds.all p)) := by
  simp [allD, bls_map, Function.comp_def]
/-- whole numbers -/
theorem whole_int (i a b : Int) (w : Wl) : M_is_whole [.int i, .int a, .int b] w = .ok (.bl (decide (a ≤ i) && decide (i ≤ b))) w := by
  simp [M_is_whole, F_is_whole, fnRun, sSeq, sRet, fin, eAnd, eVar, eBlt, eCon, lCons, lNil, Res.bind, isiD, tyName, lift, liftB, isB, k1, k2, eUn, notB, eChain, cmpI]
  by_cases h : a ≤ i <;> simp [h]
def smallS : D → Bool
  | .str x => (!(Builtin.Str.occurrences "abcdefghijklmnopqrstuvwxyz" x 0 26 1).isEmpty)
  | _ => false
def wordB (x : Str) : Bool := decide (1 ≤ x.length) && (decide (x.length ≤ 8) && (signsD x).all smallS)
theorem word_str (x : Str) (w : Wl) (hl : x.length ≤ 100000) : M_is_word [.str x] w = .ok (.bl (wordB x)) w := by
  have h26 : ("abcdefghijklmnopqrstuvwxyz" : Str).length = 26 := by decide +kernel
  have lc : ∀ (rh : G.Env) (i : Nat) (hi : i < rh.length), lcLoop (.nm i) bYes (eOp inD (eVar i) (eCon (.str "abcdefghijklmnopqrstuvwxyz"))) rh (signsD x) [] w = .ok ((signsD x).map fun d => .bl (smallS d)) w := by
    intro rh i hi
    have := lc_pure (te := eOp inD (eVar i) (eCon (.str "abcdefghijklmnopqrstuvwxyz"))) (g := fun d => .bl (smallS d)) (rh := rh) (i := i) (w := w) (signsD x) [] (by
      intro d hd
      obtain ⟨c, _, rfl⟩ := List.mem_map.mp hd
      simp [eOp, eVar, eCon, Res.bind, lift, inD, inB, hi, smallS, h26])
    simpa using this
  have hs : (signsD x).length = x.length := by simp [signsD]; rfl
  have ha := all_bl smallS (signsD x)
  by_cases h1 : 1 ≤ x.length
  · by_cases h2 : x.length ≤ 8
    · have h1' : (1 : Int) ≤ (x.length : Int) := by omega
      have h2' : (x.length : Int) ≤ 8 := by omega
      simp [M_is_word, F_is_word, fnRun, sSeq, sIf, sNil, sRet, sAsg, sExpr, fin, eVar, eCon, eUn, eOp, lCons, lNil, eTup, eLst, eBlt, eCall, eIf, eAnd, eOr, bAnd, bOr, bNot, bTru, bVal, eChain, Res.bind, lift, liftB, liftL, isB, truD, cmpI, isiD, tyName, lenD, notB, G.iItems, itemsOf, iRange, wipeE, give, eLc, lc, ha, hl, hs, h1, h2, h1', h2', k3, wordB]
    · have h2' : ¬ ((x.length : Int) ≤ 8) := by omega
      simp [M_is_word, F_is_word, fnRun, sSeq, sIf, sNil, sRet, sAsg, sExpr, fin, eVar, eCon, eUn, eOp, lCons, lNil, eTup, eLst, eBlt, eCall, eIf, eAnd, eOr, bAnd, bOr, bNot, bTru, bVal, eChain, Res.bind, lift, liftB, liftL, isB, truD, cmpI, isiD, tyName, lenD, notB, G.iItems, itemsOf, iRange, wipeE, give, eLc, lc, ha, hl, hs, h1, h2, h2', k3, wordB]
  · have h1' : x.length = 0 := by omega
    simp [M_is_word, F_is_word, fnRun, sSeq, sIf, sNil, sRet, sAsg, sExpr, fin, eVar, eCon, eUn, eOp, lCons, lNil, eTup, eLst, eBlt, eCall, eIf, eAnd, eOr, bAnd, bOr, bNot, bTru, bVal, eChain, Res.bind, lift, liftB, liftL, isB, truD, cmpI, isiD, tyName, lenD, notB, G.iItems, itemsOf, iRange, wipeE, give, eLc, lc, ha, hl, hs, h1', k3, wordB]
theorem lc_mapf {α : Type} {tt : SB Wl} {te : SE Wl} {m : α → D} {p : α → Bool} {g : α → D} {rh : G.Env} {i : Nat} {w : Wl} : ∀ (ds : List α) (acc : List D) (h : ∀ d ∈ ds, tt (rh.set i (some (m d))) w = .ok (p d) w ∧ (p d = true → te (rh.set i (some (m d))) w = .ok (g d) w)), lcLoop (.nm i) tt te rh (ds.map m) acc w = .ok (acc ++ (ds.filter p).map g) w
  | [], acc, _ => by simp [lcLoop]
  | d :: ds, acc, h => by
    obtain ⟨h1, h2⟩ := h d (List.mem_cons_self ..)
    cases hp : p d with
    | true =>
      have ih := lc_mapf (tt := tt) (te := te) (rh := rh) (w := w) ds (acc ++ [g d]) fun d' hd => h d' (List.mem_cons_of_mem _ hd)
      simp [lcLoop, tgSet, Res.bind, h1, h2 hp, ih, hp, noX]
    | false =>
      have ih := lc_mapf (tt := tt) (te := te) (rh := rh) (w := w) ds acc fun d' hd => h d' (List.mem_cons_of_mem _ hd)
      simp [lcLoop, tgSet, Res.bind, h1, ih, hp, noX]
theorem lc_map {α : Type} {te : SE Wl} {m : α → D} {g : α → D} {rh : G.Env} {i : Nat} {w : Wl} (ds : List α) (acc : List D) (h : ∀ d ∈ ds, te (rh.set i (some (m d))) w = .ok (g d) w) : lcLoop (.nm i) bYes te rh (ds.map m) acc w = .ok (acc ++ ds.map g) w := by
  have := lc_mapf (tt := bYes) (te := te) (m := m) (p := fun _ => true) (g := g) (rh := rh) (i := i) (w := w) ds acc fun d hd => ⟨rfl, fun _ => h d hd⟩
  rwa [List.filter_eq_self.mpr (fun _ _ => rfl)] at this
/-! ### gifts, rows, tables -/
inductive Gi where
  | none | item (x : Str) (k : Int) | table (x : Str)
def Gi.d : Gi → D
  | .none => .tup [.str "none"]
  | .item x k => .tup [.str "item", .str x, .int k]
  | .table x => .tup [.str "table", .str x]
def Gi.ok (nm : List Str) : Gi → Prop
  | .none => True
  | .item x k => wordB x = true ∧ 1 ≤ k ∧ k ≤ 9
  | .table x => x ∈ nm
inductive Gf where
  | one (g : Gi) | sev (gs : List Gi)
def Gf.d : Gf → D
  | .one g => g.d
  | .sev gs => .tup [.str "several", .tup (gs.map Gi.d)]
def Gf.all : Gf → List Gi
  | .one g => [g]
  | .sev gs => gs
def Gf.ok (nm : List Str) : Gf → Prop
  | .one g => g.ok nm
  | .sev gs => 1 ≤ gs.length ∧ gs.length ≤ 2 ∧ ∀ g ∈ gs, g.ok nm
def rowD (r : Int × Gf) : D := .tup [.int r.1, r.2.d]
inductive Tb where
  | draw (rs : List (Int × Gf)) | bag (rs : List (Int × Gf)) | unlike (rs : List (Int × Gf)) | sure (rs : List (Int × Gf)) (a m : Int)
def Tb.rows : Tb → List (Int × Gf)
  | .draw rs => rs
  | .bag rs => rs
  | .unlike rs => rs
  | .sure rs _ _ => rs
def Tb.d : Tb → D
  | .draw rs => .tup [.str "draw", .tup (rs.map rowD)]
  | .bag rs => .tup [.str "bag", .tup (rs.map rowD)]
  | .unlike rs => .tup [.str "unlike", .tup (rs.map rowD)]
  | .sure rs a m => .tup [.str "sure", .tup (rs.map rowD), .int a, .int m]
def Tb.fit : Tb → Prop
  | .draw rs => True
  | .bag rs => (rs.map (·.1)).sum ≤ 12
  | .unlike rs => 2 ≤ rs.length
  | .sure rs a m => 0 ≤ a ∧ a < rs.length ∧ 1 ≤ m ∧ m ≤ 10
structure Tb.ok (nm : List Str) (t : Tb) : Prop where
  lo : 1 ≤ t.rows.length
  hi : t.rows.length ≤ 4
  rw : ∀ r ∈ t.rows, 1 ≤ r.1 ∧ r.1 ≤ 20 ∧ r.2.ok nm
  fit : t.fit
theorem wordB_len {x : Str} (h : wordB x = true) : x.length ≤ 8 := by
  simp [wordB] at h; exact h.2.1
theorem word_ok {x : Str} (h : wordB x = true) (w : Wl) : M_is_word [.str x] w = .ok (.bl true) w := by
  rw [word_str x w (by have := wordB_len h; omega), h]
theorem giftS (n : Nat) : M_is_gift (n + 1) = fnRun 3 (F_is_gift (M_is_gift n)) := rfl
theorem gift1 {g : Gi} {nm : List Str} (hn : ∀ x ∈ nm, wordB x = true) (h : g.ok nm) (n : Nat) (b : Bool) (w : Wl) : M_is_gift (n + 1) [g.d, .bl b] w = .ok (.bl true) w := by
  cases g with
  | none => simp [Gi.d, M_is_gift, F_is_gift, fnRun, sSeq, sIf, sNil, sRet, sAsg, sExpr, fin, eVar, eCon, eUn, eOp, lCons, lNil, eTup, eLst, eBlt, eCall, eIf, eAnd, eOr, bAnd, bOr, bNot, bTru, bVal, eChain, Res.bind, lift, liftB, liftL, isB, truD, cmpI, isiD, tyName, lenD, notB, G.iItems, itemsOf, iRange, wipeE, give, e_none_none, n_none_none, e_none_item, n_none_item, e_none_table, n_none_table, e_none_several, n_none_several, e_item_none, n_item_none, e_item_item, n_item_item, e_item_table, n_item_table, e_item_several, n_item_several, e_table_none, n_table_none, e_table_item, n_table_item, e_table_table, n_table_table, e_table_several, n_table_several, e_several_none, n_several_none, e_several_item, n_several_item, e_several_table, n_several_table, e_several_several, n_several_several, e_draw_draw, n_draw_draw, e_draw_bag, n_draw_bag, e_draw_sure, n_draw_sure, e_draw_unlike, n_draw_unlike, e_bag_draw, n_bag_draw, e_bag_bag, n_bag_bag, e_bag_sure, n_bag_sure, e_bag_unlike, n_bag_unlike, e_sure_draw, n_sure_draw, e_sure_bag, n_sure_bag, e_sure_sure, n_sure_sure, e_sure_unlike, n_sure_unlike, e_unlike_draw, n_unlike_draw, e_unlike_bag, n_unlike_bag, e_unlike_sure, n_unlike_sure, e_unlike_unlike, n_unlike_unlike, k4, atI, ixN, ixD, eqD_int]
  | item x k =>
    obtain ⟨h1, h2, h3⟩ := h
    simp [Gi.d, M_is_gift, F_is_gift, fnRun, sSeq, sIf, sNil, sRet, sAsg, sExpr, fin, eVar, eCon, eUn, eOp, lCons, lNil, eTup, eLst, eBlt, eCall, eIf, eAnd, eOr, bAnd, bOr, bNot, bTru, bVal, eChain, Res.bind, lift, liftB, liftL, isB, truD, cmpI, isiD, tyName, lenD, notB, G.iItems, itemsOf, iRange, wipeE, give, e_none_none, n_none_none, e_none_item, n_none_item, e_none_table, n_none_table, e_none_several, n_none_several, e_item_none, n_item_none, e_item_item, n_item_item, e_item_table, n_item_table, e_item_several, n_item_several, e_table_none, n_table_none, e_table_item, n_table_item, e_table_table, n_table_table, e_table_several, n_table_several, e_several_none, n_several_none, e_several_item, n_several_item, e_several_table, n_several_table, e_several_several, n_several_several, e_draw_draw, n_draw_draw, e_draw_bag, n_draw_bag, e_draw_sure, n_draw_sure, e_draw_unlike, n_draw_unlike, e_bag_draw, n_bag_draw, e_bag_bag, n_bag_bag, e_bag_sure, n_bag_sure, e_bag_unlike, n_bag_unlike, e_sure_draw, n_sure_draw, e_sure_bag, n_sure_bag, e_sure_sure, n_sure_sure, e_sure_unlike, n_sure_unlike, e_unlike_draw, n_unlike_draw, e_unlike_bag, n_unlike_bag, e_unlike_sure, n_unlike_sure, e_unlike_unlike, n_unlike_unlike, k4, atI, ixN, ixD, eqD_int, word_ok h1, whole_int, h2, h3]
  | table x =>
    simp [Gi.d, M_is_gift, F_is_gift, fnRun, sSeq, sIf, sNil, sRet, sAsg, sExpr, fin, eVar, eCon, eUn, eOp, lCons, lNil, eTup, eLst, eBlt, eCall, eIf, eAnd, eOr, bAnd, bOr, bNot, bTru, bVal, eChain, Res.bind, lift, liftB, liftL, isB, truD, cmpI, isiD, tyName, lenD, notB, G.iItems, itemsOf, iRange, wipeE, give, e_none_none, n_none_none, e_none_item, n_none_item, e_none_table, n_none_table, e_none_several, n_none_several, e_item_none, n_item_none, e_item_item, n_item_item, e_item_table, n_item_table, e_item_several, n_item_several, e_table_none, n_table_none, e_table_item, n_table_item, e_table_table, n_table_table, e_table_several, n_table_several, e_several_none, n_several_none, e_several_item, n_several_item, e_several_table, n_several_table, e_several_several, n_several_several, e_draw_draw, n_draw_draw, e_draw_bag, n_draw_bag, e_draw_sure, n_draw_sure, e_draw_unlike, n_draw_unlike, e_bag_draw, n_bag_draw, e_bag_bag, n_bag_bag, e_bag_sure, n_bag_sure, e_bag_unlike, n_bag_unlike, e_sure_draw, n_sure_draw, e_sure_bag, n_sure_bag, e_sure_sure, n_sure_sure, e_sure_unlike, n_sure_unlike, e_unlike_draw, n_unlike_draw, e_unlike_bag, n_unlike_bag, e_unlike_sure, n_unlike_sure, e_unlike_unlike, n_unlike_unlike, k4, atI, ixN, ixD, eqD_int, word_ok (hn x h)]
theorem gift2 {g : Gf} {nm : List Str} (hn : ∀ x ∈ nm, wordB x = true) (h : g.ok nm) (n : Nat) (w : Wl) : M_is_gift (n + 2) [g.d, .bl false] w = .ok (.bl true) w := by
  cases g with
  | one g => exact gift1 hn h (n + 1) false w
  | sev gs =>
    obtain ⟨h1, h2, h3⟩ := h
    have lc : ∀ (rh : G.Env) (i : Nat) (hi : i < rh.length), lcLoop (.nm i) bYes (eCall (M_is_gift (n + 1)) (lCons (eVar i) (lCons (eCon (.bl true)) lNil))) rh (gs.map Gi.d) [] w = .ok (gs.map fun _ => .bl true) w := by
      intro rh i hi
      have := lc_map (te := eCall (M_is_gift (n + 1)) (lCons (eVar i) (lCons (eCon (.bl true)) lNil))) (m := Gi.d) (g := fun _ => .bl true) (rh := rh) (i := i) (w := w) gs [] (by
        intro g hg
        simp [eCall, lCons, lNil, eVar, eCon, Res.bind, hi, gift1 hn (h3 g hg)])
      simpa using this
    have ha := all_bl (fun _ => true) gs
    have h1' : (1 : Int) ≤ gs.length := by omega
    have h2' : (gs.length : Int) ≤ 2 := by omega
    have h4 : gs.length ≤ 100000 := by omega
    rw [giftS (n + 1)]
    simp [Gf.d, F_is_gift, fnRun, sSeq, sIf, sNil, sRet, sAsg, sExpr, fin, eVar, eCon, eUn, eOp, lCons, lNil, eTup, eLst, eBlt, eCall, eIf, eAnd, eOr, bAnd, bOr, bNot, bTru, bVal, eChain, Res.bind, lift, liftB, liftL, isB, truD, cmpI, isiD, tyName, lenD, notB, G.iItems, itemsOf, iRange, wipeE, give, e_none_none, n_none_none, e_none_item, n_none_item, e_none_table, n_none_table, e_none_several, n_none_several, e_item_none, n_item_none, e_item_item, n_item_item, e_item_table, n_item_table, e_item_several, n_item_several, e_table_none, n_table_none, e_table_item, n_table_item, e_table_table, n_table_table, e_table_several, n_table_several, e_several_none, n_several_none, e_several_item, n_several_item, e_several_table, n_several_table, e_several_several, n_several_several, e_draw_draw, n_draw_draw, e_draw_bag, n_draw_bag, e_draw_sure, n_draw_sure, e_draw_unlike, n_draw_unlike, e_bag_draw, n_bag_draw, e_bag_bag, n_bag_bag, e_bag_sure, n_bag_sure, e_bag_unlike, n_bag_unlike, e_sure_draw, n_sure_draw, e_sure_bag, n_sure_bag, e_sure_sure, n_sure_sure, e_sure_unlike, n_sure_unlike, e_unlike_draw, n_unlike_draw, e_unlike_bag, n_unlike_bag, e_unlike_sure, n_unlike_sure, e_unlike_unlike, n_unlike_unlike, k4, atI, ixN, ixD, eqD_int, neD_int, h1, h2, h1', h2', h4, eLc, lc, ha]
theorem row_ok {r : Int × Gf} {nm : List Str} (hn : ∀ x ∈ nm, wordB x = true) (h : 1 ≤ r.1 ∧ r.1 ≤ 20 ∧ r.2.ok nm) (w : Wl) : M_is_row [rowD r] w = .ok (.bl true) w := by
  simp [rowD, M_is_row, F_is_row, fnRun, sSeq, sIf, sNil, sRet, sAsg, sExpr, fin, eVar, eCon, eUn, eOp, lCons, lNil, eTup, eLst, eBlt, eCall, eIf, eAnd, eOr, bAnd, bOr, bNot, bTru, bVal, eChain, Res.bind, lift, liftB, liftL, isB, truD, cmpI, isiD, tyName, lenD, notB, G.iItems, itemsOf, iRange, wipeE, give, k4, atI, ixN, ixD, eqD_int, neD_int, whole_int, h.1, h.2.1, gift2 hn h.2.2 1 w]
theorem gifts_eq (g : Gf) {nm : List Str} (h : g.ok nm) (w : Wl) : M_gifts [g.d] w = .ok (.tup (g.all.map Gi.d)) w := by
  cases g with
  | one g => cases g <;> simp [Gf.d, Gi.d, Gf.all, M_gifts, F_gifts, fnRun, sSeq, sIf, sNil, sRet, sAsg, sExpr, fin, eVar, eCon, eUn, eOp, lCons, lNil, eTup, eLst, eBlt, eCall, eIf, eAnd, eOr, bAnd, bOr, bNot, bTru, bVal, eChain, Res.bind, lift, liftB, liftL, isB, truD, cmpI, isiD, tyName, lenD, notB, G.iItems, itemsOf, iRange, wipeE, give, e_none_none, n_none_none, e_none_item, n_none_item, e_none_table, n_none_table, e_none_several, n_none_several, e_item_none, n_item_none, e_item_item, n_item_item, e_item_table, n_item_table, e_item_several, n_item_several, e_table_none, n_table_none, e_table_item, n_table_item, e_table_table, n_table_table, e_table_several, n_table_several, e_several_none, n_several_none, e_several_item, n_several_item, e_several_table, n_several_table, e_several_several, n_several_several, e_draw_draw, n_draw_draw, e_draw_bag, n_draw_bag, e_draw_sure, n_draw_sure, e_draw_unlike, n_draw_unlike, e_bag_draw, n_bag_draw, e_bag_bag, n_bag_bag, e_bag_sure, n_bag_sure, e_bag_unlike, n_bag_unlike, e_sure_draw, n_sure_draw, e_sure_bag, n_sure_bag, e_sure_sure, n_sure_sure, e_sure_unlike, n_sure_unlike, e_unlike_draw, n_unlike_draw, e_unlike_bag, n_unlike_bag, e_unlike_sure, n_unlike_sure, e_unlike_unlike, n_unlike_unlike, atI, ixN, ixD]
  | sev gs => simp [Gf.d, Gi.d, Gf.all, M_gifts, F_gifts, fnRun, sSeq, sIf, sNil, sRet, sAsg, sExpr, fin, eVar, eCon, eUn, eOp, lCons, lNil, eTup, eLst, eBlt, eCall, eIf, eAnd, eOr, bAnd, bOr, bNot, bTru, bVal, eChain, Res.bind, lift, liftB, liftL, isB, truD, cmpI, isiD, tyName, lenD, notB, G.iItems, itemsOf, iRange, wipeE, give, e_none_none, n_none_none, e_none_item, n_none_item, e_none_table, n_none_table, e_none_several, n_none_several, e_item_none, n_item_none, e_item_item, n_item_item, e_item_table, n_item_table, e_item_several, n_item_several, e_table_none, n_table_none, e_table_item, n_table_item, e_table_table, n_table_table, e_table_several, n_table_several, e_several_none, n_several_none, e_several_item, n_several_item, e_several_table, n_several_table, e_several_several, n_several_several, e_draw_draw, n_draw_draw, e_draw_bag, n_draw_bag, e_draw_sure, n_draw_sure, e_draw_unlike, n_draw_unlike, e_bag_draw, n_bag_draw, e_bag_bag, n_bag_bag, e_bag_sure, n_bag_sure, e_bag_unlike, n_bag_unlike, e_sure_draw, n_sure_draw, e_sure_bag, n_sure_bag, e_sure_sure, n_sure_sure, e_sure_unlike, n_sure_unlike, e_unlike_draw, n_unlike_draw, e_unlike_bag, n_unlike_bag, e_unlike_sure, n_unlike_sure, e_unlike_unlike, n_unlike_unlike, atI, ixN, ixD]
def cellI' (ns : List Int) (k : Nat) : Int := if ns = [] then 0 else ns.getD (k % ns.length) 0
def mixI (ns : List Int) (k : Nat) : Int :=
  let a := (cellI' ns k + 104729 * ((k : Int) + 1)) % 4294967291
  let b := a ^ 5 % 4294967279
  (b / 64 * 69621 + b) % 4294967231
theorem atI_mod {ns : List Int} (h : ns ≠ []) (k : Nat) : atI ns ((k : Int) % (ns.length : Int)) = some (ns.getD (k % ns.length) 0) := by
  have hl : 0 < ns.length := List.length_pos_iff.mpr h
  have e : ((k : Int) % (ns.length : Int)) = ((k % ns.length : Nat) : Int) := by omega
  have hlt : k % ns.length < ns.length := Nat.mod_lt _ hl
  have h1 : ixN ns.length ((k % ns.length : Nat) : Int) = some (k % ns.length) := by
    unfold ixN
    rw [if_pos (by omega), if_pos (by omega), Int.toNat_natCast]
  unfold atI
  rw [e, h1]
  simp [hlt]
theorem cell_eq (ns : List Int) (k : Nat) (w : Wl) : M_law_cell [.scr ns, .int k] w = .ok (.int (cellI' ns k)) w := by
  cases ns with
  | nil => simp [M_law_cell, F_law_cell, fnRun, sSeq, sIf, sNil, sRet, fin, bTru, truD, eVar, eCon, Res.bind, liftB, cellI']
  | cons a r =>
    have h0 : (0 : Int) < ((a :: r).length : Int) := by simp only [List.length_cons]; omega
    have h1 := atI_mod (ns := a :: r) (by simp) k
    simp only [List.length_cons, Int.natCast_add, Int.natCast_one] at h1 h0
    simp [M_law_cell, F_law_cell, fnRun, sSeq, sIf, sRet, fin, bTru, truD, eVar, eCon, Res.bind, liftB, lift, eOp, ixD, modD, eBlt, lCons, lNil, lenD, cellI', h1, h0]
theorem mix_eq (ns : List Int) (k : Nat) (w : Wl) : M_law_mix [.scr ns, .int k] w = .ok (.int (mixI ns k)) w := by
  have h1 : ((cellI' ns k + 104729 * ((k : Int) + 1)) % 4294967291).natAbs < 18446744073709551616 := by omega
  have h2 : (((cellI' ns k + 104729 * ((k : Int) + 1)) % 4294967291) ^ 5 % 4294967279 / 64).natAbs < 18446744073709551616 := by omega
  simp [M_law_mix, F_law_mix, fnRun, sSeq, sAsg, sRet, fin, eVar, eCon, Res.bind, lift, eOp, modD, addD, mulD, powD, fdivD, eCall, lCons, lNil, cell_eq, wipeE, give, h1, h2, mixI]
theorem mix_lo (ns : List Int) (k : Nat) : 0 ≤ mixI ns k := by unfold mixI; exact Int.emod_nonneg _ (by decide)
/-- a draw -/
def rnd (ns : List Int) (t : Nat) (m : Int) : Int := mixI ns (t + 1) / 8 % m
theorem rnd_lo {ns : List Int} {t : Nat} {m : Int} (h : 0 < m) : 0 ≤ rnd ns t m ∧ rnd ns t m < m := ⟨Int.emod_nonneg _ (by omega), Int.emod_lt_of_pos _ h⟩
theorem draw_eq (ns : List Int) (xs : List D) (m : Int) (w : Wl) (hm : 0 < m) (h0 : w[0]? = some (.lst xs)) (hl : xs.length < 49000) :
    M_law_draw [.scr ns, .obj 0, .int m] w = .ok (.int (rnd ns xs.length m)) (w.set 0 (.lst (xs ++ [.int 0]))) := by
  have hw : 0 < w.length := (List.getElem?_eq_some_iff.mp h0).1
  have c1 : cellL (.obj 0) w = some (0, xs) := by
    have e : G.cellOf (.obj 0) w = some (0, .lst xs) := by show (w[0]?).map _ = _; rw [h0]; rfl
    unfold cellL
    rw [e]
    simp; omega
  have c2 : cellL (.obj 0) (w.set 0 (.lst (xs ++ [.int 0]))) = some (0, xs ++ [.int 0]) := by
    have e : G.cellOf (.obj 0) (w.set 0 (.lst (xs ++ [.int 0]))) = some (0, .lst (xs ++ [.int 0])) := by show ((w.set 0 (.lst (xs ++ [.int 0])))[0]?).map _ = _; rw [List.getElem?_set_self hw]; rfl
    unfold cellL
    rw [e]
    simp; omega
  have mx := mix_eq ns (xs.length + 1)
  simp only [Int.natCast_add, Int.natCast_one] at mx
  simp [M_law_draw, F_law_draw, fnRun, sSeq, sExpr, sRet, fin, eVar, eCon, Res.bind, lift, eOp, modD, fdivD, eCall, lCons, lNil, eAppC, eLenC, onC, c1, c2, mx, wipeE, give, hm, rnd]
theorem atI_mem {α : Type} {ds : List α} {i : Int} (h0 : 0 ≤ i) (h1 : i < (ds.length : Int)) : ∃ d ∈ ds, atI ds i = some d := by
  have hi : ixN ds.length i = some i.toNat := by
    unfold ixN
    rw [if_pos h0, if_pos h1]
  have hlt : i.toNat < ds.length := by omega
  refine ⟨ds[i.toNat], List.getElem_mem hlt, ?_⟩
  unfold atI
  rw [hi]
  simp [hlt]
/-- the world: so many draws, and the rest -/
def tw (n : Nat) (r : Wl) : Wl := .lst (List.replicate n (.int 0)) :: r
theorem draw_tw (ns : List Int) (m : Int) (n : Nat) (r : Wl) (hm : 0 < m) (hn : n < 49000) : M_law_draw [.scr ns, .obj 0, .int m] (tw n r) = .ok (.int (rnd ns n m)) (tw (n + 1) r) := by
  have := draw_eq ns (List.replicate n (.int 0)) m (tw n r) hm rfl (by simpa using hn)
  rw [this]
  have e : List.replicate n (D.int 0) ++ [.int 0] = List.replicate (n + 1) (.int 0) := List.replicate_succ'.symm
  simp only [tw, List.set_cons_zero, e, List.length_replicate]
section
variable {ns : List Int} {n : Nat} {r : Wl} {Q : D → Wl → Prop}
theorem sa_draw {m : Int} (hm : 0 < m) (hn : n < 49000) (h : ∀ k, 0 ≤ k → k < m → Q (.int k) (tw (n + 1) r)) : Sa (M_law_draw [.scr ns, .obj 0, .int m] (tw n r)) Q := by
  rw [draw_tw ns m n r hm hn, sa_ok]
  exact h _ (rnd_lo hm).1 (rnd_lo hm).2
theorem sa_pick {ds : List D} (hd : 0 < ds.length) (hn : n < 49000) (h : ∀ d ∈ ds, Q d (tw (n + 1) r)) : Sa (M_law_pick [.scr ns, .obj 0, .lst ds] (tw n r)) Q := by
  have hp : (0 : Int) < ds.length := by omega
  have dr := draw_tw ns ds.length n r hp hn
  obtain ⟨r0, r1⟩ := rnd_lo (ns := ns) (t := n) hp
  obtain ⟨d, hm, e⟩ := atI_mem r0 r1
  refine ⟨d, _, ?_, h d hm⟩
  simp [M_law_pick, F_law_pick, fnRun, sSeq, sRet, fin, eVar, Res.bind, lift, eOp, ixD, eBlt, lenD, eCall, lCons, lNil, dr, e]
theorem sa_sign (hn : n < 49000) (h : ∀ c, smallC c = true → Q (.str ⟨#[c]⟩) (tw (n + 1) r)) : Sa (M_law_pick [.scr ns, .obj 0, .str "abcdefghijklmnopqrstuvwxyz"] (tw n r)) Q := by
  have h26 : ("abcdefghijklmnopqrstuvwxyz" : Str).length = 26 := by decide +kernel
  have hc : ("abcdefghijklmnopqrstuvwxyz" : Str).cps.toList.all smallC = true := by decide +kernel
  have hl : (("abcdefghijklmnopqrstuvwxyz" : Str).cps.toList.length : Int) = 26 := by decide +kernel
  have dr := draw_tw ns 26 n r (by decide) hn
  obtain ⟨r0, r1⟩ := rnd_lo (ns := ns) (t := n) (m := 26) (by decide)
  obtain ⟨c, hm, e⟩ := atI_mem (ds := ("abcdefghijklmnopqrstuvwxyz" : Str).cps.toList) r0 (by rw [hl]; exact r1)
  refine ⟨_, _, ?_, h c (List.all_eq_true.mp hc c hm)⟩
  simp [M_law_pick, F_law_pick, fnRun, sSeq, sRet, fin, eVar, Res.bind, lift, eOp, ixD, eBlt, lenD, eCall, lCons, lNil, dr, e, h26]
end
theorem joinL1 : ∀ cs : List Nat, TL.joinL [] (cs.map fun c => [c]) = cs
  | [] => rfl
  | [_] => rfl
  | a :: b :: r => by
    have ih := joinL1 (b :: r)
    show [a] ++ ([] ++ TL.joinL [] ((b :: r).map fun c => [c])) = a :: b :: r
    rw [ih]; rfl
theorem join1 (cs : List Nat) : Txt.join "" (cs.map fun c => (⟨#[c]⟩ : Str)) = ⟨cs.toArray⟩ := by
  refine TL.ext_tl ?_
  rw [TL.join_eq, TL.tl_join]
  have e : (cs.map fun c => (⟨#[c]⟩ : Str)).map TL.tl = cs.map fun c => [c] := by
    rw [List.map_map]; rfl
  have e0 : TL.tl ("" : Str) = [] := by decide +kernel
  rw [e, e0, joinL1]
theorem strs_map {α : Type} (p : α → Str) : ∀ ds : List α, strsOf (ds.map fun d => D.str (p d)) = some (ds.map p)
  | [] => rfl
  | d :: ds => by simp [strsOf, strs_map p ds]
theorem sum_one {α : Type} (f : α → Nat) (h : ∀ a, f a = 1) : ∀ l : List α, (l.map f).sum = l.length
  | [] => rfl
  | a :: l => by simp [sum_one f h l, h a]; omega
theorem joinD1 (cs : List Nat) (h : cs.length ≤ 1000) : joinD (.str "") [.lst (cs.map fun c => .str ⟨#[c]⟩)] = some (.str ⟨cs.toArray⟩) := by
  have e0 : ("" : Str).length = 0 := by decide +kernel
  have := strs_map (fun c : Nat => (⟨#[c]⟩ : Str)) cs
  have e1 : ((cs.map fun c => (⟨#[c]⟩ : Str)).map (·.length)).sum = cs.length := by
    rw [List.map_map]
    exact sum_one _ (fun _ => rfl) cs
  unfold joinD
  simp only [this]
  rw [if_pos, join1]
  rw [e1, List.length_map, e0]
  omega
theorem wordB_of {cs : List Nat} (h1 : 1 ≤ cs.length) (h2 : cs.length ≤ 8) (h : ∀ c ∈ cs, smallC c = true) : wordB ⟨cs.toArray⟩ = true := by
  have hl : (⟨cs.toArray⟩ : Str).length = cs.length := by show cs.toArray.size = cs.length; simp
  unfold wordB
  rw [hl]
  simp only [h1, h2, decide_true, Bool.true_and, List.all_eq_true]
  intro d hd
  obtain ⟨c, hc, rfl⟩ := List.mem_map.mp hd
  have := occ_small c (h c (by simpa using hc))
  simp [smallS, this]
theorem range1_ok {j : Int} (h0 : 0 ≤ j) (h1 : j ≤ 100000) : range1 [.int j] = some (rangeFrom 0 j.toNat) := by
  show (if -100000 ≤ j ∧ j ≤ 100000 then some (rangeFrom 0 j.toNat) else none) = _
  rw [if_pos (by omega)]
theorem rangeFrom_len (j : Int) (k : Nat) : (rangeFrom j k).length = k := by simp [rangeFrom]
theorem sl_to (xs : List D) (k : Nat) : slD (.lst xs) none (some (k : Int)) = some (.lst (xs.take k)) := by
  show some (D.lst (G.cutD xs none (some (k : Int)))) = _
  unfold G.cutD
  rw [HT.sIx_none, HT.sIx_nat, List.drop_zero, Nat.sub_zero]
  congr 2
  by_cases h : k ≤ xs.length
  · rw [Nat.min_eq_left h]
  · rw [Nat.min_eq_right (by omega), List.take_of_length_le (Nat.le_refl _), List.take_of_length_le (by omega)]
theorem sl_from (xs : List D) (k : Nat) : slD (.lst xs) (some (k : Int)) none = some (.lst (xs.drop k)) := by
  show some (D.lst (G.cutD xs (some (k : Int)) none)) = _
  unfold G.cutD
  rw [HT.sIx_none, HT.sIx_nat]
  congr 2
  by_cases h : k ≤ xs.length
  · rw [Nat.min_eq_left h, List.take_of_length_le (by simp)]
  · rw [Nat.min_eq_right (by omega), List.drop_of_length_le (Nat.le_refl _), List.drop_of_length_le (by omega), List.take_nil]
/-- what a gift's building ends in -/
def gPost (b : Bool) (nm : List Str) (n : Nat) (r : Wl) : D → Wl → Prop := fun d w => ∃ g : Gf, g.ok nm ∧ d = g.d ∧ (b = true → ∃ g', g = .one g') ∧ ∃ n', n' ≤ n + (if b then 13 else 28) ∧ w = tw n' r
theorem word4 : ∀ d ∈ [D.str "gem", D.str "hat", D.str "key", D.str "oak"], ∃ x, wordB x = true ∧ d = .str x := by
  intro d hd
  simp only [List.mem_cons, List.not_mem_nil, or_false] at hd
  rcases hd with rfl | rfl | rfl | rfl
  · exact ⟨_, by decide +kernel, rfl⟩
  · exact ⟨_, by decide +kernel, rfl⟩
  · exact ⟨_, by decide +kernel, rfl⟩
  · exact ⟨_, by decide +kernel, rfl⟩
theorem num4 : ∀ d ∈ [D.int 1, D.int 1, D.int 2, D.int 9], ∃ k, 1 ≤ k ∧ k ≤ 9 ∧ d = .int k := by
  intro d hd
  simp only [List.mem_cons, List.not_mem_nil, or_false] at hd
  rcases hd with rfl | rfl | rfl | rfl
  · exact ⟨_, by decide, by decide, rfl⟩
  · exact ⟨_, by decide, by decide, rfl⟩
  · exact ⟨_, by decide, by decide, rfl⟩
  · exact ⟨_, by decide, by decide, rfl⟩
theorem lgift_step {self : List D → Wl → Res Wl D} {b : Bool} {ns : List Int} {nm : List Str} {n : Nat} {r : Wl} (hn : n + 40 < 49000) (hn2 : b = false → n + 80 < 49000) (hne : neD (.lst (nm.map .str)) (.lst []) = some (.bl (!nm.isEmpty)))
    (hs : b = false → ∀ n r, n + 40 < 49000 → Sa (self [.scr ns, .obj 0, .bl true, .lst ((nm.take 1).map .str), .int 0] (tw n r)) (gPost true nm n r)) :
    Sa (fnRun 10 (F_law_gift self) [.scr ns, .obj 0, .bl b, .lst (nm.map .str), .int 0] (tw n r)) (gPost b nm n r) := by
  simp only [F_law_gift, sa_ok, sa_bind, ss_seq, ss_fin, ss_nx, ss_ret, ss_nil, sa_fn, sa_v0, sa_v1, sa_v2, sa_v3, sa_v4, sa_v5, sa_v6, sa_v7, sa_v8, sa_v9, sa_v10, sa_v11, sa_v12, sa_v13, sa_v14, sa_eCon, sa_lift, sa_liftB, sa_liftL, sa_eOp, sa_eUn, sa_lNil, sa_lCons, sa_eTup, sa_eLst, sa_eBlt, sa_eCall, sa_eIf, sa_eAnd, sa_eOr, sa_bAnd, sa_bOr, sa_bNot, sa_bTru, sa_bVal, sa_eChain, sa_iItems, sa_iRange, sa_iKeys, ss_if, ss_ifG, ss_sret, ss_expr, ss_asg, ss_new, ss_asgT, ss_for, ss_app, ss_put, ss_putP, ss_ext, ss_newP, sa_eDnew, sa_eSl, sa_oNone, sa_oSome, sa_eBM, isB_bl, tru_bl, List.filter_nil, Bool.not_true, Bool.not_false, Bool.false_eq_true, if_true, if_false, ite_true, ite_false, decide_true, decide_false, wipeE, give, rmv, List.set_cons_zero, List.set_cons_succ, List.set_nil, List.map_cons, List.map_nil, List.length_cons, List.length_nil, List.cons_append, List.nil_append, List.replicate_succ, List.replicate_zero, List.getElem?_cons_zero, List.getElem?_cons_succ]
  refine sa_draw (m := 8) (by decide) (by omega) fun k k0 k1 => ?_
  by_cases h0 : k = 0
  · simp only [sa_ok, sa_bind, ss_seq, ss_fin, ss_nx, ss_ret, ss_nil, sa_fn, sa_v0, sa_v1, sa_v2, sa_v3, sa_v4, sa_v5, sa_v6, sa_v7, sa_v8, sa_v9, sa_v10, sa_v11, sa_v12, sa_v13, sa_v14, sa_eCon, sa_lift, sa_liftB, sa_liftL, sa_eOp, sa_eUn, sa_lNil, sa_lCons, sa_eTup, sa_eLst, sa_eBlt, sa_eCall, sa_eIf, sa_eAnd, sa_eOr, sa_bAnd, sa_bOr, sa_bNot, sa_bTru, sa_bVal, sa_eChain, sa_iItems, sa_iRange, sa_iKeys, ss_if, ss_ifG, ss_sret, ss_expr, ss_asg, ss_new, ss_asgT, ss_for, ss_app, ss_put, ss_putP, ss_ext, ss_newP, sa_eDnew, sa_eSl, sa_oNone, sa_oSome, sa_eBM, isB_bl, tru_bl, List.filter_nil, Bool.not_true, Bool.not_false, Bool.false_eq_true, if_true, if_false, ite_true, ite_false, decide_true, decide_false, wipeE, give, rmv, List.set_cons_zero, List.set_cons_succ, List.set_nil, List.map_cons, List.map_nil, List.length_cons, List.length_nil, List.cons_append, List.nil_append, List.replicate_succ, List.replicate_zero, List.getElem?_cons_zero, List.getElem?_cons_succ, eqD_int, h0]
    exact ⟨by decide, .one .none, trivial, rfl, fun _ => ⟨_, rfl⟩, n + 1, by split <;> omega, rfl⟩
  simp only [sa_ok, sa_bind, ss_seq, ss_fin, ss_nx, ss_ret, ss_nil, sa_fn, sa_v0, sa_v1, sa_v2, sa_v3, sa_v4, sa_v5, sa_v6, sa_v7, sa_v8, sa_v9, sa_v10, sa_v11, sa_v12, sa_v13, sa_v14, sa_eCon, sa_lift, sa_liftB, sa_liftL, sa_eOp, sa_eUn, sa_lNil, sa_lCons, sa_eTup, sa_eLst, sa_eBlt, sa_eCall, sa_eIf, sa_eAnd, sa_eOr, sa_bAnd, sa_bOr, sa_bNot, sa_bTru, sa_bVal, sa_eChain, sa_iItems, sa_iRange, sa_iKeys, ss_if, ss_ifG, ss_sret, ss_expr, ss_asg, ss_new, ss_asgT, ss_for, ss_app, ss_put, ss_putP, ss_ext, ss_newP, sa_eDnew, sa_eSl, sa_oNone, sa_oSome, sa_eBM, isB_bl, tru_bl, List.filter_nil, Bool.not_true, Bool.not_false, Bool.false_eq_true, if_true, if_false, ite_true, ite_false, decide_true, decide_false, wipeE, give, rmv, List.set_cons_zero, List.set_cons_succ, List.set_nil, List.map_cons, List.map_nil, List.length_cons, List.length_nil, List.cons_append, List.nil_append, List.replicate_succ, List.replicate_zero, List.getElem?_cons_zero, List.getElem?_cons_succ, eqD_int, h0, cmpI, hne]
  by_cases hA : k < 3 ∧ nm.isEmpty = false
  · simp only [hA.1, hA.2, decide_true, if_true, Bool.not_false]
    have hl : 0 < nm.length := by cases nm with
      | nil => cases hA.2
      | cons a l => simp
    refine ⟨by decide, sa_pick (by simpa using hl) (by omega) fun d hd => ?_⟩
    obtain ⟨x, hx, rfl⟩ := List.mem_map.mp hd
    exact ⟨by decide, .one (.table x), hx, rfl, fun _ => ⟨_, rfl⟩, n + 2, by split <;> omega, rfl⟩
  by_cases hB : k = 3 ∧ b = false
  · obtain ⟨rfl, rfl⟩ := hB
    simp only [show decide ((3 : Int) < 3) = false from rfl, Bool.false_eq_true, if_false, decide_true, if_true, Bool.not_false]
    refine sa_draw (m := 2) (by decide) (by omega) fun j j0 j1 => ?_
    simp only [sa_ok, sa_bind, ss_seq, ss_fin, ss_nx, ss_ret, ss_nil, sa_fn, sa_v0, sa_v1, sa_v2, sa_v3, sa_v4, sa_v5, sa_v6, sa_v7, sa_v8, sa_v9, sa_v10, sa_v11, sa_v12, sa_v13, sa_v14, sa_eCon, sa_lift, sa_liftB, sa_liftL, sa_eOp, sa_eUn, sa_lNil, sa_lCons, sa_eTup, sa_eLst, sa_eBlt, sa_eCall, sa_eIf, sa_eAnd, sa_eOr, sa_bAnd, sa_bOr, sa_bNot, sa_bTru, sa_bVal, sa_eChain, sa_iItems, sa_iRange, sa_iKeys, ss_if, ss_ifG, ss_sret, ss_expr, ss_asg, ss_new, ss_asgT, ss_for, ss_app, ss_put, ss_putP, ss_ext, ss_newP, sa_eDnew, sa_eSl, sa_oNone, sa_oSome, sa_eBM, isB_bl, tru_bl, List.filter_nil, Bool.not_true, Bool.not_false, Bool.false_eq_true, if_true, if_false, ite_true, ite_false, decide_true, decide_false, wipeE, give, rmv, List.set_cons_zero, List.set_cons_succ, List.set_nil, List.map_cons, List.map_nil, List.length_cons, List.length_nil, List.cons_append, List.nil_append, List.replicate_succ, List.replicate_zero, List.getElem?_cons_zero, List.getElem?_cons_succ, addD, sa_eLc, range1_ok (show 0 ≤ 1 + j by omega) (show 1 + j ≤ 100000 by omega), rangeFrom_len]
    refine ⟨by omega, lc_inv (fun ds acc w => ∃ gs : List Gi, acc = gs.map Gi.d ∧ (∀ g ∈ gs, g.ok nm) ∧ gs.length + ds.length = (1 + j).toNat ∧ ∃ n', n' ≤ n + 2 + 13 * gs.length ∧ w = tw n' r) ⟨[], rfl, by simp, by simp [rangeFrom_len], _, by simp, rfl⟩ ?_ ?_⟩
    · rintro d ds acc w ⟨gs, rfl, hok, hlen, n', hn', rfl⟩
      simp only [List.length_cons] at hlen
      have e1 := sl_to (nm.map .str) 1
      rw [← List.map_take] at e1
      simp only [sa_ok, sa_bind, ss_seq, ss_fin, ss_nx, ss_ret, ss_nil, sa_fn, sa_v0, sa_v1, sa_v2, sa_v3, sa_v4, sa_v5, sa_v6, sa_v7, sa_v8, sa_v9, sa_v10, sa_v11, sa_v12, sa_v13, sa_v14, sa_eCon, sa_lift, sa_liftB, sa_liftL, sa_eOp, sa_eUn, sa_lNil, sa_lCons, sa_eTup, sa_eLst, sa_eBlt, sa_eCall, sa_eIf, sa_eAnd, sa_eOr, sa_bAnd, sa_bOr, sa_bNot, sa_bTru, sa_bVal, sa_eChain, sa_iItems, sa_iRange, sa_iKeys, ss_if, ss_ifG, ss_sret, ss_expr, ss_asg, ss_new, ss_asgT, ss_for, ss_app, ss_put, ss_putP, ss_ext, ss_newP, sa_eDnew, sa_eSl, sa_oNone, sa_oSome, sa_eBM, isB_bl, tru_bl, List.filter_nil, Bool.not_true, Bool.not_false, Bool.false_eq_true, if_true, if_false, ite_true, ite_false, decide_true, decide_false, wipeE, give, rmv, List.set_cons_zero, List.set_cons_succ, List.set_nil, List.map_cons, List.map_nil, List.length_cons, List.length_nil, List.cons_append, List.nil_append, List.replicate_succ, List.replicate_zero, List.getElem?_cons_zero, List.getElem?_cons_succ, Option.some.injEq, D.int.injEq, exists_eq_left', show ((1 : Nat) : Int) = 1 from rfl] at e1 ⊢
      simp only [e1, sa_ok, sa_bind, ss_seq, ss_fin, ss_nx, ss_ret, ss_nil, sa_fn, sa_v0, sa_v1, sa_v2, sa_v3, sa_v4, sa_v5, sa_v6, sa_v7, sa_v8, sa_v9, sa_v10, sa_v11, sa_v12, sa_v13, sa_v14, sa_eCon, sa_lift, sa_liftB, sa_liftL, sa_eOp, sa_eUn, sa_lNil, sa_lCons, sa_eTup, sa_eLst, sa_eBlt, sa_eCall, sa_eIf, sa_eAnd, sa_eOr, sa_bAnd, sa_bOr, sa_bNot, sa_bTru, sa_bVal, sa_eChain, sa_iItems, sa_iRange, sa_iKeys, ss_if, ss_ifG, ss_sret, ss_expr, ss_asg, ss_new, ss_asgT, ss_for, ss_app, ss_put, ss_putP, ss_ext, ss_newP, sa_eDnew, sa_eSl, sa_oNone, sa_oSome, sa_eBM, isB_bl, tru_bl, List.filter_nil, Bool.not_true, Bool.not_false, Bool.false_eq_true, if_true, if_false, ite_true, ite_false, decide_true, decide_false, wipeE, give, rmv, List.set_cons_zero, List.set_cons_succ, List.set_nil, List.map_cons, List.map_nil, List.length_cons, List.length_nil, List.cons_append, List.nil_append, List.replicate_succ, List.replicate_zero, List.getElem?_cons_zero, List.getElem?_cons_succ]
      refine (hs rfl n' r (by have := hn2 rfl; omega)).mono ?_
      rintro d w ⟨g, hg, rfl, h1, n2, hn2, rfl⟩
      obtain ⟨g', rfl⟩ := h1 rfl
      rw [if_pos rfl] at hn2
      refine ⟨gs ++ [g'], by simp [Gf.d], ?_, by simp; omega, n2, by simp; omega, rfl⟩
      intro z hz
      rcases List.mem_append.mp hz with hz | hz
      · exact hok z hz
      · cases List.mem_singleton.mp hz; exact hg
    · rintro acc w ⟨gs, rfl, hok, hlen, n', hn', rfl⟩
      simp only [List.length_nil] at hlen
      simp only [sa_ok, sa_bind, ss_seq, ss_fin, ss_nx, ss_ret, ss_nil, sa_fn, sa_v0, sa_v1, sa_v2, sa_v3, sa_v4, sa_v5, sa_v6, sa_v7, sa_v8, sa_v9, sa_v10, sa_v11, sa_v12, sa_v13, sa_v14, sa_eCon, sa_lift, sa_liftB, sa_liftL, sa_eOp, sa_eUn, sa_lNil, sa_lCons, sa_eTup, sa_eLst, sa_eBlt, sa_eCall, sa_eIf, sa_eAnd, sa_eOr, sa_bAnd, sa_bOr, sa_bNot, sa_bTru, sa_bVal, sa_eChain, sa_iItems, sa_iRange, sa_iKeys, ss_if, ss_ifG, ss_sret, ss_expr, ss_asg, ss_new, ss_asgT, ss_for, ss_app, ss_put, ss_putP, ss_ext, ss_newP, sa_eDnew, sa_eSl, sa_oNone, sa_oSome, sa_eBM, isB_bl, tru_bl, List.filter_nil, Bool.not_true, Bool.not_false, Bool.false_eq_true, if_true, if_false, ite_true, ite_false, decide_true, decide_false, wipeE, give, rmv, List.set_cons_zero, List.set_cons_succ, List.set_nil, List.map_cons, List.map_nil, List.length_cons, List.length_nil, List.cons_append, List.nil_append, List.replicate_succ, List.replicate_zero, List.getElem?_cons_zero, List.getElem?_cons_succ, tupleD]
      refine ⟨by decide, .sev gs, ⟨by omega, by omega, hok⟩, rfl, fun h => (nomatch h), n', by rw [if_neg (by decide)]; omega, rfl⟩
  have tail : Sa (M_law_pick [.scr ns, .obj 0, .lst [D.str "gem", D.str "hat", D.str "key", D.str "oak"]] (tw (n + 1) r)) fun d w1 => Sa (M_law_draw [D.scr ns, D.obj 0, D.int 12] w1) fun x w1 =>
      Sa (lift (eqD x (D.int 0)) w1) fun x w1 =>
      Sa (liftB (isB x) w1) fun b_1 w1 =>
        if b_1 = true then
          tyB "str" (D.str (Str.ofString "")) = true ∧
            Sa (eLc (iRange range1 (lCons (eOp addD (eCon (D.int 1)) (eCall M_law_draw (lCons (eVar 0) (lCons (eVar 1) (lCons (eCon (D.int 8)) lNil))))) lNil)) (Tg.nm 9) bYes (eCall M_law_pick (lCons (eVar 0) (lCons (eVar 1) (lCons (eVar 8) lNil)))) [9]
                [some (D.scr ns), some (D.obj 0), some (D.bl b), some (D.lst (List.map D.str nm)), some (D.int 0), some (D.int k), some d, none, some (D.str (Str.ofString "abcdefghijklmnopqrstuvwxyz")), none] w1) fun x w1 =>
              Sa (lift (joinD (D.str (Str.ofString "")) [x]) w1) fun x w1 =>
                0 + 1 + 1 + 1 + 1 ≤ 100000 ∧ Sa (M_law_pick [D.scr ns, D.obj 0, D.lst [D.int 1, D.int 1, D.int 2, D.int 9]] w1) fun x_1 w1 =>
                    0 + 1 + 1 + 1 ≤ 100000 ∧ gPost b nm n r (D.tup [D.str (Str.ofString "item"), x, x_1]) w1
        else
          0 + 1 + 1 + 1 + 1 ≤ 100000 ∧ Sa (M_law_pick [D.scr ns, D.obj 0, D.lst [D.int 1, D.int 1, D.int 2, D.int 9]] w1) fun x w1 =>
              0 + 1 + 1 + 1 ≤ 100000 ∧ gPost b nm n r (D.tup [D.str (Str.ofString "item"), d, x]) w1 := by
    refine sa_pick (by decide) (by omega) fun d hd => ?_
    obtain ⟨x, hx, rfl⟩ := word4 d hd
    refine sa_draw (m := 12) (by decide) (by omega) fun j j0 j1 => ?_
    by_cases hj : j = 0
    · simp only [sa_ok, sa_bind, ss_seq, ss_fin, ss_nx, ss_ret, ss_nil, sa_fn, sa_v0, sa_v1, sa_v2, sa_v3, sa_v4, sa_v5, sa_v6, sa_v7, sa_v8, sa_v9, sa_v10, sa_v11, sa_v12, sa_v13, sa_v14, sa_eCon, sa_lift, sa_liftB, sa_liftL, sa_eOp, sa_eUn, sa_lNil, sa_lCons, sa_eTup, sa_eLst, sa_eBlt, sa_eCall, sa_eIf, sa_eAnd, sa_eOr, sa_bAnd, sa_bOr, sa_bNot, sa_bTru, sa_bVal, sa_eChain, sa_iItems, sa_iRange, sa_iKeys, ss_if, ss_ifG, ss_sret, ss_expr, ss_asg, ss_new, ss_asgT, ss_for, ss_app, ss_put, ss_putP, ss_ext, ss_newP, sa_eDnew, sa_eSl, sa_oNone, sa_oSome, sa_eBM, isB_bl, tru_bl, List.filter_nil, Bool.not_true, Bool.not_false, Bool.false_eq_true, if_true, if_false, ite_true, ite_false, decide_true, decide_false, wipeE, give, rmv, List.set_cons_zero, List.set_cons_succ, List.set_nil, List.map_cons, List.map_nil, List.length_cons, List.length_nil, List.cons_append, List.nil_append, List.replicate_succ, List.replicate_zero, List.getElem?_cons_zero, List.getElem?_cons_succ, eqD_int, hj, sa_eLc]
      refine ⟨rfl, sa_draw (m := 8) (by decide) (by omega) fun l l0 l1 => ?_⟩
      simp only [sa_ok, sa_bind, ss_seq, ss_fin, ss_nx, ss_ret, ss_nil, sa_fn, sa_v0, sa_v1, sa_v2, sa_v3, sa_v4, sa_v5, sa_v6, sa_v7, sa_v8, sa_v9, sa_v10, sa_v11, sa_v12, sa_v13, sa_v14, sa_eCon, sa_lift, sa_liftB, sa_liftL, sa_eOp, sa_eUn, sa_lNil, sa_lCons, sa_eTup, sa_eLst, sa_eBlt, sa_eCall, sa_eIf, sa_eAnd, sa_eOr, sa_bAnd, sa_bOr, sa_bNot, sa_bTru, sa_bVal, sa_eChain, sa_iItems, sa_iRange, sa_iKeys, ss_if, ss_ifG, ss_sret, ss_expr, ss_asg, ss_new, ss_asgT, ss_for, ss_app, ss_put, ss_putP, ss_ext, ss_newP, sa_eDnew, sa_eSl, sa_oNone, sa_oSome, sa_eBM, isB_bl, tru_bl, List.filter_nil, Bool.not_true, Bool.not_false, Bool.false_eq_true, if_true, if_false, ite_true, ite_false, decide_true, decide_false, wipeE, give, rmv, List.set_cons_zero, List.set_cons_succ, List.set_nil, List.map_cons, List.map_nil, List.length_cons, List.length_nil, List.cons_append, List.nil_append, List.replicate_succ, List.replicate_zero, List.getElem?_cons_zero, List.getElem?_cons_succ, addD, range1_ok (show 0 ≤ 1 + l by omega) (show 1 + l ≤ 100000 by omega), rangeFrom_len]
      refine ⟨by omega, lc_inv (fun ds acc w => ∃ cs : List Nat, acc = cs.map (fun c => D.str ⟨#[c]⟩) ∧ (∀ c ∈ cs, smallC c = true) ∧ cs.length + ds.length = (1 + l).toNat ∧ w = tw (n + 4 + cs.length) r) ⟨[], rfl, by simp, by simp [rangeFrom_len], rfl⟩ ?_ ?_⟩
      · rintro d ds acc w ⟨cs, rfl, hok, hlen, rfl⟩
        simp only [List.length_cons] at hlen
        simp only [sa_ok, sa_bind, ss_seq, ss_fin, ss_nx, ss_ret, ss_nil, sa_fn, sa_v0, sa_v1, sa_v2, sa_v3, sa_v4, sa_v5, sa_v6, sa_v7, sa_v8, sa_v9, sa_v10, sa_v11, sa_v12, sa_v13, sa_v14, sa_eCon, sa_lift, sa_liftB, sa_liftL, sa_eOp, sa_eUn, sa_lNil, sa_lCons, sa_eTup, sa_eLst, sa_eBlt, sa_eCall, sa_eIf, sa_eAnd, sa_eOr, sa_bAnd, sa_bOr, sa_bNot, sa_bTru, sa_bVal, sa_eChain, sa_iItems, sa_iRange, sa_iKeys, ss_if, ss_ifG, ss_sret, ss_expr, ss_asg, ss_new, ss_asgT, ss_for, ss_app, ss_put, ss_putP, ss_ext, ss_newP, sa_eDnew, sa_eSl, sa_oNone, sa_oSome, sa_eBM, isB_bl, tru_bl, List.filter_nil, Bool.not_true, Bool.not_false, Bool.false_eq_true, if_true, if_false, ite_true, ite_false, decide_true, decide_false, wipeE, give, rmv, List.set_cons_zero, List.set_cons_succ, List.set_nil, List.map_cons, List.map_nil, List.length_cons, List.length_nil, List.cons_append, List.nil_append, List.replicate_succ, List.replicate_zero, List.getElem?_cons_zero, List.getElem?_cons_succ]
        refine sa_sign (by omega) fun c hc => ⟨cs ++ [c], by simp, ?_, by simp; omega, by simp [Nat.add_assoc]⟩
        intro z hz
        rcases List.mem_append.mp hz with hz | hz
        · exact hok z hz
        · cases List.mem_singleton.mp hz; exact hc
      · rintro acc w ⟨cs, rfl, hok, hlen, rfl⟩
        simp only [List.length_nil] at hlen
        have hj := joinD1 cs (by omega)
        simp only [sa_ok, sa_bind, ss_seq, ss_fin, ss_nx, ss_ret, ss_nil, sa_fn, sa_v0, sa_v1, sa_v2, sa_v3, sa_v4, sa_v5, sa_v6, sa_v7, sa_v8, sa_v9, sa_v10, sa_v11, sa_v12, sa_v13, sa_v14, sa_eCon, sa_lift, sa_liftB, sa_liftL, sa_eOp, sa_eUn, sa_lNil, sa_lCons, sa_eTup, sa_eLst, sa_eBlt, sa_eCall, sa_eIf, sa_eAnd, sa_eOr, sa_bAnd, sa_bOr, sa_bNot, sa_bTru, sa_bVal, sa_eChain, sa_iItems, sa_iRange, sa_iKeys, ss_if, ss_ifG, ss_sret, ss_expr, ss_asg, ss_new, ss_asgT, ss_for, ss_app, ss_put, ss_putP, ss_ext, ss_newP, sa_eDnew, sa_eSl, sa_oNone, sa_oSome, sa_eBM, isB_bl, tru_bl, List.filter_nil, Bool.not_true, Bool.not_false, Bool.false_eq_true, if_true, if_false, ite_true, ite_false, decide_true, decide_false, wipeE, give, rmv, List.set_cons_zero, List.set_cons_succ, List.set_nil, List.map_cons, List.map_nil, List.length_cons, List.length_nil, List.cons_append, List.nil_append, List.replicate_succ, List.replicate_zero, List.getElem?_cons_zero, List.getElem?_cons_succ, hj]
        refine ⟨by decide, sa_pick (by decide) (by omega) fun d hd => ?_⟩
        obtain ⟨m, hm1, hm2, rfl⟩ := num4 d hd
        exact ⟨by decide, .one (.item ⟨cs.toArray⟩ m), ⟨wordB_of (by omega) (by omega) hok, hm1, hm2⟩, rfl, fun _ => ⟨_, rfl⟩, _, by split <;> omega, rfl⟩
    · simp only [sa_ok, sa_bind, ss_seq, ss_fin, ss_nx, ss_ret, ss_nil, sa_fn, sa_v0, sa_v1, sa_v2, sa_v3, sa_v4, sa_v5, sa_v6, sa_v7, sa_v8, sa_v9, sa_v10, sa_v11, sa_v12, sa_v13, sa_v14, sa_eCon, sa_lift, sa_liftB, sa_liftL, sa_eOp, sa_eUn, sa_lNil, sa_lCons, sa_eTup, sa_eLst, sa_eBlt, sa_eCall, sa_eIf, sa_eAnd, sa_eOr, sa_bAnd, sa_bOr, sa_bNot, sa_bTru, sa_bVal, sa_eChain, sa_iItems, sa_iRange, sa_iKeys, ss_if, ss_ifG, ss_sret, ss_expr, ss_asg, ss_new, ss_asgT, ss_for, ss_app, ss_put, ss_putP, ss_ext, ss_newP, sa_eDnew, sa_eSl, sa_oNone, sa_oSome, sa_eBM, isB_bl, tru_bl, List.filter_nil, Bool.not_true, Bool.not_false, Bool.false_eq_true, if_true, if_false, ite_true, ite_false, decide_true, decide_false, wipeE, give, rmv, List.set_cons_zero, List.set_cons_succ, List.set_nil, List.map_cons, List.map_nil, List.length_cons, List.length_nil, List.cons_append, List.nil_append, List.replicate_succ, List.replicate_zero, List.getElem?_cons_zero, List.getElem?_cons_succ, eqD_int, hj]
      refine ⟨by decide, sa_pick (by decide) (by omega) fun d hd => ?_⟩
      obtain ⟨m, hm1, hm2, rfl⟩ := num4 d hd
      exact ⟨by decide, .one (.item x m), ⟨hx, hm1, hm2⟩, rfl, fun _ => ⟨_, rfl⟩, _, by split <;> omega, rfl⟩
  have t2 : (0 + 1 + 1 + 1 + 1 ≤ 100000) := by decide
  by_cases h3 : k < 3
  · have he : nm.isEmpty = true := by
      cases h : nm.isEmpty with
      | true => rfl
      | false => exact absurd ⟨h3, h⟩ hA
    have h4 : ¬ k = 3 := by omega
    simp only [h3, he, h4, decide_true, decide_false, if_true, if_false, Bool.not_true, Bool.false_eq_true]
    exact ⟨by decide, t2, tail⟩
  · by_cases h4 : k = 3
    · have hb : b = true := by
        cases b with
        | true => rfl
        | false => exact absurd ⟨h4, rfl⟩ hB
      simp only [h3, h4, hb, decide_true, decide_false, if_true, if_false, Bool.not_true, Bool.false_eq_true, show decide ((3 : Int) < 3) = false from rfl]
      rw [h4, hb] at tail
      exact ⟨t2, tail⟩
    · simp only [h3, h4, decide_true, decide_false, if_true, if_false, Bool.not_true, Bool.false_eq_true]
      exact ⟨t2, tail⟩
theorem lgift {ns : List Int} {nm : List Str} {n f : Nat} {r : Wl} (hn : n + 80 < 49000) (h1 : neD (.lst (nm.map .str)) (.lst []) = some (.bl (!nm.isEmpty))) (h2 : neD (.lst ((nm.take 1).map .str)) (.lst []) = some (.bl (!(nm.take 1).isEmpty))) :
    Sa (M_law_gift (f + 2) [.scr ns, .obj 0, .bl false, .lst (nm.map .str), .int 0] (tw n r)) (gPost false nm n r) := by
  refine lgift_step (self := M_law_gift (f + 1)) (by omega) (fun _ => hn) h1 fun _ n r hn => ?_
  refine (lgift_step (self := M_law_gift f) (b := true) (nm := nm.take 1) hn (fun h => (nomatch h)) h2 fun h => (nomatch h)).mono ?_
  rintro d w ⟨g, hg, rfl, h1, n2, hn2, rfl⟩
  obtain ⟨g', rfl⟩ := h1 rfl
  refine ⟨.one g', ?_, rfl, h1, n2, hn2, rfl⟩
  cases g' with
  | none => trivial
  | item x k => exact hg
  | table x => exact List.mem_of_mem_take (show x ∈ nm.take 1 from hg)
theorem ownL_at {rh : G.Env} {ow : List Nat} {i : Nat} {xs : List D} (h1 : ow.contains i = true) (h2 : rh[i]? = some (some (.lst xs))) (h3 : xs.length < 50000) : ownL rh ow i = some xs := by
  unfold ownL
  rw [if_pos h1, h2]
  simp only [h3, if_true]
theorem sort4 : ∀ d ∈ [D.str "draw", D.str "bag", D.str "sure", D.str "unlike"], ∃ s bb nu su, d = .str s ∧ eqD (.str s) (.str "bag") = some (.bl bb) ∧ neD (.str s) (.str "unlike") = some (.bl nu) ∧ eqD (.str s) (.str "sure") = some (.bl su) ∧
    ((s = "draw" ∧ bb = false ∧ nu = true ∧ su = false) ∨ (s = "bag" ∧ bb = true ∧ nu = true ∧ su = false) ∨ (s = "sure" ∧ bb = false ∧ nu = true ∧ su = true) ∨ (s = "unlike" ∧ bb = false ∧ nu = false ∧ su = false)) := by
  intro d hd
  simp only [List.mem_cons, List.not_mem_nil, or_false] at hd
  rcases hd with rfl | rfl | rfl | rfl
  · exact ⟨_, _, _, _, rfl, e_draw_bag, n_draw_unlike, e_draw_sure, .inl ⟨rfl, rfl, rfl, rfl⟩⟩
  · exact ⟨_, _, _, _, rfl, e_bag_bag, n_bag_unlike, e_bag_sure, .inr (.inl ⟨rfl, rfl, rfl, rfl⟩)⟩
  · exact ⟨_, _, _, _, rfl, e_sure_bag, n_sure_unlike, e_sure_sure, .inr (.inr (.inl ⟨rfl, rfl, rfl, rfl⟩))⟩
  · exact ⟨_, _, _, _, rfl, e_unlike_bag, n_unlike_unlike, e_unlike_sure, .inr (.inr (.inr ⟨rfl, rfl, rfl, rfl⟩))⟩
theorem cnt4 : ∀ d ∈ [D.int 2, D.int 2, D.int 3, D.int 4], ∃ c : Nat, 2 ≤ c ∧ c ≤ 4 ∧ d = .int c := by
  intro d hd
  simp only [List.mem_cons, List.not_mem_nil, or_false] at hd
  rcases hd with rfl | rfl | rfl | rfl
  · exact ⟨2, by decide, by decide, rfl⟩
  · exact ⟨2, by decide, by decide, rfl⟩
  · exact ⟨3, by decide, by decide, rfl⟩
  · exact ⟨4, by decide, by decide, rfl⟩
theorem wt3 : ∀ d ∈ [D.int 1, D.int 2, D.int 3], ∃ k, 1 ≤ k ∧ k ≤ 3 ∧ d = .int k := by
  intro d hd
  simp only [List.mem_cons, List.not_mem_nil, or_false] at hd
  rcases hd with rfl | rfl | rfl
  · exact ⟨_, by decide, by decide, rfl⟩
  · exact ⟨_, by decide, by decide, rfl⟩
  · exact ⟨_, by decide, by decide, rfl⟩
theorem wt4 : ∀ d ∈ [D.int 1, D.int 2, D.int 3, D.int 20], ∃ k, 1 ≤ k ∧ k ≤ 20 ∧ d = .int k := by
  intro d hd
  simp only [List.mem_cons, List.not_mem_nil, or_false] at hd
  rcases hd with rfl | rfl | rfl | rfl
  · exact ⟨_, by decide, by decide, rfl⟩
  · exact ⟨_, by decide, by decide, rfl⟩
  · exact ⟨_, by decide, by decide, rfl⟩
  · exact ⟨_, by decide, by decide, rfl⟩
theorem sum_le3 : ∀ rs : List (Int × Gf), (∀ r ∈ rs, r.1 ≤ 3) → (rs.map (·.1)).sum ≤ 3 * rs.length
  | [], _ => by simp
  | r :: rs, h => by
    have h1 := h r (List.mem_cons_self ..)
    have h2 := sum_le3 rs fun r hr => h r (List.mem_cons_of_mem _ hr)
    simp only [List.map_cons, List.sum_cons, List.length_cons]
    omega
theorem ltable {ns : List Int} {nm : List Str} {n : Nat} {r : Wl} (hn : n + 300 < 49000) (h1 : neD (.lst (nm.map .str)) (.lst []) = some (.bl (!nm.isEmpty))) (h2 : neD (.lst ((nm.take 1).map .str)) (.lst []) = some (.bl (!(nm.take 1).isEmpty))) :
    Sa (M_law_table [.scr ns, .obj 0, .lst (nm.map .str)] (tw n r)) fun d w => ∃ t : Tb, t.ok nm ∧ d = t.d ∧ ∃ n', n' ≤ n + 130 ∧ w = tw n' r := by
  simp only [M_law_table, F_law_table, sa_ok, sa_bind, ss_seq, ss_fin, ss_nx, ss_ret, ss_nil, sa_fn, sa_v0, sa_v1, sa_v2, sa_v3, sa_v4, sa_v5, sa_v6, sa_v7, sa_v8, sa_v9, sa_v10, sa_v11, sa_v12, sa_v13, sa_v14, sa_eCon, sa_lift, sa_liftB, sa_liftL, sa_eOp, sa_eUn, sa_lNil, sa_lCons, sa_eTup, sa_eLst, sa_eBlt, sa_eCall, sa_eIf, sa_eAnd, sa_eOr, sa_bAnd, sa_bOr, sa_bNot, sa_bTru, sa_bVal, sa_eChain, sa_iItems, sa_iRange, sa_iKeys, ss_if, ss_ifG, ss_sret, ss_expr, ss_asg, ss_new, ss_asgT, ss_for, ss_app, ss_put, ss_putP, ss_ext, ss_newP, sa_eDnew, sa_eSl, sa_oNone, sa_oSome, sa_eBM, isB_bl, tru_bl, len_lst, len_tup, len_dic, items_lst, items_tup, Nat.zero_add, Nat.reduceAdd, Nat.reduceSub, Nat.sub_self, Nat.reduceLT, Nat.reduceLeDiff, Nat.le_refl, Nat.zero_le, true_and, List.filter_nil, List.filter_cons, List.contains_cons, List.contains_nil, Nat.reduceBEq, Nat.reduceBNe, Bool.or_false, Bool.false_or, Bool.true_or, Bool.or_true, Bool.not_true, Bool.not_false, Bool.false_eq_true, if_true, if_false, ite_true, ite_false, decide_true, decide_false, wipeE, give, rmv, List.set_cons_zero, List.set_cons_succ, List.set_nil, List.map_cons, List.map_nil, List.length_cons, List.length_nil, List.cons_append, List.nil_append, List.replicate_succ, List.replicate_zero, List.getElem?_cons_zero, List.getElem?_cons_succ]
  refine sa_pick (by decide) (by omega) fun d hd => ?_
  obtain ⟨s, bb, nu, su, rfl, eb, en, es, hs⟩ := sort4 d hd
  refine sa_pick (by decide) (by omega) fun d hd => ?_
  obtain ⟨c, c1, c2, rfl⟩ := cnt4 d hd
  simp only [sa_ok, sa_bind, ss_seq, ss_fin, ss_nx, ss_ret, ss_nil, sa_fn, sa_v0, sa_v1, sa_v2, sa_v3, sa_v4, sa_v5, sa_v6, sa_v7, sa_v8, sa_v9, sa_v10, sa_v11, sa_v12, sa_v13, sa_v14, sa_eCon, sa_lift, sa_liftB, sa_liftL, sa_eOp, sa_eUn, sa_lNil, sa_lCons, sa_eTup, sa_eLst, sa_eBlt, sa_eCall, sa_eIf, sa_eAnd, sa_eOr, sa_bAnd, sa_bOr, sa_bNot, sa_bTru, sa_bVal, sa_eChain, sa_iItems, sa_iRange, sa_iKeys, ss_if, ss_ifG, ss_sret, ss_expr, ss_asg, ss_new, ss_asgT, ss_for, ss_app, ss_put, ss_putP, ss_ext, ss_newP, sa_eDnew, sa_eSl, sa_oNone, sa_oSome, sa_eBM, isB_bl, tru_bl, len_lst, len_tup, len_dic, items_lst, items_tup, Nat.zero_add, Nat.reduceAdd, Nat.reduceSub, Nat.sub_self, Nat.reduceLT, Nat.reduceLeDiff, Nat.le_refl, Nat.zero_le, true_and, List.filter_nil, List.filter_cons, List.contains_cons, List.contains_nil, Nat.reduceBEq, Nat.reduceBNe, Bool.or_false, Bool.false_or, Bool.true_or, Bool.or_true, Bool.not_true, Bool.not_false, Bool.false_eq_true, if_true, if_false, ite_true, ite_false, decide_true, decide_false, wipeE, give, rmv, List.set_cons_zero, List.set_cons_succ, List.set_nil, List.map_cons, List.map_nil, List.length_cons, List.length_nil, List.cons_append, List.nil_append, List.replicate_succ, List.replicate_zero, List.getElem?_cons_zero, List.getElem?_cons_succ, range1_ok (show 0 ≤ (c : Int) by omega) (show (c : Int) ≤ 100000 by omega), Int.toNat_natCast]
  refine for_inv (fun ds rh ow w => ∃ rs : List (Int × Gf), ∃ x5 x6, rh = [some (.scr ns), some (.obj 0), some (.lst (nm.map .str)), some (.str s), some (.lst (rs.map rowD)), x5, x6, none] ∧ ow = [4] ∧ rs.length + ds.length = c ∧ (∀ r ∈ rs, 1 ≤ r.1 ∧ r.1 ≤ (if bb = true then 3 else 20) ∧ r.2.ok nm) ∧ ∃ n', n' ≤ n + 2 + 29 * rs.length ∧ w = tw n' r) ⟨[], none, none, rfl, rfl, by simp [rangeFrom_len], by simp, _, by simp, rfl⟩ ?_ ?_
  · rintro d ds rh ow w ⟨rs, x5, x6, rfl, rfl, hlen, hok, n', hn', rfl⟩
    simp only [List.length_cons] at hlen
    refine ⟨by decide, _, rfl, ?_⟩
    simp only [sa_ok, sa_bind, ss_seq, ss_fin, ss_nx, ss_ret, ss_nil, sa_fn, sa_v0, sa_v1, sa_v2, sa_v3, sa_v4, sa_v5, sa_v6, sa_v7, sa_v8, sa_v9, sa_v10, sa_v11, sa_v12, sa_v13, sa_v14, sa_eCon, sa_lift, sa_liftB, sa_liftL, sa_eOp, sa_eUn, sa_lNil, sa_lCons, sa_eTup, sa_eLst, sa_eBlt, sa_eCall, sa_eIf, sa_eAnd, sa_eOr, sa_bAnd, sa_bOr, sa_bNot, sa_bTru, sa_bVal, sa_eChain, sa_iItems, sa_iRange, sa_iKeys, ss_if, ss_ifG, ss_sret, ss_expr, ss_asg, ss_new, ss_asgT, ss_for, ss_app, ss_put, ss_putP, ss_ext, ss_newP, sa_eDnew, sa_eSl, sa_oNone, sa_oSome, sa_eBM, isB_bl, tru_bl, len_lst, len_tup, len_dic, items_lst, items_tup, Nat.zero_add, Nat.reduceAdd, Nat.reduceSub, Nat.sub_self, Nat.reduceLT, Nat.reduceLeDiff, Nat.le_refl, Nat.zero_le, true_and, List.filter_nil, List.filter_cons, List.contains_cons, List.contains_nil, Nat.reduceBEq, Nat.reduceBNe, Bool.or_false, Bool.false_or, Bool.true_or, Bool.or_true, Bool.not_true, Bool.not_false, Bool.false_eq_true, if_true, if_false, ite_true, ite_false, decide_true, decide_false, wipeE, give, rmv, List.set_cons_zero, List.set_cons_succ, List.set_nil, List.map_cons, List.map_nil, List.length_cons, List.length_nil, List.cons_append, List.nil_append, List.replicate_succ, List.replicate_zero, List.getElem?_cons_zero, List.getElem?_cons_succ, eb]
    have go : ∀ k : Int, 1 ≤ k → k ≤ (if bb = true then 3 else 20) → Ss (sApp 4 (eTup (lCons (eVar 6) (lCons (eCall (M_law_gift 3) (lCons (eVar 0) (lCons (eVar 1) (lCons (eCon (D.bl false)) (lCons (eVar 2) (lCons (eCon (D.int 0)) lNil)))))) lNil))) [0, 1, 2, 6]
        [some (.scr ns), some (.obj 0), some (.lst (nm.map .str)), some (.str s), some (.lst (rs.map rowD)), some d, some (.int k), none] [4] (tw (n' + 1) r)) (fun rh ow w => ∃ rs : List (Int × Gf), ∃ x5 x6, rh = [some (.scr ns), some (.obj 0), some (.lst (nm.map .str)), some (.str s), some (.lst (rs.map rowD)), x5, x6, none] ∧ ow = [4] ∧ rs.length + ds.length = c ∧ (∀ r ∈ rs, 1 ≤ r.1 ∧ r.1 ≤ (if bb = true then 3 else 20) ∧ r.2.ok nm) ∧ ∃ n', n' ≤ n + 2 + 29 * rs.length ∧ w = tw n' r) (fun d w => ∃ t : Tb, t.ok nm ∧ d = t.d ∧ ∃ n', n' ≤ n + 130 ∧ w = tw n' r) := by
      intro k hk1 hk2
      rw [ss_app (xs := rs.map rowD) (ownL_at rfl rfl (by simp; omega))]
      simp only [sa_ok, sa_bind, ss_seq, ss_fin, ss_nx, ss_ret, ss_nil, sa_fn, sa_v0, sa_v1, sa_v2, sa_v3, sa_v4, sa_v5, sa_v6, sa_v7, sa_v8, sa_v9, sa_v10, sa_v11, sa_v12, sa_v13, sa_v14, sa_eCon, sa_lift, sa_liftB, sa_liftL, sa_eOp, sa_eUn, sa_lNil, sa_lCons, sa_eTup, sa_eLst, sa_eBlt, sa_eCall, sa_eIf, sa_eAnd, sa_eOr, sa_bAnd, sa_bOr, sa_bNot, sa_bTru, sa_bVal, sa_eChain, sa_iItems, sa_iRange, sa_iKeys, ss_if, ss_ifG, ss_sret, ss_expr, ss_asg, ss_new, ss_asgT, ss_for, ss_app, ss_put, ss_putP, ss_ext, ss_newP, sa_eDnew, sa_eSl, sa_oNone, sa_oSome, sa_eBM, isB_bl, tru_bl, len_lst, len_tup, len_dic, items_lst, items_tup, Nat.zero_add, Nat.reduceAdd, Nat.reduceSub, Nat.sub_self, Nat.reduceLT, Nat.reduceLeDiff, Nat.le_refl, Nat.zero_le, true_and, List.filter_nil, List.filter_cons, List.contains_cons, List.contains_nil, Nat.reduceBEq, Nat.reduceBNe, Bool.or_false, Bool.false_or, Bool.true_or, Bool.or_true, Bool.not_true, Bool.not_false, Bool.false_eq_true, if_true, if_false, ite_true, ite_false, decide_true, decide_false, wipeE, give, rmv, List.set_cons_zero, List.set_cons_succ, List.set_nil, List.map_cons, List.map_nil, List.length_cons, List.length_nil, List.cons_append, List.nil_append, List.replicate_succ, List.replicate_zero, List.getElem?_cons_zero, List.getElem?_cons_succ]
      refine (lgift (by omega) h1 h2).mono ?_
      rintro d2 w ⟨g, hg, rfl, _, n2, hn2, rfl⟩
      rw [if_neg (by decide)] at hn2
      refine ⟨rs ++ [(k, g)], some d, some (.int k), by simp [rowD], by simp; omega, ?_, n2, by simp; omega, rfl⟩
      intro z hz
      rcases List.mem_append.mp hz with hz | hz
      · exact hok z hz
      · cases List.mem_singleton.mp hz; exact ⟨hk1, hk2, hg⟩
    cases bb with
    | true =>
      simp only [if_true]
      refine sa_pick (by decide) (by omega) fun d hd => ?_
      obtain ⟨k, hk1, hk2, rfl⟩ := wt3 d hd
      exact go k hk1 (by simpa using hk2)
    | false =>
      simp only [if_false, Bool.false_eq_true]
      refine sa_pick (by decide) (by omega) fun d hd => ?_
      obtain ⟨k, hk1, hk2, rfl⟩ := wt4 d hd
      exact go k hk1 (by simpa using hk2)
  · rintro rh ow w ⟨rs, x5, x6, rfl, rfl, hlen, hok, n', hn', rfl⟩
    simp only [List.length_nil, Nat.add_zero] at hlen
    simp only [sa_ok, sa_bind, ss_seq, ss_fin, ss_nx, ss_ret, ss_nil, sa_fn, sa_v0, sa_v1, sa_v2, sa_v3, sa_v4, sa_v5, sa_v6, sa_v7, sa_v8, sa_v9, sa_v10, sa_v11, sa_v12, sa_v13, sa_v14, sa_eCon, sa_lift, sa_liftB, sa_liftL, sa_eOp, sa_eUn, sa_lNil, sa_lCons, sa_eTup, sa_eLst, sa_eBlt, sa_eCall, sa_eIf, sa_eAnd, sa_eOr, sa_bAnd, sa_bOr, sa_bNot, sa_bTru, sa_bVal, sa_eChain, sa_iItems, sa_iRange, sa_iKeys, ss_if, ss_ifG, ss_sret, ss_expr, ss_asg, ss_new, ss_asgT, ss_for, ss_app, ss_put, ss_putP, ss_ext, ss_newP, sa_eDnew, sa_eSl, sa_oNone, sa_oSome, sa_eBM, isB_bl, tru_bl, len_lst, len_tup, len_dic, items_lst, items_tup, Nat.zero_add, Nat.reduceAdd, Nat.reduceSub, Nat.sub_self, Nat.reduceLT, Nat.reduceLeDiff, Nat.le_refl, Nat.zero_le, true_and, List.filter_nil, List.filter_cons, List.contains_cons, List.contains_nil, Nat.reduceBEq, Nat.reduceBNe, Bool.or_false, Bool.false_or, Bool.true_or, Bool.or_true, Bool.not_true, Bool.not_false, Bool.false_eq_true, if_true, if_false, ite_true, ite_false, decide_true, decide_false, wipeE, give, rmv, List.set_cons_zero, List.set_cons_succ, List.set_nil, List.map_cons, List.map_nil, List.length_cons, List.length_nil, List.cons_append, List.nil_append, List.replicate_succ, List.replicate_zero, List.getElem?_cons_zero, List.getElem?_cons_succ]
    refine sa_draw (m := 2) (by decide) (by omega) fun j j0 j1 => ?_
    have hc : G.intD [.bl nu] = some (.int (if nu = true then 1 else 0)) := rfl
    have hm : mulD (.int j) (.int (if nu = true then 1 else 0)) = some (.int (j * (if nu = true then 1 else 0))) := by
      show (if j.natAbs < 2 ^ 64 then _ else _) = _
      rw [if_pos (by omega)]
    obtain ⟨q, hq1, hq2, hq3⟩ : ∃ q : Nat, j * (if nu = true then 1 else 0) = (q : Int) ∧ q ≤ 1 ∧ (nu = false → q = 0) := by
      cases nu with
      | true => exact ⟨j.toNat, by simp; omega, by omega, fun h => (nomatch h)⟩
      | false => exact ⟨0, by simp, by omega, fun _ => rfl⟩
    simp only [sa_ok, sa_bind, ss_seq, ss_fin, ss_nx, ss_ret, ss_nil, sa_fn, sa_v0, sa_v1, sa_v2, sa_v3, sa_v4, sa_v5, sa_v6, sa_v7, sa_v8, sa_v9, sa_v10, sa_v11, sa_v12, sa_v13, sa_v14, sa_eCon, sa_lift, sa_liftB, sa_liftL, sa_eOp, sa_eUn, sa_lNil, sa_lCons, sa_eTup, sa_eLst, sa_eBlt, sa_eCall, sa_eIf, sa_eAnd, sa_eOr, sa_bAnd, sa_bOr, sa_bNot, sa_bTru, sa_bVal, sa_eChain, sa_iItems, sa_iRange, sa_iKeys, ss_if, ss_ifG, ss_sret, ss_expr, ss_asg, ss_new, ss_asgT, ss_for, ss_app, ss_put, ss_putP, ss_ext, ss_newP, sa_eDnew, sa_eSl, sa_oNone, sa_oSome, sa_eBM, isB_bl, tru_bl, len_lst, len_tup, len_dic, items_lst, items_tup, Nat.zero_add, Nat.reduceAdd, Nat.reduceSub, Nat.sub_self, Nat.reduceLT, Nat.reduceLeDiff, Nat.le_refl, Nat.zero_le, true_and, List.filter_nil, List.filter_cons, List.contains_cons, List.contains_nil, Nat.reduceBEq, Nat.reduceBNe, Bool.or_false, Bool.false_or, Bool.true_or, Bool.or_true, Bool.not_true, Bool.not_false, Bool.false_eq_true, if_true, if_false, ite_true, ite_false, decide_true, decide_false, wipeE, give, rmv, List.set_cons_zero, List.set_cons_succ, List.set_nil, List.map_cons, List.map_nil, List.length_cons, List.length_nil, List.cons_append, List.nil_append, List.replicate_succ, List.replicate_zero, List.getElem?_cons_zero, List.getElem?_cons_succ, en, hc, hm, hq1, D.int.injEq, exists_eq_left', sl_from, ← List.map_drop, eb]
    have hl : (rs.drop q).length = c - q := by simp; omega
    have hok' : ∀ r ∈ rs.drop q, 1 ≤ r.1 ∧ r.1 ≤ (if bb = true then 3 else 20) ∧ r.2.ok nm := fun r hr => hok r (List.mem_of_mem_drop hr)
    generalize rs.drop q = rs' at hl hok' ⊢
    clear hok
    rcases hs with ⟨rfl, rfl, rfl, rfl⟩ | ⟨rfl, rfl, rfl, rfl⟩ | ⟨rfl, rfl, rfl, rfl⟩ | ⟨rfl, rfl, rfl, rfl⟩
    · simp only [sa_ok, sa_bind, ss_seq, ss_fin, ss_nx, ss_ret, ss_nil, sa_fn, sa_v0, sa_v1, sa_v2, sa_v3, sa_v4, sa_v5, sa_v6, sa_v7, sa_v8, sa_v9, sa_v10, sa_v11, sa_v12, sa_v13, sa_v14, sa_eCon, sa_lift, sa_liftB, sa_liftL, sa_eOp, sa_eUn, sa_lNil, sa_lCons, sa_eTup, sa_eLst, sa_eBlt, sa_eCall, sa_eIf, sa_eAnd, sa_eOr, sa_bAnd, sa_bOr, sa_bNot, sa_bTru, sa_bVal, sa_eChain, sa_iItems, sa_iRange, sa_iKeys, ss_if, ss_ifG, ss_sret, ss_expr, ss_asg, ss_new, ss_asgT, ss_for, ss_app, ss_put, ss_putP, ss_ext, ss_newP, sa_eDnew, sa_eSl, sa_oNone, sa_oSome, sa_eBM, isB_bl, tru_bl, len_lst, len_tup, len_dic, items_lst, items_tup, Nat.zero_add, Nat.reduceAdd, Nat.reduceSub, Nat.sub_self, Nat.reduceLT, Nat.reduceLeDiff, Nat.le_refl, Nat.zero_le, true_and, List.filter_nil, List.filter_cons, List.contains_cons, List.contains_nil, Nat.reduceBEq, Nat.reduceBNe, Bool.or_false, Bool.false_or, Bool.true_or, Bool.or_true, Bool.not_true, Bool.not_false, Bool.false_eq_true, if_true, if_false, ite_true, ite_false, decide_true, decide_false, wipeE, give, rmv, List.set_cons_zero, List.set_cons_succ, List.set_nil, List.map_cons, List.map_nil, List.length_cons, List.length_nil, List.cons_append, List.nil_append, List.replicate_succ, List.replicate_zero, List.getElem?_cons_zero, List.getElem?_cons_succ, es, tupleD]
      exact ⟨.draw rs', ⟨show 1 ≤ rs'.length by omega, show rs'.length ≤ 4 by omega, fun r hr => by simpa using hok' r hr, trivial⟩, rfl, n' + 1, by omega, rfl⟩
    · have hsum : (rs'.map (·.1)).sum ≤ 12 := by
        have := sum_le3 rs' fun r hr => by simpa using (hok' r hr).2.1
        omega
      have hok2 : ∀ r ∈ rs', 1 ≤ r.1 ∧ r.1 ≤ 20 ∧ r.2.ok nm := fun r hr => by
        obtain ⟨a, b, e⟩ := hok' r hr
        rw [if_pos rfl] at b
        exact ⟨a, by omega, e⟩
      simp only [sa_ok, sa_bind, ss_seq, ss_fin, ss_nx, ss_ret, ss_nil, sa_fn, sa_v0, sa_v1, sa_v2, sa_v3, sa_v4, sa_v5, sa_v6, sa_v7, sa_v8, sa_v9, sa_v10, sa_v11, sa_v12, sa_v13, sa_v14, sa_eCon, sa_lift, sa_liftB, sa_liftL, sa_eOp, sa_eUn, sa_lNil, sa_lCons, sa_eTup, sa_eLst, sa_eBlt, sa_eCall, sa_eIf, sa_eAnd, sa_eOr, sa_bAnd, sa_bOr, sa_bNot, sa_bTru, sa_bVal, sa_eChain, sa_iItems, sa_iRange, sa_iKeys, ss_if, ss_ifG, ss_sret, ss_expr, ss_asg, ss_new, ss_asgT, ss_for, ss_app, ss_put, ss_putP, ss_ext, ss_newP, sa_eDnew, sa_eSl, sa_oNone, sa_oSome, sa_eBM, isB_bl, tru_bl, len_lst, len_tup, len_dic, items_lst, items_tup, Nat.zero_add, Nat.reduceAdd, Nat.reduceSub, Nat.sub_self, Nat.reduceLT, Nat.reduceLeDiff, Nat.le_refl, Nat.zero_le, true_and, List.filter_nil, List.filter_cons, List.contains_cons, List.contains_nil, Nat.reduceBEq, Nat.reduceBNe, Bool.or_false, Bool.false_or, Bool.true_or, Bool.or_true, Bool.not_true, Bool.not_false, Bool.false_eq_true, if_true, if_false, ite_true, ite_false, decide_true, decide_false, wipeE, give, rmv, List.set_cons_zero, List.set_cons_succ, List.set_nil, List.map_cons, List.map_nil, List.length_cons, List.length_nil, List.cons_append, List.nil_append, List.replicate_succ, List.replicate_zero, List.getElem?_cons_zero, List.getElem?_cons_succ, lenD, eqD_int, List.length_map]
      by_cases hl1 : rs'.length = 1
      · obtain ⟨r0, rfl⟩ := List.length_eq_one_iff.mp hl1
        simp only [sa_ok, sa_bind, ss_seq, ss_fin, ss_nx, ss_ret, ss_nil, sa_fn, sa_v0, sa_v1, sa_v2, sa_v3, sa_v4, sa_v5, sa_v6, sa_v7, sa_v8, sa_v9, sa_v10, sa_v11, sa_v12, sa_v13, sa_v14, sa_eCon, sa_lift, sa_liftB, sa_liftL, sa_eOp, sa_eUn, sa_lNil, sa_lCons, sa_eTup, sa_eLst, sa_eBlt, sa_eCall, sa_eIf, sa_eAnd, sa_eOr, sa_bAnd, sa_bOr, sa_bNot, sa_bTru, sa_bVal, sa_eChain, sa_iItems, sa_iRange, sa_iKeys, ss_if, ss_ifG, ss_sret, ss_expr, ss_asg, ss_new, ss_asgT, ss_for, ss_app, ss_put, ss_putP, ss_ext, ss_newP, sa_eDnew, sa_eSl, sa_oNone, sa_oSome, sa_eBM, isB_bl, tru_bl, len_lst, len_tup, len_dic, items_lst, items_tup, Nat.zero_add, Nat.reduceAdd, Nat.reduceSub, Nat.sub_self, Nat.reduceLT, Nat.reduceLeDiff, Nat.le_refl, Nat.zero_le, true_and, List.filter_nil, List.filter_cons, List.contains_cons, List.contains_nil, Nat.reduceBEq, Nat.reduceBNe, Bool.or_false, Bool.false_or, Bool.true_or, Bool.or_true, Bool.not_true, Bool.not_false, Bool.false_eq_true, if_true, if_false, ite_true, ite_false, decide_true, decide_false, wipeE, give, rmv, List.set_cons_zero, List.set_cons_succ, List.set_nil, List.map_cons, List.map_nil, List.length_cons, List.length_nil, List.cons_append, List.nil_append, List.replicate_succ, List.replicate_zero, List.getElem?_cons_zero, List.getElem?_cons_succ, show ((1 : Nat) : Int) = 1 from rfl]
        refine sa_draw (m := 2) (by decide) (by omega) fun i i0 i1 => ?_
        by_cases hi : i = 0
        · have e0 : ixD (.lst [rowD r0]) (.int 0) = some (rowD r0) := rfl
          have e1 : ixD (rowD r0) (.int 1) = some r0.2.d := rfl
          simp only [sa_ok, sa_bind, ss_seq, ss_fin, ss_nx, ss_ret, ss_nil, sa_fn, sa_v0, sa_v1, sa_v2, sa_v3, sa_v4, sa_v5, sa_v6, sa_v7, sa_v8, sa_v9, sa_v10, sa_v11, sa_v12, sa_v13, sa_v14, sa_eCon, sa_lift, sa_liftB, sa_liftL, sa_eOp, sa_eUn, sa_lNil, sa_lCons, sa_eTup, sa_eLst, sa_eBlt, sa_eCall, sa_eIf, sa_eAnd, sa_eOr, sa_bAnd, sa_bOr, sa_bNot, sa_bTru, sa_bVal, sa_eChain, sa_iItems, sa_iRange, sa_iKeys, ss_if, ss_ifG, ss_sret, ss_expr, ss_asg, ss_new, ss_asgT, ss_for, ss_app, ss_put, ss_putP, ss_ext, ss_newP, sa_eDnew, sa_eSl, sa_oNone, sa_oSome, sa_eBM, isB_bl, tru_bl, len_lst, len_tup, len_dic, items_lst, items_tup, Nat.zero_add, Nat.reduceAdd, Nat.reduceSub, Nat.sub_self, Nat.reduceLT, Nat.reduceLeDiff, Nat.le_refl, Nat.zero_le, true_and, List.filter_nil, List.filter_cons, List.contains_cons, List.contains_nil, Nat.reduceBEq, Nat.reduceBNe, Bool.or_false, Bool.false_or, Bool.true_or, Bool.or_true, Bool.not_true, Bool.not_false, Bool.false_eq_true, if_true, if_false, ite_true, ite_false, decide_true, decide_false, wipeE, give, rmv, List.set_cons_zero, List.set_cons_succ, List.set_nil, List.map_cons, List.map_nil, List.length_cons, List.length_nil, List.cons_append, List.nil_append, List.replicate_succ, List.replicate_zero, List.getElem?_cons_zero, List.getElem?_cons_succ, eqD_int, hi, e0, e1, es, tupleD]
          refine ⟨.bag [(12, r0.2)], ⟨show 1 ≤ 1 by decide, show 1 ≤ 4 by decide, ?_, show (12 : Int) + 0 ≤ 12 by decide⟩, rfl, n' + 2, by omega, rfl⟩
          intro r hr
          cases List.mem_singleton.mp hr
          exact ⟨show (1 : Int) ≤ 12 by decide, show (12 : Int) ≤ 20 by decide, (hok2 r0 (List.mem_singleton.mpr rfl)).2.2⟩
        · simp only [sa_ok, sa_bind, ss_seq, ss_fin, ss_nx, ss_ret, ss_nil, sa_fn, sa_v0, sa_v1, sa_v2, sa_v3, sa_v4, sa_v5, sa_v6, sa_v7, sa_v8, sa_v9, sa_v10, sa_v11, sa_v12, sa_v13, sa_v14, sa_eCon, sa_lift, sa_liftB, sa_liftL, sa_eOp, sa_eUn, sa_lNil, sa_lCons, sa_eTup, sa_eLst, sa_eBlt, sa_eCall, sa_eIf, sa_eAnd, sa_eOr, sa_bAnd, sa_bOr, sa_bNot, sa_bTru, sa_bVal, sa_eChain, sa_iItems, sa_iRange, sa_iKeys, ss_if, ss_ifG, ss_sret, ss_expr, ss_asg, ss_new, ss_asgT, ss_for, ss_app, ss_put, ss_putP, ss_ext, ss_newP, sa_eDnew, sa_eSl, sa_oNone, sa_oSome, sa_eBM, isB_bl, tru_bl, len_lst, len_tup, len_dic, items_lst, items_tup, Nat.zero_add, Nat.reduceAdd, Nat.reduceSub, Nat.sub_self, Nat.reduceLT, Nat.reduceLeDiff, Nat.le_refl, Nat.zero_le, true_and, List.filter_nil, List.filter_cons, List.contains_cons, List.contains_nil, Nat.reduceBEq, Nat.reduceBNe, Bool.or_false, Bool.false_or, Bool.true_or, Bool.or_true, Bool.not_true, Bool.not_false, Bool.false_eq_true, if_true, if_false, ite_true, ite_false, decide_true, decide_false, wipeE, give, rmv, List.set_cons_zero, List.set_cons_succ, List.set_nil, List.map_cons, List.map_nil, List.length_cons, List.length_nil, List.cons_append, List.nil_append, List.replicate_succ, List.replicate_zero, List.getElem?_cons_zero, List.getElem?_cons_succ, eqD_int, hi, es, tupleD]
          exact ⟨.bag [r0], ⟨show 1 ≤ 1 by decide, show 1 ≤ 4 by decide, hok2, hsum⟩, rfl, n' + 2, by omega, rfl⟩
      · have hl2 : ¬ ((rs'.length : Int) = 1) := by omega
        simp only [sa_ok, sa_bind, ss_seq, ss_fin, ss_nx, ss_ret, ss_nil, sa_fn, sa_v0, sa_v1, sa_v2, sa_v3, sa_v4, sa_v5, sa_v6, sa_v7, sa_v8, sa_v9, sa_v10, sa_v11, sa_v12, sa_v13, sa_v14, sa_eCon, sa_lift, sa_liftB, sa_liftL, sa_eOp, sa_eUn, sa_lNil, sa_lCons, sa_eTup, sa_eLst, sa_eBlt, sa_eCall, sa_eIf, sa_eAnd, sa_eOr, sa_bAnd, sa_bOr, sa_bNot, sa_bTru, sa_bVal, sa_eChain, sa_iItems, sa_iRange, sa_iKeys, ss_if, ss_ifG, ss_sret, ss_expr, ss_asg, ss_new, ss_asgT, ss_for, ss_app, ss_put, ss_putP, ss_ext, ss_newP, sa_eDnew, sa_eSl, sa_oNone, sa_oSome, sa_eBM, isB_bl, tru_bl, len_lst, len_tup, len_dic, items_lst, items_tup, Nat.zero_add, Nat.reduceAdd, Nat.reduceSub, Nat.sub_self, Nat.reduceLT, Nat.reduceLeDiff, Nat.le_refl, Nat.zero_le, true_and, List.filter_nil, List.filter_cons, List.contains_cons, List.contains_nil, Nat.reduceBEq, Nat.reduceBNe, Bool.or_false, Bool.false_or, Bool.true_or, Bool.or_true, Bool.not_true, Bool.not_false, Bool.false_eq_true, if_true, if_false, ite_true, ite_false, decide_true, decide_false, wipeE, give, rmv, List.set_cons_zero, List.set_cons_succ, List.set_nil, List.map_cons, List.map_nil, List.length_cons, List.length_nil, List.cons_append, List.nil_append, List.replicate_succ, List.replicate_zero, List.getElem?_cons_zero, List.getElem?_cons_succ, hl2, es, tupleD]
        exact ⟨.bag rs', ⟨show 1 ≤ rs'.length by omega, show rs'.length ≤ 4 by omega, hok2, hsum⟩, rfl, n' + 1, by omega, rfl⟩
    · simp only [sa_ok, sa_bind, ss_seq, ss_fin, ss_nx, ss_ret, ss_nil, sa_fn, sa_v0, sa_v1, sa_v2, sa_v3, sa_v4, sa_v5, sa_v6, sa_v7, sa_v8, sa_v9, sa_v10, sa_v11, sa_v12, sa_v13, sa_v14, sa_eCon, sa_lift, sa_liftB, sa_liftL, sa_eOp, sa_eUn, sa_lNil, sa_lCons, sa_eTup, sa_eLst, sa_eBlt, sa_eCall, sa_eIf, sa_eAnd, sa_eOr, sa_bAnd, sa_bOr, sa_bNot, sa_bTru, sa_bVal, sa_eChain, sa_iItems, sa_iRange, sa_iKeys, ss_if, ss_ifG, ss_sret, ss_expr, ss_asg, ss_new, ss_asgT, ss_for, ss_app, ss_put, ss_putP, ss_ext, ss_newP, sa_eDnew, sa_eSl, sa_oNone, sa_oSome, sa_eBM, isB_bl, tru_bl, len_lst, len_tup, len_dic, items_lst, items_tup, Nat.zero_add, Nat.reduceAdd, Nat.reduceSub, Nat.sub_self, Nat.reduceLT, Nat.reduceLeDiff, Nat.le_refl, Nat.zero_le, true_and, List.filter_nil, List.filter_cons, List.contains_cons, List.contains_nil, Nat.reduceBEq, Nat.reduceBNe, Bool.or_false, Bool.false_or, Bool.true_or, Bool.or_true, Bool.not_true, Bool.not_false, Bool.false_eq_true, if_true, if_false, ite_true, ite_false, decide_true, decide_false, wipeE, give, rmv, List.set_cons_zero, List.set_cons_succ, List.set_nil, List.map_cons, List.map_nil, List.length_cons, List.length_nil, List.cons_append, List.nil_append, List.replicate_succ, List.replicate_zero, List.getElem?_cons_zero, List.getElem?_cons_succ, es, tupleD]
      refine sa_pick (by decide) (by omega) fun d hd => ?_
      obtain ⟨k, hk1, hk2, rfl⟩ : ∃ k : Int, 1 ≤ k ∧ k ≤ 10 ∧ d = .int k := by
        simp only [List.mem_cons, List.not_mem_nil, or_false] at hd
        rcases hd with rfl | rfl
        · exact ⟨3, by decide, by decide, rfl⟩
        · exact ⟨10, by decide, by decide, rfl⟩
      refine sa_draw (m := k) (by omega) (by omega) fun i i0 i1 => ?_
      simp only [sa_ok, sa_bind, ss_seq, ss_fin, ss_nx, ss_ret, ss_nil, sa_fn, sa_v0, sa_v1, sa_v2, sa_v3, sa_v4, sa_v5, sa_v6, sa_v7, sa_v8, sa_v9, sa_v10, sa_v11, sa_v12, sa_v13, sa_v14, sa_eCon, sa_lift, sa_liftB, sa_liftL, sa_eOp, sa_eUn, sa_lNil, sa_lCons, sa_eTup, sa_eLst, sa_eBlt, sa_eCall, sa_eIf, sa_eAnd, sa_eOr, sa_bAnd, sa_bOr, sa_bNot, sa_bTru, sa_bVal, sa_eChain, sa_iItems, sa_iRange, sa_iKeys, ss_if, ss_ifG, ss_sret, ss_expr, ss_asg, ss_new, ss_asgT, ss_for, ss_app, ss_put, ss_putP, ss_ext, ss_newP, sa_eDnew, sa_eSl, sa_oNone, sa_oSome, sa_eBM, isB_bl, tru_bl, len_lst, len_tup, len_dic, items_lst, items_tup, Nat.zero_add, Nat.reduceAdd, Nat.reduceSub, Nat.sub_self, Nat.reduceLT, Nat.reduceLeDiff, Nat.le_refl, Nat.zero_le, true_and, List.filter_nil, List.filter_cons, List.contains_cons, List.contains_nil, Nat.reduceBEq, Nat.reduceBNe, Bool.or_false, Bool.false_or, Bool.true_or, Bool.or_true, Bool.not_true, Bool.not_false, Bool.false_eq_true, if_true, if_false, ite_true, ite_false, decide_true, decide_false, wipeE, give, rmv, List.set_cons_zero, List.set_cons_succ, List.set_nil, List.map_cons, List.map_nil, List.length_cons, List.length_nil, List.cons_append, List.nil_append, List.replicate_succ, List.replicate_zero, List.getElem?_cons_zero, List.getElem?_cons_succ, addD, lenD, List.length_map]
      refine sa_draw (m := (rs'.length : Int)) (by omega) (by omega) fun l l0 l1 => ?_
      exact ⟨.sure rs' l (1 + i), ⟨show 1 ≤ rs'.length by omega, show rs'.length ≤ 4 by omega, fun r hr => by simpa using hok' r hr, l0, l1, by omega, by omega⟩, rfl, n' + 4, by omega, rfl⟩
    · simp only [sa_ok, sa_bind, ss_seq, ss_fin, ss_nx, ss_ret, ss_nil, sa_fn, sa_v0, sa_v1, sa_v2, sa_v3, sa_v4, sa_v5, sa_v6, sa_v7, sa_v8, sa_v9, sa_v10, sa_v11, sa_v12, sa_v13, sa_v14, sa_eCon, sa_lift, sa_liftB, sa_liftL, sa_eOp, sa_eUn, sa_lNil, sa_lCons, sa_eTup, sa_eLst, sa_eBlt, sa_eCall, sa_eIf, sa_eAnd, sa_eOr, sa_bAnd, sa_bOr, sa_bNot, sa_bTru, sa_bVal, sa_eChain, sa_iItems, sa_iRange, sa_iKeys, ss_if, ss_ifG, ss_sret, ss_expr, ss_asg, ss_new, ss_asgT, ss_for, ss_app, ss_put, ss_putP, ss_ext, ss_newP, sa_eDnew, sa_eSl, sa_oNone, sa_oSome, sa_eBM, isB_bl, tru_bl, len_lst, len_tup, len_dic, items_lst, items_tup, Nat.zero_add, Nat.reduceAdd, Nat.reduceSub, Nat.sub_self, Nat.reduceLT, Nat.reduceLeDiff, Nat.le_refl, Nat.zero_le, true_and, List.filter_nil, List.filter_cons, List.contains_cons, List.contains_nil, Nat.reduceBEq, Nat.reduceBNe, Bool.or_false, Bool.false_or, Bool.true_or, Bool.or_true, Bool.not_true, Bool.not_false, Bool.false_eq_true, if_true, if_false, ite_true, ite_false, decide_true, decide_false, wipeE, give, rmv, List.set_cons_zero, List.set_cons_succ, List.set_nil, List.map_cons, List.map_nil, List.length_cons, List.length_nil, List.cons_append, List.nil_append, List.replicate_succ, List.replicate_zero, List.getElem?_cons_zero, List.getElem?_cons_succ, es, tupleD]
      have := hq3 rfl
      exact ⟨.unlike rs', ⟨show 1 ≤ rs'.length by omega, show rs'.length ≤ 4 by omega, fun r hr => by simpa using hok' r hr, show 2 ≤ rs'.length by omega⟩, rfl, n' + 1, by omega, rfl⟩
theorem ss_for_nil {tg : Tg} {f : SS Wl} {rh : G.Env} {ow : List Nat} {w : Wl} {N : G.Env → List Nat → Wl → Prop} {R : D → Wl → Prop} : Ss (forD tg f [] rh ow w) N R ↔ N rh ow w := ss_nx
theorem ss_for_cons {i : Nat} {d : D} {ds : List D} {f : SS Wl} {rh : G.Env} {ow : List Nat} {w : Wl} {N : G.Env → List Nat → Wl → Prop} {R : D → Wl → Prop} (hu : ow.contains i = false) (h : Ss (f (rh.set i (some d)) ow w) (fun rh ow w => Ss (forD (.nm i) f ds rh ow w) N R) R) : Ss (forD (.nm i) f (d :: ds) rh ow w) N R := by
  have hu' : uses (Tg.slots (.nm i)) ow = false := by simp only [uses, Tg.slots, List.any_cons, List.any_nil, hu, Bool.or_false]
  simp only [forD, hu', Bool.false_eq_true, if_false, tgSet]
  exact ss_next h
def nmI : Nat → Str
  | 0 => "a"
  | 1 => "box"
  | _ => "chest"
def nms (m : Nat) : List Str := (List.range m).map nmI
structure BookOk (m : Nat) (t : Nat → Tb) (kvs : List (Key × D)) : Prop where
  lo : 1 ≤ m
  hi : m ≤ 3
  len : kvs.length = m
  srt : sortedA [.kys (kvs.map (·.1))] = some (.lst ((nms m).map .str))
  get : ∀ i, i < m → valK kvs (.inr (nmI i)) = some (t i).d
  tok : ∀ i, i < m → (t i).ok (nms i)
  key : ∀ kv ∈ kvs, ∃ i, i < m ∧ kv.1 = .inr (nmI i)
theorem ownD_at {rh : G.Env} {ow : List Nat} {i : Nat} {xs : List (Key × D)} (h1 : ow.contains i = true) (h2 : rh[i]? = some (some (.dic xs))) (h3 : xs.length < 50000) : ownD rh ow i = some xs := by
  unfold ownD
  rw [if_pos h1, h2]
  simp only [h3, if_true]
theorem imm_gi (g : Gi) : imm g.d = true := by cases g <;> rfl
theorem imms_map {α : Type} (f : α → D) (h : ∀ a, imm (f a) = true) : ∀ l : List α, imms (l.map f) = true
  | [] => rfl
  | a :: l => by
    show (imm (f a) && imms (l.map f)) = true
    rw [h a, imms_map f h l]; rfl
theorem imm_gf (g : Gf) : imm g.d = true := by
  cases g with
  | one g => exact imm_gi g
  | sev gs =>
    show (true && ((imms (gs.map Gi.d)) && true)) = true
    rw [imms_map _ imm_gi]; rfl
theorem imm_row (r : Int × Gf) : imm (rowD r) = true := by
  show (true && (imm r.2.d && true)) = true
  rw [imm_gf]; rfl
theorem imm_tb (t : Tb) : imm t.d = true := by
  cases t with
  | draw rs => show (true && (imms (rs.map rowD) && true)) = true; rw [imms_map _ imm_row]; rfl
  | bag rs => show (true && (imms (rs.map rowD) && true)) = true; rw [imms_map _ imm_row]; rfl
  | unlike rs => show (true && (imms (rs.map rowD) && true)) = true; rw [imms_map _ imm_row]; rfl
  | sure rs a m => show (true && (imms (rs.map rowD) && (true && (true && true)))) = true; rw [imms_map _ imm_row]; rfl
theorem neA0 : neD (.lst (([] : List Str).map .str)) (.lst []) = some (.bl (!([] : List Str).isEmpty)) := by kernel_rfl
theorem neA1 : neD (.lst ((["a"] : List Str).map .str)) (.lst []) = some (.bl (!(["a"] : List Str).isEmpty)) := by kernel_rfl
theorem neA2 : neD (.lst ((["a", "box"] : List Str).map .str)) (.lst []) = some (.bl (!(["a", "box"] : List Str).isEmpty)) := by kernel_rfl
theorem b_add1 : addD (.int 1) (.int 0) = some (.int 1) := by kernel_rfl
theorem b_sl1 : slD (.lst [.str "a", .str "box", .str "chest", .str "treasure"]) none (some 1) = some (.lst [.str "a"]) := by kernel_rfl
theorem b_rg1 : range1 [.int 1] = some [.int 0] := by kernel_rfl
theorem b_t1_0 : slD (.lst [.str "a"]) none (some 0) = some (.lst (([] : List Str).map .str)) := by kernel_rfl
theorem b_i1_0 : ixD (.lst [.str "a"]) (.int 0) = some (.str "a") := by kernel_rfl
theorem b_p0  {y : D} : putD [] (.inr "a") y = [(.inr "a", y)] := by kernel_rfl
theorem b_f1_0 : slD (.lst [.str "a"]) (some 0) none = some (.lst [.str "a"]) := by kernel_rfl
theorem b_g1_0 : slD (.lst [.str "a"]) none (some 0) = some (.lst []) := by kernel_rfl
theorem b_h1_0 : addD (.lst [.str "a"]) (.lst []) = some (.lst [.str "a"]) := by kernel_rfl
theorem b_d1_0 {x0 : D} : ixD (.dic [(.inr "a", x0)]) (.str "a") = some x0 := by kernel_rfl
theorem b_q_0  {y : D} : putD [] (.inr "a") y = [(.inr "a", y)] := by kernel_rfl
theorem b_l1 : slD (.lst [.str "a"]) (some (-1)) none = some (.lst [.str "a"]) := by kernel_rfl
theorem b_m1 : addD (.lst [.str "a"]) (.lst [.str "a"]) = some (.lst [.str "a", .str "a"]) := by kernel_rfl
theorem b_neg : negD (.int 1) = some (.int (-1)) := by kernel_rfl
theorem b_add2 : addD (.int 1) (.int 1) = some (.int 2) := by kernel_rfl
theorem b_sl2 : slD (.lst [.str "a", .str "box", .str "chest", .str "treasure"]) none (some 2) = some (.lst [.str "a", .str "box"]) := by kernel_rfl
theorem b_rg2 : range1 [.int 2] = some [.int 0, .int 1] := by kernel_rfl
theorem b_t2_0 : slD (.lst [.str "a", .str "box"]) none (some 0) = some (.lst (([] : List Str).map .str)) := by kernel_rfl
theorem b_i2_0 : ixD (.lst [.str "a", .str "box"]) (.int 0) = some (.str "a") := by kernel_rfl
theorem b_t2_1 : slD (.lst [.str "a", .str "box"]) none (some 1) = some (.lst ((["a"] : List Str).map .str)) := by kernel_rfl
theorem b_i2_1 : ixD (.lst [.str "a", .str "box"]) (.int 1) = some (.str "box") := by kernel_rfl
theorem b_p1 {x0 : D} {y : D} : putD [(.inr "a", x0)] (.inr "box") y = [(.inr "a", x0), (.inr "box", y)] := by kernel_rfl
theorem b_f2_0 : slD (.lst [.str "a", .str "box"]) (some 0) none = some (.lst [.str "a", .str "box"]) := by kernel_rfl
theorem b_g2_0 : slD (.lst [.str "a", .str "box"]) none (some 0) = some (.lst []) := by kernel_rfl
theorem b_h2_0 : addD (.lst [.str "a", .str "box"]) (.lst []) = some (.lst [.str "a", .str "box"]) := by kernel_rfl
theorem b_d2_0 {x0 : D} {x1 : D} : ixD (.dic [(.inr "a", x0), (.inr "box", x1)]) (.str "a") = some x0 := by kernel_rfl
theorem b_d2_1 {x0 : D} {x1 : D} : ixD (.dic [(.inr "a", x0), (.inr "box", x1)]) (.str "box") = some x1 := by kernel_rfl
theorem b_q0_1 {x0 : D} {y : D} : putD [(.inr "a", x0)] (.inr "box") y = [(.inr "a", x0), (.inr "box", y)] := by kernel_rfl
theorem b_l2 : slD (.lst [.str "a", .str "box"]) (some (-1)) none = some (.lst [.str "box"]) := by kernel_rfl
theorem b_m2 : addD (.lst [.str "a", .str "box"]) (.lst [.str "box"]) = some (.lst [.str "a", .str "box", .str "box"]) := by kernel_rfl
theorem b_f2_1 : slD (.lst [.str "a", .str "box"]) (some 1) none = some (.lst [.str "box"]) := by kernel_rfl
theorem b_g2_1 : slD (.lst [.str "a", .str "box"]) none (some 1) = some (.lst [.str "a"]) := by kernel_rfl
theorem b_h2_1 : addD (.lst [.str "box"]) (.lst [.str "a"]) = some (.lst [.str "box", .str "a"]) := by kernel_rfl
theorem b_q_1  {y : D} : putD [] (.inr "box") y = [(.inr "box", y)] := by kernel_rfl
theorem b_q1_0 {x1 : D} {y : D} : putD [(.inr "box", x1)] (.inr "a") y = [(.inr "box", x1), (.inr "a", y)] := by kernel_rfl
theorem b_add3 : addD (.int 1) (.int 2) = some (.int 3) := by kernel_rfl
theorem b_sl3 : slD (.lst [.str "a", .str "box", .str "chest", .str "treasure"]) none (some 3) = some (.lst [.str "a", .str "box", .str "chest"]) := by kernel_rfl
theorem b_rg3 : range1 [.int 3] = some [.int 0, .int 1, .int 2] := by kernel_rfl
theorem b_t3_0 : slD (.lst [.str "a", .str "box", .str "chest"]) none (some 0) = some (.lst (([] : List Str).map .str)) := by kernel_rfl
theorem b_i3_0 : ixD (.lst [.str "a", .str "box", .str "chest"]) (.int 0) = some (.str "a") := by kernel_rfl
theorem b_t3_1 : slD (.lst [.str "a", .str "box", .str "chest"]) none (some 1) = some (.lst ((["a"] : List Str).map .str)) := by kernel_rfl
theorem b_i3_1 : ixD (.lst [.str "a", .str "box", .str "chest"]) (.int 1) = some (.str "box") := by kernel_rfl
theorem b_t3_2 : slD (.lst [.str "a", .str "box", .str "chest"]) none (some 2) = some (.lst ((["a", "box"] : List Str).map .str)) := by kernel_rfl
theorem b_i3_2 : ixD (.lst [.str "a", .str "box", .str "chest"]) (.int 2) = some (.str "chest") := by kernel_rfl
theorem b_p2 {x0 : D} {x1 : D} {y : D} : putD [(.inr "a", x0), (.inr "box", x1)] (.inr "chest") y = [(.inr "a", x0), (.inr "box", x1), (.inr "chest", y)] := by kernel_rfl
theorem b_f3_0 : slD (.lst [.str "a", .str "box", .str "chest"]) (some 0) none = some (.lst [.str "a", .str "box", .str "chest"]) := by kernel_rfl
theorem b_g3_0 : slD (.lst [.str "a", .str "box", .str "chest"]) none (some 0) = some (.lst []) := by kernel_rfl
theorem b_h3_0 : addD (.lst [.str "a", .str "box", .str "chest"]) (.lst []) = some (.lst [.str "a", .str "box", .str "chest"]) := by kernel_rfl
theorem b_d3_0 {x0 : D} {x1 : D} {x2 : D} : ixD (.dic [(.inr "a", x0), (.inr "box", x1), (.inr "chest", x2)]) (.str "a") = some x0 := by kernel_rfl
theorem b_d3_1 {x0 : D} {x1 : D} {x2 : D} : ixD (.dic [(.inr "a", x0), (.inr "box", x1), (.inr "chest", x2)]) (.str "box") = some x1 := by kernel_rfl
theorem b_d3_2 {x0 : D} {x1 : D} {x2 : D} : ixD (.dic [(.inr "a", x0), (.inr "box", x1), (.inr "chest", x2)]) (.str "chest") = some x2 := by kernel_rfl
theorem b_q01_2 {x0 : D} {x1 : D} {y : D} : putD [(.inr "a", x0), (.inr "box", x1)] (.inr "chest") y = [(.inr "a", x0), (.inr "box", x1), (.inr "chest", y)] := by kernel_rfl
theorem b_l3 : slD (.lst [.str "a", .str "box", .str "chest"]) (some (-1)) none = some (.lst [.str "chest"]) := by kernel_rfl
theorem b_m3 : addD (.lst [.str "a", .str "box", .str "chest"]) (.lst [.str "chest"]) = some (.lst [.str "a", .str "box", .str "chest", .str "chest"]) := by kernel_rfl
theorem b_f3_1 : slD (.lst [.str "a", .str "box", .str "chest"]) (some 1) none = some (.lst [.str "box", .str "chest"]) := by kernel_rfl
theorem b_g3_1 : slD (.lst [.str "a", .str "box", .str "chest"]) none (some 1) = some (.lst [.str "a"]) := by kernel_rfl
theorem b_h3_1 : addD (.lst [.str "box", .str "chest"]) (.lst [.str "a"]) = some (.lst [.str "box", .str "chest", .str "a"]) := by kernel_rfl
theorem b_q1_2 {x1 : D} {y : D} : putD [(.inr "box", x1)] (.inr "chest") y = [(.inr "box", x1), (.inr "chest", y)] := by kernel_rfl
theorem b_q12_0 {x1 : D} {x2 : D} {y : D} : putD [(.inr "box", x1), (.inr "chest", x2)] (.inr "a") y = [(.inr "box", x1), (.inr "chest", x2), (.inr "a", y)] := by kernel_rfl
theorem b_f3_2 : slD (.lst [.str "a", .str "box", .str "chest"]) (some 2) none = some (.lst [.str "chest"]) := by kernel_rfl
theorem b_g3_2 : slD (.lst [.str "a", .str "box", .str "chest"]) none (some 2) = some (.lst [.str "a", .str "box"]) := by kernel_rfl
theorem b_h3_2 : addD (.lst [.str "chest"]) (.lst [.str "a", .str "box"]) = some (.lst [.str "chest", .str "a", .str "box"]) := by kernel_rfl
theorem b_q_2  {y : D} : putD [] (.inr "chest") y = [(.inr "chest", y)] := by kernel_rfl
theorem b_q2_0 {x2 : D} {y : D} : putD [(.inr "chest", x2)] (.inr "a") y = [(.inr "chest", x2), (.inr "a", y)] := by kernel_rfl
theorem b_q20_1 {x2 : D} {x0 : D} {y : D} : putD [(.inr "chest", x2), (.inr "a", x0)] (.inr "box") y = [(.inr "chest", x2), (.inr "a", x0), (.inr "box", y)] := by kernel_rfl
theorem lbook {ns : List Int} {n : Nat} {r : Wl} (hn : n + 2000 < 49000) :
    Sa (M_law_book [.scr ns, .obj 0, .int 3] (tw n r)) fun d w => ∃ m t kvs i, BookOk m t kvs ∧ i < m ∧ d = .tup [.dic kvs, .str (nmI i)] ∧ ∃ n', n' ≤ n + 500 ∧ w = tw n' r := by
  simp only [M_law_book, F_law_book, sa_ok, sa_bind, ss_seq, ss_fin, ss_nx, ss_ret, ss_nil, sa_fn, sa_v0, sa_v1, sa_v2, sa_v3, sa_v4, sa_v5, sa_v6, sa_v7, sa_v8, sa_v9, sa_v10, sa_v11, sa_v12, sa_v13, sa_v14, sa_eCon, sa_lift, sa_liftB, sa_liftL, sa_eOp, sa_eUn, sa_lNil, sa_lCons, sa_eTup, sa_eLst, sa_eBlt, sa_eCall, sa_eIf, sa_eAnd, sa_eOr, sa_bAnd, sa_bOr, sa_bNot, sa_bTru, sa_bVal, sa_eChain, sa_iItems, sa_iRange, sa_iKeys, ss_if, ss_ifG, ss_sret, ss_expr, ss_asg, ss_new, ss_asgT, ss_for, ss_app, ss_put, ss_putP, ss_ext, ss_newP, sa_eDnew, sa_eSl, sa_oNone, sa_oSome, sa_eBM, isB_bl, tru_bl, len_lst, len_tup, len_dic, items_lst, items_tup, Nat.zero_add, Nat.reduceAdd, Nat.reduceSub, Nat.sub_self, Nat.reduceLT, Nat.reduceLeDiff, Nat.le_refl, Nat.zero_le, true_and, List.filter_nil, List.filter_cons, List.contains_cons, List.contains_nil, Nat.reduceBEq, Nat.reduceBNe, Bool.or_false, Bool.false_or, Bool.true_or, Bool.or_true, Bool.not_true, Bool.not_false, Bool.false_eq_true, if_true, if_false, ite_true, ite_false, decide_true, decide_false, wipeE, give, rmv, List.set_cons_zero, List.set_cons_succ, List.set_nil, List.map_cons, List.map_nil, List.length_cons, List.length_nil, List.cons_append, List.nil_append, List.replicate_succ, List.replicate_zero, List.getElem?_cons_zero, List.getElem?_cons_succ]
  refine sa_draw (m := 3) (by decide) (by omega) fun j j0 j1 => ?_
  obtain rfl | rfl | rfl : j = 0 ∨ j = 1 ∨ j = 2 := by omega
  · simp only [sa_ok, sa_bind, ss_seq, ss_fin, ss_nx, ss_ret, ss_nil, sa_fn, sa_v0, sa_v1, sa_v2, sa_v3, sa_v4, sa_v5, sa_v6, sa_v7, sa_v8, sa_v9, sa_v10, sa_v11, sa_v12, sa_v13, sa_v14, sa_eCon, sa_lift, sa_liftB, sa_liftL, sa_eOp, sa_eUn, sa_lNil, sa_lCons, sa_eTup, sa_eLst, sa_eBlt, sa_eCall, sa_eIf, sa_eAnd, sa_eOr, sa_bAnd, sa_bOr, sa_bNot, sa_bTru, sa_bVal, sa_eChain, sa_iItems, sa_iRange, sa_iKeys, ss_if, ss_ifG, ss_sret, ss_expr, ss_asg, ss_new, ss_asgT, ss_for, ss_app, ss_put, ss_putP, ss_ext, ss_newP, sa_eDnew, sa_eSl, sa_oNone, sa_oSome, sa_eBM, isB_bl, tru_bl, len_lst, len_tup, len_dic, items_lst, items_tup, Nat.zero_add, Nat.reduceAdd, Nat.reduceSub, Nat.sub_self, Nat.reduceLT, Nat.reduceLeDiff, Nat.le_refl, Nat.zero_le, true_and, List.filter_nil, List.filter_cons, List.contains_cons, List.contains_nil, Nat.reduceBEq, Nat.reduceBNe, Bool.or_false, Bool.false_or, Bool.true_or, Bool.or_true, Bool.not_true, Bool.not_false, Bool.false_eq_true, if_true, if_false, ite_true, ite_false, decide_true, decide_false, wipeE, give, rmv, List.set_cons_zero, List.set_cons_succ, List.set_nil, List.map_cons, List.map_nil, List.length_cons, List.length_nil, List.cons_append, List.nil_append, List.replicate_succ, List.replicate_zero, List.getElem?_cons_zero, List.getElem?_cons_succ, b_add1, b_sl1, b_rg1, D.int.injEq, exists_eq_left', show ((1 : Nat) : Int) = 1 from rfl]
    refine ss_for_cons rfl ?_
    rw [ss_seq, ss_put (xs := []) (ownD_at rfl rfl (show 0 < 50000 by decide))]
    simp only [sa_ok, sa_bind, ss_seq, ss_fin, ss_nx, ss_ret, ss_nil, sa_fn, sa_v0, sa_v1, sa_v2, sa_v3, sa_v4, sa_v5, sa_v6, sa_v7, sa_v8, sa_v9, sa_v10, sa_v11, sa_v12, sa_v13, sa_v14, sa_eCon, sa_lift, sa_liftB, sa_liftL, sa_eOp, sa_eUn, sa_lNil, sa_lCons, sa_eTup, sa_eLst, sa_eBlt, sa_eCall, sa_eIf, sa_eAnd, sa_eOr, sa_bAnd, sa_bOr, sa_bNot, sa_bTru, sa_bVal, sa_eChain, sa_iItems, sa_iRange, sa_iKeys, ss_if, ss_ifG, ss_sret, ss_expr, ss_asg, ss_new, ss_asgT, ss_for, ss_app, ss_put, ss_putP, ss_ext, ss_newP, sa_eDnew, sa_eSl, sa_oNone, sa_oSome, sa_eBM, isB_bl, tru_bl, len_lst, len_tup, len_dic, items_lst, items_tup, Nat.zero_add, Nat.reduceAdd, Nat.reduceSub, Nat.sub_self, Nat.reduceLT, Nat.reduceLeDiff, Nat.le_refl, Nat.zero_le, true_and, List.filter_nil, List.filter_cons, List.contains_cons, List.contains_nil, Nat.reduceBEq, Nat.reduceBNe, Bool.or_false, Bool.false_or, Bool.true_or, Bool.or_true, Bool.not_true, Bool.not_false, Bool.false_eq_true, if_true, if_false, ite_true, ite_false, decide_true, decide_false, wipeE, give, rmv, List.set_cons_zero, List.set_cons_succ, List.set_nil, List.map_cons, List.map_nil, List.length_cons, List.length_nil, List.cons_append, List.nil_append, List.replicate_succ, List.replicate_zero, List.getElem?_cons_zero, List.getElem?_cons_succ, D.int.injEq, exists_eq_left', b_t1_0]
    refine (ltable (nm := []) (by omega) neA0 neA0).mono ?_
    rintro d w ⟨t0, hk0, rfl, n0, hn0, rfl⟩
    simp only [sa_ok, sa_bind, ss_seq, ss_fin, ss_nx, ss_ret, ss_nil, sa_fn, sa_v0, sa_v1, sa_v2, sa_v3, sa_v4, sa_v5, sa_v6, sa_v7, sa_v8, sa_v9, sa_v10, sa_v11, sa_v12, sa_v13, sa_v14, sa_eCon, sa_lift, sa_liftB, sa_liftL, sa_eOp, sa_eUn, sa_lNil, sa_lCons, sa_eTup, sa_eLst, sa_eBlt, sa_eCall, sa_eIf, sa_eAnd, sa_eOr, sa_bAnd, sa_bOr, sa_bNot, sa_bTru, sa_bVal, sa_eChain, sa_iItems, sa_iRange, sa_iKeys, ss_if, ss_ifG, ss_sret, ss_expr, ss_asg, ss_new, ss_asgT, ss_for, ss_app, ss_put, ss_putP, ss_ext, ss_newP, sa_eDnew, sa_eSl, sa_oNone, sa_oSome, sa_eBM, isB_bl, tru_bl, len_lst, len_tup, len_dic, items_lst, items_tup, Nat.zero_add, Nat.reduceAdd, Nat.reduceSub, Nat.sub_self, Nat.reduceLT, Nat.reduceLeDiff, Nat.le_refl, Nat.zero_le, true_and, List.filter_nil, List.filter_cons, List.contains_cons, List.contains_nil, Nat.reduceBEq, Nat.reduceBNe, Bool.or_false, Bool.false_or, Bool.true_or, Bool.or_true, Bool.not_true, Bool.not_false, Bool.false_eq_true, if_true, if_false, ite_true, ite_false, decide_true, decide_false, wipeE, give, rmv, List.set_cons_zero, List.set_cons_succ, List.set_nil, List.map_cons, List.map_nil, List.length_cons, List.length_nil, List.cons_append, List.nil_append, List.replicate_succ, List.replicate_zero, List.getElem?_cons_zero, List.getElem?_cons_succ, b_i1_0]
    refine ⟨_, rfl, ?_⟩
    rw [b_p0]
    rw [ss_for_nil]
    simp only [sa_ok, sa_bind, ss_seq, ss_fin, ss_nx, ss_ret, ss_nil, sa_fn, sa_v0, sa_v1, sa_v2, sa_v3, sa_v4, sa_v5, sa_v6, sa_v7, sa_v8, sa_v9, sa_v10, sa_v11, sa_v12, sa_v13, sa_v14, sa_eCon, sa_lift, sa_liftB, sa_liftL, sa_eOp, sa_eUn, sa_lNil, sa_lCons, sa_eTup, sa_eLst, sa_eBlt, sa_eCall, sa_eIf, sa_eAnd, sa_eOr, sa_bAnd, sa_bOr, sa_bNot, sa_bTru, sa_bVal, sa_eChain, sa_iItems, sa_iRange, sa_iKeys, ss_if, ss_ifG, ss_sret, ss_expr, ss_asg, ss_new, ss_asgT, ss_for, ss_app, ss_put, ss_putP, ss_ext, ss_newP, sa_eDnew, sa_eSl, sa_oNone, sa_oSome, sa_eBM, isB_bl, tru_bl, len_lst, len_tup, len_dic, items_lst, items_tup, Nat.zero_add, Nat.reduceAdd, Nat.reduceSub, Nat.sub_self, Nat.reduceLT, Nat.reduceLeDiff, Nat.le_refl, Nat.zero_le, true_and, List.filter_nil, List.filter_cons, List.contains_cons, List.contains_nil, Nat.reduceBEq, Nat.reduceBNe, Bool.or_false, Bool.false_or, Bool.true_or, Bool.or_true, Bool.not_true, Bool.not_false, Bool.false_eq_true, if_true, if_false, ite_true, ite_false, decide_true, decide_false, wipeE, give, rmv, List.set_cons_zero, List.set_cons_succ, List.set_nil, List.map_cons, List.map_nil, List.length_cons, List.length_nil, List.cons_append, List.nil_append, List.replicate_succ, List.replicate_zero, List.getElem?_cons_zero, List.getElem?_cons_succ, show ((1 : Nat) : Int) = 1 from rfl]
    refine sa_draw (m := 1) (by decide) (by omega) fun j j0 j1 => ?_
    obtain rfl : j = 0 := by omega
    · simp only [sa_ok, sa_bind, ss_seq, ss_fin, ss_nx, ss_ret, ss_nil, sa_fn, sa_v0, sa_v1, sa_v2, sa_v3, sa_v4, sa_v5, sa_v6, sa_v7, sa_v8, sa_v9, sa_v10, sa_v11, sa_v12, sa_v13, sa_v14, sa_eCon, sa_lift, sa_liftB, sa_liftL, sa_eOp, sa_eUn, sa_lNil, sa_lCons, sa_eTup, sa_eLst, sa_eBlt, sa_eCall, sa_eIf, sa_eAnd, sa_eOr, sa_bAnd, sa_bOr, sa_bNot, sa_bTru, sa_bVal, sa_eChain, sa_iItems, sa_iRange, sa_iKeys, ss_if, ss_ifG, ss_sret, ss_expr, ss_asg, ss_new, ss_asgT, ss_for, ss_app, ss_put, ss_putP, ss_ext, ss_newP, sa_eDnew, sa_eSl, sa_oNone, sa_oSome, sa_eBM, isB_bl, tru_bl, len_lst, len_tup, len_dic, items_lst, items_tup, Nat.zero_add, Nat.reduceAdd, Nat.reduceSub, Nat.sub_self, Nat.reduceLT, Nat.reduceLeDiff, Nat.le_refl, Nat.zero_le, true_and, List.filter_nil, List.filter_cons, List.contains_cons, List.contains_nil, Nat.reduceBEq, Nat.reduceBNe, Bool.or_false, Bool.false_or, Bool.true_or, Bool.or_true, Bool.not_true, Bool.not_false, Bool.false_eq_true, if_true, if_false, ite_true, ite_false, decide_true, decide_false, wipeE, give, rmv, List.set_cons_zero, List.set_cons_succ, List.set_nil, List.map_cons, List.map_nil, List.length_cons, List.length_nil, List.cons_append, List.nil_append, List.replicate_succ, List.replicate_zero, List.getElem?_cons_zero, List.getElem?_cons_succ, D.int.injEq, exists_eq_left', b_f1_0, b_g1_0, b_h1_0]
      refine ss_for_cons rfl ?_
      rw [ss_seq, ss_putP (xs := []) (ownD_at rfl rfl (show 0 < 50000 by decide))]
      simp only [sa_ok, sa_bind, ss_seq, ss_fin, ss_nx, ss_ret, ss_nil, sa_fn, sa_v0, sa_v1, sa_v2, sa_v3, sa_v4, sa_v5, sa_v6, sa_v7, sa_v8, sa_v9, sa_v10, sa_v11, sa_v12, sa_v13, sa_v14, sa_eCon, sa_lift, sa_liftB, sa_liftL, sa_eOp, sa_eUn, sa_lNil, sa_lCons, sa_eTup, sa_eLst, sa_eBlt, sa_eCall, sa_eIf, sa_eAnd, sa_eOr, sa_bAnd, sa_bOr, sa_bNot, sa_bTru, sa_bVal, sa_eChain, sa_iItems, sa_iRange, sa_iKeys, ss_if, ss_ifG, ss_sret, ss_expr, ss_asg, ss_new, ss_asgT, ss_for, ss_app, ss_put, ss_putP, ss_ext, ss_newP, sa_eDnew, sa_eSl, sa_oNone, sa_oSome, sa_eBM, isB_bl, tru_bl, len_lst, len_tup, len_dic, items_lst, items_tup, Nat.zero_add, Nat.reduceAdd, Nat.reduceSub, Nat.sub_self, Nat.reduceLT, Nat.reduceLeDiff, Nat.le_refl, Nat.zero_le, true_and, List.filter_nil, List.filter_cons, List.contains_cons, List.contains_nil, Nat.reduceBEq, Nat.reduceBNe, Bool.or_false, Bool.false_or, Bool.true_or, Bool.or_true, Bool.not_true, Bool.not_false, Bool.false_eq_true, if_true, if_false, ite_true, ite_false, decide_true, decide_false, wipeE, give, rmv, List.set_cons_zero, List.set_cons_succ, List.set_nil, List.map_cons, List.map_nil, List.length_cons, List.length_nil, List.cons_append, List.nil_append, List.replicate_succ, List.replicate_zero, List.getElem?_cons_zero, List.getElem?_cons_succ, b_d1_0]
      refine ⟨imm_tb _, _, rfl, ?_⟩
      rw [b_q_0]
      rw [ss_for_nil]
      simp only [sa_ok, sa_bind, ss_seq, ss_fin, ss_nx, ss_ret, ss_nil, sa_fn, sa_v0, sa_v1, sa_v2, sa_v3, sa_v4, sa_v5, sa_v6, sa_v7, sa_v8, sa_v9, sa_v10, sa_v11, sa_v12, sa_v13, sa_v14, sa_eCon, sa_lift, sa_liftB, sa_liftL, sa_eOp, sa_eUn, sa_lNil, sa_lCons, sa_eTup, sa_eLst, sa_eBlt, sa_eCall, sa_eIf, sa_eAnd, sa_eOr, sa_bAnd, sa_bOr, sa_bNot, sa_bTru, sa_bVal, sa_eChain, sa_iItems, sa_iRange, sa_iKeys, ss_if, ss_ifG, ss_sret, ss_expr, ss_asg, ss_new, ss_asgT, ss_for, ss_app, ss_put, ss_putP, ss_ext, ss_newP, sa_eDnew, sa_eSl, sa_oNone, sa_oSome, sa_eBM, isB_bl, tru_bl, len_lst, len_tup, len_dic, items_lst, items_tup, Nat.zero_add, Nat.reduceAdd, Nat.reduceSub, Nat.sub_self, Nat.reduceLT, Nat.reduceLeDiff, Nat.le_refl, Nat.zero_le, true_and, List.filter_nil, List.filter_cons, List.contains_cons, List.contains_nil, Nat.reduceBEq, Nat.reduceBNe, Bool.or_false, Bool.false_or, Bool.true_or, Bool.or_true, Bool.not_true, Bool.not_false, Bool.false_eq_true, if_true, if_false, ite_true, ite_false, decide_true, decide_false, wipeE, give, rmv, List.set_cons_zero, List.set_cons_succ, List.set_nil, List.map_cons, List.map_nil, List.length_cons, List.length_nil, List.cons_append, List.nil_append, List.replicate_succ, List.replicate_zero, List.getElem?_cons_zero, List.getElem?_cons_succ, D.int.injEq, exists_eq_left', b_neg, b_l1, b_m1]
      refine sa_pick (by decide) (by omega) fun d hd => ?_
      have hbk : BookOk 1 (fun i => match i with | 0 => t0 | 1 => t0 | _ => t0) [(.inr "a", t0.d)] := by
        refine ⟨by decide, by decide, rfl, by kernel_rfl, ?_, ?_, ?_⟩
        · intro i hi
          obtain rfl : i = 0 := by omega
          all_goals kernel_rfl
        · intro i hi
          obtain rfl : i = 0 := by omega
          · exact hk0
        · intro kv hkv
          simp only [List.mem_cons, List.not_mem_nil, or_false] at hkv
          rcases hkv with rfl
          · exact ⟨0, by decide, rfl⟩
      simp only [List.mem_cons, List.not_mem_nil, or_false] at hd
      rcases hd with rfl | rfl
      · exact ⟨1, _, _, 0, hbk, by decide, rfl, _, by omega, rfl⟩
      · exact ⟨1, _, _, 0, hbk, by decide, rfl, _, by omega, rfl⟩
  · simp only [sa_ok, sa_bind, ss_seq, ss_fin, ss_nx, ss_ret, ss_nil, sa_fn, sa_v0, sa_v1, sa_v2, sa_v3, sa_v4, sa_v5, sa_v6, sa_v7, sa_v8, sa_v9, sa_v10, sa_v11, sa_v12, sa_v13, sa_v14, sa_eCon, sa_lift, sa_liftB, sa_liftL, sa_eOp, sa_eUn, sa_lNil, sa_lCons, sa_eTup, sa_eLst, sa_eBlt, sa_eCall, sa_eIf, sa_eAnd, sa_eOr, sa_bAnd, sa_bOr, sa_bNot, sa_bTru, sa_bVal, sa_eChain, sa_iItems, sa_iRange, sa_iKeys, ss_if, ss_ifG, ss_sret, ss_expr, ss_asg, ss_new, ss_asgT, ss_for, ss_app, ss_put, ss_putP, ss_ext, ss_newP, sa_eDnew, sa_eSl, sa_oNone, sa_oSome, sa_eBM, isB_bl, tru_bl, len_lst, len_tup, len_dic, items_lst, items_tup, Nat.zero_add, Nat.reduceAdd, Nat.reduceSub, Nat.sub_self, Nat.reduceLT, Nat.reduceLeDiff, Nat.le_refl, Nat.zero_le, true_and, List.filter_nil, List.filter_cons, List.contains_cons, List.contains_nil, Nat.reduceBEq, Nat.reduceBNe, Bool.or_false, Bool.false_or, Bool.true_or, Bool.or_true, Bool.not_true, Bool.not_false, Bool.false_eq_true, if_true, if_false, ite_true, ite_false, decide_true, decide_false, wipeE, give, rmv, List.set_cons_zero, List.set_cons_succ, List.set_nil, List.map_cons, List.map_nil, List.length_cons, List.length_nil, List.cons_append, List.nil_append, List.replicate_succ, List.replicate_zero, List.getElem?_cons_zero, List.getElem?_cons_succ, b_add2, b_sl2, b_rg2, D.int.injEq, exists_eq_left', show ((2 : Nat) : Int) = 2 from rfl]
    refine ss_for_cons rfl ?_
    rw [ss_seq, ss_put (xs := []) (ownD_at rfl rfl (show 0 < 50000 by decide))]
    simp only [sa_ok, sa_bind, ss_seq, ss_fin, ss_nx, ss_ret, ss_nil, sa_fn, sa_v0, sa_v1, sa_v2, sa_v3, sa_v4, sa_v5, sa_v6, sa_v7, sa_v8, sa_v9, sa_v10, sa_v11, sa_v12, sa_v13, sa_v14, sa_eCon, sa_lift, sa_liftB, sa_liftL, sa_eOp, sa_eUn, sa_lNil, sa_lCons, sa_eTup, sa_eLst, sa_eBlt, sa_eCall, sa_eIf, sa_eAnd, sa_eOr, sa_bAnd, sa_bOr, sa_bNot, sa_bTru, sa_bVal, sa_eChain, sa_iItems, sa_iRange, sa_iKeys, ss_if, ss_ifG, ss_sret, ss_expr, ss_asg, ss_new, ss_asgT, ss_for, ss_app, ss_put, ss_putP, ss_ext, ss_newP, sa_eDnew, sa_eSl, sa_oNone, sa_oSome, sa_eBM, isB_bl, tru_bl, len_lst, len_tup, len_dic, items_lst, items_tup, Nat.zero_add, Nat.reduceAdd, Nat.reduceSub, Nat.sub_self, Nat.reduceLT, Nat.reduceLeDiff, Nat.le_refl, Nat.zero_le, true_and, List.filter_nil, List.filter_cons, List.contains_cons, List.contains_nil, Nat.reduceBEq, Nat.reduceBNe, Bool.or_false, Bool.false_or, Bool.true_or, Bool.or_true, Bool.not_true, Bool.not_false, Bool.false_eq_true, if_true, if_false, ite_true, ite_false, decide_true, decide_false, wipeE, give, rmv, List.set_cons_zero, List.set_cons_succ, List.set_nil, List.map_cons, List.map_nil, List.length_cons, List.length_nil, List.cons_append, List.nil_append, List.replicate_succ, List.replicate_zero, List.getElem?_cons_zero, List.getElem?_cons_succ, D.int.injEq, exists_eq_left', b_t2_0]
    refine (ltable (nm := []) (by omega) neA0 neA0).mono ?_
    rintro d w ⟨t0, hk0, rfl, n0, hn0, rfl⟩
    simp only [sa_ok, sa_bind, ss_seq, ss_fin, ss_nx, ss_ret, ss_nil, sa_fn, sa_v0, sa_v1, sa_v2, sa_v3, sa_v4, sa_v5, sa_v6, sa_v7, sa_v8, sa_v9, sa_v10, sa_v11, sa_v12, sa_v13, sa_v14, sa_eCon, sa_lift, sa_liftB, sa_liftL, sa_eOp, sa_eUn, sa_lNil, sa_lCons, sa_eTup, sa_eLst, sa_eBlt, sa_eCall, sa_eIf, sa_eAnd, sa_eOr, sa_bAnd, sa_bOr, sa_bNot, sa_bTru, sa_bVal, sa_eChain, sa_iItems, sa_iRange, sa_iKeys, ss_if, ss_ifG, ss_sret, ss_expr, ss_asg, ss_new, ss_asgT, ss_for, ss_app, ss_put, ss_putP, ss_ext, ss_newP, sa_eDnew, sa_eSl, sa_oNone, sa_oSome, sa_eBM, isB_bl, tru_bl, len_lst, len_tup, len_dic, items_lst, items_tup, Nat.zero_add, Nat.reduceAdd, Nat.reduceSub, Nat.sub_self, Nat.reduceLT, Nat.reduceLeDiff, Nat.le_refl, Nat.zero_le, true_and, List.filter_nil, List.filter_cons, List.contains_cons, List.contains_nil, Nat.reduceBEq, Nat.reduceBNe, Bool.or_false, Bool.false_or, Bool.true_or, Bool.or_true, Bool.not_true, Bool.not_false, Bool.false_eq_true, if_true, if_false, ite_true, ite_false, decide_true, decide_false, wipeE, give, rmv, List.set_cons_zero, List.set_cons_succ, List.set_nil, List.map_cons, List.map_nil, List.length_cons, List.length_nil, List.cons_append, List.nil_append, List.replicate_succ, List.replicate_zero, List.getElem?_cons_zero, List.getElem?_cons_succ, b_i2_0]
    refine ⟨_, rfl, ?_⟩
    rw [b_p0]
    refine ss_for_cons rfl ?_
    rw [ss_seq, ss_put (xs := [(.inr "a", t0.d)]) (ownD_at rfl rfl (show 1 < 50000 by decide))]
    simp only [sa_ok, sa_bind, ss_seq, ss_fin, ss_nx, ss_ret, ss_nil, sa_fn, sa_v0, sa_v1, sa_v2, sa_v3, sa_v4, sa_v5, sa_v6, sa_v7, sa_v8, sa_v9, sa_v10, sa_v11, sa_v12, sa_v13, sa_v14, sa_eCon, sa_lift, sa_liftB, sa_liftL, sa_eOp, sa_eUn, sa_lNil, sa_lCons, sa_eTup, sa_eLst, sa_eBlt, sa_eCall, sa_eIf, sa_eAnd, sa_eOr, sa_bAnd, sa_bOr, sa_bNot, sa_bTru, sa_bVal, sa_eChain, sa_iItems, sa_iRange, sa_iKeys, ss_if, ss_ifG, ss_sret, ss_expr, ss_asg, ss_new, ss_asgT, ss_for, ss_app, ss_put, ss_putP, ss_ext, ss_newP, sa_eDnew, sa_eSl, sa_oNone, sa_oSome, sa_eBM, isB_bl, tru_bl, len_lst, len_tup, len_dic, items_lst, items_tup, Nat.zero_add, Nat.reduceAdd, Nat.reduceSub, Nat.sub_self, Nat.reduceLT, Nat.reduceLeDiff, Nat.le_refl, Nat.zero_le, true_and, List.filter_nil, List.filter_cons, List.contains_cons, List.contains_nil, Nat.reduceBEq, Nat.reduceBNe, Bool.or_false, Bool.false_or, Bool.true_or, Bool.or_true, Bool.not_true, Bool.not_false, Bool.false_eq_true, if_true, if_false, ite_true, ite_false, decide_true, decide_false, wipeE, give, rmv, List.set_cons_zero, List.set_cons_succ, List.set_nil, List.map_cons, List.map_nil, List.length_cons, List.length_nil, List.cons_append, List.nil_append, List.replicate_succ, List.replicate_zero, List.getElem?_cons_zero, List.getElem?_cons_succ, D.int.injEq, exists_eq_left', b_t2_1]
    refine (ltable (nm := ["a"]) (by omega) neA1 neA1).mono ?_
    rintro d w ⟨t1, hk1, rfl, n1, hn1, rfl⟩
    simp only [sa_ok, sa_bind, ss_seq, ss_fin, ss_nx, ss_ret, ss_nil, sa_fn, sa_v0, sa_v1, sa_v2, sa_v3, sa_v4, sa_v5, sa_v6, sa_v7, sa_v8, sa_v9, sa_v10, sa_v11, sa_v12, sa_v13, sa_v14, sa_eCon, sa_lift, sa_liftB, sa_liftL, sa_eOp, sa_eUn, sa_lNil, sa_lCons, sa_eTup, sa_eLst, sa_eBlt, sa_eCall, sa_eIf, sa_eAnd, sa_eOr, sa_bAnd, sa_bOr, sa_bNot, sa_bTru, sa_bVal, sa_eChain, sa_iItems, sa_iRange, sa_iKeys, ss_if, ss_ifG, ss_sret, ss_expr, ss_asg, ss_new, ss_asgT, ss_for, ss_app, ss_put, ss_putP, ss_ext, ss_newP, sa_eDnew, sa_eSl, sa_oNone, sa_oSome, sa_eBM, isB_bl, tru_bl, len_lst, len_tup, len_dic, items_lst, items_tup, Nat.zero_add, Nat.reduceAdd, Nat.reduceSub, Nat.sub_self, Nat.reduceLT, Nat.reduceLeDiff, Nat.le_refl, Nat.zero_le, true_and, List.filter_nil, List.filter_cons, List.contains_cons, List.contains_nil, Nat.reduceBEq, Nat.reduceBNe, Bool.or_false, Bool.false_or, Bool.true_or, Bool.or_true, Bool.not_true, Bool.not_false, Bool.false_eq_true, if_true, if_false, ite_true, ite_false, decide_true, decide_false, wipeE, give, rmv, List.set_cons_zero, List.set_cons_succ, List.set_nil, List.map_cons, List.map_nil, List.length_cons, List.length_nil, List.cons_append, List.nil_append, List.replicate_succ, List.replicate_zero, List.getElem?_cons_zero, List.getElem?_cons_succ, b_i2_1]
    refine ⟨_, rfl, ?_⟩
    rw [b_p1]
    rw [ss_for_nil]
    simp only [sa_ok, sa_bind, ss_seq, ss_fin, ss_nx, ss_ret, ss_nil, sa_fn, sa_v0, sa_v1, sa_v2, sa_v3, sa_v4, sa_v5, sa_v6, sa_v7, sa_v8, sa_v9, sa_v10, sa_v11, sa_v12, sa_v13, sa_v14, sa_eCon, sa_lift, sa_liftB, sa_liftL, sa_eOp, sa_eUn, sa_lNil, sa_lCons, sa_eTup, sa_eLst, sa_eBlt, sa_eCall, sa_eIf, sa_eAnd, sa_eOr, sa_bAnd, sa_bOr, sa_bNot, sa_bTru, sa_bVal, sa_eChain, sa_iItems, sa_iRange, sa_iKeys, ss_if, ss_ifG, ss_sret, ss_expr, ss_asg, ss_new, ss_asgT, ss_for, ss_app, ss_put, ss_putP, ss_ext, ss_newP, sa_eDnew, sa_eSl, sa_oNone, sa_oSome, sa_eBM, isB_bl, tru_bl, len_lst, len_tup, len_dic, items_lst, items_tup, Nat.zero_add, Nat.reduceAdd, Nat.reduceSub, Nat.sub_self, Nat.reduceLT, Nat.reduceLeDiff, Nat.le_refl, Nat.zero_le, true_and, List.filter_nil, List.filter_cons, List.contains_cons, List.contains_nil, Nat.reduceBEq, Nat.reduceBNe, Bool.or_false, Bool.false_or, Bool.true_or, Bool.or_true, Bool.not_true, Bool.not_false, Bool.false_eq_true, if_true, if_false, ite_true, ite_false, decide_true, decide_false, wipeE, give, rmv, List.set_cons_zero, List.set_cons_succ, List.set_nil, List.map_cons, List.map_nil, List.length_cons, List.length_nil, List.cons_append, List.nil_append, List.replicate_succ, List.replicate_zero, List.getElem?_cons_zero, List.getElem?_cons_succ, show ((2 : Nat) : Int) = 2 from rfl]
    refine sa_draw (m := 2) (by decide) (by omega) fun j j0 j1 => ?_
    obtain rfl | rfl : j = 0 ∨ j = 1 := by omega
    · simp only [sa_ok, sa_bind, ss_seq, ss_fin, ss_nx, ss_ret, ss_nil, sa_fn, sa_v0, sa_v1, sa_v2, sa_v3, sa_v4, sa_v5, sa_v6, sa_v7, sa_v8, sa_v9, sa_v10, sa_v11, sa_v12, sa_v13, sa_v14, sa_eCon, sa_lift, sa_liftB, sa_liftL, sa_eOp, sa_eUn, sa_lNil, sa_lCons, sa_eTup, sa_eLst, sa_eBlt, sa_eCall, sa_eIf, sa_eAnd, sa_eOr, sa_bAnd, sa_bOr, sa_bNot, sa_bTru, sa_bVal, sa_eChain, sa_iItems, sa_iRange, sa_iKeys, ss_if, ss_ifG, ss_sret, ss_expr, ss_asg, ss_new, ss_asgT, ss_for, ss_app, ss_put, ss_putP, ss_ext, ss_newP, sa_eDnew, sa_eSl, sa_oNone, sa_oSome, sa_eBM, isB_bl, tru_bl, len_lst, len_tup, len_dic, items_lst, items_tup, Nat.zero_add, Nat.reduceAdd, Nat.reduceSub, Nat.sub_self, Nat.reduceLT, Nat.reduceLeDiff, Nat.le_refl, Nat.zero_le, true_and, List.filter_nil, List.filter_cons, List.contains_cons, List.contains_nil, Nat.reduceBEq, Nat.reduceBNe, Bool.or_false, Bool.false_or, Bool.true_or, Bool.or_true, Bool.not_true, Bool.not_false, Bool.false_eq_true, if_true, if_false, ite_true, ite_false, decide_true, decide_false, wipeE, give, rmv, List.set_cons_zero, List.set_cons_succ, List.set_nil, List.map_cons, List.map_nil, List.length_cons, List.length_nil, List.cons_append, List.nil_append, List.replicate_succ, List.replicate_zero, List.getElem?_cons_zero, List.getElem?_cons_succ, D.int.injEq, exists_eq_left', b_f2_0, b_g2_0, b_h2_0]
      refine ss_for_cons rfl ?_
      rw [ss_seq, ss_putP (xs := []) (ownD_at rfl rfl (show 0 < 50000 by decide))]
      simp only [sa_ok, sa_bind, ss_seq, ss_fin, ss_nx, ss_ret, ss_nil, sa_fn, sa_v0, sa_v1, sa_v2, sa_v3, sa_v4, sa_v5, sa_v6, sa_v7, sa_v8, sa_v9, sa_v10, sa_v11, sa_v12, sa_v13, sa_v14, sa_eCon, sa_lift, sa_liftB, sa_liftL, sa_eOp, sa_eUn, sa_lNil, sa_lCons, sa_eTup, sa_eLst, sa_eBlt, sa_eCall, sa_eIf, sa_eAnd, sa_eOr, sa_bAnd, sa_bOr, sa_bNot, sa_bTru, sa_bVal, sa_eChain, sa_iItems, sa_iRange, sa_iKeys, ss_if, ss_ifG, ss_sret, ss_expr, ss_asg, ss_new, ss_asgT, ss_for, ss_app, ss_put, ss_putP, ss_ext, ss_newP, sa_eDnew, sa_eSl, sa_oNone, sa_oSome, sa_eBM, isB_bl, tru_bl, len_lst, len_tup, len_dic, items_lst, items_tup, Nat.zero_add, Nat.reduceAdd, Nat.reduceSub, Nat.sub_self, Nat.reduceLT, Nat.reduceLeDiff, Nat.le_refl, Nat.zero_le, true_and, List.filter_nil, List.filter_cons, List.contains_cons, List.contains_nil, Nat.reduceBEq, Nat.reduceBNe, Bool.or_false, Bool.false_or, Bool.true_or, Bool.or_true, Bool.not_true, Bool.not_false, Bool.false_eq_true, if_true, if_false, ite_true, ite_false, decide_true, decide_false, wipeE, give, rmv, List.set_cons_zero, List.set_cons_succ, List.set_nil, List.map_cons, List.map_nil, List.length_cons, List.length_nil, List.cons_append, List.nil_append, List.replicate_succ, List.replicate_zero, List.getElem?_cons_zero, List.getElem?_cons_succ, b_d2_0]
      refine ⟨imm_tb _, _, rfl, ?_⟩
      rw [b_q_0]
      refine ss_for_cons rfl ?_
      rw [ss_seq, ss_putP (xs := [(.inr "a", t0.d)]) (ownD_at rfl rfl (show 1 < 50000 by decide))]
      simp only [sa_ok, sa_bind, ss_seq, ss_fin, ss_nx, ss_ret, ss_nil, sa_fn, sa_v0, sa_v1, sa_v2, sa_v3, sa_v4, sa_v5, sa_v6, sa_v7, sa_v8, sa_v9, sa_v10, sa_v11, sa_v12, sa_v13, sa_v14, sa_eCon, sa_lift, sa_liftB, sa_liftL, sa_eOp, sa_eUn, sa_lNil, sa_lCons, sa_eTup, sa_eLst, sa_eBlt, sa_eCall, sa_eIf, sa_eAnd, sa_eOr, sa_bAnd, sa_bOr, sa_bNot, sa_bTru, sa_bVal, sa_eChain, sa_iItems, sa_iRange, sa_iKeys, ss_if, ss_ifG, ss_sret, ss_expr, ss_asg, ss_new, ss_asgT, ss_for, ss_app, ss_put, ss_putP, ss_ext, ss_newP, sa_eDnew, sa_eSl, sa_oNone, sa_oSome, sa_eBM, isB_bl, tru_bl, len_lst, len_tup, len_dic, items_lst, items_tup, Nat.zero_add, Nat.reduceAdd, Nat.reduceSub, Nat.sub_self, Nat.reduceLT, Nat.reduceLeDiff, Nat.le_refl, Nat.zero_le, true_and, List.filter_nil, List.filter_cons, List.contains_cons, List.contains_nil, Nat.reduceBEq, Nat.reduceBNe, Bool.or_false, Bool.false_or, Bool.true_or, Bool.or_true, Bool.not_true, Bool.not_false, Bool.false_eq_true, if_true, if_false, ite_true, ite_false, decide_true, decide_false, wipeE, give, rmv, List.set_cons_zero, List.set_cons_succ, List.set_nil, List.map_cons, List.map_nil, List.length_cons, List.length_nil, List.cons_append, List.nil_append, List.replicate_succ, List.replicate_zero, List.getElem?_cons_zero, List.getElem?_cons_succ, b_d2_1]
      refine ⟨imm_tb _, _, rfl, ?_⟩
      rw [b_q0_1]
      rw [ss_for_nil]
      simp only [sa_ok, sa_bind, ss_seq, ss_fin, ss_nx, ss_ret, ss_nil, sa_fn, sa_v0, sa_v1, sa_v2, sa_v3, sa_v4, sa_v5, sa_v6, sa_v7, sa_v8, sa_v9, sa_v10, sa_v11, sa_v12, sa_v13, sa_v14, sa_eCon, sa_lift, sa_liftB, sa_liftL, sa_eOp, sa_eUn, sa_lNil, sa_lCons, sa_eTup, sa_eLst, sa_eBlt, sa_eCall, sa_eIf, sa_eAnd, sa_eOr, sa_bAnd, sa_bOr, sa_bNot, sa_bTru, sa_bVal, sa_eChain, sa_iItems, sa_iRange, sa_iKeys, ss_if, ss_ifG, ss_sret, ss_expr, ss_asg, ss_new, ss_asgT, ss_for, ss_app, ss_put, ss_putP, ss_ext, ss_newP, sa_eDnew, sa_eSl, sa_oNone, sa_oSome, sa_eBM, isB_bl, tru_bl, len_lst, len_tup, len_dic, items_lst, items_tup, Nat.zero_add, Nat.reduceAdd, Nat.reduceSub, Nat.sub_self, Nat.reduceLT, Nat.reduceLeDiff, Nat.le_refl, Nat.zero_le, true_and, List.filter_nil, List.filter_cons, List.contains_cons, List.contains_nil, Nat.reduceBEq, Nat.reduceBNe, Bool.or_false, Bool.false_or, Bool.true_or, Bool.or_true, Bool.not_true, Bool.not_false, Bool.false_eq_true, if_true, if_false, ite_true, ite_false, decide_true, decide_false, wipeE, give, rmv, List.set_cons_zero, List.set_cons_succ, List.set_nil, List.map_cons, List.map_nil, List.length_cons, List.length_nil, List.cons_append, List.nil_append, List.replicate_succ, List.replicate_zero, List.getElem?_cons_zero, List.getElem?_cons_succ, D.int.injEq, exists_eq_left', b_neg, b_l2, b_m2]
      refine sa_pick (by decide) (by omega) fun d hd => ?_
      have hbk : BookOk 2 (fun i => match i with | 0 => t0 | 1 => t1 | _ => t0) [(.inr "a", t0.d), (.inr "box", t1.d)] := by
        refine ⟨by decide, by decide, rfl, by kernel_rfl, ?_, ?_, ?_⟩
        · intro i hi
          obtain rfl | rfl : i = 0 ∨ i = 1 := by omega
          all_goals kernel_rfl
        · intro i hi
          obtain rfl | rfl : i = 0 ∨ i = 1 := by omega
          · exact hk0
          · exact hk1
        · intro kv hkv
          simp only [List.mem_cons, List.not_mem_nil, or_false] at hkv
          rcases hkv with rfl | rfl
          · exact ⟨0, by decide, rfl⟩
          · exact ⟨1, by decide, rfl⟩
      simp only [List.mem_cons, List.not_mem_nil, or_false] at hd
      rcases hd with rfl | rfl | rfl
      · exact ⟨2, _, _, 0, hbk, by decide, rfl, _, by omega, rfl⟩
      · exact ⟨2, _, _, 1, hbk, by decide, rfl, _, by omega, rfl⟩
      · exact ⟨2, _, _, 1, hbk, by decide, rfl, _, by omega, rfl⟩
    · simp only [sa_ok, sa_bind, ss_seq, ss_fin, ss_nx, ss_ret, ss_nil, sa_fn, sa_v0, sa_v1, sa_v2, sa_v3, sa_v4, sa_v5, sa_v6, sa_v7, sa_v8, sa_v9, sa_v10, sa_v11, sa_v12, sa_v13, sa_v14, sa_eCon, sa_lift, sa_liftB, sa_liftL, sa_eOp, sa_eUn, sa_lNil, sa_lCons, sa_eTup, sa_eLst, sa_eBlt, sa_eCall, sa_eIf, sa_eAnd, sa_eOr, sa_bAnd, sa_bOr, sa_bNot, sa_bTru, sa_bVal, sa_eChain, sa_iItems, sa_iRange, sa_iKeys, ss_if, ss_ifG, ss_sret, ss_expr, ss_asg, ss_new, ss_asgT, ss_for, ss_app, ss_put, ss_putP, ss_ext, ss_newP, sa_eDnew, sa_eSl, sa_oNone, sa_oSome, sa_eBM, isB_bl, tru_bl, len_lst, len_tup, len_dic, items_lst, items_tup, Nat.zero_add, Nat.reduceAdd, Nat.reduceSub, Nat.sub_self, Nat.reduceLT, Nat.reduceLeDiff, Nat.le_refl, Nat.zero_le, true_and, List.filter_nil, List.filter_cons, List.contains_cons, List.contains_nil, Nat.reduceBEq, Nat.reduceBNe, Bool.or_false, Bool.false_or, Bool.true_or, Bool.or_true, Bool.not_true, Bool.not_false, Bool.false_eq_true, if_true, if_false, ite_true, ite_false, decide_true, decide_false, wipeE, give, rmv, List.set_cons_zero, List.set_cons_succ, List.set_nil, List.map_cons, List.map_nil, List.length_cons, List.length_nil, List.cons_append, List.nil_append, List.replicate_succ, List.replicate_zero, List.getElem?_cons_zero, List.getElem?_cons_succ, D.int.injEq, exists_eq_left', b_f2_1, b_g2_1, b_h2_1]
      refine ss_for_cons rfl ?_
      rw [ss_seq, ss_putP (xs := []) (ownD_at rfl rfl (show 0 < 50000 by decide))]
      simp only [sa_ok, sa_bind, ss_seq, ss_fin, ss_nx, ss_ret, ss_nil, sa_fn, sa_v0, sa_v1, sa_v2, sa_v3, sa_v4, sa_v5, sa_v6, sa_v7, sa_v8, sa_v9, sa_v10, sa_v11, sa_v12, sa_v13, sa_v14, sa_eCon, sa_lift, sa_liftB, sa_liftL, sa_eOp, sa_eUn, sa_lNil, sa_lCons, sa_eTup, sa_eLst, sa_eBlt, sa_eCall, sa_eIf, sa_eAnd, sa_eOr, sa_bAnd, sa_bOr, sa_bNot, sa_bTru, sa_bVal, sa_eChain, sa_iItems, sa_iRange, sa_iKeys, ss_if, ss_ifG, ss_sret, ss_expr, ss_asg, ss_new, ss_asgT, ss_for, ss_app, ss_put, ss_putP, ss_ext, ss_newP, sa_eDnew, sa_eSl, sa_oNone, sa_oSome, sa_eBM, isB_bl, tru_bl, len_lst, len_tup, len_dic, items_lst, items_tup, Nat.zero_add, Nat.reduceAdd, Nat.reduceSub, Nat.sub_self, Nat.reduceLT, Nat.reduceLeDiff, Nat.le_refl, Nat.zero_le, true_and, List.filter_nil, List.filter_cons, List.contains_cons, List.contains_nil, Nat.reduceBEq, Nat.reduceBNe, Bool.or_false, Bool.false_or, Bool.true_or, Bool.or_true, Bool.not_true, Bool.not_false, Bool.false_eq_true, if_true, if_false, ite_true, ite_false, decide_true, decide_false, wipeE, give, rmv, List.set_cons_zero, List.set_cons_succ, List.set_nil, List.map_cons, List.map_nil, List.length_cons, List.length_nil, List.cons_append, List.nil_append, List.replicate_succ, List.replicate_zero, List.getElem?_cons_zero, List.getElem?_cons_succ, b_d2_1]
      refine ⟨imm_tb _, _, rfl, ?_⟩
      rw [b_q_1]
      refine ss_for_cons rfl ?_
      rw [ss_seq, ss_putP (xs := [(.inr "box", t1.d)]) (ownD_at rfl rfl (show 1 < 50000 by decide))]
      simp only [sa_ok, sa_bind, ss_seq, ss_fin, ss_nx, ss_ret, ss_nil, sa_fn, sa_v0, sa_v1, sa_v2, sa_v3, sa_v4, sa_v5, sa_v6, sa_v7, sa_v8, sa_v9, sa_v10, sa_v11, sa_v12, sa_v13, sa_v14, sa_eCon, sa_lift, sa_liftB, sa_liftL, sa_eOp, sa_eUn, sa_lNil, sa_lCons, sa_eTup, sa_eLst, sa_eBlt, sa_eCall, sa_eIf, sa_eAnd, sa_eOr, sa_bAnd, sa_bOr, sa_bNot, sa_bTru, sa_bVal, sa_eChain, sa_iItems, sa_iRange, sa_iKeys, ss_if, ss_ifG, ss_sret, ss_expr, ss_asg, ss_new, ss_asgT, ss_for, ss_app, ss_put, ss_putP, ss_ext, ss_newP, sa_eDnew, sa_eSl, sa_oNone, sa_oSome, sa_eBM, isB_bl, tru_bl, len_lst, len_tup, len_dic, items_lst, items_tup, Nat.zero_add, Nat.reduceAdd, Nat.reduceSub, Nat.sub_self, Nat.reduceLT, Nat.reduceLeDiff, Nat.le_refl, Nat.zero_le, true_and, List.filter_nil, List.filter_cons, List.contains_cons, List.contains_nil, Nat.reduceBEq, Nat.reduceBNe, Bool.or_false, Bool.false_or, Bool.true_or, Bool.or_true, Bool.not_true, Bool.not_false, Bool.false_eq_true, if_true, if_false, ite_true, ite_false, decide_true, decide_false, wipeE, give, rmv, List.set_cons_zero, List.set_cons_succ, List.set_nil, List.map_cons, List.map_nil, List.length_cons, List.length_nil, List.cons_append, List.nil_append, List.replicate_succ, List.replicate_zero, List.getElem?_cons_zero, List.getElem?_cons_succ, b_d2_0]
      refine ⟨imm_tb _, _, rfl, ?_⟩
      rw [b_q1_0]
      rw [ss_for_nil]
      simp only [sa_ok, sa_bind, ss_seq, ss_fin, ss_nx, ss_ret, ss_nil, sa_fn, sa_v0, sa_v1, sa_v2, sa_v3, sa_v4, sa_v5, sa_v6, sa_v7, sa_v8, sa_v9, sa_v10, sa_v11, sa_v12, sa_v13, sa_v14, sa_eCon, sa_lift, sa_liftB, sa_liftL, sa_eOp, sa_eUn, sa_lNil, sa_lCons, sa_eTup, sa_eLst, sa_eBlt, sa_eCall, sa_eIf, sa_eAnd, sa_eOr, sa_bAnd, sa_bOr, sa_bNot, sa_bTru, sa_bVal, sa_eChain, sa_iItems, sa_iRange, sa_iKeys, ss_if, ss_ifG, ss_sret, ss_expr, ss_asg, ss_new, ss_asgT, ss_for, ss_app, ss_put, ss_putP, ss_ext, ss_newP, sa_eDnew, sa_eSl, sa_oNone, sa_oSome, sa_eBM, isB_bl, tru_bl, len_lst, len_tup, len_dic, items_lst, items_tup, Nat.zero_add, Nat.reduceAdd, Nat.reduceSub, Nat.sub_self, Nat.reduceLT, Nat.reduceLeDiff, Nat.le_refl, Nat.zero_le, true_and, List.filter_nil, List.filter_cons, List.contains_cons, List.contains_nil, Nat.reduceBEq, Nat.reduceBNe, Bool.or_false, Bool.false_or, Bool.true_or, Bool.or_true, Bool.not_true, Bool.not_false, Bool.false_eq_true, if_true, if_false, ite_true, ite_false, decide_true, decide_false, wipeE, give, rmv, List.set_cons_zero, List.set_cons_succ, List.set_nil, List.map_cons, List.map_nil, List.length_cons, List.length_nil, List.cons_append, List.nil_append, List.replicate_succ, List.replicate_zero, List.getElem?_cons_zero, List.getElem?_cons_succ, D.int.injEq, exists_eq_left', b_neg, b_l2, b_m2]
      refine sa_pick (by decide) (by omega) fun d hd => ?_
      have hbk : BookOk 2 (fun i => match i with | 0 => t0 | 1 => t1 | _ => t0) [(.inr "box", t1.d), (.inr "a", t0.d)] := by
        refine ⟨by decide, by decide, rfl, by kernel_rfl, ?_, ?_, ?_⟩
        · intro i hi
          obtain rfl | rfl : i = 0 ∨ i = 1 := by omega
          all_goals kernel_rfl
        · intro i hi
          obtain rfl | rfl : i = 0 ∨ i = 1 := by omega
          · exact hk0
          · exact hk1
        · intro kv hkv
          simp only [List.mem_cons, List.not_mem_nil, or_false] at hkv
          rcases hkv with rfl | rfl
          · exact ⟨1, by decide, rfl⟩
          · exact ⟨0, by decide, rfl⟩
      simp only [List.mem_cons, List.not_mem_nil, or_false] at hd
      rcases hd with rfl | rfl | rfl
      · exact ⟨2, _, _, 0, hbk, by decide, rfl, _, by omega, rfl⟩
      · exact ⟨2, _, _, 1, hbk, by decide, rfl, _, by omega, rfl⟩
      · exact ⟨2, _, _, 1, hbk, by decide, rfl, _, by omega, rfl⟩
  · simp only [sa_ok, sa_bind, ss_seq, ss_fin, ss_nx, ss_ret, ss_nil, sa_fn, sa_v0, sa_v1, sa_v2, sa_v3, sa_v4, sa_v5, sa_v6, sa_v7, sa_v8, sa_v9, sa_v10, sa_v11, sa_v12, sa_v13, sa_v14, sa_eCon, sa_lift, sa_liftB, sa_liftL, sa_eOp, sa_eUn, sa_lNil, sa_lCons, sa_eTup, sa_eLst, sa_eBlt, sa_eCall, sa_eIf, sa_eAnd, sa_eOr, sa_bAnd, sa_bOr, sa_bNot, sa_bTru, sa_bVal, sa_eChain, sa_iItems, sa_iRange, sa_iKeys, ss_if, ss_ifG, ss_sret, ss_expr, ss_asg, ss_new, ss_asgT, ss_for, ss_app, ss_put, ss_putP, ss_ext, ss_newP, sa_eDnew, sa_eSl, sa_oNone, sa_oSome, sa_eBM, isB_bl, tru_bl, len_lst, len_tup, len_dic, items_lst, items_tup, Nat.zero_add, Nat.reduceAdd, Nat.reduceSub, Nat.sub_self, Nat.reduceLT, Nat.reduceLeDiff, Nat.le_refl, Nat.zero_le, true_and, List.filter_nil, List.filter_cons, List.contains_cons, List.contains_nil, Nat.reduceBEq, Nat.reduceBNe, Bool.or_false, Bool.false_or, Bool.true_or, Bool.or_true, Bool.not_true, Bool.not_false, Bool.false_eq_true, if_true, if_false, ite_true, ite_false, decide_true, decide_false, wipeE, give, rmv, List.set_cons_zero, List.set_cons_succ, List.set_nil, List.map_cons, List.map_nil, List.length_cons, List.length_nil, List.cons_append, List.nil_append, List.replicate_succ, List.replicate_zero, List.getElem?_cons_zero, List.getElem?_cons_succ, b_add3, b_sl3, b_rg3, D.int.injEq, exists_eq_left', show ((3 : Nat) : Int) = 3 from rfl]
    refine ss_for_cons rfl ?_
    rw [ss_seq, ss_put (xs := []) (ownD_at rfl rfl (show 0 < 50000 by decide))]
    simp only [sa_ok, sa_bind, ss_seq, ss_fin, ss_nx, ss_ret, ss_nil, sa_fn, sa_v0, sa_v1, sa_v2, sa_v3, sa_v4, sa_v5, sa_v6, sa_v7, sa_v8, sa_v9, sa_v10, sa_v11, sa_v12, sa_v13, sa_v14, sa_eCon, sa_lift, sa_liftB, sa_liftL, sa_eOp, sa_eUn, sa_lNil, sa_lCons, sa_eTup, sa_eLst, sa_eBlt, sa_eCall, sa_eIf, sa_eAnd, sa_eOr, sa_bAnd, sa_bOr, sa_bNot, sa_bTru, sa_bVal, sa_eChain, sa_iItems, sa_iRange, sa_iKeys, ss_if, ss_ifG, ss_sret, ss_expr, ss_asg, ss_new, ss_asgT, ss_for, ss_app, ss_put, ss_putP, ss_ext, ss_newP, sa_eDnew, sa_eSl, sa_oNone, sa_oSome, sa_eBM, isB_bl, tru_bl, len_lst, len_tup, len_dic, items_lst, items_tup, Nat.zero_add, Nat.reduceAdd, Nat.reduceSub, Nat.sub_self, Nat.reduceLT, Nat.reduceLeDiff, Nat.le_refl, Nat.zero_le, true_and, List.filter_nil, List.filter_cons, List.contains_cons, List.contains_nil, Nat.reduceBEq, Nat.reduceBNe, Bool.or_false, Bool.false_or, Bool.true_or, Bool.or_true, Bool.not_true, Bool.not_false, Bool.false_eq_true, if_true, if_false, ite_true, ite_false, decide_true, decide_false, wipeE, give, rmv, List.set_cons_zero, List.set_cons_succ, List.set_nil, List.map_cons, List.map_nil, List.length_cons, List.length_nil, List.cons_append, List.nil_append, List.replicate_succ, List.replicate_zero, List.getElem?_cons_zero, List.getElem?_cons_succ, D.int.injEq, exists_eq_left', b_t3_0]
    refine (ltable (nm := []) (by omega) neA0 neA0).mono ?_
    rintro d w ⟨t0, hk0, rfl, n0, hn0, rfl⟩
    simp only [sa_ok, sa_bind, ss_seq, ss_fin, ss_nx, ss_ret, ss_nil, sa_fn, sa_v0, sa_v1, sa_v2, sa_v3, sa_v4, sa_v5, sa_v6, sa_v7, sa_v8, sa_v9, sa_v10, sa_v11, sa_v12, sa_v13, sa_v14, sa_eCon, sa_lift, sa_liftB, sa_liftL, sa_eOp, sa_eUn, sa_lNil, sa_lCons, sa_eTup, sa_eLst, sa_eBlt, sa_eCall, sa_eIf, sa_eAnd, sa_eOr, sa_bAnd, sa_bOr, sa_bNot, sa_bTru, sa_bVal, sa_eChain, sa_iItems, sa_iRange, sa_iKeys, ss_if, ss_ifG, ss_sret, ss_expr, ss_asg, ss_new, ss_asgT, ss_for, ss_app, ss_put, ss_putP, ss_ext, ss_newP, sa_eDnew, sa_eSl, sa_oNone, sa_oSome, sa_eBM, isB_bl, tru_bl, len_lst, len_tup, len_dic, items_lst, items_tup, Nat.zero_add, Nat.reduceAdd, Nat.reduceSub, Nat.sub_self, Nat.reduceLT, Nat.reduceLeDiff, Nat.le_refl, Nat.zero_le, true_and, List.filter_nil, List.filter_cons, List.contains_cons, List.contains_nil, Nat.reduceBEq, Nat.reduceBNe, Bool.or_false, Bool.false_or, Bool.true_or, Bool.or_true, Bool.not_true, Bool.not_false, Bool.false_eq_true, if_true, if_false, ite_true, ite_false, decide_true, decide_false, wipeE, give, rmv, List.set_cons_zero, List.set_cons_succ, List.set_nil, List.map_cons, List.map_nil, List.length_cons, List.length_nil, List.cons_append, List.nil_append, List.replicate_succ, List.replicate_zero, List.getElem?_cons_zero, List.getElem?_cons_succ, b_i3_0]
    refine ⟨_, rfl, ?_⟩
    rw [b_p0]
    refine ss_for_cons rfl ?_
    rw [ss_seq, ss_put (xs := [(.inr "a", t0.d)]) (ownD_at rfl rfl (show 1 < 50000 by decide))]
    simp only [sa_ok, sa_bind, ss_seq, ss_fin, ss_nx, ss_ret, ss_nil, sa_fn, sa_v0, sa_v1, sa_v2, sa_v3, sa_v4, sa_v5, sa_v6, sa_v7, sa_v8, sa_v9, sa_v10, sa_v11, sa_v12, sa_v13, sa_v14, sa_eCon, sa_lift, sa_liftB, sa_liftL, sa_eOp, sa_eUn, sa_lNil, sa_lCons, sa_eTup, sa_eLst, sa_eBlt, sa_eCall, sa_eIf, sa_eAnd, sa_eOr, sa_bAnd, sa_bOr, sa_bNot, sa_bTru, sa_bVal, sa_eChain, sa_iItems, sa_iRange, sa_iKeys, ss_if, ss_ifG, ss_sret, ss_expr, ss_asg, ss_new, ss_asgT, ss_for, ss_app, ss_put, ss_putP, ss_ext, ss_newP, sa_eDnew, sa_eSl, sa_oNone, sa_oSome, sa_eBM, isB_bl, tru_bl, len_lst, len_tup, len_dic, items_lst, items_tup, Nat.zero_add, Nat.reduceAdd, Nat.reduceSub, Nat.sub_self, Nat.reduceLT, Nat.reduceLeDiff, Nat.le_refl, Nat.zero_le, true_and, List.filter_nil, List.filter_cons, List.contains_cons, List.contains_nil, Nat.reduceBEq, Nat.reduceBNe, Bool.or_false, Bool.false_or, Bool.true_or, Bool.or_true, Bool.not_true, Bool.not_false, Bool.false_eq_true, if_true, if_false, ite_true, ite_false, decide_true, decide_false, wipeE, give, rmv, List.set_cons_zero, List.set_cons_succ, List.set_nil, List.map_cons, List.map_nil, List.length_cons, List.length_nil, List.cons_append, List.nil_append, List.replicate_succ, List.replicate_zero, List.getElem?_cons_zero, List.getElem?_cons_succ, D.int.injEq, exists_eq_left', b_t3_1]
    refine (ltable (nm := ["a"]) (by omega) neA1 neA1).mono ?_
    rintro d w ⟨t1, hk1, rfl, n1, hn1, rfl⟩
    simp only [sa_ok, sa_bind, ss_seq, ss_fin, ss_nx, ss_ret, ss_nil, sa_fn, sa_v0, sa_v1, sa_v2, sa_v3, sa_v4, sa_v5, sa_v6, sa_v7, sa_v8, sa_v9, sa_v10, sa_v11, sa_v12, sa_v13, sa_v14, sa_eCon, sa_lift, sa_liftB, sa_liftL, sa_eOp, sa_eUn, sa_lNil, sa_lCons, sa_eTup, sa_eLst, sa_eBlt, sa_eCall, sa_eIf, sa_eAnd, sa_eOr, sa_bAnd, sa_bOr, sa_bNot, sa_bTru, sa_bVal, sa_eChain, sa_iItems, sa_iRange, sa_iKeys, ss_if, ss_ifG, ss_sret, ss_expr, ss_asg, ss_new, ss_asgT, ss_for, ss_app, ss_put, ss_putP, ss_ext, ss_newP, sa_eDnew, sa_eSl, sa_oNone, sa_oSome, sa_eBM, isB_bl, tru_bl, len_lst, len_tup, len_dic, items_lst, items_tup, Nat.zero_add, Nat.reduceAdd, Nat.reduceSub, Nat.sub_self, Nat.reduceLT, Nat.reduceLeDiff, Nat.le_refl, Nat.zero_le, true_and, List.filter_nil, List.filter_cons, List.contains_cons, List.contains_nil, Nat.reduceBEq, Nat.reduceBNe, Bool.or_false, Bool.false_or, Bool.true_or, Bool.or_true, Bool.not_true, Bool.not_false, Bool.false_eq_true, if_true, if_false, ite_true, ite_false, decide_true, decide_false, wipeE, give, rmv, List.set_cons_zero, List.set_cons_succ, List.set_nil, List.map_cons, List.map_nil, List.length_cons, List.length_nil, List.cons_append, List.nil_append, List.replicate_succ, List.replicate_zero, List.getElem?_cons_zero, List.getElem?_cons_succ, b_i3_1]
    refine ⟨_, rfl, ?_⟩
    rw [b_p1]
    refine ss_for_cons rfl ?_
    rw [ss_seq, ss_put (xs := [(.inr "a", t0.d), (.inr "box", t1.d)]) (ownD_at rfl rfl (show 2 < 50000 by decide))]
    simp only [sa_ok, sa_bind, ss_seq, ss_fin, ss_nx, ss_ret, ss_nil, sa_fn, sa_v0, sa_v1, sa_v2, sa_v3, sa_v4, sa_v5, sa_v6, sa_v7, sa_v8, sa_v9, sa_v10, sa_v11, sa_v12, sa_v13, sa_v14, sa_eCon, sa_lift, sa_liftB, sa_liftL, sa_eOp, sa_eUn, sa_lNil, sa_lCons, sa_eTup, sa_eLst, sa_eBlt, sa_eCall, sa_eIf, sa_eAnd, sa_eOr, sa_bAnd, sa_bOr, sa_bNot, sa_bTru, sa_bVal, sa_eChain, sa_iItems, sa_iRange, sa_iKeys, ss_if, ss_ifG, ss_sret, ss_expr, ss_asg, ss_new, ss_asgT, ss_for, ss_app, ss_put, ss_putP, ss_ext, ss_newP, sa_eDnew, sa_eSl, sa_oNone, sa_oSome, sa_eBM, isB_bl, tru_bl, len_lst, len_tup, len_dic, items_lst, items_tup, Nat.zero_add, Nat.reduceAdd, Nat.reduceSub, Nat.sub_self, Nat.reduceLT, Nat.reduceLeDiff, Nat.le_refl, Nat.zero_le, true_and, List.filter_nil, List.filter_cons, List.contains_cons, List.contains_nil, Nat.reduceBEq, Nat.reduceBNe, Bool.or_false, Bool.false_or, Bool.true_or, Bool.or_true, Bool.not_true, Bool.not_false, Bool.false_eq_true, if_true, if_false, ite_true, ite_false, decide_true, decide_false, wipeE, give, rmv, List.set_cons_zero, List.set_cons_succ, List.set_nil, List.map_cons, List.map_nil, List.length_cons, List.length_nil, List.cons_append, List.nil_append, List.replicate_succ, List.replicate_zero, List.getElem?_cons_zero, List.getElem?_cons_succ, D.int.injEq, exists_eq_left', b_t3_2]
    refine (ltable (nm := ["a", "box"]) (by omega) neA2 neA1).mono ?_
    rintro d w ⟨t2, hk2, rfl, n2, hn2, rfl⟩
    simp only [sa_ok, sa_bind, ss_seq, ss_fin, ss_nx, ss_ret, ss_nil, sa_fn, sa_v0, sa_v1, sa_v2, sa_v3, sa_v4, sa_v5, sa_v6, sa_v7, sa_v8, sa_v9, sa_v10, sa_v11, sa_v12, sa_v13, sa_v14, sa_eCon, sa_lift, sa_liftB, sa_liftL, sa_eOp, sa_eUn, sa_lNil, sa_lCons, sa_eTup, sa_eLst, sa_eBlt, sa_eCall, sa_eIf, sa_eAnd, sa_eOr, sa_bAnd, sa_bOr, sa_bNot, sa_bTru, sa_bVal, sa_eChain, sa_iItems, sa_iRange, sa_iKeys, ss_if, ss_ifG, ss_sret, ss_expr, ss_asg, ss_new, ss_asgT, ss_for, ss_app, ss_put, ss_putP, ss_ext, ss_newP, sa_eDnew, sa_eSl, sa_oNone, sa_oSome, sa_eBM, isB_bl, tru_bl, len_lst, len_tup, len_dic, items_lst, items_tup, Nat.zero_add, Nat.reduceAdd, Nat.reduceSub, Nat.sub_self, Nat.reduceLT, Nat.reduceLeDiff, Nat.le_refl, Nat.zero_le, true_and, List.filter_nil, List.filter_cons, List.contains_cons, List.contains_nil, Nat.reduceBEq, Nat.reduceBNe, Bool.or_false, Bool.false_or, Bool.true_or, Bool.or_true, Bool.not_true, Bool.not_false, Bool.false_eq_true, if_true, if_false, ite_true, ite_false, decide_true, decide_false, wipeE, give, rmv, List.set_cons_zero, List.set_cons_succ, List.set_nil, List.map_cons, List.map_nil, List.length_cons, List.length_nil, List.cons_append, List.nil_append, List.replicate_succ, List.replicate_zero, List.getElem?_cons_zero, List.getElem?_cons_succ, b_i3_2]
    refine ⟨_, rfl, ?_⟩
    rw [b_p2]
    rw [ss_for_nil]
    simp only [sa_ok, sa_bind, ss_seq, ss_fin, ss_nx, ss_ret, ss_nil, sa_fn, sa_v0, sa_v1, sa_v2, sa_v3, sa_v4, sa_v5, sa_v6, sa_v7, sa_v8, sa_v9, sa_v10, sa_v11, sa_v12, sa_v13, sa_v14, sa_eCon, sa_lift, sa_liftB, sa_liftL, sa_eOp, sa_eUn, sa_lNil, sa_lCons, sa_eTup, sa_eLst, sa_eBlt, sa_eCall, sa_eIf, sa_eAnd, sa_eOr, sa_bAnd, sa_bOr, sa_bNot, sa_bTru, sa_bVal, sa_eChain, sa_iItems, sa_iRange, sa_iKeys, ss_if, ss_ifG, ss_sret, ss_expr, ss_asg, ss_new, ss_asgT, ss_for, ss_app, ss_put, ss_putP, ss_ext, ss_newP, sa_eDnew, sa_eSl, sa_oNone, sa_oSome, sa_eBM, isB_bl, tru_bl, len_lst, len_tup, len_dic, items_lst, items_tup, Nat.zero_add, Nat.reduceAdd, Nat.reduceSub, Nat.sub_self, Nat.reduceLT, Nat.reduceLeDiff, Nat.le_refl, Nat.zero_le, true_and, List.filter_nil, List.filter_cons, List.contains_cons, List.contains_nil, Nat.reduceBEq, Nat.reduceBNe, Bool.or_false, Bool.false_or, Bool.true_or, Bool.or_true, Bool.not_true, Bool.not_false, Bool.false_eq_true, if_true, if_false, ite_true, ite_false, decide_true, decide_false, wipeE, give, rmv, List.set_cons_zero, List.set_cons_succ, List.set_nil, List.map_cons, List.map_nil, List.length_cons, List.length_nil, List.cons_append, List.nil_append, List.replicate_succ, List.replicate_zero, List.getElem?_cons_zero, List.getElem?_cons_succ, show ((3 : Nat) : Int) = 3 from rfl]
    refine sa_draw (m := 3) (by decide) (by omega) fun j j0 j1 => ?_
    obtain rfl | rfl | rfl : j = 0 ∨ j = 1 ∨ j = 2 := by omega
    · simp only [sa_ok, sa_bind, ss_seq, ss_fin, ss_nx, ss_ret, ss_nil, sa_fn, sa_v0, sa_v1, sa_v2, sa_v3, sa_v4, sa_v5, sa_v6, sa_v7, sa_v8, sa_v9, sa_v10, sa_v11, sa_v12, sa_v13, sa_v14, sa_eCon, sa_lift, sa_liftB, sa_liftL, sa_eOp, sa_eUn, sa_lNil, sa_lCons, sa_eTup, sa_eLst, sa_eBlt, sa_eCall, sa_eIf, sa_eAnd, sa_eOr, sa_bAnd, sa_bOr, sa_bNot, sa_bTru, sa_bVal, sa_eChain, sa_iItems, sa_iRange, sa_iKeys, ss_if, ss_ifG, ss_sret, ss_expr, ss_asg, ss_new, ss_asgT, ss_for, ss_app, ss_put, ss_putP, ss_ext, ss_newP, sa_eDnew, sa_eSl, sa_oNone, sa_oSome, sa_eBM, isB_bl, tru_bl, len_lst, len_tup, len_dic, items_lst, items_tup, Nat.zero_add, Nat.reduceAdd, Nat.reduceSub, Nat.sub_self, Nat.reduceLT, Nat.reduceLeDiff, Nat.le_refl, Nat.zero_le, true_and, List.filter_nil, List.filter_cons, List.contains_cons, List.contains_nil, Nat.reduceBEq, Nat.reduceBNe, Bool.or_false, Bool.false_or, Bool.true_or, Bool.or_true, Bool.not_true, Bool.not_false, Bool.false_eq_true, if_true, if_false, ite_true, ite_false, decide_true, decide_false, wipeE, give, rmv, List.set_cons_zero, List.set_cons_succ, List.set_nil, List.map_cons, List.map_nil, List.length_cons, List.length_nil, List.cons_append, List.nil_append, List.replicate_succ, List.replicate_zero, List.getElem?_cons_zero, List.getElem?_cons_succ, D.int.injEq, exists_eq_left', b_f3_0, b_g3_0, b_h3_0]
      refine ss_for_cons rfl ?_
      rw [ss_seq, ss_putP (xs := []) (ownD_at rfl rfl (show 0 < 50000 by decide))]
      simp only [sa_ok, sa_bind, ss_seq, ss_fin, ss_nx, ss_ret, ss_nil, sa_fn, sa_v0, sa_v1, sa_v2, sa_v3, sa_v4, sa_v5, sa_v6, sa_v7, sa_v8, sa_v9, sa_v10, sa_v11, sa_v12, sa_v13, sa_v14, sa_eCon, sa_lift, sa_liftB, sa_liftL, sa_eOp, sa_eUn, sa_lNil, sa_lCons, sa_eTup, sa_eLst, sa_eBlt, sa_eCall, sa_eIf, sa_eAnd, sa_eOr, sa_bAnd, sa_bOr, sa_bNot, sa_bTru, sa_bVal, sa_eChain, sa_iItems, sa_iRange, sa_iKeys, ss_if, ss_ifG, ss_sret, ss_expr, ss_asg, ss_new, ss_asgT, ss_for, ss_app, ss_put, ss_putP, ss_ext, ss_newP, sa_eDnew, sa_eSl, sa_oNone, sa_oSome, sa_eBM, isB_bl, tru_bl, len_lst, len_tup, len_dic, items_lst, items_tup, Nat.zero_add, Nat.reduceAdd, Nat.reduceSub, Nat.sub_self, Nat.reduceLT, Nat.reduceLeDiff, Nat.le_refl, Nat.zero_le, true_and, List.filter_nil, List.filter_cons, List.contains_cons, List.contains_nil, Nat.reduceBEq, Nat.reduceBNe, Bool.or_false, Bool.false_or, Bool.true_or, Bool.or_true, Bool.not_true, Bool.not_false, Bool.false_eq_true, if_true, if_false, ite_true, ite_false, decide_true, decide_false, wipeE, give, rmv, List.set_cons_zero, List.set_cons_succ, List.set_nil, List.map_cons, List.map_nil, List.length_cons, List.length_nil, List.cons_append, List.nil_append, List.replicate_succ, List.replicate_zero, List.getElem?_cons_zero, List.getElem?_cons_succ, b_d3_0]
      refine ⟨imm_tb _, _, rfl, ?_⟩
      rw [b_q_0]
      refine ss_for_cons rfl ?_
      rw [ss_seq, ss_putP (xs := [(.inr "a", t0.d)]) (ownD_at rfl rfl (show 1 < 50000 by decide))]
      simp only [sa_ok, sa_bind, ss_seq, ss_fin, ss_nx, ss_ret, ss_nil, sa_fn, sa_v0, sa_v1, sa_v2, sa_v3, sa_v4, sa_v5, sa_v6, sa_v7, sa_v8, sa_v9, sa_v10, sa_v11, sa_v12, sa_v13, sa_v14, sa_eCon, sa_lift, sa_liftB, sa_liftL, sa_eOp, sa_eUn, sa_lNil, sa_lCons, sa_eTup, sa_eLst, sa_eBlt, sa_eCall, sa_eIf, sa_eAnd, sa_eOr, sa_bAnd, sa_bOr, sa_bNot, sa_bTru, sa_bVal, sa_eChain, sa_iItems, sa_iRange, sa_iKeys, ss_if, ss_ifG, ss_sret, ss_expr, ss_asg, ss_new, ss_asgT, ss_for, ss_app, ss_put, ss_putP, ss_ext, ss_newP, sa_eDnew, sa_eSl, sa_oNone, sa_oSome, sa_eBM, isB_bl, tru_bl, len_lst, len_tup, len_dic, items_lst, items_tup, Nat.zero_add, Nat.reduceAdd, Nat.reduceSub, Nat.sub_self, Nat.reduceLT, Nat.reduceLeDiff, Nat.le_refl, Nat.zero_le, true_and, List.filter_nil, List.filter_cons, List.contains_cons, List.contains_nil, Nat.reduceBEq, Nat.reduceBNe, Bool.or_false, Bool.false_or, Bool.true_or, Bool.or_true, Bool.not_true, Bool.not_false, Bool.false_eq_true, if_true, if_false, ite_true, ite_false, decide_true, decide_false, wipeE, give, rmv, List.set_cons_zero, List.set_cons_succ, List.set_nil, List.map_cons, List.map_nil, List.length_cons, List.length_nil, List.cons_append, List.nil_append, List.replicate_succ, List.replicate_zero, List.getElem?_cons_zero, List.getElem?_cons_succ, b_d3_1]
      refine ⟨imm_tb _, _, rfl, ?_⟩
      rw [b_q0_1]
      refine ss_for_cons rfl ?_
      rw [ss_seq, ss_putP (xs := [(.inr "a", t0.d), (.inr "box", t1.d)]) (ownD_at rfl rfl (show 2 < 50000 by decide))]
      simp only [sa_ok, sa_bind, ss_seq, ss_fin, ss_nx, ss_ret, ss_nil, sa_fn, sa_v0, sa_v1, sa_v2, sa_v3, sa_v4, sa_v5, sa_v6, sa_v7, sa_v8, sa_v9, sa_v10, sa_v11, sa_v12, sa_v13, sa_v14, sa_eCon, sa_lift, sa_liftB, sa_liftL, sa_eOp, sa_eUn, sa_lNil, sa_lCons, sa_eTup, sa_eLst, sa_eBlt, sa_eCall, sa_eIf, sa_eAnd, sa_eOr, sa_bAnd, sa_bOr, sa_bNot, sa_bTru, sa_bVal, sa_eChain, sa_iItems, sa_iRange, sa_iKeys, ss_if, ss_ifG, ss_sret, ss_expr, ss_asg, ss_new, ss_asgT, ss_for, ss_app, ss_put, ss_putP, ss_ext, ss_newP, sa_eDnew, sa_eSl, sa_oNone, sa_oSome, sa_eBM, isB_bl, tru_bl, len_lst, len_tup, len_dic, items_lst, items_tup, Nat.zero_add, Nat.reduceAdd, Nat.reduceSub, Nat.sub_self, Nat.reduceLT, Nat.reduceLeDiff, Nat.le_refl, Nat.zero_le, true_and, List.filter_nil, List.filter_cons, List.contains_cons, List.contains_nil, Nat.reduceBEq, Nat.reduceBNe, Bool.or_false, Bool.false_or, Bool.true_or, Bool.or_true, Bool.not_true, Bool.not_false, Bool.false_eq_true, if_true, if_false, ite_true, ite_false, decide_true, decide_false, wipeE, give, rmv, List.set_cons_zero, List.set_cons_succ, List.set_nil, List.map_cons, List.map_nil, List.length_cons, List.length_nil, List.cons_append, List.nil_append, List.replicate_succ, List.replicate_zero, List.getElem?_cons_zero, List.getElem?_cons_succ, b_d3_2]
      refine ⟨imm_tb _, _, rfl, ?_⟩
      rw [b_q01_2]
      rw [ss_for_nil]
      simp only [sa_ok, sa_bind, ss_seq, ss_fin, ss_nx, ss_ret, ss_nil, sa_fn, sa_v0, sa_v1, sa_v2, sa_v3, sa_v4, sa_v5, sa_v6, sa_v7, sa_v8, sa_v9, sa_v10, sa_v11, sa_v12, sa_v13, sa_v14, sa_eCon, sa_lift, sa_liftB, sa_liftL, sa_eOp, sa_eUn, sa_lNil, sa_lCons, sa_eTup, sa_eLst, sa_eBlt, sa_eCall, sa_eIf, sa_eAnd, sa_eOr, sa_bAnd, sa_bOr, sa_bNot, sa_bTru, sa_bVal, sa_eChain, sa_iItems, sa_iRange, sa_iKeys, ss_if, ss_ifG, ss_sret, ss_expr, ss_asg, ss_new, ss_asgT, ss_for, ss_app, ss_put, ss_putP, ss_ext, ss_newP, sa_eDnew, sa_eSl, sa_oNone, sa_oSome, sa_eBM, isB_bl, tru_bl, len_lst, len_tup, len_dic, items_lst, items_tup, Nat.zero_add, Nat.reduceAdd, Nat.reduceSub, Nat.sub_self, Nat.reduceLT, Nat.reduceLeDiff, Nat.le_refl, Nat.zero_le, true_and, List.filter_nil, List.filter_cons, List.contains_cons, List.contains_nil, Nat.reduceBEq, Nat.reduceBNe, Bool.or_false, Bool.false_or, Bool.true_or, Bool.or_true, Bool.not_true, Bool.not_false, Bool.false_eq_true, if_true, if_false, ite_true, ite_false, decide_true, decide_false, wipeE, give, rmv, List.set_cons_zero, List.set_cons_succ, List.set_nil, List.map_cons, List.map_nil, List.length_cons, List.length_nil, List.cons_append, List.nil_append, List.replicate_succ, List.replicate_zero, List.getElem?_cons_zero, List.getElem?_cons_succ, D.int.injEq, exists_eq_left', b_neg, b_l3, b_m3]
      refine sa_pick (by decide) (by omega) fun d hd => ?_
      have hbk : BookOk 3 (fun i => match i with | 0 => t0 | 1 => t1 | _ => t2) [(.inr "a", t0.d), (.inr "box", t1.d), (.inr "chest", t2.d)] := by
        refine ⟨by decide, by decide, rfl, by kernel_rfl, ?_, ?_, ?_⟩
        · intro i hi
          obtain rfl | rfl | rfl : i = 0 ∨ i = 1 ∨ i = 2 := by omega
          all_goals kernel_rfl
        · intro i hi
          obtain rfl | rfl | rfl : i = 0 ∨ i = 1 ∨ i = 2 := by omega
          · exact hk0
          · exact hk1
          · exact hk2
        · intro kv hkv
          simp only [List.mem_cons, List.not_mem_nil, or_false] at hkv
          rcases hkv with rfl | rfl | rfl
          · exact ⟨0, by decide, rfl⟩
          · exact ⟨1, by decide, rfl⟩
          · exact ⟨2, by decide, rfl⟩
      simp only [List.mem_cons, List.not_mem_nil, or_false] at hd
      rcases hd with rfl | rfl | rfl | rfl
      · exact ⟨3, _, _, 0, hbk, by decide, rfl, _, by omega, rfl⟩
      · exact ⟨3, _, _, 1, hbk, by decide, rfl, _, by omega, rfl⟩
      · exact ⟨3, _, _, 2, hbk, by decide, rfl, _, by omega, rfl⟩
      · exact ⟨3, _, _, 2, hbk, by decide, rfl, _, by omega, rfl⟩
    · simp only [sa_ok, sa_bind, ss_seq, ss_fin, ss_nx, ss_ret, ss_nil, sa_fn, sa_v0, sa_v1, sa_v2, sa_v3, sa_v4, sa_v5, sa_v6, sa_v7, sa_v8, sa_v9, sa_v10, sa_v11, sa_v12, sa_v13, sa_v14, sa_eCon, sa_lift, sa_liftB, sa_liftL, sa_eOp, sa_eUn, sa_lNil, sa_lCons, sa_eTup, sa_eLst, sa_eBlt, sa_eCall, sa_eIf, sa_eAnd, sa_eOr, sa_bAnd, sa_bOr, sa_bNot, sa_bTru, sa_bVal, sa_eChain, sa_iItems, sa_iRange, sa_iKeys, ss_if, ss_ifG, ss_sret, ss_expr, ss_asg, ss_new, ss_asgT, ss_for, ss_app, ss_put, ss_putP, ss_ext, ss_newP, sa_eDnew, sa_eSl, sa_oNone, sa_oSome, sa_eBM, isB_bl, tru_bl, len_lst, len_tup, len_dic, items_lst, items_tup, Nat.zero_add, Nat.reduceAdd, Nat.reduceSub, Nat.sub_self, Nat.reduceLT, Nat.reduceLeDiff, Nat.le_refl, Nat.zero_le, true_and, List.filter_nil, List.filter_cons, List.contains_cons, List.contains_nil, Nat.reduceBEq, Nat.reduceBNe, Bool.or_false, Bool.false_or, Bool.true_or, Bool.or_true, Bool.not_true, Bool.not_false, Bool.false_eq_true, if_true, if_false, ite_true, ite_false, decide_true, decide_false, wipeE, give, rmv, List.set_cons_zero, List.set_cons_succ, List.set_nil, List.map_cons, List.map_nil, List.length_cons, List.length_nil, List.cons_append, List.nil_append, List.replicate_succ, List.replicate_zero, List.getElem?_cons_zero, List.getElem?_cons_succ, D.int.injEq, exists_eq_left', b_f3_1, b_g3_1, b_h3_1]
      refine ss_for_cons rfl ?_
      rw [ss_seq, ss_putP (xs := []) (ownD_at rfl rfl (show 0 < 50000 by decide))]
      simp only [sa_ok, sa_bind, ss_seq, ss_fin, ss_nx, ss_ret, ss_nil, sa_fn, sa_v0, sa_v1, sa_v2, sa_v3, sa_v4, sa_v5, sa_v6, sa_v7, sa_v8, sa_v9, sa_v10, sa_v11, sa_v12, sa_v13, sa_v14, sa_eCon, sa_lift, sa_liftB, sa_liftL, sa_eOp, sa_eUn, sa_lNil, sa_lCons, sa_eTup, sa_eLst, sa_eBlt, sa_eCall, sa_eIf, sa_eAnd, sa_eOr, sa_bAnd, sa_bOr, sa_bNot, sa_bTru, sa_bVal, sa_eChain, sa_iItems, sa_iRange, sa_iKeys, ss_if, ss_ifG, ss_sret, ss_expr, ss_asg, ss_new, ss_asgT, ss_for, ss_app, ss_put, ss_putP, ss_ext, ss_newP, sa_eDnew, sa_eSl, sa_oNone, sa_oSome, sa_eBM, isB_bl, tru_bl, len_lst, len_tup, len_dic, items_lst, items_tup, Nat.zero_add, Nat.reduceAdd, Nat.reduceSub, Nat.sub_self, Nat.reduceLT, Nat.reduceLeDiff, Nat.le_refl, Nat.zero_le, true_and, List.filter_nil, List.filter_cons, List.contains_cons, List.contains_nil, Nat.reduceBEq, Nat.reduceBNe, Bool.or_false, Bool.false_or, Bool.true_or, Bool.or_true, Bool.not_true, Bool.not_false, Bool.false_eq_true, if_true, if_false, ite_true, ite_false, decide_true, decide_false, wipeE, give, rmv, List.set_cons_zero, List.set_cons_succ, List.set_nil, List.map_cons, List.map_nil, List.length_cons, List.length_nil, List.cons_append, List.nil_append, List.replicate_succ, List.replicate_zero, List.getElem?_cons_zero, List.getElem?_cons_succ, b_d3_1]
      refine ⟨imm_tb _, _, rfl, ?_⟩
      rw [b_q_1]
      refine ss_for_cons rfl ?_
      rw [ss_seq, ss_putP (xs := [(.inr "box", t1.d)]) (ownD_at rfl rfl (show 1 < 50000 by decide))]
      simp only [sa_ok, sa_bind, ss_seq, ss_fin, ss_nx, ss_ret, ss_nil, sa_fn, sa_v0, sa_v1, sa_v2, sa_v3, sa_v4, sa_v5, sa_v6, sa_v7, sa_v8, sa_v9, sa_v10, sa_v11, sa_v12, sa_v13, sa_v14, sa_eCon, sa_lift, sa_liftB, sa_liftL, sa_eOp, sa_eUn, sa_lNil, sa_lCons, sa_eTup, sa_eLst, sa_eBlt, sa_eCall, sa_eIf, sa_eAnd, sa_eOr, sa_bAnd, sa_bOr, sa_bNot, sa_bTru, sa_bVal, sa_eChain, sa_iItems, sa_iRange, sa_iKeys, ss_if, ss_ifG, ss_sret, ss_expr, ss_asg, ss_new, ss_asgT, ss_for, ss_app, ss_put, ss_putP, ss_ext, ss_newP, sa_eDnew, sa_eSl, sa_oNone, sa_oSome, sa_eBM, isB_bl, tru_bl, len_lst, len_tup, len_dic, items_lst, items_tup, Nat.zero_add, Nat.reduceAdd, Nat.reduceSub, Nat.sub_self, Nat.reduceLT, Nat.reduceLeDiff, Nat.le_refl, Nat.zero_le, true_and, List.filter_nil, List.filter_cons, List.contains_cons, List.contains_nil, Nat.reduceBEq, Nat.reduceBNe, Bool.or_false, Bool.false_or, Bool.true_or, Bool.or_true, Bool.not_true, Bool.not_false, Bool.false_eq_true, if_true, if_false, ite_true, ite_false, decide_true, decide_false, wipeE, give, rmv, List.set_cons_zero, List.set_cons_succ, List.set_nil, List.map_cons, List.map_nil, List.length_cons, List.length_nil, List.cons_append, List.nil_append, List.replicate_succ, List.replicate_zero, List.getElem?_cons_zero, List.getElem?_cons_succ, b_d3_2]
      refine ⟨imm_tb _, _, rfl, ?_⟩
      rw [b_q1_2]
      refine ss_for_cons rfl ?_
      rw [ss_seq, ss_putP (xs := [(.inr "box", t1.d), (.inr "chest", t2.d)]) (ownD_at rfl rfl (show 2 < 50000 by decide))]
      simp only [sa_ok, sa_bind, ss_seq, ss_fin, ss_nx, ss_ret, ss_nil, sa_fn, sa_v0, sa_v1, sa_v2, sa_v3, sa_v4, sa_v5, sa_v6, sa_v7, sa_v8, sa_v9, sa_v10, sa_v11, sa_v12, sa_v13, sa_v14, sa_eCon, sa_lift, sa_liftB, sa_liftL, sa_eOp, sa_eUn, sa_lNil, sa_lCons, sa_eTup, sa_eLst, sa_eBlt, sa_eCall, sa_eIf, sa_eAnd, sa_eOr, sa_bAnd, sa_bOr, sa_bNot, sa_bTru, sa_bVal, sa_eChain, sa_iItems, sa_iRange, sa_iKeys, ss_if, ss_ifG, ss_sret, ss_expr, ss_asg, ss_new, ss_asgT, ss_for, ss_app, ss_put, ss_putP, ss_ext, ss_newP, sa_eDnew, sa_eSl, sa_oNone, sa_oSome, sa_eBM, isB_bl, tru_bl, len_lst, len_tup, len_dic, items_lst, items_tup, Nat.zero_add, Nat.reduceAdd, Nat.reduceSub, Nat.sub_self, Nat.reduceLT, Nat.reduceLeDiff, Nat.le_refl, Nat.zero_le, true_and, List.filter_nil, List.filter_cons, List.contains_cons, List.contains_nil, Nat.reduceBEq, Nat.reduceBNe, Bool.or_false, Bool.false_or, Bool.true_or, Bool.or_true, Bool.not_true, Bool.not_false, Bool.false_eq_true, if_true, if_false, ite_true, ite_false, decide_true, decide_false, wipeE, give, rmv, List.set_cons_zero, List.set_cons_succ, List.set_nil, List.map_cons, List.map_nil, List.length_cons, List.length_nil, List.cons_append, List.nil_append, List.replicate_succ, List.replicate_zero, List.getElem?_cons_zero, List.getElem?_cons_succ, b_d3_0]
      refine ⟨imm_tb _, _, rfl, ?_⟩
      rw [b_q12_0]
      rw [ss_for_nil]
      simp only [sa_ok, sa_bind, ss_seq, ss_fin, ss_nx, ss_ret, ss_nil, sa_fn, sa_v0, sa_v1, sa_v2, sa_v3, sa_v4, sa_v5, sa_v6, sa_v7, sa_v8, sa_v9, sa_v10, sa_v11, sa_v12, sa_v13, sa_v14, sa_eCon, sa_lift, sa_liftB, sa_liftL, sa_eOp, sa_eUn, sa_lNil, sa_lCons, sa_eTup, sa_eLst, sa_eBlt, sa_eCall, sa_eIf, sa_eAnd, sa_eOr, sa_bAnd, sa_bOr, sa_bNot, sa_bTru, sa_bVal, sa_eChain, sa_iItems, sa_iRange, sa_iKeys, ss_if, ss_ifG, ss_sret, ss_expr, ss_asg, ss_new, ss_asgT, ss_for, ss_app, ss_put, ss_putP, ss_ext, ss_newP, sa_eDnew, sa_eSl, sa_oNone, sa_oSome, sa_eBM, isB_bl, tru_bl, len_lst, len_tup, len_dic, items_lst, items_tup, Nat.zero_add, Nat.reduceAdd, Nat.reduceSub, Nat.sub_self, Nat.reduceLT, Nat.reduceLeDiff, Nat.le_refl, Nat.zero_le, true_and, List.filter_nil, List.filter_cons, List.contains_cons, List.contains_nil, Nat.reduceBEq, Nat.reduceBNe, Bool.or_false, Bool.false_or, Bool.true_or, Bool.or_true, Bool.not_true, Bool.not_false, Bool.false_eq_true, if_true, if_false, ite_true, ite_false, decide_true, decide_false, wipeE, give, rmv, List.set_cons_zero, List.set_cons_succ, List.set_nil, List.map_cons, List.map_nil, List.length_cons, List.length_nil, List.cons_append, List.nil_append, List.replicate_succ, List.replicate_zero, List.getElem?_cons_zero, List.getElem?_cons_succ, D.int.injEq, exists_eq_left', b_neg, b_l3, b_m3]
      refine sa_pick (by decide) (by omega) fun d hd => ?_
      have hbk : BookOk 3 (fun i => match i with | 0 => t0 | 1 => t1 | _ => t2) [(.inr "box", t1.d), (.inr "chest", t2.d), (.inr "a", t0.d)] := by
        refine ⟨by decide, by decide, rfl, by kernel_rfl, ?_, ?_, ?_⟩
        · intro i hi
          obtain rfl | rfl | rfl : i = 0 ∨ i = 1 ∨ i = 2 := by omega
          all_goals kernel_rfl
        · intro i hi
          obtain rfl | rfl | rfl : i = 0 ∨ i = 1 ∨ i = 2 := by omega
          · exact hk0
          · exact hk1
          · exact hk2
        · intro kv hkv
          simp only [List.mem_cons, List.not_mem_nil, or_false] at hkv
          rcases hkv with rfl | rfl | rfl
          · exact ⟨1, by decide, rfl⟩
          · exact ⟨2, by decide, rfl⟩
          · exact ⟨0, by decide, rfl⟩
      simp only [List.mem_cons, List.not_mem_nil, or_false] at hd
      rcases hd with rfl | rfl | rfl | rfl
      · exact ⟨3, _, _, 0, hbk, by decide, rfl, _, by omega, rfl⟩
      · exact ⟨3, _, _, 1, hbk, by decide, rfl, _, by omega, rfl⟩
      · exact ⟨3, _, _, 2, hbk, by decide, rfl, _, by omega, rfl⟩
      · exact ⟨3, _, _, 2, hbk, by decide, rfl, _, by omega, rfl⟩
    · simp only [sa_ok, sa_bind, ss_seq, ss_fin, ss_nx, ss_ret, ss_nil, sa_fn, sa_v0, sa_v1, sa_v2, sa_v3, sa_v4, sa_v5, sa_v6, sa_v7, sa_v8, sa_v9, sa_v10, sa_v11, sa_v12, sa_v13, sa_v14, sa_eCon, sa_lift, sa_liftB, sa_liftL, sa_eOp, sa_eUn, sa_lNil, sa_lCons, sa_eTup, sa_eLst, sa_eBlt, sa_eCall, sa_eIf, sa_eAnd, sa_eOr, sa_bAnd, sa_bOr, sa_bNot, sa_bTru, sa_bVal, sa_eChain, sa_iItems, sa_iRange, sa_iKeys, ss_if, ss_ifG, ss_sret, ss_expr, ss_asg, ss_new, ss_asgT, ss_for, ss_app, ss_put, ss_putP, ss_ext, ss_newP, sa_eDnew, sa_eSl, sa_oNone, sa_oSome, sa_eBM, isB_bl, tru_bl, len_lst, len_tup, len_dic, items_lst, items_tup, Nat.zero_add, Nat.reduceAdd, Nat.reduceSub, Nat.sub_self, Nat.reduceLT, Nat.reduceLeDiff, Nat.le_refl, Nat.zero_le, true_and, List.filter_nil, List.filter_cons, List.contains_cons, List.contains_nil, Nat.reduceBEq, Nat.reduceBNe, Bool.or_false, Bool.false_or, Bool.true_or, Bool.or_true, Bool.not_true, Bool.not_false, Bool.false_eq_true, if_true, if_false, ite_true, ite_false, decide_true, decide_false, wipeE, give, rmv, List.set_cons_zero, List.set_cons_succ, List.set_nil, List.map_cons, List.map_nil, List.length_cons, List.length_nil, List.cons_append, List.nil_append, List.replicate_succ, List.replicate_zero, List.getElem?_cons_zero, List.getElem?_cons_succ, D.int.injEq, exists_eq_left', b_f3_2, b_g3_2, b_h3_2]
      refine ss_for_cons rfl ?_
      rw [ss_seq, ss_putP (xs := []) (ownD_at rfl rfl (show 0 < 50000 by decide))]
      simp only [sa_ok, sa_bind, ss_seq, ss_fin, ss_nx, ss_ret, ss_nil, sa_fn, sa_v0, sa_v1, sa_v2, sa_v3, sa_v4, sa_v5, sa_v6, sa_v7, sa_v8, sa_v9, sa_v10, sa_v11, sa_v12, sa_v13, sa_v14, sa_eCon, sa_lift, sa_liftB, sa_liftL, sa_eOp, sa_eUn, sa_lNil, sa_lCons, sa_eTup, sa_eLst, sa_eBlt, sa_eCall, sa_eIf, sa_eAnd, sa_eOr, sa_bAnd, sa_bOr, sa_bNot, sa_bTru, sa_bVal, sa_eChain, sa_iItems, sa_iRange, sa_iKeys, ss_if, ss_ifG, ss_sret, ss_expr, ss_asg, ss_new, ss_asgT, ss_for, ss_app, ss_put, ss_putP, ss_ext, ss_newP, sa_eDnew, sa_eSl, sa_oNone, sa_oSome, sa_eBM, isB_bl, tru_bl, len_lst, len_tup, len_dic, items_lst, items_tup, Nat.zero_add, Nat.reduceAdd, Nat.reduceSub, Nat.sub_self, Nat.reduceLT, Nat.reduceLeDiff, Nat.le_refl, Nat.zero_le, true_and, List.filter_nil, List.filter_cons, List.contains_cons, List.contains_nil, Nat.reduceBEq, Nat.reduceBNe, Bool.or_false, Bool.false_or, Bool.true_or, Bool.or_true, Bool.not_true, Bool.not_false, Bool.false_eq_true, if_true, if_false, ite_true, ite_false, decide_true, decide_false, wipeE, give, rmv, List.set_cons_zero, List.set_cons_succ, List.set_nil, List.map_cons, List.map_nil, List.length_cons, List.length_nil, List.cons_append, List.nil_append, List.replicate_succ, List.replicate_zero, List.getElem?_cons_zero, List.getElem?_cons_succ, b_d3_2]
      refine ⟨imm_tb _, _, rfl, ?_⟩
      rw [b_q_2]
      refine ss_for_cons rfl ?_
      rw [ss_seq, ss_putP (xs := [(.inr "chest", t2.d)]) (ownD_at rfl rfl (show 1 < 50000 by decide))]
      simp only [sa_ok, sa_bind, ss_seq, ss_fin, ss_nx, ss_ret, ss_nil, sa_fn, sa_v0, sa_v1, sa_v2, sa_v3, sa_v4, sa_v5, sa_v6, sa_v7, sa_v8, sa_v9, sa_v10, sa_v11, sa_v12, sa_v13, sa_v14, sa_eCon, sa_lift, sa_liftB, sa_liftL, sa_eOp, sa_eUn, sa_lNil, sa_lCons, sa_eTup, sa_eLst, sa_eBlt, sa_eCall, sa_eIf, sa_eAnd, sa_eOr, sa_bAnd, sa_bOr, sa_bNot, sa_bTru, sa_bVal, sa_eChain, sa_iItems, sa_iRange, sa_iKeys, ss_if, ss_ifG, ss_sret, ss_expr, ss_asg, ss_new, ss_asgT, ss_for, ss_app, ss_put, ss_putP, ss_ext, ss_newP, sa_eDnew, sa_eSl, sa_oNone, sa_oSome, sa_eBM, isB_bl, tru_bl, len_lst, len_tup, len_dic, items_lst, items_tup, Nat.zero_add, Nat.reduceAdd, Nat.reduceSub, Nat.sub_self, Nat.reduceLT, Nat.reduceLeDiff, Nat.le_refl, Nat.zero_le, true_and, List.filter_nil, List.filter_cons, List.contains_cons, List.contains_nil, Nat.reduceBEq, Nat.reduceBNe, Bool.or_false, Bool.false_or, Bool.true_or, Bool.or_true, Bool.not_true, Bool.not_false, Bool.false_eq_true, if_true, if_false, ite_true, ite_false, decide_true, decide_false, wipeE, give, rmv, List.set_cons_zero, List.set_cons_succ, List.set_nil, List.map_cons, List.map_nil, List.length_cons, List.length_nil, List.cons_append, List.nil_append, List.replicate_succ, List.replicate_zero, List.getElem?_cons_zero, List.getElem?_cons_succ, b_d3_0]
      refine ⟨imm_tb _, _, rfl, ?_⟩
      rw [b_q2_0]
      refine ss_for_cons rfl ?_
      rw [ss_seq, ss_putP (xs := [(.inr "chest", t2.d), (.inr "a", t0.d)]) (ownD_at rfl rfl (show 2 < 50000 by decide))]
      simp only [sa_ok, sa_bind, ss_seq, ss_fin, ss_nx, ss_ret, ss_nil, sa_fn, sa_v0, sa_v1, sa_v2, sa_v3, sa_v4, sa_v5, sa_v6, sa_v7, sa_v8, sa_v9, sa_v10, sa_v11, sa_v12, sa_v13, sa_v14, sa_eCon, sa_lift, sa_liftB, sa_liftL, sa_eOp, sa_eUn, sa_lNil, sa_lCons, sa_eTup, sa_eLst, sa_eBlt, sa_eCall, sa_eIf, sa_eAnd, sa_eOr, sa_bAnd, sa_bOr, sa_bNot, sa_bTru, sa_bVal, sa_eChain, sa_iItems, sa_iRange, sa_iKeys, ss_if, ss_ifG, ss_sret, ss_expr, ss_asg, ss_new, ss_asgT, ss_for, ss_app, ss_put, ss_putP, ss_ext, ss_newP, sa_eDnew, sa_eSl, sa_oNone, sa_oSome, sa_eBM, isB_bl, tru_bl, len_lst, len_tup, len_dic, items_lst, items_tup, Nat.zero_add, Nat.reduceAdd, Nat.reduceSub, Nat.sub_self, Nat.reduceLT, Nat.reduceLeDiff, Nat.le_refl, Nat.zero_le, true_and, List.filter_nil, List.filter_cons, List.contains_cons, List.contains_nil, Nat.reduceBEq, Nat.reduceBNe, Bool.or_false, Bool.false_or, Bool.true_or, Bool.or_true, Bool.not_true, Bool.not_false, Bool.false_eq_true, if_true, if_false, ite_true, ite_false, decide_true, decide_false, wipeE, give, rmv, List.set_cons_zero, List.set_cons_succ, List.set_nil, List.map_cons, List.map_nil, List.length_cons, List.length_nil, List.cons_append, List.nil_append, List.replicate_succ, List.replicate_zero, List.getElem?_cons_zero, List.getElem?_cons_succ, b_d3_1]
      refine ⟨imm_tb _, _, rfl, ?_⟩
      rw [b_q20_1]
      rw [ss_for_nil]
      simp only [sa_ok, sa_bind, ss_seq, ss_fin, ss_nx, ss_ret, ss_nil, sa_fn, sa_v0, sa_v1, sa_v2, sa_v3, sa_v4, sa_v5, sa_v6, sa_v7, sa_v8, sa_v9, sa_v10, sa_v11, sa_v12, sa_v13, sa_v14, sa_eCon, sa_lift, sa_liftB, sa_liftL, sa_eOp, sa_eUn, sa_lNil, sa_lCons, sa_eTup, sa_eLst, sa_eBlt, sa_eCall, sa_eIf, sa_eAnd, sa_eOr, sa_bAnd, sa_bOr, sa_bNot, sa_bTru, sa_bVal, sa_eChain, sa_iItems, sa_iRange, sa_iKeys, ss_if, ss_ifG, ss_sret, ss_expr, ss_asg, ss_new, ss_asgT, ss_for, ss_app, ss_put, ss_putP, ss_ext, ss_newP, sa_eDnew, sa_eSl, sa_oNone, sa_oSome, sa_eBM, isB_bl, tru_bl, len_lst, len_tup, len_dic, items_lst, items_tup, Nat.zero_add, Nat.reduceAdd, Nat.reduceSub, Nat.sub_self, Nat.reduceLT, Nat.reduceLeDiff, Nat.le_refl, Nat.zero_le, true_and, List.filter_nil, List.filter_cons, List.contains_cons, List.contains_nil, Nat.reduceBEq, Nat.reduceBNe, Bool.or_false, Bool.false_or, Bool.true_or, Bool.or_true, Bool.not_true, Bool.not_false, Bool.false_eq_true, if_true, if_false, ite_true, ite_false, decide_true, decide_false, wipeE, give, rmv, List.set_cons_zero, List.set_cons_succ, List.set_nil, List.map_cons, List.map_nil, List.length_cons, List.length_nil, List.cons_append, List.nil_append, List.replicate_succ, List.replicate_zero, List.getElem?_cons_zero, List.getElem?_cons_succ, D.int.injEq, exists_eq_left', b_neg, b_l3, b_m3]
      refine sa_pick (by decide) (by omega) fun d hd => ?_
      have hbk : BookOk 3 (fun i => match i with | 0 => t0 | 1 => t1 | _ => t2) [(.inr "chest", t2.d), (.inr "a", t0.d), (.inr "box", t1.d)] := by
        refine ⟨by decide, by decide, rfl, by kernel_rfl, ?_, ?_, ?_⟩
        · intro i hi
          obtain rfl | rfl | rfl : i = 0 ∨ i = 1 ∨ i = 2 := by omega
          all_goals kernel_rfl
        · intro i hi
          obtain rfl | rfl | rfl : i = 0 ∨ i = 1 ∨ i = 2 := by omega
          · exact hk0
          · exact hk1
          · exact hk2
        · intro kv hkv
          simp only [List.mem_cons, List.not_mem_nil, or_false] at hkv
          rcases hkv with rfl | rfl | rfl
          · exact ⟨2, by decide, rfl⟩
          · exact ⟨0, by decide, rfl⟩
          · exact ⟨1, by decide, rfl⟩
      simp only [List.mem_cons, List.not_mem_nil, or_false] at hd
      rcases hd with rfl | rfl | rfl | rfl
      · exact ⟨3, _, _, 0, hbk, by decide, rfl, _, by omega, rfl⟩
      · exact ⟨3, _, _, 1, hbk, by decide, rfl, _, by omega, rfl⟩
      · exact ⟨3, _, _, 2, hbk, by decide, rfl, _, by omega, rfl⟩
      · exact ⟨3, _, _, 2, hbk, by decide, rfl, _, by omega, rfl⟩
theorem tab1 : tabD [("draw", 2), ("bag", 2), ("sure", 4), ("unlike", 2)] (.str "draw") (.int 0) = some (.int 2) := by kernel_rfl
theorem tab2 : tabD [("draw", 2), ("bag", 2), ("sure", 4), ("unlike", 2)] (.str "bag") (.int 0) = some (.int 2) := by kernel_rfl
theorem tab3 : tabD [("draw", 2), ("bag", 2), ("sure", 4), ("unlike", 2)] (.str "sure") (.int 0) = some (.int 4) := by kernel_rfl
theorem tab4 : tabD [("draw", 2), ("bag", 2), ("sure", 4), ("unlike", 2)] (.str "unlike") (.int 0) = some (.int 2) := by kernel_rfl
theorem table_ok {t : Tb} {nm : List Str} (hn : ∀ x ∈ nm, wordB x = true) (h : t.ok nm) (w : Wl) : M_is_table [t.d] w = .ok (.bl true) w := by
  obtain ⟨lo, hi, hr, hf⟩ := h
  have lcR : ∀ (rh : G.Env) (i : Nat) (hi : i < rh.length), lcLoop (.nm i) bYes (eCall M_is_row (lCons (eVar i) lNil)) rh (t.rows.map rowD) [] w = .ok (t.rows.map fun _ => .bl true) w := by
    intro rh i hi
    have := lc_map (te := eCall M_is_row (lCons (eVar i) lNil)) (m := rowD) (g := fun _ => .bl true) (rh := rh) (i := i) (w := w) t.rows [] (by
      intro r h
      simp [eCall, lCons, lNil, eVar, Res.bind, hi, row_ok hn (hr r h)])
    simpa using this
  have lcW : ∀ (rh : G.Env) (i : Nat) (hi : i < rh.length), lcLoop (.nm i) bYes (eOp ixD (eVar i) (eCon (.int 0))) rh (t.rows.map rowD) [] w = .ok (t.rows.map fun r => .int r.1) w := by
    intro rh i hi
    have := lc_map (te := eOp ixD (eVar i) (eCon (.int 0))) (m := rowD) (g := fun r => .int r.1) (rh := rh) (i := i) (w := w) t.rows [] (by
      intro r h
      simp [eOp, lift, ixD, atI, ixN, rowD, eVar, eCon, Res.bind, hi])
    simpa using this
  have ha := all_bl (fun _ => true) t.rows
  have hm := ints_map (fun r : Int × Gf => r.1) t.rows
  have h1 : (1 : Int) ≤ t.rows.length := by omega
  have h2 : (t.rows.length : Int) ≤ 4 := by omega
  have h3 : t.rows.length ≤ 100000 := by omega
  cases t with
  | draw rs =>
    simp only [Tb.rows] at *
    simp [Tb.d, M_is_table, F_is_table, fnRun, sSeq, sIf, sNil, sRet, sAsg, sExpr, fin, eVar, eCon, eUn, eOp, lCons, lNil, eTup, eLst, eBlt, eCall, eIf, eAnd, eOr, bAnd, bOr, bNot, bTru, bVal, eChain, Res.bind, lift, liftB, liftL, isB, truD, cmpI, isiD, tyName, lenD, notB, G.iItems, itemsOf, iRange, wipeE, give, e_none_none, n_none_none, e_none_item, n_none_item, e_none_table, n_none_table, e_none_several, n_none_several, e_item_none, n_item_none, e_item_item, n_item_item, e_item_table, n_item_table, e_item_several, n_item_several, e_table_none, n_table_none, e_table_item, n_table_item, e_table_table, n_table_table, e_table_several, n_table_several, e_several_none, n_several_none, e_several_item, n_several_item, e_several_table, n_several_table, e_several_several, n_several_several, e_draw_draw, n_draw_draw, e_draw_bag, n_draw_bag, e_draw_sure, n_draw_sure, e_draw_unlike, n_draw_unlike, e_bag_draw, n_bag_draw, e_bag_bag, n_bag_bag, e_bag_sure, n_bag_sure, e_bag_unlike, n_bag_unlike, e_sure_draw, n_sure_draw, e_sure_bag, n_sure_bag, e_sure_sure, n_sure_sure, e_sure_unlike, n_sure_unlike, e_unlike_draw, n_unlike_draw, e_unlike_bag, n_unlike_bag, e_unlike_sure, n_unlike_sure, e_unlike_unlike, n_unlike_unlike, k3, k4, atI, ixN, ixD, eqD_int, neD_int, tab1, eLc, lcR, ha, h1, h2, h3]
  | bag rs =>
    simp only [Tb.rows] at *
    have hf' : (rs.map (·.1)).sum ≤ 12 := hf
    simp [Tb.d, M_is_table, F_is_table, fnRun, sSeq, sIf, sNil, sRet, sAsg, sExpr, fin, eVar, eCon, eUn, eOp, lCons, lNil, eTup, eLst, eBlt, eCall, eIf, eAnd, eOr, bAnd, bOr, bNot, bTru, bVal, eChain, Res.bind, lift, liftB, liftL, isB, truD, cmpI, isiD, tyName, lenD, notB, G.iItems, itemsOf, iRange, wipeE, give, e_none_none, n_none_none, e_none_item, n_none_item, e_none_table, n_none_table, e_none_several, n_none_several, e_item_none, n_item_none, e_item_item, n_item_item, e_item_table, n_item_table, e_item_several, n_item_several, e_table_none, n_table_none, e_table_item, n_table_item, e_table_table, n_table_table, e_table_several, n_table_several, e_several_none, n_several_none, e_several_item, n_several_item, e_several_table, n_several_table, e_several_several, n_several_several, e_draw_draw, n_draw_draw, e_draw_bag, n_draw_bag, e_draw_sure, n_draw_sure, e_draw_unlike, n_draw_unlike, e_bag_draw, n_bag_draw, e_bag_bag, n_bag_bag, e_bag_sure, n_bag_sure, e_bag_unlike, n_bag_unlike, e_sure_draw, n_sure_draw, e_sure_bag, n_sure_bag, e_sure_sure, n_sure_sure, e_sure_unlike, n_sure_unlike, e_unlike_draw, n_unlike_draw, e_unlike_bag, n_unlike_bag, e_unlike_sure, n_unlike_sure, e_unlike_unlike, n_unlike_unlike, k3, k4, atI, ixN, ixD, eqD_int, neD_int, tab2, eLc, lcR, lcW, ha, h1, h2, h3, sumD, hm, hf']
  | unlike rs =>
    simp only [Tb.rows] at *
    have hf' : (2 : Int) ≤ rs.length := by have : 2 ≤ rs.length := hf; omega
    simp [Tb.d, M_is_table, F_is_table, fnRun, sSeq, sIf, sNil, sRet, sAsg, sExpr, fin, eVar, eCon, eUn, eOp, lCons, lNil, eTup, eLst, eBlt, eCall, eIf, eAnd, eOr, bAnd, bOr, bNot, bTru, bVal, eChain, Res.bind, lift, liftB, liftL, isB, truD, cmpI, isiD, tyName, lenD, notB, G.iItems, itemsOf, iRange, wipeE, give, e_none_none, n_none_none, e_none_item, n_none_item, e_none_table, n_none_table, e_none_several, n_none_several, e_item_none, n_item_none, e_item_item, n_item_item, e_item_table, n_item_table, e_item_several, n_item_several, e_table_none, n_table_none, e_table_item, n_table_item, e_table_table, n_table_table, e_table_several, n_table_several, e_several_none, n_several_none, e_several_item, n_several_item, e_several_table, n_several_table, e_several_several, n_several_several, e_draw_draw, n_draw_draw, e_draw_bag, n_draw_bag, e_draw_sure, n_draw_sure, e_draw_unlike, n_draw_unlike, e_bag_draw, n_bag_draw, e_bag_bag, n_bag_bag, e_bag_sure, n_bag_sure, e_bag_unlike, n_bag_unlike, e_sure_draw, n_sure_draw, e_sure_bag, n_sure_bag, e_sure_sure, n_sure_sure, e_sure_unlike, n_sure_unlike, e_unlike_draw, n_unlike_draw, e_unlike_bag, n_unlike_bag, e_unlike_sure, n_unlike_sure, e_unlike_unlike, n_unlike_unlike, k3, k4, atI, ixN, ixD, eqD_int, neD_int, tab4, eLc, lcR, ha, h1, h2, h3, hf']
  | sure rs a m =>
    simp only [Tb.rows] at *
    obtain ⟨f1, f2, f3, f4⟩ := hf
    have f2' : a ≤ (rs.length : Int) - 1 := by omega
    simp [Tb.d, M_is_table, F_is_table, fnRun, sSeq, sIf, sNil, sRet, sAsg, sExpr, fin, eVar, eCon, eUn, eOp, lCons, lNil, eTup, eLst, eBlt, eCall, eIf, eAnd, eOr, bAnd, bOr, bNot, bTru, bVal, eChain, Res.bind, lift, liftB, liftL, isB, truD, cmpI, isiD, tyName, lenD, notB, G.iItems, itemsOf, iRange, wipeE, give, e_none_none, n_none_none, e_none_item, n_none_item, e_none_table, n_none_table, e_none_several, n_none_several, e_item_none, n_item_none, e_item_item, n_item_item, e_item_table, n_item_table, e_item_several, n_item_several, e_table_none, n_table_none, e_table_item, n_table_item, e_table_table, n_table_table, e_table_several, n_table_several, e_several_none, n_several_none, e_several_item, n_several_item, e_several_table, n_several_table, e_several_several, n_several_several, e_draw_draw, n_draw_draw, e_draw_bag, n_draw_bag, e_draw_sure, n_draw_sure, e_draw_unlike, n_draw_unlike, e_bag_draw, n_bag_draw, e_bag_bag, n_bag_bag, e_bag_sure, n_bag_sure, e_bag_unlike, n_bag_unlike, e_sure_draw, n_sure_draw, e_sure_bag, n_sure_bag, e_sure_sure, n_sure_sure, e_sure_unlike, n_sure_unlike, e_unlike_draw, n_unlike_draw, e_unlike_bag, n_unlike_bag, e_unlike_sure, n_unlike_sure, e_unlike_unlike, n_unlike_unlike, k3, k4, atI, ixN, ixD, eqD_int, neD_int, tab3, eLc, lcR, ha, h1, h2, h3, whole_int, f1, f2', f3, f4, subD]
/-! ### the tables that a table's gifts name -/
def Gi.isT : Gi → Bool
  | .table _ => true
  | _ => false
def Gi.nmD : Gi → D
  | .table x => .str x
  | _ => .non
def inner (t : Tb) : List Gi := t.rows.flatMap fun r => r.2.all.filter Gi.isT
theorem inner_mem {t : Tb} {nm : List Str} (h : t.ok nm) {g : Gi} (hg : g ∈ inner t) : ∃ x ∈ nm, g = .table x := by
  obtain ⟨r, hr, hg⟩ := List.mem_flatMap.mp hg
  obtain ⟨hg, ht⟩ := List.mem_filter.mp hg
  have ho := (h.rw r hr).2.2
  have : g.ok nm := by
    cases hr2 : r.2 with
    | one g' => rw [hr2] at hg ho; cases List.mem_singleton.mp hg; exact ho
    | sev gs => rw [hr2] at hg ho; exact ho.2.2 g hg
  cases g with
  | table x => exact ⟨x, this, rfl⟩
  | _ => cases ht
theorem inner_len {t : Tb} {nm : List Str} (h : t.ok nm) : (inner t).length ≤ 8 := by
  have : ∀ rs : List (Int × Gf), (∀ r ∈ rs, r.2.ok nm) → (rs.flatMap fun r => r.2.all.filter Gi.isT).length ≤ 2 * rs.length := by
    intro rs
    induction rs with
    | nil => intro _; simp
    | cons r rs ih =>
      intro h
      have h1 := ih fun r hr => h r (List.mem_cons_of_mem _ hr)
      have h2 : (r.2.all.filter Gi.isT).length ≤ 2 := by
        refine Nat.le_trans (List.length_filter_le _ _) ?_
        have := h r (List.mem_cons_self ..)
        cases hr2 : r.2 with
        | one g' => simp [Gf.all]
        | sev gs => rw [hr2] at this; exact this.2.1
      simp only [List.flatMap_cons, List.length_append, List.length_cons]
      omega
  have := this t.rows fun r hr => (h.rw r hr).2.2
  have := h.hi
  show (t.rows.flatMap fun r => r.2.all.filter Gi.isT).length ≤ 8
  omega
theorem ix1_t (t : Tb) : ixD t.d (.int 1) = some (.tup (t.rows.map rowD)) := by cases t <;> rfl
theorem inner_eq {t : Tb} {nm : List Str} (h : t.ok nm) (w : Wl) : Sa (M_inner_tables [t.d] w) fun d w' => d = .lst ((inner t).map Gi.nmD) ∧ w' = w := by
  simp only [M_inner_tables, F_inner_tables, sa_ok, sa_bind, ss_seq, ss_fin, ss_nx, ss_ret, ss_nil, sa_fn, sa_v0, sa_v1, sa_v2, sa_v3, sa_v4, sa_v5, sa_v6, sa_v7, sa_v8, sa_v9, sa_v10, sa_v11, sa_v12, sa_v13, sa_v14, sa_eCon, sa_lift, sa_liftB, sa_liftL, sa_eOp, sa_eUn, sa_lNil, sa_lCons, sa_eTup, sa_eLst, sa_eBlt, sa_eCall, sa_eIf, sa_eAnd, sa_eOr, sa_bAnd, sa_bOr, sa_bNot, sa_bTru, sa_bVal, sa_eChain, sa_iItems, sa_iRange, sa_iKeys, ss_if, ss_ifG, ss_sret, ss_expr, ss_asg, ss_new, ss_asgT, ss_for, ss_app, ss_put, ss_putP, ss_ext, ss_newP, sa_eDnew, sa_eSl, sa_oNone, sa_oSome, sa_eBM, isB_bl, tru_bl, len_lst, len_tup, len_dic, items_lst, items_tup, Nat.zero_add, Nat.reduceAdd, Nat.reduceSub, Nat.sub_self, Nat.reduceLT, Nat.reduceLeDiff, Nat.le_refl, Nat.zero_le, true_and, List.filter_nil, List.filter_cons, List.contains_cons, List.contains_nil, Nat.reduceBEq, Nat.reduceBNe, Bool.or_false, Bool.false_or, Bool.true_or, Bool.or_true, Bool.not_true, Bool.not_false, Bool.false_eq_true, if_true, if_false, ite_true, ite_false, decide_true, decide_false, wipeE, give, rmv, List.set_cons_zero, List.set_cons_succ, List.set_nil, List.map_cons, List.map_nil, List.length_cons, List.length_nil, List.cons_append, List.nil_append, List.replicate_succ, List.replicate_zero, List.getElem?_cons_zero, List.getElem?_cons_succ, ix1_t]
  have hl := inner_len h
  refine for_inv (fun ds rh ow w' => ∃ rs1 rs2 x2 x3, t.rows = rs1 ++ rs2 ∧ ds = rs2.map rowD ∧ rh = [some t.d, some (.lst ((rs1.flatMap fun r => r.2.all.filter Gi.isT).map Gi.nmD)), x2, x3, none] ∧ ow = [1] ∧ w' = w) ⟨[], t.rows, none, none, rfl, rfl, rfl, rfl, rfl⟩ ?_ ?_
  · rintro d ds rh ow w' ⟨rs1, rs2, x2, x3, e, hd, rfl, rfl, rfl⟩
    cases rs2 with
    | nil => cases hd
    | cons r rs2 =>
      cases hd
      refine ⟨rfl, _, rfl, ?_⟩
      have hro := (h.rw r (by rw [e]; simp)).2.2
      have hlen : ((rs1.flatMap fun r => r.2.all.filter Gi.isT).map Gi.nmD).length < 50000 := by
        unfold inner at hl
        rw [e] at hl
        simp only [List.flatMap_append, List.length_append, List.length_map] at hl ⊢
        omega
      rw [ss_seq, ss_ext (xs := (rs1.flatMap fun r => r.2.all.filter Gi.isT).map Gi.nmD) (ownL_at rfl rfl hlen)]
      simp only [sa_ok, sa_bind, ss_seq, ss_fin, ss_nx, ss_ret, ss_nil, sa_fn, sa_v0, sa_v1, sa_v2, sa_v3, sa_v4, sa_v5, sa_v6, sa_v7, sa_v8, sa_v9, sa_v10, sa_v11, sa_v12, sa_v13, sa_v14, sa_eCon, sa_lift, sa_liftB, sa_liftL, sa_eOp, sa_eUn, sa_lNil, sa_lCons, sa_eTup, sa_eLst, sa_eBlt, sa_eCall, sa_eIf, sa_eAnd, sa_eOr, sa_bAnd, sa_bOr, sa_bNot, sa_bTru, sa_bVal, sa_eChain, sa_iItems, sa_iRange, sa_iKeys, ss_if, ss_ifG, ss_sret, ss_expr, ss_asg, ss_new, ss_asgT, ss_for, ss_app, ss_put, ss_putP, ss_ext, ss_newP, sa_eDnew, sa_eSl, sa_oNone, sa_oSome, sa_eBM, isB_bl, tru_bl, len_lst, len_tup, len_dic, items_lst, items_tup, Nat.zero_add, Nat.reduceAdd, Nat.reduceSub, Nat.sub_self, Nat.reduceLT, Nat.reduceLeDiff, Nat.le_refl, Nat.zero_le, true_and, List.filter_nil, List.filter_cons, List.contains_cons, List.contains_nil, Nat.reduceBEq, Nat.reduceBNe, Bool.or_false, Bool.false_or, Bool.true_or, Bool.or_true, Bool.not_true, Bool.not_false, Bool.false_eq_true, if_true, if_false, ite_true, ite_false, decide_true, decide_false, wipeE, give, rmv, List.set_cons_zero, List.set_cons_succ, List.set_nil, List.map_cons, List.map_nil, List.length_cons, List.length_nil, List.cons_append, List.nil_append, List.replicate_succ, List.replicate_zero, List.getElem?_cons_zero, List.getElem?_cons_succ, sa_eLc, rowD, gifts_eq r.2 hro]
      have hgl : r.2.all.length ≤ 2 := by
        cases hr2 : r.2 with
        | one g' => simp [Gf.all]
        | sev gs => rw [hr2] at hro; exact hro.2.1
      refine ⟨by simp; omega, ?_⟩
      rw [lc_mapf (p := Gi.isT) (g := Gi.nmD) (m := Gi.d) r.2.all [] ?hh, sa_ok]
      case hh =>
        intro g hg
        cases g <;> simp [Gi.d, Gi.isT, Gi.nmD, bVal, eOp, eVar, eCon, Res.bind, lift, liftB, isB, ixD, atI, ixN, e_none_none, n_none_none, e_none_item, n_none_item, e_none_table, n_none_table, e_none_several, n_none_several, e_item_none, n_item_none, e_item_item, n_item_item, e_item_table, n_item_table, e_item_several, n_item_several, e_table_none, n_table_none, e_table_item, n_table_item, e_table_table, n_table_table, e_table_several, n_table_several, e_several_none, n_several_none, e_several_item, n_several_item, e_several_table, n_several_table, e_several_several, n_several_several, e_draw_draw, n_draw_draw, e_draw_bag, n_draw_bag, e_draw_sure, n_draw_sure, e_draw_unlike, n_draw_unlike, e_bag_draw, n_bag_draw, e_bag_bag, n_bag_bag, e_bag_sure, n_bag_sure, e_bag_unlike, n_bag_unlike, e_sure_draw, n_sure_draw, e_sure_bag, n_sure_bag, e_sure_sure, n_sure_sure, e_sure_unlike, n_sure_unlike, e_unlike_draw, n_unlike_draw, e_unlike_bag, n_unlike_bag, e_unlike_sure, n_unlike_sure, e_unlike_unlike, n_unlike_unlike]
      refine ⟨(r.2.all.filter Gi.isT).map Gi.nmD, ?_, rs1 ++ [r], rs2, _, _, by simp [e], rfl, by simp; exact ⟨rfl, rfl⟩, rfl⟩
      show (if _ ≤ 50000 then _ else _) = _
      rw [if_pos]
      · simp
      · have := List.length_filter_le Gi.isT r.2.all
        simp
        omega
  · rintro rh ow w' ⟨rs1, rs2, x2, x3, e, hd, rfl, rfl, rfl⟩
    cases rs2 with
    | nil =>
      simp only [sa_ok, sa_bind, ss_seq, ss_fin, ss_nx, ss_ret, ss_nil, sa_fn, sa_v0, sa_v1, sa_v2, sa_v3, sa_v4, sa_v5, sa_v6, sa_v7, sa_v8, sa_v9, sa_v10, sa_v11, sa_v12, sa_v13, sa_v14, sa_eCon, sa_lift, sa_liftB, sa_liftL, sa_eOp, sa_eUn, sa_lNil, sa_lCons, sa_eTup, sa_eLst, sa_eBlt, sa_eCall, sa_eIf, sa_eAnd, sa_eOr, sa_bAnd, sa_bOr, sa_bNot, sa_bTru, sa_bVal, sa_eChain, sa_iItems, sa_iRange, sa_iKeys, ss_if, ss_ifG, ss_sret, ss_expr, ss_asg, ss_new, ss_asgT, ss_for, ss_app, ss_put, ss_putP, ss_ext, ss_newP, sa_eDnew, sa_eSl, sa_oNone, sa_oSome, sa_eBM, isB_bl, tru_bl, len_lst, len_tup, len_dic, items_lst, items_tup, Nat.zero_add, Nat.reduceAdd, Nat.reduceSub, Nat.sub_self, Nat.reduceLT, Nat.reduceLeDiff, Nat.le_refl, Nat.zero_le, true_and, List.filter_nil, List.filter_cons, List.contains_cons, List.contains_nil, Nat.reduceBEq, Nat.reduceBNe, Bool.or_false, Bool.false_or, Bool.true_or, Bool.or_true, Bool.not_true, Bool.not_false, Bool.false_eq_true, if_true, if_false, ite_true, ite_false, decide_true, decide_false, wipeE, give, rmv, List.set_cons_zero, List.set_cons_succ, List.set_nil, List.map_cons, List.map_nil, List.length_cons, List.length_nil, List.cons_append, List.nil_append, List.replicate_succ, List.replicate_zero, List.getElem?_cons_zero, List.getElem?_cons_succ]
      refine ⟨?_, trivial⟩
      unfold inner
      rw [e, List.append_nil]
    | cons r rs2 => cases hd
theorem sa_eq {A : Type} {r : Res Wl A} {x : A} {w : Wl} : Sa r (fun a w' => a = x ∧ w' = w) ↔ r = .ok x w := by
  constructor
  · rintro ⟨a, w', e, rfl, rfl⟩; exact e
  · intro e; exact ⟨_, _, e, rfl, rfl⟩
def sI (i : Nat) : D := .str (nmI i)
def isin (Dn : List Nat) : Gi → Bool
  | .table x => Dn.any fun j => nmI j == x
  | _ => false
def rdy (t : Nat → Tb) (Dn : List Nat) (i : Nat) : Bool := (inner (t i)).all (isin Dn)
theorem vs_sI : ∀ L : List Nat, vsOf (L.map sI) = some (L.map fun i => V.str (nmI i))
  | [] => rfl
  | a :: L => by
    show (match vOf (sI a), vsOf (L.map sI) with | some p, some ps => some (p :: ps) | _, _ => none) = _
    rw [vs_sI L]; rfl
theorem in_sI (x : Str) (L : List Nat) : inB (.str x) (.lst (L.map sI)) = some (L.any fun j => nmI j == x) := by
  show (match vOf (.str x), vsOf (L.map sI) with | some v, some vs => some (inV v vs) | _, _ => none) = _
  rw [vs_sI]
  simp only [vOf, inV, List.any_map]
  rfl
theorem mem_nms {x : Str} {i : Nat} (h : x ∈ nms i) : ∃ j, j < i ∧ x = nmI j := by
  obtain ⟨j, hj, rfl⟩ := List.mem_map.mp h
  exact ⟨j, List.mem_range.mp hj, rfl⟩
theorem ix_bk {m : Nat} {t : Nat → Tb} {kvs : List (Key × D)} (hb : BookOk m t kvs) {i : Nat} (hi : i < m) : ixD (.dic kvs) (sI i) = some (t i).d := hb.get i hi
theorem imms_sI (L : List Nat) : imms (L.map sI) = true := imms_map _ (fun _ => rfl) L
def riseB : SS Wl := (sSeq (sNewP 3 (eLc (G.iItems (eVar 2)) (Tg.nm 4) (bTru (eBlt allD (lCons (eLc (G.iItems (eCall M_inner_tables (lCons (eOp ixD (eVar 0) (eVar 4)) lNil))) (Tg.nm 5) bYes (eOp inD (eVar 5) (eVar 1)) [5]) lNil))) (eVar 4) [4])) (sSeq (sIf (bNot (bTru (eVar 3))) (sSeq (sRet (eCon (.bl false))) sNil) sNil) (sSeq (sExt 1 (eVar 3) [3]) (sSeq (sAsg 2 (eLc (G.iItems (eVar 2)) (Tg.nm 4) (bVal (eOp notInD (eVar 4) (eVar 3))) (eVar 4) [4]) [2, 3, 4]) sNil))))
theorem rise_step {m : Nat} {t : Nat → Tb} {kvs : List (Key × D)} (hb : BookOk m t kvs) (w : Wl) (R : D → Wl → Prop) (L Dn ready : List Nat) (x3 x4 x5 : Option D) (hm : ∀ i ∈ L, i < m) (h3 : L.length ≤ 3) (h9 : Dn.length ≤ 9) (hr : ready = L.filter (rdy t Dn)) (hne : ready ≠ []) :
    Ss (riseB [some (.dic kvs), some (.lst (Dn.map sI)), some (.lst (L.map sI)), x3, x4, x5] [1] w) (fun rh ow w' => ∃ x3 x4, rh = [some (.dic kvs), some (.lst ((Dn ++ ready).map sI)), some (.lst ((L.filter fun i => !(ready.any fun j => nmI j == nmI i)).map sI)), x3, x4, x5] ∧ ow = [1] ∧ w' = w) R := by
  have tt : ∀ (x3 x5 : Option D) (i : Nat), i ∈ L → bTru (eBlt allD (lCons (eLc (G.iItems (eCall M_inner_tables (lCons (eOp ixD (eVar 0) (eVar 4)) lNil))) (Tg.nm 5) bYes (eOp inD (eVar 5) (eVar 1)) [5]) lNil)) [some (.dic kvs), some (.lst (Dn.map sI)), some (.lst (L.map sI)), x3, some (sI i), x5] w = .ok (rdy t Dn i) w := by
    intro x3 x5 i hi
    refine sa_eq.mp ?_
    simp only [sa_ok, sa_bind, ss_seq, ss_fin, ss_nx, ss_ret, ss_nil, sa_fn, sa_v0, sa_v1, sa_v2, sa_v3, sa_v4, sa_v5, sa_v6, sa_v7, sa_v8, sa_v9, sa_v10, sa_v11, sa_v12, sa_v13, sa_v14, sa_eCon, sa_lift, sa_liftB, sa_liftL, sa_eOp, sa_eUn, sa_lNil, sa_lCons, sa_eTup, sa_eLst, sa_eBlt, sa_eCall, sa_eIf, sa_eAnd, sa_eOr, sa_bAnd, sa_bOr, sa_bNot, sa_bTru, sa_bVal, sa_eChain, sa_iItems, sa_iRange, sa_iKeys, ss_if, ss_ifG, ss_sret, ss_expr, ss_asg, ss_new, ss_asgT, ss_for, ss_app, ss_put, ss_putP, ss_ext, ss_newP, sa_eDnew, sa_eSl, sa_oNone, sa_oSome, sa_eBM, isB_bl, tru_bl, len_lst, len_tup, len_dic, items_lst, items_tup, Nat.zero_add, Nat.reduceAdd, Nat.reduceSub, Nat.sub_self, Nat.reduceLT, Nat.reduceLeDiff, Nat.le_refl, Nat.zero_le, true_and, List.filter_nil, List.filter_cons, List.contains_cons, List.contains_nil, Nat.reduceBEq, Nat.reduceBNe, Bool.or_false, Bool.false_or, Bool.true_or, Bool.or_true, Bool.not_true, Bool.not_false, Bool.false_eq_true, if_true, if_false, ite_true, ite_false, decide_true, decide_false, wipeE, give, rmv, List.set_cons_zero, List.set_cons_succ, List.set_nil, List.map_cons, List.map_nil, List.length_cons, List.length_nil, List.cons_append, List.nil_append, List.replicate_succ, List.replicate_zero, List.getElem?_cons_zero, List.getElem?_cons_succ, sa_eLc, ix_bk hb (hm i hi)]
    refine (inner_eq (hb.tok i (hm i hi)) w).mono ?_
    rintro _ _ ⟨rfl, rfl⟩
    simp only [sa_ok, sa_bind, ss_seq, ss_fin, ss_nx, ss_ret, ss_nil, sa_fn, sa_v0, sa_v1, sa_v2, sa_v3, sa_v4, sa_v5, sa_v6, sa_v7, sa_v8, sa_v9, sa_v10, sa_v11, sa_v12, sa_v13, sa_v14, sa_eCon, sa_lift, sa_liftB, sa_liftL, sa_eOp, sa_eUn, sa_lNil, sa_lCons, sa_eTup, sa_eLst, sa_eBlt, sa_eCall, sa_eIf, sa_eAnd, sa_eOr, sa_bAnd, sa_bOr, sa_bNot, sa_bTru, sa_bVal, sa_eChain, sa_iItems, sa_iRange, sa_iKeys, ss_if, ss_ifG, ss_sret, ss_expr, ss_asg, ss_new, ss_asgT, ss_for, ss_app, ss_put, ss_putP, ss_ext, ss_newP, sa_eDnew, sa_eSl, sa_oNone, sa_oSome, sa_eBM, isB_bl, tru_bl, len_lst, len_tup, len_dic, items_lst, items_tup, Nat.zero_add, Nat.reduceAdd, Nat.reduceSub, Nat.sub_self, Nat.reduceLT, Nat.reduceLeDiff, Nat.le_refl, Nat.zero_le, true_and, List.filter_nil, List.filter_cons, List.contains_cons, List.contains_nil, Nat.reduceBEq, Nat.reduceBNe, Bool.or_false, Bool.false_or, Bool.true_or, Bool.or_true, Bool.not_true, Bool.not_false, Bool.false_eq_true, if_true, if_false, ite_true, ite_false, decide_true, decide_false, wipeE, give, rmv, List.set_cons_zero, List.set_cons_succ, List.set_nil, List.map_cons, List.map_nil, List.length_cons, List.length_nil, List.cons_append, List.nil_append, List.replicate_succ, List.replicate_zero, List.getElem?_cons_zero, List.getElem?_cons_succ]
    have hl := inner_len (hb.tok i (hm i hi))
    refine ⟨by simp; omega, ?_⟩
    rw [lc_map (g := fun g => .bl (isin Dn g)) (m := Gi.nmD) (inner (t i)) [] ?hh, sa_ok]
    case hh =>
      intro g hg
      obtain ⟨x, hx, rfl⟩ := inner_mem (hb.tok i (hm i hi)) hg
      simp [Gi.nmD, eOp, eVar, Res.bind, lift, inD, in_sI, isin]
    simp only [sa_ok, sa_bind, ss_seq, ss_fin, ss_nx, ss_ret, ss_nil, sa_fn, sa_v0, sa_v1, sa_v2, sa_v3, sa_v4, sa_v5, sa_v6, sa_v7, sa_v8, sa_v9, sa_v10, sa_v11, sa_v12, sa_v13, sa_v14, sa_eCon, sa_lift, sa_liftB, sa_liftL, sa_eOp, sa_eUn, sa_lNil, sa_lCons, sa_eTup, sa_eLst, sa_eBlt, sa_eCall, sa_eIf, sa_eAnd, sa_eOr, sa_bAnd, sa_bOr, sa_bNot, sa_bTru, sa_bVal, sa_eChain, sa_iItems, sa_iRange, sa_iKeys, ss_if, ss_ifG, ss_sret, ss_expr, ss_asg, ss_new, ss_asgT, ss_for, ss_app, ss_put, ss_putP, ss_ext, ss_newP, sa_eDnew, sa_eSl, sa_oNone, sa_oSome, sa_eBM, isB_bl, tru_bl, len_lst, len_tup, len_dic, items_lst, items_tup, Nat.zero_add, Nat.reduceAdd, Nat.reduceSub, Nat.sub_self, Nat.reduceLT, Nat.reduceLeDiff, Nat.le_refl, Nat.zero_le, true_and, List.filter_nil, List.filter_cons, List.contains_cons, List.contains_nil, Nat.reduceBEq, Nat.reduceBNe, Bool.or_false, Bool.false_or, Bool.true_or, Bool.or_true, Bool.not_true, Bool.not_false, Bool.false_eq_true, if_true, if_false, ite_true, ite_false, decide_true, decide_false, wipeE, give, rmv, List.set_cons_zero, List.set_cons_succ, List.set_nil, List.map_cons, List.map_nil, List.length_cons, List.length_nil, List.cons_append, List.nil_append, List.replicate_succ, List.replicate_zero, List.getElem?_cons_zero, List.getElem?_cons_succ, all_bl]
    exact ⟨rfl, trivial⟩
  have he : (ready.map sI).isEmpty = false := by
    cases ready with
    | nil => exact absurd rfl hne
    | cons a b => rfl
  have hrl : ready.length ≤ 3 := by rw [hr]; exact Nat.le_trans (List.length_filter_le _ _) h3
  unfold riseB
  rw [ss_seq, ss_newP (by simp)]
  simp only [sa_ok, sa_bind, ss_seq, ss_fin, ss_nx, ss_ret, ss_nil, sa_fn, sa_v0, sa_v1, sa_v2, sa_v3, sa_v4, sa_v5, sa_v6, sa_v7, sa_v8, sa_v9, sa_v10, sa_v11, sa_v12, sa_v13, sa_v14, sa_eCon, sa_lift, sa_liftB, sa_liftL, sa_eOp, sa_eUn, sa_lNil, sa_lCons, sa_eTup, sa_eLst, sa_eBlt, sa_eCall, sa_eIf, sa_eAnd, sa_eOr, sa_bAnd, sa_bOr, sa_bNot, sa_bTru, sa_bVal, sa_eChain, sa_iItems, sa_iRange, sa_iKeys, ss_if, ss_ifG, ss_sret, ss_expr, ss_asg, ss_new, ss_asgT, ss_for, ss_app, ss_put, ss_putP, ss_ext, ss_newP, sa_eDnew, sa_eSl, sa_oNone, sa_oSome, sa_eBM, isB_bl, tru_bl, len_lst, len_tup, len_dic, items_lst, items_tup, Nat.zero_add, Nat.reduceAdd, Nat.reduceSub, Nat.sub_self, Nat.reduceLT, Nat.reduceLeDiff, Nat.le_refl, Nat.zero_le, true_and, List.filter_nil, List.filter_cons, List.contains_cons, List.contains_nil, Nat.reduceBEq, Nat.reduceBNe, Bool.or_false, Bool.false_or, Bool.true_or, Bool.or_true, Bool.not_true, Bool.not_false, Bool.false_eq_true, if_true, if_false, ite_true, ite_false, decide_true, decide_false, wipeE, give, rmv, List.set_cons_zero, List.set_cons_succ, List.set_nil, List.map_cons, List.map_nil, List.length_cons, List.length_nil, List.cons_append, List.nil_append, List.replicate_succ, List.replicate_zero, List.getElem?_cons_zero, List.getElem?_cons_succ, sa_eLc]
  refine ⟨by simp; omega, ?_⟩
  rw [lc_mapf (p := rdy t Dn) (g := sI) (m := sI) L [] ?hh, sa_ok]
  case hh =>
    intro i hi
    exact ⟨tt _ _ i hi, fun _ => rfl⟩
  rw [List.nil_append, ← hr]
  refine ⟨_, rfl, imms_sI _, ?_⟩
  simp only [sa_ok, sa_bind, ss_seq, ss_fin, ss_nx, ss_ret, ss_nil, sa_fn, sa_v0, sa_v1, sa_v2, sa_v3, sa_v4, sa_v5, sa_v6, sa_v7, sa_v8, sa_v9, sa_v10, sa_v11, sa_v12, sa_v13, sa_v14, sa_eCon, sa_lift, sa_liftB, sa_liftL, sa_eOp, sa_eUn, sa_lNil, sa_lCons, sa_eTup, sa_eLst, sa_eBlt, sa_eCall, sa_eIf, sa_eAnd, sa_eOr, sa_bAnd, sa_bOr, sa_bNot, sa_bTru, sa_bVal, sa_eChain, sa_iItems, sa_iRange, sa_iKeys, ss_if, ss_ifG, ss_sret, ss_expr, ss_asg, ss_new, ss_asgT, ss_for, ss_app, ss_put, ss_putP, ss_ext, ss_newP, sa_eDnew, sa_eSl, sa_oNone, sa_oSome, sa_eBM, isB_bl, tru_bl, len_lst, len_tup, len_dic, items_lst, items_tup, Nat.zero_add, Nat.reduceAdd, Nat.reduceSub, Nat.sub_self, Nat.reduceLT, Nat.reduceLeDiff, Nat.le_refl, Nat.zero_le, true_and, List.filter_nil, List.filter_cons, List.contains_cons, List.contains_nil, Nat.reduceBEq, Nat.reduceBNe, Bool.or_false, Bool.false_or, Bool.true_or, Bool.or_true, Bool.not_true, Bool.not_false, Bool.false_eq_true, if_true, if_false, ite_true, ite_false, decide_true, decide_false, wipeE, give, rmv, List.set_cons_zero, List.set_cons_succ, List.set_nil, List.map_cons, List.map_nil, List.length_cons, List.length_nil, List.cons_append, List.nil_append, List.replicate_succ, List.replicate_zero, List.getElem?_cons_zero, List.getElem?_cons_succ, truD, he]
  rw [ss_ext (xs := Dn.map sI) (ownL_at rfl rfl (by simp; omega))]
  simp only [sa_ok, sa_bind, ss_seq, ss_fin, ss_nx, ss_ret, ss_nil, sa_fn, sa_v0, sa_v1, sa_v2, sa_v3, sa_v4, sa_v5, sa_v6, sa_v7, sa_v8, sa_v9, sa_v10, sa_v11, sa_v12, sa_v13, sa_v14, sa_eCon, sa_lift, sa_liftB, sa_liftL, sa_eOp, sa_eUn, sa_lNil, sa_lCons, sa_eTup, sa_eLst, sa_eBlt, sa_eCall, sa_eIf, sa_eAnd, sa_eOr, sa_bAnd, sa_bOr, sa_bNot, sa_bTru, sa_bVal, sa_eChain, sa_iItems, sa_iRange, sa_iKeys, ss_if, ss_ifG, ss_sret, ss_expr, ss_asg, ss_new, ss_asgT, ss_for, ss_app, ss_put, ss_putP, ss_ext, ss_newP, sa_eDnew, sa_eSl, sa_oNone, sa_oSome, sa_eBM, isB_bl, tru_bl, len_lst, len_tup, len_dic, items_lst, items_tup, Nat.zero_add, Nat.reduceAdd, Nat.reduceSub, Nat.sub_self, Nat.reduceLT, Nat.reduceLeDiff, Nat.le_refl, Nat.zero_le, true_and, List.filter_nil, List.filter_cons, List.contains_cons, List.contains_nil, Nat.reduceBEq, Nat.reduceBNe, Bool.or_false, Bool.false_or, Bool.true_or, Bool.or_true, Bool.not_true, Bool.not_false, Bool.false_eq_true, if_true, if_false, ite_true, ite_false, decide_true, decide_false, wipeE, give, rmv, List.set_cons_zero, List.set_cons_succ, List.set_nil, List.map_cons, List.map_nil, List.length_cons, List.length_nil, List.cons_append, List.nil_append, List.replicate_succ, List.replicate_zero, List.getElem?_cons_zero, List.getElem?_cons_succ, sa_eLc]
  refine ⟨ready.map sI, ?_, by simp; omega, ?_⟩
  · show (if _ ≤ 50000 then _ else _) = _
    rw [if_pos (by simp; omega)]
  rw [lc_mapf (p := fun i => !(ready.any fun j => nmI j == nmI i)) (g := sI) (m := sI) L [] ?hh, sa_ok]
  case hh =>
    intro i hi
    refine ⟨?_, fun _ => rfl⟩
    have := in_sI (nmI i) ready
    simp [bVal, eOp, eVar, Res.bind, lift, liftB, isB, notInD, sI] at this ⊢
    rw [this]
    rfl
  exact ⟨_, _, by rw [List.map_append]; rfl, rfl⟩
theorem rise_loop {m : Nat} {t : Nat → Tb} {kvs : List (Key × D)} (hb : BookOk m t kvs) (w : Wl) (R : D → Wl → Prop) : ∀ (f : Nat) (L Dn : List Nat) (x3 x4 x5 : Option D), L.length < f → L.Pairwise (· < ·) → (∀ i ∈ L, i < m) → (∀ j, j < m → (∃ d ∈ Dn, nmI d = nmI j) ∨ j ∈ L) → L.length ≤ 3 → Dn.length + 3 * L.length ≤ 9 →
    Ss (whileD (bTru (eVar 2)) riseB f [some (.dic kvs), some (.lst (Dn.map sI)), some (.lst (L.map sI)), x3, x4, x5] [1] w) (fun _ _ w' => w' = w) R
  | 0, L, Dn, _, _, _, h, _, _, _, _, _ => by omega
  | f + 1, L, Dn, x3, x4, x5, hf, hp, hm, hc, h3, h9 => by
    rw [ss_while]
    by_cases hL : L = []
    · subst hL
      simp only [sa_ok, sa_bind, ss_seq, ss_fin, ss_nx, ss_ret, ss_nil, sa_fn, sa_v0, sa_v1, sa_v2, sa_v3, sa_v4, sa_v5, sa_v6, sa_v7, sa_v8, sa_v9, sa_v10, sa_v11, sa_v12, sa_v13, sa_v14, sa_eCon, sa_lift, sa_liftB, sa_liftL, sa_eOp, sa_eUn, sa_lNil, sa_lCons, sa_eTup, sa_eLst, sa_eBlt, sa_eCall, sa_eIf, sa_eAnd, sa_eOr, sa_bAnd, sa_bOr, sa_bNot, sa_bTru, sa_bVal, sa_eChain, sa_iItems, sa_iRange, sa_iKeys, ss_if, ss_ifG, ss_sret, ss_expr, ss_asg, ss_new, ss_asgT, ss_for, ss_app, ss_put, ss_putP, ss_ext, ss_newP, sa_eDnew, sa_eSl, sa_oNone, sa_oSome, sa_eBM, isB_bl, tru_bl, len_lst, len_tup, len_dic, items_lst, items_tup, Nat.zero_add, Nat.reduceAdd, Nat.reduceSub, Nat.sub_self, Nat.reduceLT, Nat.reduceLeDiff, Nat.le_refl, Nat.zero_le, true_and, List.filter_nil, List.filter_cons, List.contains_cons, List.contains_nil, Nat.reduceBEq, Nat.reduceBNe, Bool.or_false, Bool.false_or, Bool.true_or, Bool.or_true, Bool.not_true, Bool.not_false, Bool.false_eq_true, if_true, if_false, ite_true, ite_false, decide_true, decide_false, wipeE, give, rmv, List.set_cons_zero, List.set_cons_succ, List.set_nil, List.map_cons, List.map_nil, List.length_cons, List.length_nil, List.cons_append, List.nil_append, List.replicate_succ, List.replicate_zero, List.getElem?_cons_zero, List.getElem?_cons_succ, truD, List.isEmpty_nil]
    · have he : (L.map sI).isEmpty = false := by
        cases L with
        | nil => exact absurd rfl hL
        | cons a b => rfl
      simp only [sa_ok, sa_bind, ss_seq, ss_fin, ss_nx, ss_ret, ss_nil, sa_fn, sa_v0, sa_v1, sa_v2, sa_v3, sa_v4, sa_v5, sa_v6, sa_v7, sa_v8, sa_v9, sa_v10, sa_v11, sa_v12, sa_v13, sa_v14, sa_eCon, sa_lift, sa_liftB, sa_liftL, sa_eOp, sa_eUn, sa_lNil, sa_lCons, sa_eTup, sa_eLst, sa_eBlt, sa_eCall, sa_eIf, sa_eAnd, sa_eOr, sa_bAnd, sa_bOr, sa_bNot, sa_bTru, sa_bVal, sa_eChain, sa_iItems, sa_iRange, sa_iKeys, ss_if, ss_ifG, ss_sret, ss_expr, ss_asg, ss_new, ss_asgT, ss_for, ss_app, ss_put, ss_putP, ss_ext, ss_newP, sa_eDnew, sa_eSl, sa_oNone, sa_oSome, sa_eBM, isB_bl, tru_bl, len_lst, len_tup, len_dic, items_lst, items_tup, Nat.zero_add, Nat.reduceAdd, Nat.reduceSub, Nat.sub_self, Nat.reduceLT, Nat.reduceLeDiff, Nat.le_refl, Nat.zero_le, true_and, List.filter_nil, List.filter_cons, List.contains_cons, List.contains_nil, Nat.reduceBEq, Nat.reduceBNe, Bool.or_false, Bool.false_or, Bool.true_or, Bool.or_true, Bool.not_true, Bool.not_false, Bool.false_eq_true, if_true, if_false, ite_true, ite_false, decide_true, decide_false, wipeE, give, rmv, List.set_cons_zero, List.set_cons_succ, List.set_nil, List.map_cons, List.map_nil, List.length_cons, List.length_nil, List.cons_append, List.nil_append, List.replicate_succ, List.replicate_zero, List.getElem?_cons_zero, List.getElem?_cons_succ, truD, he]
      obtain ⟨i0, L1, hL1⟩ := List.exists_cons_of_ne_nil hL
      have hi0 : i0 ∈ L := by rw [hL1]; exact List.mem_cons_self ..
      have hr0 : rdy t Dn i0 = true := by
        refine List.all_eq_true.mpr fun g hg => ?_
        obtain ⟨x, hx, rfl⟩ := inner_mem (hb.tok i0 (hm i0 hi0)) hg
        obtain ⟨j, hj, rfl⟩ := mem_nms hx
        have hm0 := hm i0 hi0
        rcases hc j (by omega) with ⟨d, hd, e⟩ | hj2
        · exact List.any_eq_true.mpr ⟨d, hd, by simp [e]⟩
        · exfalso
          rw [hL1] at hj2 hp
          rcases List.mem_cons.mp hj2 with rfl | hj2
          · omega
          · have := (List.pairwise_cons.mp hp).1 j hj2
            omega
      have hir : i0 ∈ L.filter (rdy t Dn) := List.mem_filter.mpr ⟨hi0, hr0⟩
      refine ss_next ((rise_step hb w R L Dn (L.filter (rdy t Dn)) x3 x4 x5 hm h3 (by omega) rfl (List.ne_nil_of_mem hir)).mono ?_ fun _ _ h => h)
      rintro rh ow w' ⟨y3, y4, rfl, rfl, rfl⟩
      have hlt : (L.filter fun i => !((L.filter (rdy t Dn)).any fun j => nmI j == nmI i)).length < L.length := by
        refine List.length_filter_lt_length_iff_exists.mpr ⟨i0, hi0, ?_⟩
        have : ((L.filter (rdy t Dn)).any fun j => nmI j == nmI i0) = true := List.any_eq_true.mpr ⟨i0, hir, by simp⟩
        simp only [this]
        decide
      have hrl := List.length_filter_le (rdy t Dn) L
      refine rise_loop hb w' R f _ _ _ _ _ (by omega) (hp.filter _) (fun i hi => hm i (List.mem_filter.mp hi).1) ?_ (by omega) (by simp only [List.length_append]; omega)
      intro j hj
      rcases hc j hj with ⟨d, hd, e⟩ | hj2
      · exact .inl ⟨d, List.mem_append_left _ hd, e⟩
      · cases hq : ((L.filter (rdy t Dn)).any fun z => nmI z == nmI j) with
        | true =>
          obtain ⟨z, hz, e⟩ := List.any_eq_true.mp hq
          exact .inl ⟨z, List.mem_append_right _ hz, by simpa using e⟩
        | false => exact .inr (List.mem_filter.mpr ⟨hj2, by rw [hq]; rfl⟩)
theorem rising_ok {m : Nat} {t : Nat → Tb} {kvs : List (Key × D)} (hb : BookOk m t kvs) (w : Wl) : M_is_rising [.dic kvs] w = .ok (.bl true) w := by
  refine sa_eq.mp ?_
  have e1 : keysD (.dic kvs) = some (.kys (kvs.map (·.1))) := rfl
  simp only [M_is_rising, F_is_rising, sa_ok, sa_bind, ss_seq, ss_fin, ss_nx, ss_ret, ss_nil, sa_fn, sa_v0, sa_v1, sa_v2, sa_v3, sa_v4, sa_v5, sa_v6, sa_v7, sa_v8, sa_v9, sa_v10, sa_v11, sa_v12, sa_v13, sa_v14, sa_eCon, sa_lift, sa_liftB, sa_liftL, sa_eOp, sa_eUn, sa_lNil, sa_lCons, sa_eTup, sa_eLst, sa_eBlt, sa_eCall, sa_eIf, sa_eAnd, sa_eOr, sa_bAnd, sa_bOr, sa_bNot, sa_bTru, sa_bVal, sa_eChain, sa_iItems, sa_iRange, sa_iKeys, ss_if, ss_ifG, ss_sret, ss_expr, ss_asg, ss_new, ss_asgT, ss_for, ss_app, ss_put, ss_putP, ss_ext, ss_newP, sa_eDnew, sa_eSl, sa_oNone, sa_oSome, sa_eBM, isB_bl, tru_bl, len_lst, len_tup, len_dic, items_lst, items_tup, Nat.zero_add, Nat.reduceAdd, Nat.reduceSub, Nat.sub_self, Nat.reduceLT, Nat.reduceLeDiff, Nat.le_refl, Nat.zero_le, true_and, List.filter_nil, List.filter_cons, List.contains_cons, List.contains_nil, Nat.reduceBEq, Nat.reduceBNe, Bool.or_false, Bool.false_or, Bool.true_or, Bool.or_true, Bool.not_true, Bool.not_false, Bool.false_eq_true, if_true, if_false, ite_true, ite_false, decide_true, decide_false, wipeE, give, rmv, List.set_cons_zero, List.set_cons_succ, List.set_nil, List.map_cons, List.map_nil, List.length_cons, List.length_nil, List.cons_append, List.nil_append, List.replicate_succ, List.replicate_zero, List.getElem?_cons_zero, List.getElem?_cons_succ, e1, hb.srt]
  have h1 := hb.hi
  have e2 : (nms m).map D.str = (List.range m).map sI := by simp [nms, sI]
  rw [e2]
  refine (rise_loop hb w _ 100 (List.range m) [] none none none (by simp; omega) List.pairwise_lt_range (by simp) ?_ (by simp; omega) (by simp; omega)).mono ?_ fun _ _ h => h
  · intro j hj; exact .inr (List.mem_range.mpr hj)
  · rintro rh ow w' rfl
    simp only [sa_ok, sa_bind, ss_seq, ss_fin, ss_nx, ss_ret, ss_nil, sa_fn, sa_v0, sa_v1, sa_v2, sa_v3, sa_v4, sa_v5, sa_v6, sa_v7, sa_v8, sa_v9, sa_v10, sa_v11, sa_v12, sa_v13, sa_v14, sa_eCon, sa_lift, sa_liftB, sa_liftL, sa_eOp, sa_eUn, sa_lNil, sa_lCons, sa_eTup, sa_eLst, sa_eBlt, sa_eCall, sa_eIf, sa_eAnd, sa_eOr, sa_bAnd, sa_bOr, sa_bNot, sa_bTru, sa_bVal, sa_eChain, sa_iItems, sa_iRange, sa_iKeys, ss_if, ss_ifG, ss_sret, ss_expr, ss_asg, ss_new, ss_asgT, ss_for, ss_app, ss_put, ss_putP, ss_ext, ss_newP, sa_eDnew, sa_eSl, sa_oNone, sa_oSome, sa_eBM, isB_bl, tru_bl, len_lst, len_tup, len_dic, items_lst, items_tup, Nat.zero_add, Nat.reduceAdd, Nat.reduceSub, Nat.sub_self, Nat.reduceLT, Nat.reduceLeDiff, Nat.le_refl, Nat.zero_le, true_and, List.filter_nil, List.filter_cons, List.contains_cons, List.contains_nil, Nat.reduceBEq, Nat.reduceBNe, Bool.or_false, Bool.false_or, Bool.true_or, Bool.or_true, Bool.not_true, Bool.not_false, Bool.false_eq_true, if_true, if_false, ite_true, ite_false, decide_true, decide_false, wipeE, give, rmv, List.set_cons_zero, List.set_cons_succ, List.set_nil, List.map_cons, List.map_nil, List.length_cons, List.length_nil, List.cons_append, List.nil_append, List.replicate_succ, List.replicate_zero, List.getElem?_cons_zero, List.getElem?_cons_succ]
theorem isi_dd (kvs : List (Key × D)) : isiD CsL [.dic kvs, .ty "dict"] = some (.bl true) := by
  show (kitB "dict" "dict").map D.bl = _
  rw [k5]; rfl
theorem isi_ss (x : Str) : isiD CsL [.str x, .ty "str"] = some (.bl true) := by
  show (kitB "str" "str").map D.bl = _
  rw [k3]; rfl
theorem word_nmI (i : Nat) : wordB (nmI i) = true := by
  match i with
  | 0 => decide +kernel
  | 1 => decide +kernel
  | n + 2 => show wordB "chest" = true; decide +kernel
theorem word_nms (i : Nat) : ∀ x ∈ nms i, wordB x = true := by
  intro x hx
  obtain ⟨j, _, rfl⟩ := mem_nms hx
  exact word_nmI j
theorem key_mem {m : Nat} {t : Nat → Tb} {kvs : List (Key × D)} (hb : BookOk m t kvs) : ∀ d ∈ kvs.map (fun kv => keyD kv.1), ∃ i, i < m ∧ d = sI i := by
  intro d hd
  obtain ⟨kv, hkv, rfl⟩ := List.mem_map.mp hd
  obtain ⟨i, hi, e⟩ := hb.key kv hkv
  exact ⟨i, hi, by rw [e]; rfl⟩
theorem look_ok {m : Nat} {t : Nat → Tb} {kvs : List (Key × D)} (hb : BookOk m t kvs) (w : Wl) : M_look_book [.dic kvs] w = .ok .non w := by
  refine sa_eq.mp ?_
  have h1 : (1 : Int) ≤ kvs.length := by have := hb.len; have := hb.lo; omega
  have h2 : (kvs.length : Int) ≤ 4 := by have := hb.len; have := hb.hi; omega
  have e1 : keysL (.dic kvs) = some (kvs.map fun kv => keyD kv.1) := rfl
  have hk := key_mem hb
  simp only [M_look_book, F_look_book, sa_ok, sa_bind, ss_seq, ss_fin, ss_nx, ss_ret, ss_nil, sa_fn, sa_v0, sa_v1, sa_v2, sa_v3, sa_v4, sa_v5, sa_v6, sa_v7, sa_v8, sa_v9, sa_v10, sa_v11, sa_v12, sa_v13, sa_v14, sa_eCon, sa_lift, sa_liftB, sa_liftL, sa_eOp, sa_eUn, sa_lNil, sa_lCons, sa_eTup, sa_eLst, sa_eBlt, sa_eCall, sa_eIf, sa_eAnd, sa_eOr, sa_bAnd, sa_bOr, sa_bNot, sa_bTru, sa_bVal, sa_eChain, sa_iItems, sa_iRange, sa_iKeys, ss_if, ss_ifG, ss_sret, ss_expr, ss_asg, ss_new, ss_asgT, ss_for, ss_app, ss_put, ss_putP, ss_ext, ss_newP, sa_eDnew, sa_eSl, sa_oNone, sa_oSome, sa_eBM, isB_bl, tru_bl, len_lst, len_tup, len_dic, items_lst, items_tup, Nat.zero_add, Nat.reduceAdd, Nat.reduceSub, Nat.sub_self, Nat.reduceLT, Nat.reduceLeDiff, Nat.le_refl, Nat.zero_le, true_and, List.filter_nil, List.filter_cons, List.contains_cons, List.contains_nil, Nat.reduceBEq, Nat.reduceBNe, Bool.or_false, Bool.false_or, Bool.true_or, Bool.or_true, Bool.not_true, Bool.not_false, Bool.false_eq_true, if_true, if_false, ite_true, ite_false, decide_true, decide_false, wipeE, give, rmv, List.set_cons_zero, List.set_cons_succ, List.set_nil, List.map_cons, List.map_nil, List.length_cons, List.length_nil, List.cons_append, List.nil_append, List.replicate_succ, List.replicate_zero, List.getElem?_cons_zero, List.getElem?_cons_succ, isi_dd, cmpI, h1, h2, e1]
  generalize kvs.map (fun kv => keyD kv.1) = ks at hk
  refine for_inv (fun ds rh ow w' => (∀ d ∈ ds, ∃ i, i < m ∧ d = sI i) ∧ ∃ x1 x2, rh = [some (.dic kvs), x1, x2] ∧ ow = [] ∧ w' = w) ⟨hk, none, none, rfl, rfl, rfl⟩ ?_ ?_
  · rintro d ds rh ow w' ⟨hd, x1, x2, rfl, rfl, rfl⟩
    obtain ⟨i, hi, rfl⟩ := hd _ (List.mem_cons_self ..)
    refine ⟨rfl, _, rfl, ?_⟩
    have hw : M_is_word [sI i] w' = .ok (.bl true) w' := word_ok (word_nmI i) w'
    simp only [sa_ok, sa_bind, ss_seq, ss_fin, ss_nx, ss_ret, ss_nil, sa_fn, sa_v0, sa_v1, sa_v2, sa_v3, sa_v4, sa_v5, sa_v6, sa_v7, sa_v8, sa_v9, sa_v10, sa_v11, sa_v12, sa_v13, sa_v14, sa_eCon, sa_lift, sa_liftB, sa_liftL, sa_eOp, sa_eUn, sa_lNil, sa_lCons, sa_eTup, sa_eLst, sa_eBlt, sa_eCall, sa_eIf, sa_eAnd, sa_eOr, sa_bAnd, sa_bOr, sa_bNot, sa_bTru, sa_bVal, sa_eChain, sa_iItems, sa_iRange, sa_iKeys, ss_if, ss_ifG, ss_sret, ss_expr, ss_asg, ss_new, ss_asgT, ss_for, ss_app, ss_put, ss_putP, ss_ext, ss_newP, sa_eDnew, sa_eSl, sa_oNone, sa_oSome, sa_eBM, isB_bl, tru_bl, len_lst, len_tup, len_dic, items_lst, items_tup, Nat.zero_add, Nat.reduceAdd, Nat.reduceSub, Nat.sub_self, Nat.reduceLT, Nat.reduceLeDiff, Nat.le_refl, Nat.zero_le, true_and, List.filter_nil, List.filter_cons, List.contains_cons, List.contains_nil, Nat.reduceBEq, Nat.reduceBNe, Bool.or_false, Bool.false_or, Bool.true_or, Bool.or_true, Bool.not_true, Bool.not_false, Bool.false_eq_true, if_true, if_false, ite_true, ite_false, decide_true, decide_false, wipeE, give, rmv, List.set_cons_zero, List.set_cons_succ, List.set_nil, List.map_cons, List.map_nil, List.length_cons, List.length_nil, List.cons_append, List.nil_append, List.replicate_succ, List.replicate_zero, List.getElem?_cons_zero, List.getElem?_cons_succ, hw, ix_bk hb hi, table_ok (word_nms i) (hb.tok i hi)]
    exact ⟨fun d h => hd d (List.mem_cons_of_mem _ h), _, _, rfl, trivial⟩
  · rintro rh ow w' ⟨_, x1, x2, rfl, rfl, rfl⟩
    simp only [sa_ok, sa_bind, ss_seq, ss_fin, ss_nx, ss_ret, ss_nil, sa_fn, sa_v0, sa_v1, sa_v2, sa_v3, sa_v4, sa_v5, sa_v6, sa_v7, sa_v8, sa_v9, sa_v10, sa_v11, sa_v12, sa_v13, sa_v14, sa_eCon, sa_lift, sa_liftB, sa_liftL, sa_eOp, sa_eUn, sa_lNil, sa_lCons, sa_eTup, sa_eLst, sa_eBlt, sa_eCall, sa_eIf, sa_eAnd, sa_eOr, sa_bAnd, sa_bOr, sa_bNot, sa_bTru, sa_bVal, sa_eChain, sa_iItems, sa_iRange, sa_iKeys, ss_if, ss_ifG, ss_sret, ss_expr, ss_asg, ss_new, ss_asgT, ss_for, ss_app, ss_put, ss_putP, ss_ext, ss_newP, sa_eDnew, sa_eSl, sa_oNone, sa_oSome, sa_eBM, isB_bl, tru_bl, len_lst, len_tup, len_dic, items_lst, items_tup, Nat.zero_add, Nat.reduceAdd, Nat.reduceSub, Nat.sub_self, Nat.reduceLT, Nat.reduceLeDiff, Nat.le_refl, Nat.zero_le, true_and, List.filter_nil, List.filter_cons, List.contains_cons, List.contains_nil, Nat.reduceBEq, Nat.reduceBNe, Bool.or_false, Bool.false_or, Bool.true_or, Bool.or_true, Bool.not_true, Bool.not_false, Bool.false_eq_true, if_true, if_false, ite_true, ite_false, decide_true, decide_false, wipeE, give, rmv, List.set_cons_zero, List.set_cons_succ, List.set_nil, List.map_cons, List.map_nil, List.length_cons, List.length_nil, List.cons_append, List.nil_append, List.replicate_succ, List.replicate_zero, List.getElem?_cons_zero, List.getElem?_cons_succ, e1]
    refine for_inv (fun ds rh ow w'' => (∀ d ∈ ds, ∃ i, i < m ∧ d = sI i) ∧ ∃ x1 x2, rh = [some (.dic kvs), x1, x2] ∧ ow = [] ∧ w'' = w') ⟨key_mem hb, _, _, rfl, rfl, rfl⟩ ?_ ?_
    · rintro d ds rh ow w' ⟨hd, x1, x2, rfl, rfl, rfl⟩
      obtain ⟨i, hi, rfl⟩ := hd _ (List.mem_cons_self ..)
      refine ⟨rfl, _, rfl, ?_⟩
      simp only [sa_ok, sa_bind, ss_seq, ss_fin, ss_nx, ss_ret, ss_nil, sa_fn, sa_v0, sa_v1, sa_v2, sa_v3, sa_v4, sa_v5, sa_v6, sa_v7, sa_v8, sa_v9, sa_v10, sa_v11, sa_v12, sa_v13, sa_v14, sa_eCon, sa_lift, sa_liftB, sa_liftL, sa_eOp, sa_eUn, sa_lNil, sa_lCons, sa_eTup, sa_eLst, sa_eBlt, sa_eCall, sa_eIf, sa_eAnd, sa_eOr, sa_bAnd, sa_bOr, sa_bNot, sa_bTru, sa_bVal, sa_eChain, sa_iItems, sa_iRange, sa_iKeys, ss_if, ss_ifG, ss_sret, ss_expr, ss_asg, ss_new, ss_asgT, ss_for, ss_app, ss_put, ss_putP, ss_ext, ss_newP, sa_eDnew, sa_eSl, sa_oNone, sa_oSome, sa_eBM, isB_bl, tru_bl, len_lst, len_tup, len_dic, items_lst, items_tup, Nat.zero_add, Nat.reduceAdd, Nat.reduceSub, Nat.sub_self, Nat.reduceLT, Nat.reduceLeDiff, Nat.le_refl, Nat.zero_le, true_and, List.filter_nil, List.filter_cons, List.contains_cons, List.contains_nil, Nat.reduceBEq, Nat.reduceBNe, Bool.or_false, Bool.false_or, Bool.true_or, Bool.or_true, Bool.not_true, Bool.not_false, Bool.false_eq_true, if_true, if_false, ite_true, ite_false, decide_true, decide_false, wipeE, give, rmv, List.set_cons_zero, List.set_cons_succ, List.set_nil, List.map_cons, List.map_nil, List.length_cons, List.length_nil, List.cons_append, List.nil_append, List.replicate_succ, List.replicate_zero, List.getElem?_cons_zero, List.getElem?_cons_succ, sa_eLc, ix_bk hb hi]
      refine (inner_eq (hb.tok i hi) w').mono ?_
      rintro _ _ ⟨rfl, rfl⟩
      simp only [sa_ok, sa_bind, ss_seq, ss_fin, ss_nx, ss_ret, ss_nil, sa_fn, sa_v0, sa_v1, sa_v2, sa_v3, sa_v4, sa_v5, sa_v6, sa_v7, sa_v8, sa_v9, sa_v10, sa_v11, sa_v12, sa_v13, sa_v14, sa_eCon, sa_lift, sa_liftB, sa_liftL, sa_eOp, sa_eUn, sa_lNil, sa_lCons, sa_eTup, sa_eLst, sa_eBlt, sa_eCall, sa_eIf, sa_eAnd, sa_eOr, sa_bAnd, sa_bOr, sa_bNot, sa_bTru, sa_bVal, sa_eChain, sa_iItems, sa_iRange, sa_iKeys, ss_if, ss_ifG, ss_sret, ss_expr, ss_asg, ss_new, ss_asgT, ss_for, ss_app, ss_put, ss_putP, ss_ext, ss_newP, sa_eDnew, sa_eSl, sa_oNone, sa_oSome, sa_eBM, isB_bl, tru_bl, len_lst, len_tup, len_dic, items_lst, items_tup, Nat.zero_add, Nat.reduceAdd, Nat.reduceSub, Nat.sub_self, Nat.reduceLT, Nat.reduceLeDiff, Nat.le_refl, Nat.zero_le, true_and, List.filter_nil, List.filter_cons, List.contains_cons, List.contains_nil, Nat.reduceBEq, Nat.reduceBNe, Bool.or_false, Bool.false_or, Bool.true_or, Bool.or_true, Bool.not_true, Bool.not_false, Bool.false_eq_true, if_true, if_false, ite_true, ite_false, decide_true, decide_false, wipeE, give, rmv, List.set_cons_zero, List.set_cons_succ, List.set_nil, List.map_cons, List.map_nil, List.length_cons, List.length_nil, List.cons_append, List.nil_append, List.replicate_succ, List.replicate_zero, List.getElem?_cons_zero, List.getElem?_cons_succ]
      have hl := inner_len (hb.tok i hi)
      refine ⟨by simp; omega, ?_⟩
      rw [lc_map (g := fun g => .bl true) (m := Gi.nmD) (inner (t i)) [] ?hh, sa_ok]
      case hh =>
        intro g hg
        obtain ⟨x, hx, rfl⟩ := inner_mem (hb.tok i hi) hg
        obtain ⟨j, hj, rfl⟩ := mem_nms hx
        have := hb.get j (by omega)
        simp [Gi.nmD, eOp, eVar, Res.bind, lift, inD, inB, G.keyOf, this]
      have ha := all_bl (fun _ => true) (inner (t i))
      have hat : (inner (t i)).all (fun _ => true) = true := by simp
      rw [hat] at ha
      simp only [sa_ok, sa_bind, ss_seq, ss_fin, ss_nx, ss_ret, ss_nil, sa_fn, sa_v0, sa_v1, sa_v2, sa_v3, sa_v4, sa_v5, sa_v6, sa_v7, sa_v8, sa_v9, sa_v10, sa_v11, sa_v12, sa_v13, sa_v14, sa_eCon, sa_lift, sa_liftB, sa_liftL, sa_eOp, sa_eUn, sa_lNil, sa_lCons, sa_eTup, sa_eLst, sa_eBlt, sa_eCall, sa_eIf, sa_eAnd, sa_eOr, sa_bAnd, sa_bOr, sa_bNot, sa_bTru, sa_bVal, sa_eChain, sa_iItems, sa_iRange, sa_iKeys, ss_if, ss_ifG, ss_sret, ss_expr, ss_asg, ss_new, ss_asgT, ss_for, ss_app, ss_put, ss_putP, ss_ext, ss_newP, sa_eDnew, sa_eSl, sa_oNone, sa_oSome, sa_eBM, isB_bl, tru_bl, len_lst, len_tup, len_dic, items_lst, items_tup, Nat.zero_add, Nat.reduceAdd, Nat.reduceSub, Nat.sub_self, Nat.reduceLT, Nat.reduceLeDiff, Nat.le_refl, Nat.zero_le, true_and, List.filter_nil, List.filter_cons, List.contains_cons, List.contains_nil, Nat.reduceBEq, Nat.reduceBNe, Bool.or_false, Bool.false_or, Bool.true_or, Bool.or_true, Bool.not_true, Bool.not_false, Bool.false_eq_true, if_true, if_false, ite_true, ite_false, decide_true, decide_false, wipeE, give, rmv, List.set_cons_zero, List.set_cons_succ, List.set_nil, List.map_cons, List.map_nil, List.length_cons, List.length_nil, List.cons_append, List.nil_append, List.replicate_succ, List.replicate_zero, List.getElem?_cons_zero, List.getElem?_cons_succ, ha]
      exact ⟨fun d h => hd d (List.mem_cons_of_mem _ h), _, _, rfl, trivial⟩
    · rintro rh ow w' ⟨_, x1, x2, rfl, rfl, rfl⟩
      simp only [sa_ok, sa_bind, ss_seq, ss_fin, ss_nx, ss_ret, ss_nil, sa_fn, sa_v0, sa_v1, sa_v2, sa_v3, sa_v4, sa_v5, sa_v6, sa_v7, sa_v8, sa_v9, sa_v10, sa_v11, sa_v12, sa_v13, sa_v14, sa_eCon, sa_lift, sa_liftB, sa_liftL, sa_eOp, sa_eUn, sa_lNil, sa_lCons, sa_eTup, sa_eLst, sa_eBlt, sa_eCall, sa_eIf, sa_eAnd, sa_eOr, sa_bAnd, sa_bOr, sa_bNot, sa_bTru, sa_bVal, sa_eChain, sa_iItems, sa_iRange, sa_iKeys, ss_if, ss_ifG, ss_sret, ss_expr, ss_asg, ss_new, ss_asgT, ss_for, ss_app, ss_put, ss_putP, ss_ext, ss_newP, sa_eDnew, sa_eSl, sa_oNone, sa_oSome, sa_eBM, isB_bl, tru_bl, len_lst, len_tup, len_dic, items_lst, items_tup, Nat.zero_add, Nat.reduceAdd, Nat.reduceSub, Nat.sub_self, Nat.reduceLT, Nat.reduceLeDiff, Nat.le_refl, Nat.zero_le, true_and, List.filter_nil, List.filter_cons, List.contains_cons, List.contains_nil, Nat.reduceBEq, Nat.reduceBNe, Bool.or_false, Bool.false_or, Bool.true_or, Bool.or_true, Bool.not_true, Bool.not_false, Bool.false_eq_true, if_true, if_false, ite_true, ite_false, decide_true, decide_false, wipeE, give, rmv, List.set_cons_zero, List.set_cons_succ, List.set_nil, List.map_cons, List.map_nil, List.length_cons, List.length_nil, List.cons_append, List.nil_append, List.replicate_succ, List.replicate_zero, List.getElem?_cons_zero, List.getElem?_cons_succ, rising_ok hb]
/-! ### states -/
def fr : Tb → D
  | .bag rs => .tup (rs.map fun r => .int r.1)
  | .sure _ _ _ => .int 0
  | _ => .non
theorem fresh_of_eq (t : Tb) {nm : List Str} (h : t.ok nm) (w : Wl) : M_fresh_of [t.d] w = .ok (fr t) w := by
  have lc : ∀ (rh : G.Env) (i j : Nat) (hi : i < rh.length) (hj : j < rh.length) (hij : i ≠ j), lcLoop (.tp [i, j]) bYes (eVar i) rh (t.rows.map rowD) [] w = .ok (t.rows.map fun r => .int r.1) w := by
    intro rh i j hi hj hij
    have := lc_pair (te := eVar i) (m := fun r : Int × Gf => (D.int r.1, r.2.d)) (g := fun r => .int r.1) (rh := rh) (i := i) (j := j) (w := w) t.rows [] (by
      intro r h
      unfold eVar
      rw [List.getElem?_set_ne (by omega), List.getElem?_set_self hi])
    exact this
  have h3 : t.rows.length ≤ 100000 := by have := h.hi; omega
  cases t with
  | bag rs => simp [Tb.rows] at *; simp [Tb.d, fr, M_fresh_of, F_fresh_of, fnRun, sSeq, sIf, sNil, sRet, sAsg, sExpr, fin, eVar, eCon, eUn, eOp, lCons, lNil, eTup, eLst, eBlt, eCall, eIf, eAnd, eOr, bAnd, bOr, bNot, bTru, bVal, eChain, Res.bind, lift, liftB, liftL, isB, truD, cmpI, isiD, tyName, lenD, notB, G.iItems, itemsOf, iRange, wipeE, give, e_none_none, n_none_none, e_none_item, n_none_item, e_none_table, n_none_table, e_none_several, n_none_several, e_item_none, n_item_none, e_item_item, n_item_item, e_item_table, n_item_table, e_item_several, n_item_several, e_table_none, n_table_none, e_table_item, n_table_item, e_table_table, n_table_table, e_table_several, n_table_several, e_several_none, n_several_none, e_several_item, n_several_item, e_several_table, n_several_table, e_several_several, n_several_several, e_draw_draw, n_draw_draw, e_draw_bag, n_draw_bag, e_draw_sure, n_draw_sure, e_draw_unlike, n_draw_unlike, e_bag_draw, n_bag_draw, e_bag_bag, n_bag_bag, e_bag_sure, n_bag_sure, e_bag_unlike, n_bag_unlike, e_sure_draw, n_sure_draw, e_sure_bag, n_sure_bag, e_sure_sure, n_sure_sure, e_sure_unlike, n_sure_unlike, e_unlike_draw, n_unlike_draw, e_unlike_bag, n_unlike_bag, e_unlike_sure, n_unlike_sure, e_unlike_unlike, n_unlike_unlike, atI, ixN, ixD, eLc, lc, h3, tupleD]
  | _ => simp [Tb.d, fr, M_fresh_of, F_fresh_of, fnRun, sSeq, sIf, sNil, sRet, sAsg, sExpr, fin, eVar, eCon, eUn, eOp, lCons, lNil, eTup, eLst, eBlt, eCall, eIf, eAnd, eOr, bAnd, bOr, bNot, bTru, bVal, eChain, Res.bind, lift, liftB, liftL, isB, truD, cmpI, isiD, tyName, lenD, notB, G.iItems, itemsOf, iRange, wipeE, give, e_none_none, n_none_none, e_none_item, n_none_item, e_none_table, n_none_table, e_none_several, n_none_several, e_item_none, n_item_none, e_item_item, n_item_item, e_item_table, n_item_table, e_item_several, n_item_several, e_table_none, n_table_none, e_table_item, n_table_item, e_table_table, n_table_table, e_table_several, n_table_several, e_several_none, n_several_none, e_several_item, n_several_item, e_several_table, n_several_table, e_several_several, n_several_several, e_draw_draw, n_draw_draw, e_draw_bag, n_draw_bag, e_draw_sure, n_draw_sure, e_draw_unlike, n_draw_unlike, e_bag_draw, n_bag_draw, e_bag_bag, n_bag_bag, e_bag_sure, n_bag_sure, e_bag_unlike, n_bag_unlike, e_sure_draw, n_sure_draw, e_sure_bag, n_sure_bag, e_sure_sure, n_sure_sure, e_sure_unlike, n_sure_unlike, e_unlike_draw, n_unlike_draw, e_unlike_bag, n_unlike_bag, e_unlike_sure, n_unlike_sure, e_unlike_unlike, n_unlike_unlike, atI, ixN, ixD]
theorem fresh_eq {m : Nat} {t : Nat → Tb} {kvs : List (Key × D)} (hb : BookOk m t kvs) (w : Wl) : M_fresh [.dic kvs] w = .ok (.tup ((List.range m).map fun i => fr (t i))) w := by
  refine sa_eq.mp ?_
  have e1 : keysD (.dic kvs) = some (.kys (kvs.map (·.1))) := rfl
  have e2 : (nms m).map D.str = (List.range m).map sI := by simp [nms, sI]
  simp only [M_fresh, F_fresh, sa_ok, sa_bind, ss_seq, ss_fin, ss_nx, ss_ret, ss_nil, sa_fn, sa_v0, sa_v1, sa_v2, sa_v3, sa_v4, sa_v5, sa_v6, sa_v7, sa_v8, sa_v9, sa_v10, sa_v11, sa_v12, sa_v13, sa_v14, sa_eCon, sa_lift, sa_liftB, sa_liftL, sa_eOp, sa_eUn, sa_lNil, sa_lCons, sa_eTup, sa_eLst, sa_eBlt, sa_eCall, sa_eIf, sa_eAnd, sa_eOr, sa_bAnd, sa_bOr, sa_bNot, sa_bTru, sa_bVal, sa_eChain, sa_iItems, sa_iRange, sa_iKeys, ss_if, ss_ifG, ss_sret, ss_expr, ss_asg, ss_new, ss_asgT, ss_for, ss_app, ss_put, ss_putP, ss_ext, ss_newP, sa_eDnew, sa_eSl, sa_oNone, sa_oSome, sa_eBM, isB_bl, tru_bl, len_lst, len_tup, len_dic, items_lst, items_tup, Nat.zero_add, Nat.reduceAdd, Nat.reduceSub, Nat.sub_self, Nat.reduceLT, Nat.reduceLeDiff, Nat.le_refl, Nat.zero_le, true_and, List.filter_nil, List.filter_cons, List.contains_cons, List.contains_nil, Nat.reduceBEq, Nat.reduceBNe, Bool.or_false, Bool.false_or, Bool.true_or, Bool.or_true, Bool.not_true, Bool.not_false, Bool.false_eq_true, if_true, if_false, ite_true, ite_false, decide_true, decide_false, wipeE, give, rmv, List.set_cons_zero, List.set_cons_succ, List.set_nil, List.map_cons, List.map_nil, List.length_cons, List.length_nil, List.cons_append, List.nil_append, List.replicate_succ, List.replicate_zero, List.getElem?_cons_zero, List.getElem?_cons_succ, e1, hb.srt, look_ok hb, sa_eLc, e2]
  refine ⟨by have := hb.hi; simp; omega, ?_⟩
  rw [lc_map (g := fun i => fr (t i)) (m := sI) (List.range m) [] ?hh, sa_ok]
  case hh =>
    intro i hi
    have hi := List.mem_range.mp hi
    simp [eCall, lCons, lNil, eOp, eVar, Res.bind, lift, ix_bk hb hi, fresh_of_eq (t i) (hb.tok i hi)]
  simp only [sa_ok, sa_bind, ss_seq, ss_fin, ss_nx, ss_ret, ss_nil, sa_fn, sa_v0, sa_v1, sa_v2, sa_v3, sa_v4, sa_v5, sa_v6, sa_v7, sa_v8, sa_v9, sa_v10, sa_v11, sa_v12, sa_v13, sa_v14, sa_eCon, sa_lift, sa_liftB, sa_liftL, sa_eOp, sa_eUn, sa_lNil, sa_lCons, sa_eTup, sa_eLst, sa_eBlt, sa_eCall, sa_eIf, sa_eAnd, sa_eOr, sa_bAnd, sa_bOr, sa_bNot, sa_bTru, sa_bVal, sa_eChain, sa_iItems, sa_iRange, sa_iKeys, ss_if, ss_ifG, ss_sret, ss_expr, ss_asg, ss_new, ss_asgT, ss_for, ss_app, ss_put, ss_putP, ss_ext, ss_newP, sa_eDnew, sa_eSl, sa_oNone, sa_oSome, sa_eBM, isB_bl, tru_bl, len_lst, len_tup, len_dic, items_lst, items_tup, Nat.zero_add, Nat.reduceAdd, Nat.reduceSub, Nat.sub_self, Nat.reduceLT, Nat.reduceLeDiff, Nat.le_refl, Nat.zero_le, true_and, List.filter_nil, List.filter_cons, List.contains_cons, List.contains_nil, Nat.reduceBEq, Nat.reduceBNe, Bool.or_false, Bool.false_or, Bool.true_or, Bool.or_true, Bool.not_true, Bool.not_false, Bool.false_eq_true, if_true, if_false, ite_true, ite_false, decide_true, decide_false, wipeE, give, rmv, List.set_cons_zero, List.set_cons_succ, List.set_nil, List.map_cons, List.map_nil, List.length_cons, List.length_nil, List.cons_append, List.nil_append, List.replicate_succ, List.replicate_zero, List.getElem?_cons_zero, List.getElem?_cons_succ, tupleD]
theorem sum_hi {h : Int} : ∀ ws : List Int, (∀ x ∈ ws, x ≤ h) → ws.sum ≤ h * ws.length
  | [], _ => by simp
  | r :: rs, hw => by
    have h1 := hw r (List.mem_cons_self ..)
    have h2 := sum_hi rs fun r hr => hw r (List.mem_cons_of_mem _ hr)
    simp only [List.sum_cons, List.length_cons, Int.natCast_add, Int.natCast_one, Int.mul_add, Int.mul_one]
    omega
theorem sum_nn : ∀ ws : List Int, (∀ x ∈ ws, 0 ≤ x) → 0 ≤ ws.sum
  | [], _ => by simp
  | r :: rs, hw => by
    have h1 := hw r (List.mem_cons_self ..)
    have h2 := sum_nn rs fun r hr => hw r (List.mem_cons_of_mem _ hr)
    simp only [List.sum_cons]
    omega
theorem le_sum : ∀ ws : List Int, (∀ x ∈ ws, 0 ≤ x) → ∀ x ∈ ws, x ≤ ws.sum
  | r :: rs, hw, x, hx => by
    have h1 := hw r (List.mem_cons_self ..)
    have h2 := sum_nn rs fun r hr => hw r (List.mem_cons_of_mem _ hr)
    simp only [List.sum_cons]
    rcases List.mem_cons.mp hx with rfl | hx
    · omega
    · have := le_sum rs (fun r hr => hw r (List.mem_cons_of_mem _ hr)) x hx
      omega
/-- weights of rows: between 0 and 20, not all 0 -/
structure WsOk (n : Nat) (ws : List Int) : Prop where
  len : ws.length = n
  at4 : n ≤ 4
  lo : ∀ x ∈ ws, 0 ≤ x
  hi : ∀ x ∈ ws, x ≤ 20
  pos : 1 ≤ ws.sum
theorem WsOk.top {n : Nat} {ws : List Int} (h : WsOk n ws) : ws.sum ≤ 80 := by
  have h1 := sum_hi ws h.hi
  have h2 := h.len
  have h3 := h.at4
  have : (20 : Int) * ws.length ≤ 80 := by omega
  omega
def PartOk : Tb → D → Prop
  | .draw _, d => d = .non
  | .bag rs, d => ∃ ps : List Int, d = .tup (ps.map .int) ∧ WsOk rs.length ps
  | .unlike _, d => d = .non ∨ ∃ i : Int, d = .int i
  | .sure _ _ _, d => ∃ i : Int, d = .int i
theorem own_ok {t : Tb} {nm : List Str} (h : t.ok nm) : WsOk t.rows.length (t.rows.map (·.1)) := by
  refine ⟨by simp, h.hi, ?_, ?_, ?_⟩
  · intro x hx
    obtain ⟨r, hr, rfl⟩ := List.mem_map.mp hx
    have := (h.rw r hr).1
    omega
  · intro x hx
    obtain ⟨r, hr, rfl⟩ := List.mem_map.mp hx
    exact (h.rw r hr).2.1
  · have hl := h.lo
    obtain ⟨r, hr⟩ := List.exists_mem_of_length_pos (show 0 < t.rows.length by omega)
    have := le_sum (t.rows.map (·.1)) (fun x hx => by
      obtain ⟨r, hr, rfl⟩ := List.mem_map.mp hx
      have := (h.rw r hr).1
      omega) r.1 (List.mem_map.mpr ⟨r, hr, rfl⟩)
    have := (h.rw r hr).1
    omega
theorem fr_ok {t : Tb} {nm : List Str} (h : t.ok nm) : PartOk t (fr t) := by
  cases t with
  | draw rs => rfl
  | bag rs => 
    have ho := own_ok h
    simp only [Tb.rows] at ho
    refine ⟨_, ?_, ho⟩
    simp [fr]
  | unlike rs => exact .inl rfl
  | sure rs a m => exact ⟨0, rfl⟩
def ownW (t : Tb) : List D := t.rows.map fun r => .int r.1
theorem lc_own (t : Tb) (w : Wl) (rh : G.Env) (i j : Nat) (hi : i < rh.length) (hj : j < rh.length) (hij : i ≠ j) : lcLoop (.tp [i, j]) bYes (eVar i) rh (t.rows.map rowD) [] w = .ok (ownW t) w := by
  have := lc_pair (te := eVar i) (m := fun r : Int × Gf => (D.int r.1, r.2.d)) (g := fun r => .int r.1) (rh := rh) (i := i) (j := j) (w := w) t.rows [] (by
    intro r h
    unfold eVar
    rw [List.getElem?_set_ne (by omega), List.getElem?_set_self hi])
  exact this
theorem atI_nat {α : Type} {xs : List α} {k : Nat} (h : k < xs.length) : atI xs (k : Int) = some xs[k] := by
  have hi : ixN xs.length (k : Int) = some k := by
    unfold ixN
    rw [if_pos (by omega), if_pos (by omega), Int.toNat_natCast]
  unfold atI
  rw [hi]
  simp [h]
theorem weights_ok {t : Tb} {nm : List Str} (h : t.ok nm) {d : D} (hd : PartOk t d) (w : Wl) : Sa (M_weights [t.d, d] w) fun x w' => ∃ ws : List Int, x = .lst (ws.map .int) ∧ WsOk t.rows.length ws ∧ w' = w ∧ (∀ rs, t = .bag rs → d = .tup (ws.map .int)) := by
  have h3 : t.rows.length ≤ 100000 := by have := h.hi; omega
  have ho := own_ok h
  have e0 : ownW t = (t.rows.map (·.1)).map .int := by simp [ownW]
  simp only [M_weights, F_weights, sa_ok, sa_bind, ss_seq, ss_fin, ss_nx, ss_ret, ss_nil, sa_fn, sa_v0, sa_v1, sa_v2, sa_v3, sa_v4, sa_v5, sa_v6, sa_v7, sa_v8, sa_v9, sa_v10, sa_v11, sa_v12, sa_v13, sa_v14, sa_eCon, sa_lift, sa_liftB, sa_liftL, sa_eOp, sa_eUn, sa_lNil, sa_lCons, sa_eTup, sa_eLst, sa_eBlt, sa_eCall, sa_eIf, sa_eAnd, sa_eOr, sa_bAnd, sa_bOr, sa_bNot, sa_bTru, sa_bVal, sa_eChain, sa_iItems, sa_iRange, sa_iKeys, ss_if, ss_ifG, ss_sret, ss_expr, ss_asg, ss_new, ss_asgT, ss_for, ss_app, ss_put, ss_putP, ss_ext, ss_newP, sa_eDnew, sa_eSl, sa_oNone, sa_oSome, sa_eBM, isB_bl, tru_bl, len_lst, len_tup, len_dic, items_lst, items_tup, Nat.zero_add, Nat.reduceAdd, Nat.reduceSub, Nat.sub_self, Nat.reduceLT, Nat.reduceLeDiff, Nat.le_refl, Nat.zero_le, true_and, List.filter_nil, List.filter_cons, List.contains_cons, List.contains_nil, Nat.reduceBEq, Nat.reduceBNe, Bool.or_false, Bool.false_or, Bool.true_or, Bool.or_true, Bool.not_true, Bool.not_false, Bool.false_eq_true, if_true, if_false, ite_true, ite_false, decide_true, decide_false, wipeE, give, rmv, List.set_cons_zero, List.set_cons_succ, List.set_nil, List.map_cons, List.map_nil, List.length_cons, List.length_nil, List.cons_append, List.nil_append, List.replicate_succ, List.replicate_zero, List.getElem?_cons_zero, List.getElem?_cons_succ, ix1_t, sa_eLc, List.length_map, h3]
  rw [lc_own t w _ 3 4 (by simp) (by simp) (by decide), sa_ok]
  cases t with
  | draw rs =>
    have e1 : ixD (Tb.draw rs).d (.int 0) = some (.str "draw") := rfl
    simp only [sa_ok, sa_bind, ss_seq, ss_fin, ss_nx, ss_ret, ss_nil, sa_fn, sa_v0, sa_v1, sa_v2, sa_v3, sa_v4, sa_v5, sa_v6, sa_v7, sa_v8, sa_v9, sa_v10, sa_v11, sa_v12, sa_v13, sa_v14, sa_eCon, sa_lift, sa_liftB, sa_liftL, sa_eOp, sa_eUn, sa_lNil, sa_lCons, sa_eTup, sa_eLst, sa_eBlt, sa_eCall, sa_eIf, sa_eAnd, sa_eOr, sa_bAnd, sa_bOr, sa_bNot, sa_bTru, sa_bVal, sa_eChain, sa_iItems, sa_iRange, sa_iKeys, ss_if, ss_ifG, ss_sret, ss_expr, ss_asg, ss_new, ss_asgT, ss_for, ss_app, ss_put, ss_putP, ss_ext, ss_newP, sa_eDnew, sa_eSl, sa_oNone, sa_oSome, sa_eBM, isB_bl, tru_bl, len_lst, len_tup, len_dic, items_lst, items_tup, Nat.zero_add, Nat.reduceAdd, Nat.reduceSub, Nat.sub_self, Nat.reduceLT, Nat.reduceLeDiff, Nat.le_refl, Nat.zero_le, true_and, List.filter_nil, List.filter_cons, List.contains_cons, List.contains_nil, Nat.reduceBEq, Nat.reduceBNe, Bool.or_false, Bool.false_or, Bool.true_or, Bool.or_true, Bool.not_true, Bool.not_false, Bool.false_eq_true, if_true, if_false, ite_true, ite_false, decide_true, decide_false, wipeE, give, rmv, List.set_cons_zero, List.set_cons_succ, List.set_nil, List.map_cons, List.map_nil, List.length_cons, List.length_nil, List.cons_append, List.nil_append, List.replicate_succ, List.replicate_zero, List.getElem?_cons_zero, List.getElem?_cons_succ, e1, e_none_none, n_none_none, e_none_item, n_none_item, e_none_table, n_none_table, e_none_several, n_none_several, e_item_none, n_item_none, e_item_item, n_item_item, e_item_table, n_item_table, e_item_several, n_item_several, e_table_none, n_table_none, e_table_item, n_table_item, e_table_table, n_table_table, e_table_several, n_table_several, e_several_none, n_several_none, e_several_item, n_several_item, e_several_table, n_several_table, e_several_several, n_several_several, e_draw_draw, n_draw_draw, e_draw_bag, n_draw_bag, e_draw_sure, n_draw_sure, e_draw_unlike, n_draw_unlike, e_bag_draw, n_bag_draw, e_bag_bag, n_bag_bag, e_bag_sure, n_bag_sure, e_bag_unlike, n_bag_unlike, e_sure_draw, n_sure_draw, e_sure_bag, n_sure_bag, e_sure_sure, n_sure_sure, e_sure_unlike, n_sure_unlike, e_unlike_draw, n_unlike_draw, e_unlike_bag, n_unlike_bag, e_unlike_sure, n_unlike_sure, e_unlike_unlike, n_unlike_unlike]
    exact ⟨_, by rw [e0], ho, fun _ h => (nomatch h)⟩
  | bag rs =>
    obtain ⟨ps, rfl, hp⟩ := hd
    have e1 : ixD (Tb.bag rs).d (.int 0) = some (.str "bag") := rfl
    have e2 : listVD [.tup (ps.map .int)] = some (.lst (ps.map .int)) := rfl
    simp only [sa_ok, sa_bind, ss_seq, ss_fin, ss_nx, ss_ret, ss_nil, sa_fn, sa_v0, sa_v1, sa_v2, sa_v3, sa_v4, sa_v5, sa_v6, sa_v7, sa_v8, sa_v9, sa_v10, sa_v11, sa_v12, sa_v13, sa_v14, sa_eCon, sa_lift, sa_liftB, sa_liftL, sa_eOp, sa_eUn, sa_lNil, sa_lCons, sa_eTup, sa_eLst, sa_eBlt, sa_eCall, sa_eIf, sa_eAnd, sa_eOr, sa_bAnd, sa_bOr, sa_bNot, sa_bTru, sa_bVal, sa_eChain, sa_iItems, sa_iRange, sa_iKeys, ss_if, ss_ifG, ss_sret, ss_expr, ss_asg, ss_new, ss_asgT, ss_for, ss_app, ss_put, ss_putP, ss_ext, ss_newP, sa_eDnew, sa_eSl, sa_oNone, sa_oSome, sa_eBM, isB_bl, tru_bl, len_lst, len_tup, len_dic, items_lst, items_tup, Nat.zero_add, Nat.reduceAdd, Nat.reduceSub, Nat.sub_self, Nat.reduceLT, Nat.reduceLeDiff, Nat.le_refl, Nat.zero_le, true_and, List.filter_nil, List.filter_cons, List.contains_cons, List.contains_nil, Nat.reduceBEq, Nat.reduceBNe, Bool.or_false, Bool.false_or, Bool.true_or, Bool.or_true, Bool.not_true, Bool.not_false, Bool.false_eq_true, if_true, if_false, ite_true, ite_false, decide_true, decide_false, wipeE, give, rmv, List.set_cons_zero, List.set_cons_succ, List.set_nil, List.map_cons, List.map_nil, List.length_cons, List.length_nil, List.cons_append, List.nil_append, List.replicate_succ, List.replicate_zero, List.getElem?_cons_zero, List.getElem?_cons_succ, e1, e_none_none, n_none_none, e_none_item, n_none_item, e_none_table, n_none_table, e_none_several, n_none_several, e_item_none, n_item_none, e_item_item, n_item_item, e_item_table, n_item_table, e_item_several, n_item_several, e_table_none, n_table_none, e_table_item, n_table_item, e_table_table, n_table_table, e_table_several, n_table_several, e_several_none, n_several_none, e_several_item, n_several_item, e_several_table, n_several_table, e_several_several, n_several_several, e_draw_draw, n_draw_draw, e_draw_bag, n_draw_bag, e_draw_sure, n_draw_sure, e_draw_unlike, n_draw_unlike, e_bag_draw, n_bag_draw, e_bag_bag, n_bag_bag, e_bag_sure, n_bag_sure, e_bag_unlike, n_bag_unlike, e_sure_draw, n_sure_draw, e_sure_bag, n_sure_bag, e_sure_sure, n_sure_sure, e_sure_unlike, n_sure_unlike, e_unlike_draw, n_unlike_draw, e_unlike_bag, n_unlike_bag, e_unlike_sure, n_unlike_sure, e_unlike_unlike, n_unlike_unlike, e2]
    exact ⟨ps, rfl, hp, fun _ _ => rfl⟩
  | unlike rs =>
    have e1 : ixD (Tb.unlike rs).d (.int 0) = some (.str "unlike") := rfl
    rcases hd with rfl | ⟨i, rfl⟩
    · have e2 : isNotD .non .non = some (.bl false) := rfl
      simp only [sa_ok, sa_bind, ss_seq, ss_fin, ss_nx, ss_ret, ss_nil, sa_fn, sa_v0, sa_v1, sa_v2, sa_v3, sa_v4, sa_v5, sa_v6, sa_v7, sa_v8, sa_v9, sa_v10, sa_v11, sa_v12, sa_v13, sa_v14, sa_eCon, sa_lift, sa_liftB, sa_liftL, sa_eOp, sa_eUn, sa_lNil, sa_lCons, sa_eTup, sa_eLst, sa_eBlt, sa_eCall, sa_eIf, sa_eAnd, sa_eOr, sa_bAnd, sa_bOr, sa_bNot, sa_bTru, sa_bVal, sa_eChain, sa_iItems, sa_iRange, sa_iKeys, ss_if, ss_ifG, ss_sret, ss_expr, ss_asg, ss_new, ss_asgT, ss_for, ss_app, ss_put, ss_putP, ss_ext, ss_newP, sa_eDnew, sa_eSl, sa_oNone, sa_oSome, sa_eBM, isB_bl, tru_bl, len_lst, len_tup, len_dic, items_lst, items_tup, Nat.zero_add, Nat.reduceAdd, Nat.reduceSub, Nat.sub_self, Nat.reduceLT, Nat.reduceLeDiff, Nat.le_refl, Nat.zero_le, true_and, List.filter_nil, List.filter_cons, List.contains_cons, List.contains_nil, Nat.reduceBEq, Nat.reduceBNe, Bool.or_false, Bool.false_or, Bool.true_or, Bool.or_true, Bool.not_true, Bool.not_false, Bool.false_eq_true, if_true, if_false, ite_true, ite_false, decide_true, decide_false, wipeE, give, rmv, List.set_cons_zero, List.set_cons_succ, List.set_nil, List.map_cons, List.map_nil, List.length_cons, List.length_nil, List.cons_append, List.nil_append, List.replicate_succ, List.replicate_zero, List.getElem?_cons_zero, List.getElem?_cons_succ, e1, e_none_none, n_none_none, e_none_item, n_none_item, e_none_table, n_none_table, e_none_several, n_none_several, e_item_none, n_item_none, e_item_item, n_item_item, e_item_table, n_item_table, e_item_several, n_item_several, e_table_none, n_table_none, e_table_item, n_table_item, e_table_table, n_table_table, e_table_several, n_table_several, e_several_none, n_several_none, e_several_item, n_several_item, e_several_table, n_several_table, e_several_several, n_several_several, e_draw_draw, n_draw_draw, e_draw_bag, n_draw_bag, e_draw_sure, n_draw_sure, e_draw_unlike, n_draw_unlike, e_bag_draw, n_bag_draw, e_bag_bag, n_bag_bag, e_bag_sure, n_bag_sure, e_bag_unlike, n_bag_unlike, e_sure_draw, n_sure_draw, e_sure_bag, n_sure_bag, e_sure_sure, n_sure_sure, e_sure_unlike, n_sure_unlike, e_unlike_draw, n_unlike_draw, e_unlike_bag, n_unlike_bag, e_unlike_sure, n_unlike_sure, e_unlike_unlike, n_unlike_unlike, e2]
      exact ⟨_, by rw [e0], ho, fun _ h => (nomatch h)⟩
    · have e2 : isNotD (.int i) .non = some (.bl true) := rfl
      have hl : (ownW (.unlike rs)).length = rs.length := by simp [ownW, Tb.rows]
      have hl4 : rs.length ≤ 4 := h.hi
      have hl2 : 2 ≤ rs.length := h.fit
      simp only [sa_ok, sa_bind, ss_seq, ss_fin, ss_nx, ss_ret, ss_nil, sa_fn, sa_v0, sa_v1, sa_v2, sa_v3, sa_v4, sa_v5, sa_v6, sa_v7, sa_v8, sa_v9, sa_v10, sa_v11, sa_v12, sa_v13, sa_v14, sa_eCon, sa_lift, sa_liftB, sa_liftL, sa_eOp, sa_eUn, sa_lNil, sa_lCons, sa_eTup, sa_eLst, sa_eBlt, sa_eCall, sa_eIf, sa_eAnd, sa_eOr, sa_bAnd, sa_bOr, sa_bNot, sa_bTru, sa_bVal, sa_eChain, sa_iItems, sa_iRange, sa_iKeys, ss_if, ss_ifG, ss_sret, ss_expr, ss_asg, ss_new, ss_asgT, ss_for, ss_app, ss_put, ss_putP, ss_ext, ss_newP, sa_eDnew, sa_eSl, sa_oNone, sa_oSome, sa_eBM, isB_bl, tru_bl, len_lst, len_tup, len_dic, items_lst, items_tup, Nat.zero_add, Nat.reduceAdd, Nat.reduceSub, Nat.sub_self, Nat.reduceLT, Nat.reduceLeDiff, Nat.le_refl, Nat.zero_le, true_and, List.filter_nil, List.filter_cons, List.contains_cons, List.contains_nil, Nat.reduceBEq, Nat.reduceBNe, Bool.or_false, Bool.false_or, Bool.true_or, Bool.or_true, Bool.not_true, Bool.not_false, Bool.false_eq_true, if_true, if_false, ite_true, ite_false, decide_true, decide_false, wipeE, give, rmv, List.set_cons_zero, List.set_cons_succ, List.set_nil, List.map_cons, List.map_nil, List.length_cons, List.length_nil, List.cons_append, List.nil_append, List.replicate_succ, List.replicate_zero, List.getElem?_cons_zero, List.getElem?_cons_succ, e1, e_none_none, n_none_none, e_none_item, n_none_item, e_none_table, n_none_table, e_none_several, n_none_several, e_item_none, n_item_none, e_item_item, n_item_item, e_item_table, n_item_table, e_item_several, n_item_several, e_table_none, n_table_none, e_table_item, n_table_item, e_table_table, n_table_table, e_table_several, n_table_several, e_several_none, n_several_none, e_several_item, n_several_item, e_several_table, n_several_table, e_several_several, n_several_several, e_draw_draw, n_draw_draw, e_draw_bag, n_draw_bag, e_draw_sure, n_draw_sure, e_draw_unlike, n_draw_unlike, e_bag_draw, n_bag_draw, e_bag_bag, n_bag_bag, e_bag_sure, n_bag_sure, e_bag_unlike, n_bag_unlike, e_sure_draw, n_sure_draw, e_sure_bag, n_sure_bag, e_sure_sure, n_sure_sure, e_sure_unlike, n_sure_unlike, e_unlike_draw, n_unlike_draw, e_unlike_bag, n_unlike_bag, e_unlike_sure, n_unlike_sure, e_unlike_unlike, n_unlike_unlike, e2, sa_eLc, hl, range1_ok (show 0 ≤ (rs.length : Int) by omega) (show (rs.length : Int) ≤ 100000 by omega), Int.toNat_natCast, rangeFrom_len, h3]
      refine ⟨by omega, ?_⟩
      unfold rangeFrom
      rw [lc_map (g := fun k => .int (if (k : Int) = i then 0 else (rs.map (·.1)).getD k 0)) (m := fun i => D.int (0 + (i : Nat))) (List.range rs.length) [] ?hh, sa_ok]
      case hh =>
        intro k hk
        have hk := List.mem_range.mp hk
        have : ixD (.lst (ownW (.unlike rs))) (.int (k : Int)) = some (.int ((rs.map (·.1)).getD k 0)) := by
          show atI (ownW (.unlike rs)) (k : Int) = _
          rw [atI_nat (by rw [hl]; exact hk)]
          simp [ownW, Tb.rows, hk]
        by_cases hki : (k : Int) = i
        · simp [eIf, bVal, eOp, eVar, eCon, Res.bind, lift, liftB, isB, eqD_int, hki]
        · simp [eIf, bVal, eOp, eVar, eCon, Res.bind, lift, liftB, isB, eqD_int, hki, this]
      have hg : ∀ k, k < rs.length → 1 ≤ (rs.map (·.1)).getD k 0 ∧ (rs.map (·.1)).getD k 0 ≤ 20 := by
        intro k hk
        have := h.rw rs[k] (List.getElem_mem hk)
        simp [hk]
        omega
      have hn0 : ∀ x ∈ (List.range rs.length).map (fun k : Nat => if (k : Int) = i then (0 : Int) else (rs.map (·.1)).getD k 0), 0 ≤ x ∧ x ≤ 20 := by
        intro x hx
        obtain ⟨k, hk, rfl⟩ := List.mem_map.mp hx
        have := hg k (List.mem_range.mp hk)
        split <;> omega
      refine ⟨(List.range rs.length).map fun k : Nat => if (k : Int) = i then (0 : Int) else (rs.map (·.1)).getD k 0, by simp, ⟨by simp [Tb.rows], hl4, fun x hx => (hn0 x hx).1, fun x hx => (hn0 x hx).2, ?_⟩, rfl, fun _ h => (nomatch h)⟩
      have go : ∀ k : Nat, k < rs.length → (k : Int) ≠ i → 1 ≤ ((List.range rs.length).map fun k : Nat => if (k : Int) = i then (0 : Int) else (rs.map (·.1)).getD k 0).sum := by
        intro k hk hki
        have h1 := le_sum _ (fun x hx => (hn0 x hx).1) _ (List.mem_map.mpr ⟨k, List.mem_range.mpr hk, rfl⟩)
        rw [if_neg hki] at h1
        have := hg k hk
        omega
      by_cases hi0 : i = 0
      · exact go 1 (by omega) (by omega)
      · exact go 0 (by omega) (by omega)
  | sure rs a m =>
    obtain ⟨i, rfl⟩ := hd
    obtain ⟨f1, f2, f3, f4⟩ := h.fit
    have e1 : ixD (Tb.sure rs a m).d (.int 0) = some (.str "sure") := rfl
    have e2 : ixD (Tb.sure rs a m).d (.int 3) = some (.int m) := rfl
    have e3 : ixD (Tb.sure rs a m).d (.int 2) = some (.int a) := rfl
    have hl : (ownW (.sure rs a m)).length = rs.length := by simp [ownW, Tb.rows]
    have hl4 : rs.length ≤ 4 := h.hi
    by_cases him : i = m
    · subst him
      simp only [sa_ok, sa_bind, ss_seq, ss_fin, ss_nx, ss_ret, ss_nil, sa_fn, sa_v0, sa_v1, sa_v2, sa_v3, sa_v4, sa_v5, sa_v6, sa_v7, sa_v8, sa_v9, sa_v10, sa_v11, sa_v12, sa_v13, sa_v14, sa_eCon, sa_lift, sa_liftB, sa_liftL, sa_eOp, sa_eUn, sa_lNil, sa_lCons, sa_eTup, sa_eLst, sa_eBlt, sa_eCall, sa_eIf, sa_eAnd, sa_eOr, sa_bAnd, sa_bOr, sa_bNot, sa_bTru, sa_bVal, sa_eChain, sa_iItems, sa_iRange, sa_iKeys, ss_if, ss_ifG, ss_sret, ss_expr, ss_asg, ss_new, ss_asgT, ss_for, ss_app, ss_put, ss_putP, ss_ext, ss_newP, sa_eDnew, sa_eSl, sa_oNone, sa_oSome, sa_eBM, isB_bl, tru_bl, len_lst, len_tup, len_dic, items_lst, items_tup, Nat.zero_add, Nat.reduceAdd, Nat.reduceSub, Nat.sub_self, Nat.reduceLT, Nat.reduceLeDiff, Nat.le_refl, Nat.zero_le, true_and, List.filter_nil, List.filter_cons, List.contains_cons, List.contains_nil, Nat.reduceBEq, Nat.reduceBNe, Bool.or_false, Bool.false_or, Bool.true_or, Bool.or_true, Bool.not_true, Bool.not_false, Bool.false_eq_true, if_true, if_false, ite_true, ite_false, decide_true, decide_false, wipeE, give, rmv, List.set_cons_zero, List.set_cons_succ, List.set_nil, List.map_cons, List.map_nil, List.length_cons, List.length_nil, List.cons_append, List.nil_append, List.replicate_succ, List.replicate_zero, List.getElem?_cons_zero, List.getElem?_cons_succ, e1, e2, eqD_int, e_none_none, n_none_none, e_none_item, n_none_item, e_none_table, n_none_table, e_none_several, n_none_several, e_item_none, n_item_none, e_item_item, n_item_item, e_item_table, n_item_table, e_item_several, n_item_several, e_table_none, n_table_none, e_table_item, n_table_item, e_table_table, n_table_table, e_table_several, n_table_several, e_several_none, n_several_none, e_several_item, n_several_item, e_several_table, n_several_table, e_several_several, n_several_several, e_draw_draw, n_draw_draw, e_draw_bag, n_draw_bag, e_draw_sure, n_draw_sure, e_draw_unlike, n_draw_unlike, e_bag_draw, n_bag_draw, e_bag_bag, n_bag_bag, e_bag_sure, n_bag_sure, e_bag_unlike, n_bag_unlike, e_sure_draw, n_sure_draw, e_sure_bag, n_sure_bag, e_sure_sure, n_sure_sure, e_sure_unlike, n_sure_unlike, e_unlike_draw, n_unlike_draw, e_unlike_bag, n_unlike_bag, e_unlike_sure, n_unlike_sure, e_unlike_unlike, n_unlike_unlike, sa_eLc, hl, range1_ok (show 0 ≤ (rs.length : Int) by omega) (show (rs.length : Int) ≤ 100000 by omega), Int.toNat_natCast, rangeFrom_len, h3]
      refine ⟨by omega, ?_⟩
      unfold rangeFrom
      rw [lc_map (g := fun k => .int (if (k : Int) = a then 1 else 0)) (m := fun i => D.int (0 + (i : Nat))) (List.range rs.length) [] ?hh, sa_ok]
      case hh =>
        intro k hk
        by_cases hki : (k : Int) = a
        · simp [eBlt, lCons, lNil, eOp, eVar, eCon, Res.bind, lift, G.intD, eqD_int, hki, e3]
        · simp [eBlt, lCons, lNil, eOp, eVar, eCon, Res.bind, lift, G.intD, eqD_int, hki, e3]
      have hn0 : ∀ x ∈ (List.range rs.length).map (fun k : Nat => if (k : Int) = a then (1 : Int) else 0), 0 ≤ x ∧ x ≤ 20 := by
        intro x hx
        obtain ⟨k, hk, rfl⟩ := List.mem_map.mp hx
        split <;> omega
      refine ⟨(List.range rs.length).map fun k : Nat => if (k : Int) = a then (1 : Int) else 0, by simp, ⟨by simp [Tb.rows], hl4, fun x hx => (hn0 x hx).1, fun x hx => (hn0 x hx).2, ?_⟩, rfl, fun _ h => (nomatch h)⟩
      have h1 := le_sum _ (fun x hx => (hn0 x hx).1) _ (List.mem_map.mpr ⟨a.toNat, List.mem_range.mpr (by omega), rfl⟩)
      rw [if_pos (by omega)] at h1
      exact h1
    · simp only [sa_ok, sa_bind, ss_seq, ss_fin, ss_nx, ss_ret, ss_nil, sa_fn, sa_v0, sa_v1, sa_v2, sa_v3, sa_v4, sa_v5, sa_v6, sa_v7, sa_v8, sa_v9, sa_v10, sa_v11, sa_v12, sa_v13, sa_v14, sa_eCon, sa_lift, sa_liftB, sa_liftL, sa_eOp, sa_eUn, sa_lNil, sa_lCons, sa_eTup, sa_eLst, sa_eBlt, sa_eCall, sa_eIf, sa_eAnd, sa_eOr, sa_bAnd, sa_bOr, sa_bNot, sa_bTru, sa_bVal, sa_eChain, sa_iItems, sa_iRange, sa_iKeys, ss_if, ss_ifG, ss_sret, ss_expr, ss_asg, ss_new, ss_asgT, ss_for, ss_app, ss_put, ss_putP, ss_ext, ss_newP, sa_eDnew, sa_eSl, sa_oNone, sa_oSome, sa_eBM, isB_bl, tru_bl, len_lst, len_tup, len_dic, items_lst, items_tup, Nat.zero_add, Nat.reduceAdd, Nat.reduceSub, Nat.sub_self, Nat.reduceLT, Nat.reduceLeDiff, Nat.le_refl, Nat.zero_le, true_and, List.filter_nil, List.filter_cons, List.contains_cons, List.contains_nil, Nat.reduceBEq, Nat.reduceBNe, Bool.or_false, Bool.false_or, Bool.true_or, Bool.or_true, Bool.not_true, Bool.not_false, Bool.false_eq_true, if_true, if_false, ite_true, ite_false, decide_true, decide_false, wipeE, give, rmv, List.set_cons_zero, List.set_cons_succ, List.set_nil, List.map_cons, List.map_nil, List.length_cons, List.length_nil, List.cons_append, List.nil_append, List.replicate_succ, List.replicate_zero, List.getElem?_cons_zero, List.getElem?_cons_succ, e1, e2, eqD_int, e_none_none, n_none_none, e_none_item, n_none_item, e_none_table, n_none_table, e_none_several, n_none_several, e_item_none, n_item_none, e_item_item, n_item_item, e_item_table, n_item_table, e_item_several, n_item_several, e_table_none, n_table_none, e_table_item, n_table_item, e_table_table, n_table_table, e_table_several, n_table_several, e_several_none, n_several_none, e_several_item, n_several_item, e_several_table, n_several_table, e_several_several, n_several_several, e_draw_draw, n_draw_draw, e_draw_bag, n_draw_bag, e_draw_sure, n_draw_sure, e_draw_unlike, n_draw_unlike, e_bag_draw, n_bag_draw, e_bag_bag, n_bag_bag, e_bag_sure, n_bag_sure, e_bag_unlike, n_bag_unlike, e_sure_draw, n_sure_draw, e_sure_bag, n_sure_bag, e_sure_sure, n_sure_sure, e_sure_unlike, n_sure_unlike, e_unlike_draw, n_unlike_draw, e_unlike_bag, n_unlike_bag, e_unlike_sure, n_unlike_sure, e_unlike_unlike, n_unlike_unlike, him]
      exact ⟨_, by rw [e0], ho, fun _ h => (nomatch h)⟩
theorem then_ok {t : Tb} {nm : List Str} (h : t.ok nm) {d : D} (hd : PartOk t d) (p : Nat) (hb : ∀ rs (ps : List Int), t = .bag rs → d = .tup (ps.map .int) → 1 ≤ ps.getD p 0) (w : Wl) : Sa (M_state_then [t.d, d, .int p] w) fun x w' => PartOk t x ∧ w' = w := by
  simp only [M_state_then, F_state_then, sa_ok, sa_bind, ss_seq, ss_fin, ss_nx, ss_ret, ss_nil, sa_fn, sa_v0, sa_v1, sa_v2, sa_v3, sa_v4, sa_v5, sa_v6, sa_v7, sa_v8, sa_v9, sa_v10, sa_v11, sa_v12, sa_v13, sa_v14, sa_eCon, sa_lift, sa_liftB, sa_liftL, sa_eOp, sa_eUn, sa_lNil, sa_lCons, sa_eTup, sa_eLst, sa_eBlt, sa_eCall, sa_eIf, sa_eAnd, sa_eOr, sa_bAnd, sa_bOr, sa_bNot, sa_bTru, sa_bVal, sa_eChain, sa_iItems, sa_iRange, sa_iKeys, ss_if, ss_ifG, ss_sret, ss_expr, ss_asg, ss_new, ss_asgT, ss_for, ss_app, ss_put, ss_putP, ss_ext, ss_newP, sa_eDnew, sa_eSl, sa_oNone, sa_oSome, sa_eBM, isB_bl, tru_bl, len_lst, len_tup, len_dic, items_lst, items_tup, Nat.zero_add, Nat.reduceAdd, Nat.reduceSub, Nat.sub_self, Nat.reduceLT, Nat.reduceLeDiff, Nat.le_refl, Nat.zero_le, true_and, List.filter_nil, List.filter_cons, List.contains_cons, List.contains_nil, Nat.reduceBEq, Nat.reduceBNe, Bool.or_false, Bool.false_or, Bool.true_or, Bool.or_true, Bool.not_true, Bool.not_false, Bool.false_eq_true, if_true, if_false, ite_true, ite_false, decide_true, decide_false, wipeE, give, rmv, List.set_cons_zero, List.set_cons_succ, List.set_nil, List.map_cons, List.map_nil, List.length_cons, List.length_nil, List.cons_append, List.nil_append, List.replicate_succ, List.replicate_zero, List.getElem?_cons_zero, List.getElem?_cons_succ]
  cases t with
  | draw rs =>
    have e1 : ixD (Tb.draw rs).d (.int 0) = some (.str "draw") := rfl
    simp only [sa_ok, sa_bind, ss_seq, ss_fin, ss_nx, ss_ret, ss_nil, sa_fn, sa_v0, sa_v1, sa_v2, sa_v3, sa_v4, sa_v5, sa_v6, sa_v7, sa_v8, sa_v9, sa_v10, sa_v11, sa_v12, sa_v13, sa_v14, sa_eCon, sa_lift, sa_liftB, sa_liftL, sa_eOp, sa_eUn, sa_lNil, sa_lCons, sa_eTup, sa_eLst, sa_eBlt, sa_eCall, sa_eIf, sa_eAnd, sa_eOr, sa_bAnd, sa_bOr, sa_bNot, sa_bTru, sa_bVal, sa_eChain, sa_iItems, sa_iRange, sa_iKeys, ss_if, ss_ifG, ss_sret, ss_expr, ss_asg, ss_new, ss_asgT, ss_for, ss_app, ss_put, ss_putP, ss_ext, ss_newP, sa_eDnew, sa_eSl, sa_oNone, sa_oSome, sa_eBM, isB_bl, tru_bl, len_lst, len_tup, len_dic, items_lst, items_tup, Nat.zero_add, Nat.reduceAdd, Nat.reduceSub, Nat.sub_self, Nat.reduceLT, Nat.reduceLeDiff, Nat.le_refl, Nat.zero_le, true_and, List.filter_nil, List.filter_cons, List.contains_cons, List.contains_nil, Nat.reduceBEq, Nat.reduceBNe, Bool.or_false, Bool.false_or, Bool.true_or, Bool.or_true, Bool.not_true, Bool.not_false, Bool.false_eq_true, if_true, if_false, ite_true, ite_false, decide_true, decide_false, wipeE, give, rmv, List.set_cons_zero, List.set_cons_succ, List.set_nil, List.map_cons, List.map_nil, List.length_cons, List.length_nil, List.cons_append, List.nil_append, List.replicate_succ, List.replicate_zero, List.getElem?_cons_zero, List.getElem?_cons_succ, e1, e_none_none, n_none_none, e_none_item, n_none_item, e_none_table, n_none_table, e_none_several, n_none_several, e_item_none, n_item_none, e_item_item, n_item_item, e_item_table, n_item_table, e_item_several, n_item_several, e_table_none, n_table_none, e_table_item, n_table_item, e_table_table, n_table_table, e_table_several, n_table_several, e_several_none, n_several_none, e_several_item, n_several_item, e_several_table, n_several_table, e_several_several, n_several_several, e_draw_draw, n_draw_draw, e_draw_bag, n_draw_bag, e_draw_sure, n_draw_sure, e_draw_unlike, n_draw_unlike, e_bag_draw, n_bag_draw, e_bag_bag, n_bag_bag, e_bag_sure, n_bag_sure, e_bag_unlike, n_bag_unlike, e_sure_draw, n_sure_draw, e_sure_bag, n_sure_bag, e_sure_sure, n_sure_sure, e_sure_unlike, n_sure_unlike, e_unlike_draw, n_unlike_draw, e_unlike_bag, n_unlike_bag, e_unlike_sure, n_unlike_sure, e_unlike_unlike, n_unlike_unlike]
    exact ⟨rfl, trivial⟩
  | unlike rs =>
    have e1 : ixD (Tb.unlike rs).d (.int 0) = some (.str "unlike") := rfl
    simp only [sa_ok, sa_bind, ss_seq, ss_fin, ss_nx, ss_ret, ss_nil, sa_fn, sa_v0, sa_v1, sa_v2, sa_v3, sa_v4, sa_v5, sa_v6, sa_v7, sa_v8, sa_v9, sa_v10, sa_v11, sa_v12, sa_v13, sa_v14, sa_eCon, sa_lift, sa_liftB, sa_liftL, sa_eOp, sa_eUn, sa_lNil, sa_lCons, sa_eTup, sa_eLst, sa_eBlt, sa_eCall, sa_eIf, sa_eAnd, sa_eOr, sa_bAnd, sa_bOr, sa_bNot, sa_bTru, sa_bVal, sa_eChain, sa_iItems, sa_iRange, sa_iKeys, ss_if, ss_ifG, ss_sret, ss_expr, ss_asg, ss_new, ss_asgT, ss_for, ss_app, ss_put, ss_putP, ss_ext, ss_newP, sa_eDnew, sa_eSl, sa_oNone, sa_oSome, sa_eBM, isB_bl, tru_bl, len_lst, len_tup, len_dic, items_lst, items_tup, Nat.zero_add, Nat.reduceAdd, Nat.reduceSub, Nat.sub_self, Nat.reduceLT, Nat.reduceLeDiff, Nat.le_refl, Nat.zero_le, true_and, List.filter_nil, List.filter_cons, List.contains_cons, List.contains_nil, Nat.reduceBEq, Nat.reduceBNe, Bool.or_false, Bool.false_or, Bool.true_or, Bool.or_true, Bool.not_true, Bool.not_false, Bool.false_eq_true, if_true, if_false, ite_true, ite_false, decide_true, decide_false, wipeE, give, rmv, List.set_cons_zero, List.set_cons_succ, List.set_nil, List.map_cons, List.map_nil, List.length_cons, List.length_nil, List.cons_append, List.nil_append, List.replicate_succ, List.replicate_zero, List.getElem?_cons_zero, List.getElem?_cons_succ, e1, e_none_none, n_none_none, e_none_item, n_none_item, e_none_table, n_none_table, e_none_several, n_none_several, e_item_none, n_item_none, e_item_item, n_item_item, e_item_table, n_item_table, e_item_several, n_item_several, e_table_none, n_table_none, e_table_item, n_table_item, e_table_table, n_table_table, e_table_several, n_table_several, e_several_none, n_several_none, e_several_item, n_several_item, e_several_table, n_several_table, e_several_several, n_several_several, e_draw_draw, n_draw_draw, e_draw_bag, n_draw_bag, e_draw_sure, n_draw_sure, e_draw_unlike, n_draw_unlike, e_bag_draw, n_bag_draw, e_bag_bag, n_bag_bag, e_bag_sure, n_bag_sure, e_bag_unlike, n_bag_unlike, e_sure_draw, n_sure_draw, e_sure_bag, n_sure_bag, e_sure_sure, n_sure_sure, e_sure_unlike, n_sure_unlike, e_unlike_draw, n_unlike_draw, e_unlike_bag, n_unlike_bag, e_unlike_sure, n_unlike_sure, e_unlike_unlike, n_unlike_unlike]
    exact ⟨.inr ⟨_, rfl⟩, trivial⟩
  | sure rs a m =>
    obtain ⟨i, rfl⟩ := hd
    have e1 : ixD (Tb.sure rs a m).d (.int 0) = some (.str "sure") := rfl
    have e3 : ixD (Tb.sure rs a m).d (.int 2) = some (.int a) := rfl
    simp only [sa_ok, sa_bind, ss_seq, ss_fin, ss_nx, ss_ret, ss_nil, sa_fn, sa_v0, sa_v1, sa_v2, sa_v3, sa_v4, sa_v5, sa_v6, sa_v7, sa_v8, sa_v9, sa_v10, sa_v11, sa_v12, sa_v13, sa_v14, sa_eCon, sa_lift, sa_liftB, sa_liftL, sa_eOp, sa_eUn, sa_lNil, sa_lCons, sa_eTup, sa_eLst, sa_eBlt, sa_eCall, sa_eIf, sa_eAnd, sa_eOr, sa_bAnd, sa_bOr, sa_bNot, sa_bTru, sa_bVal, sa_eChain, sa_iItems, sa_iRange, sa_iKeys, ss_if, ss_ifG, ss_sret, ss_expr, ss_asg, ss_new, ss_asgT, ss_for, ss_app, ss_put, ss_putP, ss_ext, ss_newP, sa_eDnew, sa_eSl, sa_oNone, sa_oSome, sa_eBM, isB_bl, tru_bl, len_lst, len_tup, len_dic, items_lst, items_tup, Nat.zero_add, Nat.reduceAdd, Nat.reduceSub, Nat.sub_self, Nat.reduceLT, Nat.reduceLeDiff, Nat.le_refl, Nat.zero_le, true_and, List.filter_nil, List.filter_cons, List.contains_cons, List.contains_nil, Nat.reduceBEq, Nat.reduceBNe, Bool.or_false, Bool.false_or, Bool.true_or, Bool.or_true, Bool.not_true, Bool.not_false, Bool.false_eq_true, if_true, if_false, ite_true, ite_false, decide_true, decide_false, wipeE, give, rmv, List.set_cons_zero, List.set_cons_succ, List.set_nil, List.map_cons, List.map_nil, List.length_cons, List.length_nil, List.cons_append, List.nil_append, List.replicate_succ, List.replicate_zero, List.getElem?_cons_zero, List.getElem?_cons_succ, e1, e3, eqD_int, e_none_none, n_none_none, e_none_item, n_none_item, e_none_table, n_none_table, e_none_several, n_none_several, e_item_none, n_item_none, e_item_item, n_item_item, e_item_table, n_item_table, e_item_several, n_item_several, e_table_none, n_table_none, e_table_item, n_table_item, e_table_table, n_table_table, e_table_several, n_table_several, e_several_none, n_several_none, e_several_item, n_several_item, e_several_table, n_several_table, e_several_several, n_several_several, e_draw_draw, n_draw_draw, e_draw_bag, n_draw_bag, e_draw_sure, n_draw_sure, e_draw_unlike, n_draw_unlike, e_bag_draw, n_bag_draw, e_bag_bag, n_bag_bag, e_bag_sure, n_bag_sure, e_bag_unlike, n_bag_unlike, e_sure_draw, n_sure_draw, e_sure_bag, n_sure_bag, e_sure_sure, n_sure_sure, e_sure_unlike, n_sure_unlike, e_unlike_draw, n_unlike_draw, e_unlike_bag, n_unlike_bag, e_unlike_sure, n_unlike_sure, e_unlike_unlike, n_unlike_unlike]
    by_cases hpa : (p : Int) = a
    · simp only [sa_ok, sa_bind, ss_seq, ss_fin, ss_nx, ss_ret, ss_nil, sa_fn, sa_v0, sa_v1, sa_v2, sa_v3, sa_v4, sa_v5, sa_v6, sa_v7, sa_v8, sa_v9, sa_v10, sa_v11, sa_v12, sa_v13, sa_v14, sa_eCon, sa_lift, sa_liftB, sa_liftL, sa_eOp, sa_eUn, sa_lNil, sa_lCons, sa_eTup, sa_eLst, sa_eBlt, sa_eCall, sa_eIf, sa_eAnd, sa_eOr, sa_bAnd, sa_bOr, sa_bNot, sa_bTru, sa_bVal, sa_eChain, sa_iItems, sa_iRange, sa_iKeys, ss_if, ss_ifG, ss_sret, ss_expr, ss_asg, ss_new, ss_asgT, ss_for, ss_app, ss_put, ss_putP, ss_ext, ss_newP, sa_eDnew, sa_eSl, sa_oNone, sa_oSome, sa_eBM, isB_bl, tru_bl, len_lst, len_tup, len_dic, items_lst, items_tup, Nat.zero_add, Nat.reduceAdd, Nat.reduceSub, Nat.sub_self, Nat.reduceLT, Nat.reduceLeDiff, Nat.le_refl, Nat.zero_le, true_and, List.filter_nil, List.filter_cons, List.contains_cons, List.contains_nil, Nat.reduceBEq, Nat.reduceBNe, Bool.or_false, Bool.false_or, Bool.true_or, Bool.or_true, Bool.not_true, Bool.not_false, Bool.false_eq_true, if_true, if_false, ite_true, ite_false, decide_true, decide_false, wipeE, give, rmv, List.set_cons_zero, List.set_cons_succ, List.set_nil, List.map_cons, List.map_nil, List.length_cons, List.length_nil, List.cons_append, List.nil_append, List.replicate_succ, List.replicate_zero, List.getElem?_cons_zero, List.getElem?_cons_succ, hpa]
      exact ⟨⟨_, rfl⟩, trivial⟩
    · simp only [sa_ok, sa_bind, ss_seq, ss_fin, ss_nx, ss_ret, ss_nil, sa_fn, sa_v0, sa_v1, sa_v2, sa_v3, sa_v4, sa_v5, sa_v6, sa_v7, sa_v8, sa_v9, sa_v10, sa_v11, sa_v12, sa_v13, sa_v14, sa_eCon, sa_lift, sa_liftB, sa_liftL, sa_eOp, sa_eUn, sa_lNil, sa_lCons, sa_eTup, sa_eLst, sa_eBlt, sa_eCall, sa_eIf, sa_eAnd, sa_eOr, sa_bAnd, sa_bOr, sa_bNot, sa_bTru, sa_bVal, sa_eChain, sa_iItems, sa_iRange, sa_iKeys, ss_if, ss_ifG, ss_sret, ss_expr, ss_asg, ss_new, ss_asgT, ss_for, ss_app, ss_put, ss_putP, ss_ext, ss_newP, sa_eDnew, sa_eSl, sa_oNone, sa_oSome, sa_eBM, isB_bl, tru_bl, len_lst, len_tup, len_dic, items_lst, items_tup, Nat.zero_add, Nat.reduceAdd, Nat.reduceSub, Nat.sub_self, Nat.reduceLT, Nat.reduceLeDiff, Nat.le_refl, Nat.zero_le, true_and, List.filter_nil, List.filter_cons, List.contains_cons, List.contains_nil, Nat.reduceBEq, Nat.reduceBNe, Bool.or_false, Bool.false_or, Bool.true_or, Bool.or_true, Bool.not_true, Bool.not_false, Bool.false_eq_true, if_true, if_false, ite_true, ite_false, decide_true, decide_false, wipeE, give, rmv, List.set_cons_zero, List.set_cons_succ, List.set_nil, List.map_cons, List.map_nil, List.length_cons, List.length_nil, List.cons_append, List.nil_append, List.replicate_succ, List.replicate_zero, List.getElem?_cons_zero, List.getElem?_cons_succ, hpa, addD]
      exact ⟨⟨_, rfl⟩, trivial⟩
  | bag rs =>
    obtain ⟨ps, rfl, hp⟩ := hd
    have hb1 := hb rs ps rfl rfl
    have e1 : ixD (Tb.bag rs).d (.int 0) = some (.str "bag") := rfl
    have hl := hp.len
    have hl4 : rs.length ≤ 4 := h.hi
    simp only [sa_ok, sa_bind, ss_seq, ss_fin, ss_nx, ss_ret, ss_nil, sa_fn, sa_v0, sa_v1, sa_v2, sa_v3, sa_v4, sa_v5, sa_v6, sa_v7, sa_v8, sa_v9, sa_v10, sa_v11, sa_v12, sa_v13, sa_v14, sa_eCon, sa_lift, sa_liftB, sa_liftL, sa_eOp, sa_eUn, sa_lNil, sa_lCons, sa_eTup, sa_eLst, sa_eBlt, sa_eCall, sa_eIf, sa_eAnd, sa_eOr, sa_bAnd, sa_bOr, sa_bNot, sa_bTru, sa_bVal, sa_eChain, sa_iItems, sa_iRange, sa_iKeys, ss_if, ss_ifG, ss_sret, ss_expr, ss_asg, ss_new, ss_asgT, ss_for, ss_app, ss_put, ss_putP, ss_ext, ss_newP, sa_eDnew, sa_eSl, sa_oNone, sa_oSome, sa_eBM, isB_bl, tru_bl, len_lst, len_tup, len_dic, items_lst, items_tup, Nat.zero_add, Nat.reduceAdd, Nat.reduceSub, Nat.sub_self, Nat.reduceLT, Nat.reduceLeDiff, Nat.le_refl, Nat.zero_le, true_and, List.filter_nil, List.filter_cons, List.contains_cons, List.contains_nil, Nat.reduceBEq, Nat.reduceBNe, Bool.or_false, Bool.false_or, Bool.true_or, Bool.or_true, Bool.not_true, Bool.not_false, Bool.false_eq_true, if_true, if_false, ite_true, ite_false, decide_true, decide_false, wipeE, give, rmv, List.set_cons_zero, List.set_cons_succ, List.set_nil, List.map_cons, List.map_nil, List.length_cons, List.length_nil, List.cons_append, List.nil_append, List.replicate_succ, List.replicate_zero, List.getElem?_cons_zero, List.getElem?_cons_succ, e1, e_none_none, n_none_none, e_none_item, n_none_item, e_none_table, n_none_table, e_none_several, n_none_several, e_item_none, n_item_none, e_item_item, n_item_item, e_item_table, n_item_table, e_item_several, n_item_several, e_table_none, n_table_none, e_table_item, n_table_item, e_table_table, n_table_table, e_table_several, n_table_several, e_several_none, n_several_none, e_several_item, n_several_item, e_several_table, n_several_table, e_several_several, n_several_several, e_draw_draw, n_draw_draw, e_draw_bag, n_draw_bag, e_draw_sure, n_draw_sure, e_draw_unlike, n_draw_unlike, e_bag_draw, n_bag_draw, e_bag_bag, n_bag_bag, e_bag_sure, n_bag_sure, e_bag_unlike, n_bag_unlike, e_sure_draw, n_sure_draw, e_sure_bag, n_sure_bag, e_sure_sure, n_sure_sure, e_sure_unlike, n_sure_unlike, e_unlike_draw, n_unlike_draw, e_unlike_bag, n_unlike_bag, e_unlike_sure, n_unlike_sure, e_unlike_unlike, n_unlike_unlike, sa_eLc, List.length_map, range1_ok (show 0 ≤ (ps.length : Int) by omega) (show (ps.length : Int) ≤ 100000 by omega), Int.toNat_natCast, rangeFrom_len]
    refine ⟨by omega, ?_⟩
    unfold rangeFrom
    rw [lc_map (g := fun k => .int (ps.getD k 0 - (if k = p then 1 else 0))) (m := fun i => D.int (0 + (i : Nat))) (List.range ps.length) [] ?hh, sa_ok]
    case hh =>
      intro k hk
      have hk := List.mem_range.mp hk
      have : ixD (.tup (ps.map .int)) (.int (k : Int)) = some (.int (ps.getD k 0)) := by
        show atI (ps.map D.int) (k : Int) = _
        rw [atI_nat (by simpa using hk)]
        simp [hk]
      by_cases hki : k = p
      · simp [eBlt, lCons, lNil, eOp, eVar, eCon, Res.bind, lift, G.intD, eqD_int, hki, subD] at this ⊢
        rw [this]
      · have hki' : ¬ ((k : Int) = (p : Int)) := by omega
        simp [eBlt, lCons, lNil, eOp, eVar, eCon, Res.bind, lift, G.intD, eqD_int, hki, hki', this, subD]
    have hm := ints_map (fun k : Nat => ps.getD k 0 - (if k = p then 1 else 0)) (List.range ps.length)
    have hn0 : ∀ x ∈ (List.range ps.length).map (fun k : Nat => ps.getD k 0 - (if k = p then (1 : Int) else 0)), 0 ≤ x ∧ x ≤ 20 := by
      intro x hx
      obtain ⟨k, hk, rfl⟩ := List.mem_map.mp hx
      have hk := List.mem_range.mp hk
      have hmem : ps.getD k 0 ∈ ps := by simp [hk]
      have h1 := hp.lo _ hmem
      have h2 := hp.hi _ hmem
      by_cases hkp : k = p
      · subst hkp
        rw [if_pos rfl]
        omega
      · rw [if_neg hkp]
        omega
    simp only [sa_ok, sa_bind, ss_seq, ss_fin, ss_nx, ss_ret, ss_nil, sa_fn, sa_v0, sa_v1, sa_v2, sa_v3, sa_v4, sa_v5, sa_v6, sa_v7, sa_v8, sa_v9, sa_v10, sa_v11, sa_v12, sa_v13, sa_v14, sa_eCon, sa_lift, sa_liftB, sa_liftL, sa_eOp, sa_eUn, sa_lNil, sa_lCons, sa_eTup, sa_eLst, sa_eBlt, sa_eCall, sa_eIf, sa_eAnd, sa_eOr, sa_bAnd, sa_bOr, sa_bNot, sa_bTru, sa_bVal, sa_eChain, sa_iItems, sa_iRange, sa_iKeys, ss_if, ss_ifG, ss_sret, ss_expr, ss_asg, ss_new, ss_asgT, ss_for, ss_app, ss_put, ss_putP, ss_ext, ss_newP, sa_eDnew, sa_eSl, sa_oNone, sa_oSome, sa_eBM, isB_bl, tru_bl, len_lst, len_tup, len_dic, items_lst, items_tup, Nat.zero_add, Nat.reduceAdd, Nat.reduceSub, Nat.sub_self, Nat.reduceLT, Nat.reduceLeDiff, Nat.le_refl, Nat.zero_le, true_and, List.filter_nil, List.filter_cons, List.contains_cons, List.contains_nil, Nat.reduceBEq, Nat.reduceBNe, Bool.or_false, Bool.false_or, Bool.true_or, Bool.or_true, Bool.not_true, Bool.not_false, Bool.false_eq_true, if_true, if_false, ite_true, ite_false, decide_true, decide_false, wipeE, give, rmv, List.set_cons_zero, List.set_cons_succ, List.set_nil, List.map_cons, List.map_nil, List.length_cons, List.length_nil, List.cons_append, List.nil_append, List.replicate_succ, List.replicate_zero, List.getElem?_cons_zero, List.getElem?_cons_succ, tupleD, sumD, hm, Option.map_some, cmpI]
    by_cases hs : 0 < ((List.range ps.length).map fun k : Nat => ps.getD k 0 - (if k = p then (1 : Int) else 0)).sum
    · simp only [sa_ok, sa_bind, ss_seq, ss_fin, ss_nx, ss_ret, ss_nil, sa_fn, sa_v0, sa_v1, sa_v2, sa_v3, sa_v4, sa_v5, sa_v6, sa_v7, sa_v8, sa_v9, sa_v10, sa_v11, sa_v12, sa_v13, sa_v14, sa_eCon, sa_lift, sa_liftB, sa_liftL, sa_eOp, sa_eUn, sa_lNil, sa_lCons, sa_eTup, sa_eLst, sa_eBlt, sa_eCall, sa_eIf, sa_eAnd, sa_eOr, sa_bAnd, sa_bOr, sa_bNot, sa_bTru, sa_bVal, sa_eChain, sa_iItems, sa_iRange, sa_iKeys, ss_if, ss_ifG, ss_sret, ss_expr, ss_asg, ss_new, ss_asgT, ss_for, ss_app, ss_put, ss_putP, ss_ext, ss_newP, sa_eDnew, sa_eSl, sa_oNone, sa_oSome, sa_eBM, isB_bl, tru_bl, len_lst, len_tup, len_dic, items_lst, items_tup, Nat.zero_add, Nat.reduceAdd, Nat.reduceSub, Nat.sub_self, Nat.reduceLT, Nat.reduceLeDiff, Nat.le_refl, Nat.zero_le, true_and, List.filter_nil, List.filter_cons, List.contains_cons, List.contains_nil, Nat.reduceBEq, Nat.reduceBNe, Bool.or_false, Bool.false_or, Bool.true_or, Bool.or_true, Bool.not_true, Bool.not_false, Bool.false_eq_true, if_true, if_false, ite_true, ite_false, decide_true, decide_false, wipeE, give, rmv, List.set_cons_zero, List.set_cons_succ, List.set_nil, List.map_cons, List.map_nil, List.length_cons, List.length_nil, List.cons_append, List.nil_append, List.replicate_succ, List.replicate_zero, List.getElem?_cons_zero, List.getElem?_cons_succ, hs]
      refine ⟨⟨(List.range ps.length).map fun k : Nat => ps.getD k 0 - (if k = p then (1 : Int) else 0), by simp, ⟨by simp [hl], hl4, fun x hx => (hn0 x hx).1, fun x hx => (hn0 x hx).2, hs⟩⟩, trivial⟩
    · simp only [sa_ok, sa_bind, ss_seq, ss_fin, ss_nx, ss_ret, ss_nil, sa_fn, sa_v0, sa_v1, sa_v2, sa_v3, sa_v4, sa_v5, sa_v6, sa_v7, sa_v8, sa_v9, sa_v10, sa_v11, sa_v12, sa_v13, sa_v14, sa_eCon, sa_lift, sa_liftB, sa_liftL, sa_eOp, sa_eUn, sa_lNil, sa_lCons, sa_eTup, sa_eLst, sa_eBlt, sa_eCall, sa_eIf, sa_eAnd, sa_eOr, sa_bAnd, sa_bOr, sa_bNot, sa_bTru, sa_bVal, sa_eChain, sa_iItems, sa_iRange, sa_iKeys, ss_if, ss_ifG, ss_sret, ss_expr, ss_asg, ss_new, ss_asgT, ss_for, ss_app, ss_put, ss_putP, ss_ext, ss_newP, sa_eDnew, sa_eSl, sa_oNone, sa_oSome, sa_eBM, isB_bl, tru_bl, len_lst, len_tup, len_dic, items_lst, items_tup, Nat.zero_add, Nat.reduceAdd, Nat.reduceSub, Nat.sub_self, Nat.reduceLT, Nat.reduceLeDiff, Nat.le_refl, Nat.zero_le, true_and, List.filter_nil, List.filter_cons, List.contains_cons, List.contains_nil, Nat.reduceBEq, Nat.reduceBNe, Bool.or_false, Bool.false_or, Bool.true_or, Bool.or_true, Bool.not_true, Bool.not_false, Bool.false_eq_true, if_true, if_false, ite_true, ite_false, decide_true, decide_false, wipeE, give, rmv, List.set_cons_zero, List.set_cons_succ, List.set_nil, List.map_cons, List.map_nil, List.length_cons, List.length_nil, List.cons_append, List.nil_append, List.replicate_succ, List.replicate_zero, List.getElem?_cons_zero, List.getElem?_cons_succ, hs, fresh_of_eq (.bag rs) h]
      exact ⟨fr_ok h, trivial⟩
def placeB : SS Wl := (sSeq (sAsg 6 (eOp subD (eVar 6) (eOp ixD (eVar 5) (eVar 7))) [5, 6, 7]) (sSeq (sAsg 7 (eOp addD (eVar 7) (eCon (.int 1))) [7]) sNil))
theorem place_loop (ws : List Int) (a0 a1 a2 a3 a4 a8 : Option D) (w : Wl) (R : D → Wl → Prop) : ∀ (f k : Nat) (num : Int), ws.length - k < f → 0 ≤ num → num < (ws.drop k).sum →
    Ss (whileD (bVal (eOp geD (eVar 6) (eOp ixD (eVar 5) (eVar 7)))) placeB f [a0, a1, a2, a3, a4, some (.lst (ws.map .int)), some (.int num), some (.int k), a8] [] w) (fun rh ow w' => ∃ p num', p < ws.length ∧ 1 ≤ ws.getD p 0 ∧ rh = [a0, a1, a2, a3, a4, some (.lst (ws.map .int)), some (.int num'), some (.int (p : Nat)), a8] ∧ ow = [] ∧ w' = w) R
  | 0, k, num, h, _, _ => by omega
  | f + 1, k, num, hf, h0, h1 => by
    have hk : k < ws.length := by
      by_cases hk : k < ws.length
      · exact hk
      · rw [List.drop_of_length_le (by omega)] at h1
        simp at h1
        omega
    have hx : ixD (.lst (ws.map .int)) (.int (k : Int)) = some (.int (ws.getD k 0)) := by
      show atI (ws.map D.int) (k : Int) = _
      rw [atI_nat (by simpa using hk)]
      simp [hk]
    have hg : ws.getD k 0 = ws[k] := by simp [hk]
    rw [List.drop_eq_getElem_cons hk, List.sum_cons] at h1
    rw [ss_while]
    simp only [sa_ok, sa_bind, ss_seq, ss_fin, ss_nx, ss_ret, ss_nil, sa_fn, sa_v0, sa_v1, sa_v2, sa_v3, sa_v4, sa_v5, sa_v6, sa_v7, sa_v8, sa_v9, sa_v10, sa_v11, sa_v12, sa_v13, sa_v14, sa_eCon, sa_lift, sa_liftB, sa_liftL, sa_eOp, sa_eUn, sa_lNil, sa_lCons, sa_eTup, sa_eLst, sa_eBlt, sa_eCall, sa_eIf, sa_eAnd, sa_eOr, sa_bAnd, sa_bOr, sa_bNot, sa_bTru, sa_bVal, sa_eChain, sa_iItems, sa_iRange, sa_iKeys, ss_if, ss_ifG, ss_sret, ss_expr, ss_asg, ss_new, ss_asgT, ss_for, ss_app, ss_put, ss_putP, ss_ext, ss_newP, sa_eDnew, sa_eSl, sa_oNone, sa_oSome, sa_eBM, isB_bl, tru_bl, len_lst, len_tup, len_dic, items_lst, items_tup, Nat.zero_add, Nat.reduceAdd, Nat.reduceSub, Nat.sub_self, Nat.reduceLT, Nat.reduceLeDiff, Nat.le_refl, Nat.zero_le, true_and, List.filter_nil, List.filter_cons, List.contains_cons, List.contains_nil, Nat.reduceBEq, Nat.reduceBNe, Bool.or_false, Bool.false_or, Bool.true_or, Bool.or_true, Bool.not_true, Bool.not_false, Bool.false_eq_true, if_true, if_false, ite_true, ite_false, decide_true, decide_false, wipeE, give, rmv, List.set_cons_zero, List.set_cons_succ, List.set_nil, List.map_cons, List.map_nil, List.length_cons, List.length_nil, List.cons_append, List.nil_append, List.replicate_succ, List.replicate_zero, List.getElem?_cons_zero, List.getElem?_cons_succ, hx, cmpI]
    by_cases hle : ws.getD k 0 ≤ num
    · simp only [sa_ok, sa_bind, ss_seq, ss_fin, ss_nx, ss_ret, ss_nil, sa_fn, sa_v0, sa_v1, sa_v2, sa_v3, sa_v4, sa_v5, sa_v6, sa_v7, sa_v8, sa_v9, sa_v10, sa_v11, sa_v12, sa_v13, sa_v14, sa_eCon, sa_lift, sa_liftB, sa_liftL, sa_eOp, sa_eUn, sa_lNil, sa_lCons, sa_eTup, sa_eLst, sa_eBlt, sa_eCall, sa_eIf, sa_eAnd, sa_eOr, sa_bAnd, sa_bOr, sa_bNot, sa_bTru, sa_bVal, sa_eChain, sa_iItems, sa_iRange, sa_iKeys, ss_if, ss_ifG, ss_sret, ss_expr, ss_asg, ss_new, ss_asgT, ss_for, ss_app, ss_put, ss_putP, ss_ext, ss_newP, sa_eDnew, sa_eSl, sa_oNone, sa_oSome, sa_eBM, isB_bl, tru_bl, len_lst, len_tup, len_dic, items_lst, items_tup, Nat.zero_add, Nat.reduceAdd, Nat.reduceSub, Nat.sub_self, Nat.reduceLT, Nat.reduceLeDiff, Nat.le_refl, Nat.zero_le, true_and, List.filter_nil, List.filter_cons, List.contains_cons, List.contains_nil, Nat.reduceBEq, Nat.reduceBNe, Bool.or_false, Bool.false_or, Bool.true_or, Bool.or_true, Bool.not_true, Bool.not_false, Bool.false_eq_true, if_true, if_false, ite_true, ite_false, decide_true, decide_false, wipeE, give, rmv, List.set_cons_zero, List.set_cons_succ, List.set_nil, List.map_cons, List.map_nil, List.length_cons, List.length_nil, List.cons_append, List.nil_append, List.replicate_succ, List.replicate_zero, List.getElem?_cons_zero, List.getElem?_cons_succ, hle]
      refine ss_next ?_
      unfold placeB
      have ih := place_loop ws a0 a1 a2 a3 a4 a8 w R f (k + 1) (num - ws.getD k 0) (by omega) (by omega) (by omega)
      unfold placeB at ih
      simp only [Int.natCast_add, Int.natCast_one] at ih
      simp only [sa_ok, sa_bind, ss_seq, ss_fin, ss_nx, ss_ret, ss_nil, sa_fn, sa_v0, sa_v1, sa_v2, sa_v3, sa_v4, sa_v5, sa_v6, sa_v7, sa_v8, sa_v9, sa_v10, sa_v11, sa_v12, sa_v13, sa_v14, sa_eCon, sa_lift, sa_liftB, sa_liftL, sa_eOp, sa_eUn, sa_lNil, sa_lCons, sa_eTup, sa_eLst, sa_eBlt, sa_eCall, sa_eIf, sa_eAnd, sa_eOr, sa_bAnd, sa_bOr, sa_bNot, sa_bTru, sa_bVal, sa_eChain, sa_iItems, sa_iRange, sa_iKeys, ss_if, ss_ifG, ss_sret, ss_expr, ss_asg, ss_new, ss_asgT, ss_for, ss_app, ss_put, ss_putP, ss_ext, ss_newP, sa_eDnew, sa_eSl, sa_oNone, sa_oSome, sa_eBM, isB_bl, tru_bl, len_lst, len_tup, len_dic, items_lst, items_tup, Nat.zero_add, Nat.reduceAdd, Nat.reduceSub, Nat.sub_self, Nat.reduceLT, Nat.reduceLeDiff, Nat.le_refl, Nat.zero_le, true_and, List.filter_nil, List.filter_cons, List.contains_cons, List.contains_nil, Nat.reduceBEq, Nat.reduceBNe, Bool.or_false, Bool.false_or, Bool.true_or, Bool.or_true, Bool.not_true, Bool.not_false, Bool.false_eq_true, if_true, if_false, ite_true, ite_false, decide_true, decide_false, wipeE, give, rmv, List.set_cons_zero, List.set_cons_succ, List.set_nil, List.map_cons, List.map_nil, List.length_cons, List.length_nil, List.cons_append, List.nil_append, List.replicate_succ, List.replicate_zero, List.getElem?_cons_zero, List.getElem?_cons_succ, hx, subD, addD]
      exact ih
    · simp only [sa_ok, sa_bind, ss_seq, ss_fin, ss_nx, ss_ret, ss_nil, sa_fn, sa_v0, sa_v1, sa_v2, sa_v3, sa_v4, sa_v5, sa_v6, sa_v7, sa_v8, sa_v9, sa_v10, sa_v11, sa_v12, sa_v13, sa_v14, sa_eCon, sa_lift, sa_liftB, sa_liftL, sa_eOp, sa_eUn, sa_lNil, sa_lCons, sa_eTup, sa_eLst, sa_eBlt, sa_eCall, sa_eIf, sa_eAnd, sa_eOr, sa_bAnd, sa_bOr, sa_bNot, sa_bTru, sa_bVal, sa_eChain, sa_iItems, sa_iRange, sa_iKeys, ss_if, ss_ifG, ss_sret, ss_expr, ss_asg, ss_new, ss_asgT, ss_for, ss_app, ss_put, ss_putP, ss_ext, ss_newP, sa_eDnew, sa_eSl, sa_oNone, sa_oSome, sa_eBM, isB_bl, tru_bl, len_lst, len_tup, len_dic, items_lst, items_tup, Nat.zero_add, Nat.reduceAdd, Nat.reduceSub, Nat.sub_self, Nat.reduceLT, Nat.reduceLeDiff, Nat.le_refl, Nat.zero_le, true_and, List.filter_nil, List.filter_cons, List.contains_cons, List.contains_nil, Nat.reduceBEq, Nat.reduceBNe, Bool.or_false, Bool.false_or, Bool.true_or, Bool.or_true, Bool.not_true, Bool.not_false, Bool.false_eq_true, if_true, if_false, ite_true, ite_false, decide_true, decide_false, wipeE, give, rmv, List.set_cons_zero, List.set_cons_succ, List.set_nil, List.map_cons, List.map_nil, List.length_cons, List.length_nil, List.cons_append, List.nil_append, List.replicate_succ, List.replicate_zero, List.getElem?_cons_zero, List.getElem?_cons_succ, hle]
      exact ⟨k, num, hk, by omega, rfl, trivial⟩
/-! ### heaps -/
def hpD (h : Str × Int) : D := .tup [.str h.1, .int h.2]
def kvI (h : Str × Int) : Key × D := (.inr h.1, .int h.2)
theorem putD_kvI (hs : List (Str × Int)) (x : Str) (c : Int) : ∃ hs' : List (Str × Int), putD (hs.map kvI) (.inr x) (.int c) = hs'.map kvI ∧ hs'.length ≤ hs.length + 1 ∧ ∃ c', (x, c') ∈ hs' := by
  unfold putD
  split
  · rename_i ha
    refine ⟨hs.map fun h => if h.1 = x then (h.1, c) else h, ?_, by simp, ?_⟩
    · rw [List.map_map, List.map_map]
      refine List.map_congr_left fun h _ => ?_
      by_cases hx : h.1 = x
      · simp [kvI, hx]
      · simp [kvI, hx]
    · obtain ⟨kv, hkv, e⟩ := List.any_eq_true.mp ha
      obtain ⟨h, hh, rfl⟩ := List.mem_map.mp hkv
      have e : h.1 = x := by simpa [kvI] using e
      exact ⟨c, List.mem_map.mpr ⟨h, hh, by simp [e]⟩⟩
  · exact ⟨hs ++ [(x, c)], by simp [kvI], by simp, c, by simp⟩
theorem merge_kvI : ∀ (hs acc : List (Str × Int)), ∃ hs' : List (Str × Int), mergeD (acc.map kvI) (hs.map kvI) = hs'.map kvI ∧ hs'.length ≤ acc.length + hs.length
  | [], acc => ⟨acc, rfl, by simp⟩
  | h :: hs, acc => by
    obtain ⟨a2, e, l, _⟩ := putD_kvI acc h.1 h.2
    obtain ⟨a3, e3, l3⟩ := merge_kvI hs a2
    refine ⟨a3, ?_, by simp; omega⟩
    rw [← e3, ← e]
    rfl
theorem pairs_hp : ∀ hs : List (Str × Int), pairsD (hs.map hpD) = some (hs.map kvI)
  | [] => rfl
  | h :: hs => by
    show (match pairD (hpD h), pairsD (hs.map hpD) with | some p, some ps => some (p :: ps) | _, _ => none) = _
    rw [pairs_hp hs]; rfl
theorem ksOf_kvI : ∀ hs : List (Str × Int), ksOf ((hs.map kvI).map (·.1)) = some (hs.map (·.1))
  | [] => rfl
  | h :: hs => by
    show (ksOf ((hs.map kvI).map (·.1))).map (h.1 :: ·) = _
    rw [ksOf_kvI hs]; rfl
theorem valK_kvI {x : Str} : ∀ {hs : List (Str × Int)}, x ∈ hs.map (·.1) → ∃ c : Int, valK (hs.map kvI) (.inr x) = some (.int c)
  | h :: hs, hx => by
    by_cases e : h.1 = x
    · exact ⟨h.2, by simp [valK, kvI, e]⟩
    · have : x ∈ hs.map (·.1) := by
        rcases List.mem_cons.mp hx with rfl | h
        · exact absurd rfl e
        · exact h
      obtain ⟨c, hc⟩ := valK_kvI this
      refine ⟨c, ?_⟩
      simp [valK, kvI, e] at hc ⊢
      exact hc
theorem sortS_perm : ∀ l : List Str, (sortS l).Perm l
  | [] => .nil
  | x :: r => (insS_perm x (sortS r)).trans ((sortS_perm r).cons x)
def valI (hs : List (Str × Int)) (x : Str) : Int := match valK (hs.map kvI) (.inr x) with
  | some (.int c) => c
  | _ => 0
theorem heap_ok (hs : List (Str × Int)) (x : Str) (c : Int) (hl : hs.length < 60) (w : Wl) : Sa (M_heap_with [.tup (hs.map hpD), .str x, .int c] w) fun d w' => ∃ hs' : List (Str × Int), d = .tup (hs'.map hpD) ∧ hs'.length ≤ hs.length + 1 ∧ w' = w := by
  obtain ⟨h1, e1, l1⟩ := merge_kvI hs []
  have e1' : dictN [.tup (hs.map hpD)] = some (.dic (h1.map kvI)) := by
    show (pairsD (hs.map hpD)).map (fun ps => D.dic (mergeD [] ps)) = _
    rw [pairs_hp]
    exact congrArg (fun z => some (D.dic z)) e1
  simp only [List.length_nil, Nat.zero_add] at l1
  obtain ⟨c0, hc0⟩ : ∃ c0 : Int, G.getD (.dic (h1.map kvI)) (.str x) (.int 0) = some (.int c0) := by
    show ∃ c0 : Int, some ((valK (h1.map kvI) (.inr x)).getD (.int 0)) = some (.int c0)
    by_cases hx : x ∈ h1.map (·.1)
    · obtain ⟨c, hc⟩ := valK_kvI hx
      exact ⟨c, by rw [hc]; rfl⟩
    · refine ⟨0, ?_⟩
      have : valK (h1.map kvI) (.inr x) = none := by
        unfold valK
        rw [List.find?_eq_none.mpr, Option.map_none]
        intro kv hkv
        obtain ⟨h, hh, rfl⟩ := List.mem_map.mp hkv
        simp [kvI]
        intro e
        exact hx (List.mem_map.mpr ⟨h, hh, e⟩)
      rw [this]; rfl
  obtain ⟨h2, e2, l2, _⟩ := putD_kvI h1 x (c0 + c)
  simp only [M_heap_with, F_heap_with, sa_ok, sa_bind, ss_seq, ss_fin, ss_nx, ss_ret, ss_nil, sa_fn, sa_v0, sa_v1, sa_v2, sa_v3, sa_v4, sa_v5, sa_v6, sa_v7, sa_v8, sa_v9, sa_v10, sa_v11, sa_v12, sa_v13, sa_v14, sa_eCon, sa_lift, sa_liftB, sa_liftL, sa_eOp, sa_eUn, sa_lNil, sa_lCons, sa_eTup, sa_eLst, sa_eBlt, sa_eCall, sa_eIf, sa_eAnd, sa_eOr, sa_bAnd, sa_bOr, sa_bNot, sa_bTru, sa_bVal, sa_eChain, sa_iItems, sa_iRange, sa_iKeys, ss_if, ss_ifG, ss_sret, ss_expr, ss_asg, ss_new, ss_asgT, ss_for, ss_app, ss_put, ss_putP, ss_ext, ss_newP, sa_eDnew, sa_eSl, sa_oNone, sa_oSome, sa_eBM, isB_bl, tru_bl, len_lst, len_tup, len_dic, items_lst, items_tup, Nat.zero_add, Nat.reduceAdd, Nat.reduceSub, Nat.sub_self, Nat.reduceLT, Nat.reduceLeDiff, Nat.le_refl, Nat.zero_le, true_and, List.filter_nil, List.filter_cons, List.contains_cons, List.contains_nil, Nat.reduceBEq, Nat.reduceBNe, Bool.or_false, Bool.false_or, Bool.true_or, Bool.or_true, Bool.not_true, Bool.not_false, Bool.false_eq_true, if_true, if_false, ite_true, ite_false, decide_true, decide_false, wipeE, give, rmv, List.set_cons_zero, List.set_cons_succ, List.set_nil, List.map_cons, List.map_nil, List.length_cons, List.length_nil, List.cons_append, List.nil_append, List.replicate_succ, List.replicate_zero, List.getElem?_cons_zero, List.getElem?_cons_succ, e1']
  rw [ss_putP (xs := h1.map kvI) (ownD_at rfl rfl (by simp; omega))]
  simp only [sa_ok, sa_bind, ss_seq, ss_fin, ss_nx, ss_ret, ss_nil, sa_fn, sa_v0, sa_v1, sa_v2, sa_v3, sa_v4, sa_v5, sa_v6, sa_v7, sa_v8, sa_v9, sa_v10, sa_v11, sa_v12, sa_v13, sa_v14, sa_eCon, sa_lift, sa_liftB, sa_liftL, sa_eOp, sa_eUn, sa_lNil, sa_lCons, sa_eTup, sa_eLst, sa_eBlt, sa_eCall, sa_eIf, sa_eAnd, sa_eOr, sa_bAnd, sa_bOr, sa_bNot, sa_bTru, sa_bVal, sa_eChain, sa_iItems, sa_iRange, sa_iKeys, ss_if, ss_ifG, ss_sret, ss_expr, ss_asg, ss_new, ss_asgT, ss_for, ss_app, ss_put, ss_putP, ss_ext, ss_newP, sa_eDnew, sa_eSl, sa_oNone, sa_oSome, sa_eBM, isB_bl, tru_bl, len_lst, len_tup, len_dic, items_lst, items_tup, Nat.zero_add, Nat.reduceAdd, Nat.reduceSub, Nat.sub_self, Nat.reduceLT, Nat.reduceLeDiff, Nat.le_refl, Nat.zero_le, true_and, List.filter_nil, List.filter_cons, List.contains_cons, List.contains_nil, Nat.reduceBEq, Nat.reduceBNe, Bool.or_false, Bool.false_or, Bool.true_or, Bool.or_true, Bool.not_true, Bool.not_false, Bool.false_eq_true, if_true, if_false, ite_true, ite_false, decide_true, decide_false, wipeE, give, rmv, List.set_cons_zero, List.set_cons_succ, List.set_nil, List.map_cons, List.map_nil, List.length_cons, List.length_nil, List.cons_append, List.nil_append, List.replicate_succ, List.replicate_zero, List.getElem?_cons_zero, List.getElem?_cons_succ, sa_eGet, hc0, addD]
  refine ⟨rfl, rfl, .inr x, rfl, ?_⟩
  rw [e2]
  have ek : keysD (.dic (h2.map kvI)) = some (.kys ((h2.map kvI).map (·.1))) := rfl
  have es : sortedA [.kys ((h2.map kvI).map (·.1))] = some (.lst ((sortS (h2.map (·.1))).map .str)) := by
    show (match ksOf ((h2.map kvI).map (·.1)) with | some ss => if ss.length < 64 then some (D.lst ((sortS ss).map .str)) else none | none => none) = _
    rw [ksOf_kvI]
    simp only [List.length_map]
    rw [if_pos (by omega)]
  have hp := sortS_perm (h2.map (·.1))
  have hlen : (sortS (h2.map (·.1))).length = h2.length := by rw [hp.length_eq, List.length_map]
  simp only [sa_ok, sa_bind, ss_seq, ss_fin, ss_nx, ss_ret, ss_nil, sa_fn, sa_v0, sa_v1, sa_v2, sa_v3, sa_v4, sa_v5, sa_v6, sa_v7, sa_v8, sa_v9, sa_v10, sa_v11, sa_v12, sa_v13, sa_v14, sa_eCon, sa_lift, sa_liftB, sa_liftL, sa_eOp, sa_eUn, sa_lNil, sa_lCons, sa_eTup, sa_eLst, sa_eBlt, sa_eCall, sa_eIf, sa_eAnd, sa_eOr, sa_bAnd, sa_bOr, sa_bNot, sa_bTru, sa_bVal, sa_eChain, sa_iItems, sa_iRange, sa_iKeys, ss_if, ss_ifG, ss_sret, ss_expr, ss_asg, ss_new, ss_asgT, ss_for, ss_app, ss_put, ss_putP, ss_ext, ss_newP, sa_eDnew, sa_eSl, sa_oNone, sa_oSome, sa_eBM, isB_bl, tru_bl, len_lst, len_tup, len_dic, items_lst, items_tup, Nat.zero_add, Nat.reduceAdd, Nat.reduceSub, Nat.sub_self, Nat.reduceLT, Nat.reduceLeDiff, Nat.le_refl, Nat.zero_le, true_and, List.filter_nil, List.filter_cons, List.contains_cons, List.contains_nil, Nat.reduceBEq, Nat.reduceBNe, Bool.or_false, Bool.false_or, Bool.true_or, Bool.or_true, Bool.not_true, Bool.not_false, Bool.false_eq_true, if_true, if_false, ite_true, ite_false, decide_true, decide_false, wipeE, give, rmv, List.set_cons_zero, List.set_cons_succ, List.set_nil, List.map_cons, List.map_nil, List.length_cons, List.length_nil, List.cons_append, List.nil_append, List.replicate_succ, List.replicate_zero, List.getElem?_cons_zero, List.getElem?_cons_succ, ek, es, sa_eLc, List.length_map, hlen]
  refine ⟨by omega, ?_⟩
  rw [lc_map (g := fun y => hpD (y, valI h2 y)) (m := D.str) (sortS (h2.map (·.1))) [] ?hh, sa_ok]
  case hh =>
    intro y hy
    obtain ⟨c, hc⟩ := valK_kvI (hp.mem_iff.mp hy)
    simp [eTup, lCons, lNil, eOp, eVar, Res.bind, lift, ixD, G.keyOf, hc, hpD, valI]
  simp only [sa_ok, sa_bind, ss_seq, ss_fin, ss_nx, ss_ret, ss_nil, sa_fn, sa_v0, sa_v1, sa_v2, sa_v3, sa_v4, sa_v5, sa_v6, sa_v7, sa_v8, sa_v9, sa_v10, sa_v11, sa_v12, sa_v13, sa_v14, sa_eCon, sa_lift, sa_liftB, sa_liftL, sa_eOp, sa_eUn, sa_lNil, sa_lCons, sa_eTup, sa_eLst, sa_eBlt, sa_eCall, sa_eIf, sa_eAnd, sa_eOr, sa_bAnd, sa_bOr, sa_bNot, sa_bTru, sa_bVal, sa_eChain, sa_iItems, sa_iRange, sa_iKeys, ss_if, ss_ifG, ss_sret, ss_expr, ss_asg, ss_new, ss_asgT, ss_for, ss_app, ss_put, ss_putP, ss_ext, ss_newP, sa_eDnew, sa_eSl, sa_oNone, sa_oSome, sa_eBM, isB_bl, tru_bl, len_lst, len_tup, len_dic, items_lst, items_tup, Nat.zero_add, Nat.reduceAdd, Nat.reduceSub, Nat.sub_self, Nat.reduceLT, Nat.reduceLeDiff, Nat.le_refl, Nat.zero_le, true_and, List.filter_nil, List.filter_cons, List.contains_cons, List.contains_nil, Nat.reduceBEq, Nat.reduceBNe, Bool.or_false, Bool.false_or, Bool.true_or, Bool.or_true, Bool.not_true, Bool.not_false, Bool.false_eq_true, if_true, if_false, ite_true, ite_false, decide_true, decide_false, wipeE, give, rmv, List.set_cons_zero, List.set_cons_succ, List.set_nil, List.map_cons, List.map_nil, List.length_cons, List.length_nil, List.cons_append, List.nil_append, List.replicate_succ, List.replicate_zero, List.getElem?_cons_zero, List.getElem?_cons_succ, tupleD]
  refine ⟨(sortS (h2.map (·.1))).map fun y => (y, valI h2 y), by simp, by simp [hlen]; omega⟩
theorem nx_pos {k : Int} (h1 : 0 < k) (h2 : k < 2147483647) : 0 < k * 48271 % 2147483647 := by
  have h0 : 0 ≤ k * 48271 % 2147483647 := Int.emod_nonneg _ (by decide)
  by_cases h : k * 48271 % 2147483647 = 0
  · exfalso
    obtain ⟨m, rfl⟩ : ∃ m : Nat, k = m := ⟨k.toNat, by omega⟩
    have hd : 2147483647 ∣ m * 48271 := by omega
    have hc : Nat.Coprime 2147483647 48271 := by decide +kernel
    have := Nat.le_of_dvd (by omega) (hc.dvd_of_dvd_mul_right hd)
    omega
  · omega
theorem nx_below {k m q : Int} (h1 : 0 < k) (h2 : k < 2147483647) (m1 : 1 ≤ m) (m2 : m ≤ 80) (hq : 2147483646 - m < q) (h : q ≤ k - 1) : k * 48271 % 2147483647 - 1 < q := by
  have e : k * 48271 = (2147483647 - 48271 * (2147483647 - k)) + 2147483647 * 48270 := by omega
  rw [e, Int.add_mul_emod_self_left, Int.emod_eq_of_lt (by omega) (by omega)]
  omega
theorem div_lo {m : Int} (m1 : 1 ≤ m) : 2147483646 - m < 2147483646 / m * m := by
  have h1 := Int.emod_add_mul_ediv 2147483646 m
  have h2 := Int.emod_lt_of_pos 2147483646 (show 0 < m by omega)
  rw [Int.mul_comm] at h1
  omega
def e0 : Cell := .ins "Hand" []
def fs4 (bk : D) (k : Int) (st : D) : List (Str × D) := [("book", bk), ("number", .int k), ("state", st), ("past", .obj 5)]
def wd (n : Nat) (bk : D) (k : Int) (st : D) (past : List D) : Wl := [.lst (List.replicate n (.int 0)), e0, e0, e0, .ins "Hand" (fs4 bk k st), .lst past]
section
variable {n : Nat} {bk st : D} {k : Int} {past : List D} {rh : G.Env} {Q : D → Wl → Prop}
theorem cell4 : cellI "Hand" (.obj 4) (wd n bk k st past) = some (4, fs4 bk k st) := by kernel_rfl
theorem sa_num : Sa (eAtt "Hand" "number" (eVar 0) (some (.obj 4) :: rh) (wd n bk k st past)) Q ↔ Q (.int k) (wd n bk k st past) := by
  have : eAtt "Hand" "number" (eVar 0) (some (.obj 4) :: rh) (wd n bk k st past) = .ok (.int k) (wd n bk k st past) := by kernel_rfl
  rw [this, sa_ok]
theorem sa_bk : Sa (eAtt "Hand" "book" (eVar 0) (some (.obj 4) :: rh) (wd n bk k st past)) Q ↔ Q bk (wd n bk k st past) := by
  have : eAtt "Hand" "book" (eVar 0) (some (.obj 4) :: rh) (wd n bk k st past) = .ok bk (wd n bk k st past) := by kernel_rfl
  rw [this, sa_ok]
theorem sa_st : Sa (eAtt "Hand" "state" (eVar 0) (some (.obj 4) :: rh) (wd n bk k st past)) Q ↔ Q st (wd n bk k st past) := by
  have : eAtt "Hand" "state" (eVar 0) (some (.obj 4) :: rh) (wd n bk k st past) = .ok st (wd n bk k st past) := by kernel_rfl
  rw [this, sa_ok]
theorem sa_past : Sa (eAtt "Hand" "past" (eVar 0) (some (.obj 4) :: rh) (wd n bk k st past)) Q ↔ Q (.obj 5) (wd n bk k st past) := by
  have : eAtt "Hand" "past" (eVar 0) (some (.obj 4) :: rh) (wd n bk k st past) = .ok (.obj 5) (wd n bk k st past) := by kernel_rfl
  rw [this, sa_ok]
theorem set_num (k' : Int) : (wd n bk k st past).set 4 (.ins "Hand" (putFD "number" (.int k') (fs4 bk k st))) = wd n bk k' st past := by kernel_rfl
theorem set_st (st' : D) : (wd n bk k st past).set 4 (.ins "Hand" (putFD "state" st' (fs4 bk k st))) = wd n bk k st' past := by kernel_rfl
theorem no_below : (fs4 bk k st).lookup ("below" : Str) = none := by kernel_rfl
theorem no_drawn : (fs4 bk k st).lookup ("drawn" : Str) = none := by kernel_rfl
theorem no_draw : (fs4 bk k st).lookup ("draw" : Str) = none := by kernel_rfl
theorem no_many : (fs4 bk k st).lookup ("many" : Str) = none := by kernel_rfl
theorem no_back : (fs4 bk k st).lookup ("back" : Str) = none := by kernel_rfl
theorem no_stands : (fs4 bk k st).lookup ("stands" : Str) = none := by kernel_rfl
theorem subI (i j : Int) : subD (.int i) (.int j) = some (.int (i - j)) := rfl
theorem follow_eq (k : Int) (w : Wl) : M_following [.int k] w = .ok (.int (k * 48271 % 2147483647)) w := by
  have e1 : mulD (.int k) (.int 48271) = some (.int (k * 48271)) := by
    show (if k.natAbs < 2 ^ 64 then some (D.int (k * 48271)) else if (48271 : Int).natAbs < 2 ^ 64 then some (D.int (k * 48271)) else none) = _
    split
    · rfl
    · rfl
  have e2 : modD (.int (k * 48271)) (.int 2147483647) = some (.int (k * 48271 % 2147483647)) := rfl
  refine sa_eq.mp ?_
  simp only [M_following, F_following, sa_ok, sa_bind, ss_seq, ss_fin, ss_nx, ss_ret, ss_nil, sa_fn, sa_v0, sa_v1, sa_v2, sa_v3, sa_v4, sa_v5, sa_v6, sa_v7, sa_v8, sa_v9, sa_v10, sa_v11, sa_v12, sa_v13, sa_v14, sa_eCon, sa_lift, sa_liftB, sa_liftL, sa_eOp, sa_eUn, sa_lNil, sa_lCons, sa_eTup, sa_eLst, sa_eBlt, sa_eCall, sa_eIf, sa_eAnd, sa_eOr, sa_bAnd, sa_bOr, sa_bNot, sa_bTru, sa_bVal, sa_eChain, sa_iItems, sa_iRange, sa_iKeys, ss_if, ss_ifG, ss_sret, ss_expr, ss_asg, ss_new, ss_asgT, ss_for, ss_app, ss_put, ss_putP, ss_ext, ss_newP, sa_eDnew, sa_eSl, sa_oNone, sa_oSome, sa_eBM, isB_bl, tru_bl, len_lst, len_tup, len_dic, items_lst, items_tup, Nat.zero_add, Nat.reduceAdd, Nat.reduceSub, Nat.sub_self, Nat.reduceLT, Nat.reduceLeDiff, Nat.le_refl, Nat.zero_le, true_and, List.filter_nil, List.filter_cons, List.contains_cons, List.contains_nil, Nat.reduceBEq, Nat.reduceBNe, Bool.or_false, Bool.false_or, Bool.true_or, Bool.or_true, Bool.not_true, Bool.not_false, Bool.false_eq_true, if_true, if_false, ite_true, ite_false, decide_true, decide_false, wipeE, give, rmv, List.set_cons_zero, List.set_cons_succ, List.set_nil, List.map_cons, List.map_nil, List.length_cons, List.length_nil, List.cons_append, List.nil_append, List.replicate_succ, List.replicate_zero, List.getElem?_cons_zero, List.getElem?_cons_succ, e1, e2]
def kOk (k : Int) : Prop := 0 < k ∧ k < 2147483647
theorem nx_ok {k : Int} (h : kOk k) : kOk (k * 48271 % 2147483647) := ⟨nx_pos h.1 h.2, Int.emod_lt_of_pos _ (by decide)⟩
theorem below_ok {m : Int} (hk : kOk k) (m1 : 1 ≤ m) (m2 : m ≤ 80) : Sa (M_Hand_below [.obj 4, .int m] (wd n bk k st past)) fun d w' => ∃ j k', 0 ≤ j ∧ j < m ∧ kOk k' ∧ d = .int j ∧ w' = wd n bk k' st past := by
  have e0' : (2147483647 : Int) - 1 = 2147483646 := rfl
  have e2 : fdivD (.int 2147483646) (.int m) = some (.int (2147483646 / m)) := by
    show (if 0 < m ∧ m < 1073741824 then _ else _) = _
    rw [if_pos (by omega)]
  have e3 : mulD (.int (2147483646 / m)) (.int m) = some (.int (2147483646 / m * m)) := by
    show (if (2147483646 / m).natAbs < 2 ^ 64 then some (D.int (2147483646 / m * m)) else if m.natAbs < 2 ^ 64 then some (D.int (2147483646 / m * m)) else none) = _
    split
    · rfl
    · rw [if_pos (by omega)]
  have e4 : ∀ i : Int, modD (.int i) (.int m) = some (.int (i % m)) := by
    intro i
    show (if 0 < m then _ else _) = _
    rw [if_pos (by omega)]
  have q1 := div_lo m1
  have hk1 := nx_ok hk
  have hk2 := nx_ok hk1
  simp only [M_Hand_below, F_Hand_below, sa_ok, sa_bind, ss_seq, ss_fin, ss_nx, ss_ret, ss_nil, sa_fn, sa_v0, sa_v1, sa_v2, sa_v3, sa_v4, sa_v5, sa_v6, sa_v7, sa_v8, sa_v9, sa_v10, sa_v11, sa_v12, sa_v13, sa_v14, sa_eCon, sa_lift, sa_liftB, sa_liftL, sa_eOp, sa_eUn, sa_lNil, sa_lCons, sa_eTup, sa_eLst, sa_eBlt, sa_eCall, sa_eIf, sa_eAnd, sa_eOr, sa_bAnd, sa_bOr, sa_bNot, sa_bTru, sa_bVal, sa_eChain, sa_iItems, sa_iRange, sa_iKeys, ss_if, ss_ifG, ss_sret, ss_expr, ss_asg, ss_new, ss_asgT, ss_for, ss_app, ss_put, ss_putP, ss_ext, ss_newP, sa_eDnew, sa_eSl, sa_oNone, sa_oSome, sa_eBM, isB_bl, tru_bl, len_lst, len_tup, len_dic, items_lst, items_tup, Nat.zero_add, Nat.reduceAdd, Nat.reduceSub, Nat.sub_self, Nat.reduceLT, Nat.reduceLeDiff, Nat.le_refl, Nat.zero_le, true_and, List.filter_nil, List.filter_cons, List.contains_cons, List.contains_nil, Nat.reduceBEq, Nat.reduceBNe, Bool.or_false, Bool.false_or, Bool.true_or, Bool.or_true, Bool.not_true, Bool.not_false, Bool.false_eq_true, if_true, if_false, ite_true, ite_false, decide_true, decide_false, wipeE, give, rmv, List.set_cons_zero, List.set_cons_succ, List.set_nil, List.map_cons, List.map_nil, List.length_cons, List.length_nil, List.cons_append, List.nil_append, List.replicate_succ, List.replicate_zero, List.getElem?_cons_zero, List.getElem?_cons_succ, ss_setA, sa_num, follow_eq]
  refine ⟨4, _, cell4, ?_⟩
  rw [set_num]
  refine ss_while (n := 99) |>.mpr ?_
  simp only [sa_ok, sa_bind, ss_seq, ss_fin, ss_nx, ss_ret, ss_nil, sa_fn, sa_v0, sa_v1, sa_v2, sa_v3, sa_v4, sa_v5, sa_v6, sa_v7, sa_v8, sa_v9, sa_v10, sa_v11, sa_v12, sa_v13, sa_v14, sa_eCon, sa_lift, sa_liftB, sa_liftL, sa_eOp, sa_eUn, sa_lNil, sa_lCons, sa_eTup, sa_eLst, sa_eBlt, sa_eCall, sa_eIf, sa_eAnd, sa_eOr, sa_bAnd, sa_bOr, sa_bNot, sa_bTru, sa_bVal, sa_eChain, sa_iItems, sa_iRange, sa_iKeys, ss_if, ss_ifG, ss_sret, ss_expr, ss_asg, ss_new, ss_asgT, ss_for, ss_app, ss_put, ss_putP, ss_ext, ss_newP, sa_eDnew, sa_eSl, sa_oNone, sa_oSome, sa_eBM, isB_bl, tru_bl, len_lst, len_tup, len_dic, items_lst, items_tup, Nat.zero_add, Nat.reduceAdd, Nat.reduceSub, Nat.sub_self, Nat.reduceLT, Nat.reduceLeDiff, Nat.le_refl, Nat.zero_le, true_and, List.filter_nil, List.filter_cons, List.contains_cons, List.contains_nil, Nat.reduceBEq, Nat.reduceBNe, Bool.or_false, Bool.false_or, Bool.true_or, Bool.or_true, Bool.not_true, Bool.not_false, Bool.false_eq_true, if_true, if_false, ite_true, ite_false, decide_true, decide_false, wipeE, give, rmv, List.set_cons_zero, List.set_cons_succ, List.set_nil, List.map_cons, List.map_nil, List.length_cons, List.length_nil, List.cons_append, List.nil_append, List.replicate_succ, List.replicate_zero, List.getElem?_cons_zero, List.getElem?_cons_succ, sa_num, subI, e0', e2, e3, cmpI]
  by_cases hw : 2147483646 / m * m ≤ k * 48271 % 2147483647 - 1
  · simp only [sa_ok, sa_bind, ss_seq, ss_fin, ss_nx, ss_ret, ss_nil, sa_fn, sa_v0, sa_v1, sa_v2, sa_v3, sa_v4, sa_v5, sa_v6, sa_v7, sa_v8, sa_v9, sa_v10, sa_v11, sa_v12, sa_v13, sa_v14, sa_eCon, sa_lift, sa_liftB, sa_liftL, sa_eOp, sa_eUn, sa_lNil, sa_lCons, sa_eTup, sa_eLst, sa_eBlt, sa_eCall, sa_eIf, sa_eAnd, sa_eOr, sa_bAnd, sa_bOr, sa_bNot, sa_bTru, sa_bVal, sa_eChain, sa_iItems, sa_iRange, sa_iKeys, ss_if, ss_ifG, ss_sret, ss_expr, ss_asg, ss_new, ss_asgT, ss_for, ss_app, ss_put, ss_putP, ss_ext, ss_newP, sa_eDnew, sa_eSl, sa_oNone, sa_oSome, sa_eBM, isB_bl, tru_bl, len_lst, len_tup, len_dic, items_lst, items_tup, Nat.zero_add, Nat.reduceAdd, Nat.reduceSub, Nat.sub_self, Nat.reduceLT, Nat.reduceLeDiff, Nat.le_refl, Nat.zero_le, true_and, List.filter_nil, List.filter_cons, List.contains_cons, List.contains_nil, Nat.reduceBEq, Nat.reduceBNe, Bool.or_false, Bool.false_or, Bool.true_or, Bool.or_true, Bool.not_true, Bool.not_false, Bool.false_eq_true, if_true, if_false, ite_true, ite_false, decide_true, decide_false, wipeE, give, rmv, List.set_cons_zero, List.set_cons_succ, List.set_nil, List.map_cons, List.map_nil, List.length_cons, List.length_nil, List.cons_append, List.nil_append, List.replicate_succ, List.replicate_zero, List.getElem?_cons_zero, List.getElem?_cons_succ, hw]
    refine ss_next ?_
    simp only [sa_ok, sa_bind, ss_seq, ss_fin, ss_nx, ss_ret, ss_nil, sa_fn, sa_v0, sa_v1, sa_v2, sa_v3, sa_v4, sa_v5, sa_v6, sa_v7, sa_v8, sa_v9, sa_v10, sa_v11, sa_v12, sa_v13, sa_v14, sa_eCon, sa_lift, sa_liftB, sa_liftL, sa_eOp, sa_eUn, sa_lNil, sa_lCons, sa_eTup, sa_eLst, sa_eBlt, sa_eCall, sa_eIf, sa_eAnd, sa_eOr, sa_bAnd, sa_bOr, sa_bNot, sa_bTru, sa_bVal, sa_eChain, sa_iItems, sa_iRange, sa_iKeys, ss_if, ss_ifG, ss_sret, ss_expr, ss_asg, ss_new, ss_asgT, ss_for, ss_app, ss_put, ss_putP, ss_ext, ss_newP, sa_eDnew, sa_eSl, sa_oNone, sa_oSome, sa_eBM, isB_bl, tru_bl, len_lst, len_tup, len_dic, items_lst, items_tup, Nat.zero_add, Nat.reduceAdd, Nat.reduceSub, Nat.sub_self, Nat.reduceLT, Nat.reduceLeDiff, Nat.le_refl, Nat.zero_le, true_and, List.filter_nil, List.filter_cons, List.contains_cons, List.contains_nil, Nat.reduceBEq, Nat.reduceBNe, Bool.or_false, Bool.false_or, Bool.true_or, Bool.or_true, Bool.not_true, Bool.not_false, Bool.false_eq_true, if_true, if_false, ite_true, ite_false, decide_true, decide_false, wipeE, give, rmv, List.set_cons_zero, List.set_cons_succ, List.set_nil, List.map_cons, List.map_nil, List.length_cons, List.length_nil, List.cons_append, List.nil_append, List.replicate_succ, List.replicate_zero, List.getElem?_cons_zero, List.getElem?_cons_succ, ss_setA, sa_num, follow_eq]
    refine ⟨4, _, cell4, ?_⟩
    rw [set_num]
    have hw2 := nx_below hk1.1 hk1.2 m1 m2 q1 hw
    have hw3 : ¬ (2147483646 / m * m ≤ k * 48271 % 2147483647 * 48271 % 2147483647 - 1) := by omega
    refine ss_while (n := 98) |>.mpr ?_
    simp only [sa_ok, sa_bind, ss_seq, ss_fin, ss_nx, ss_ret, ss_nil, sa_fn, sa_v0, sa_v1, sa_v2, sa_v3, sa_v4, sa_v5, sa_v6, sa_v7, sa_v8, sa_v9, sa_v10, sa_v11, sa_v12, sa_v13, sa_v14, sa_eCon, sa_lift, sa_liftB, sa_liftL, sa_eOp, sa_eUn, sa_lNil, sa_lCons, sa_eTup, sa_eLst, sa_eBlt, sa_eCall, sa_eIf, sa_eAnd, sa_eOr, sa_bAnd, sa_bOr, sa_bNot, sa_bTru, sa_bVal, sa_eChain, sa_iItems, sa_iRange, sa_iKeys, ss_if, ss_ifG, ss_sret, ss_expr, ss_asg, ss_new, ss_asgT, ss_for, ss_app, ss_put, ss_putP, ss_ext, ss_newP, sa_eDnew, sa_eSl, sa_oNone, sa_oSome, sa_eBM, isB_bl, tru_bl, len_lst, len_tup, len_dic, items_lst, items_tup, Nat.zero_add, Nat.reduceAdd, Nat.reduceSub, Nat.sub_self, Nat.reduceLT, Nat.reduceLeDiff, Nat.le_refl, Nat.zero_le, true_and, List.filter_nil, List.filter_cons, List.contains_cons, List.contains_nil, Nat.reduceBEq, Nat.reduceBNe, Bool.or_false, Bool.false_or, Bool.true_or, Bool.or_true, Bool.not_true, Bool.not_false, Bool.false_eq_true, if_true, if_false, ite_true, ite_false, decide_true, decide_false, wipeE, give, rmv, List.set_cons_zero, List.set_cons_succ, List.set_nil, List.map_cons, List.map_nil, List.length_cons, List.length_nil, List.cons_append, List.nil_append, List.replicate_succ, List.replicate_zero, List.getElem?_cons_zero, List.getElem?_cons_succ, sa_num, subI, e0', e2, e3, cmpI, hw3, e4]
    exact ⟨_, _, Int.emod_nonneg _ (by omega), Int.emod_lt_of_pos _ (by omega), hk2, rfl, rfl⟩
  · simp only [sa_ok, sa_bind, ss_seq, ss_fin, ss_nx, ss_ret, ss_nil, sa_fn, sa_v0, sa_v1, sa_v2, sa_v3, sa_v4, sa_v5, sa_v6, sa_v7, sa_v8, sa_v9, sa_v10, sa_v11, sa_v12, sa_v13, sa_v14, sa_eCon, sa_lift, sa_liftB, sa_liftL, sa_eOp, sa_eUn, sa_lNil, sa_lCons, sa_eTup, sa_eLst, sa_eBlt, sa_eCall, sa_eIf, sa_eAnd, sa_eOr, sa_bAnd, sa_bOr, sa_bNot, sa_bTru, sa_bVal, sa_eChain, sa_iItems, sa_iRange, sa_iKeys, ss_if, ss_ifG, ss_sret, ss_expr, ss_asg, ss_new, ss_asgT, ss_for, ss_app, ss_put, ss_putP, ss_ext, ss_newP, sa_eDnew, sa_eSl, sa_oNone, sa_oSome, sa_eBM, isB_bl, tru_bl, len_lst, len_tup, len_dic, items_lst, items_tup, Nat.zero_add, Nat.reduceAdd, Nat.reduceSub, Nat.sub_self, Nat.reduceLT, Nat.reduceLeDiff, Nat.le_refl, Nat.zero_le, true_and, List.filter_nil, List.filter_cons, List.contains_cons, List.contains_nil, Nat.reduceBEq, Nat.reduceBNe, Bool.or_false, Bool.false_or, Bool.true_or, Bool.or_true, Bool.not_true, Bool.not_false, Bool.false_eq_true, if_true, if_false, ite_true, ite_false, decide_true, decide_false, wipeE, give, rmv, List.set_cons_zero, List.set_cons_succ, List.set_nil, List.map_cons, List.map_nil, List.length_cons, List.length_nil, List.cons_append, List.nil_append, List.replicate_succ, List.replicate_zero, List.getElem?_cons_zero, List.getElem?_cons_succ, hw, sa_num, subI, e4]
    exact ⟨_, _, Int.emod_nonneg _ (by omega), Int.emod_lt_of_pos _ (by omega), hk1, rfl, rfl⟩
end
theorem sl_toT (xs : List D) (k : Nat) : slD (.tup xs) none (some (k : Int)) = some (.tup (xs.take k)) := by
  have := sl_to xs k
  have e : G.cutD xs none (some (k : Int)) = xs.take k := by
    have h : some (D.lst (G.cutD xs none (some (k : Int)))) = some (.lst (xs.take k)) := this
    injection h with h; injection h
  show some (D.tup (G.cutD xs none (some (k : Int)))) = _
  rw [e]
theorem sl_fromT (xs : List D) (k : Nat) : slD (.tup xs) (some (k : Int)) none = some (.tup (xs.drop k)) := by
  have := sl_from xs k
  have e : G.cutD xs (some (k : Int)) none = xs.drop k := by
    have h : some (D.lst (G.cutD xs (some (k : Int)) none)) = some (.lst (xs.drop k)) := this
    injection h with h; injection h
  show some (D.tup (G.cutD xs (some (k : Int)) none)) = _
  rw [e]
theorem idx_ok {m i : Nat} (hm : m ≤ 3) (hi : i < m) : indexD (.lst ((nms m).map .str)) [sI i] = some (.int i) := by
  obtain rfl | rfl | rfl : m = 1 ∨ m = 2 ∨ m = 3 := by omega
  · obtain rfl : i = 0 := by omega
    kernel_rfl
  · obtain rfl | rfl : i = 0 ∨ i = 1 := by omega
    · kernel_rfl
    · kernel_rfl
  · obtain rfl | rfl | rfl : i = 0 ∨ i = 1 ∨ i = 2 := by omega
    · kernel_rfl
    · kernel_rfl
    · kernel_rfl
def StOk (m : Nat) (t : Nat → Tb) (st : D) : Prop := ∃ ps : List D, st = .tup ps ∧ ps.length = m ∧ ∀ i, i < m → PartOk (t i) (ps.getD i .non)
theorem drawnS (f : Nat) : M_Hand_drawn (f + 1) = fnRun 9 (F_Hand_drawn (M_Hand_drawn f)) := rfl
theorem gall_len {g : Gf} {nm : List Str} (h : g.ok nm) : g.all.length ≤ 2 := by
  cases g with
  | one g => simp [Gf.all]
  | sev gs => exact h.2.1
theorem gall_ok {g : Gf} {nm : List Str} (h : g.ok nm) : ∀ z ∈ g.all, z.ok nm := by
  cases g with
  | one g => intro z hz; cases List.mem_singleton.mp hz; exact h
  | sev gs => exact h.2.2
theorem drawn_ok {m : Nat} {t : Nat → Tb} {kvs : List (Key × D)} (hb : BookOk m t kvs) {n : Nat} {past : List D} : ∀ (f i : Nat), i < m → i < f → ∀ (k : Int) (st : D) (hs : List (Str × Int)), kOk k → StOk m t st → hs.length + 2 ^ (i + 1) ≤ 60 →
    Sa (M_Hand_drawn f [.obj 4, sI i, .tup (hs.map hpD)] (wd n (.dic kvs) k st past)) fun d w' => ∃ (hs' : List (Str × Int)) (k' : Int) (st' : D), d = .tup (hs'.map hpD) ∧ hs'.length ≤ hs.length + 2 ^ (i + 1) ∧ kOk k' ∧ StOk m t st' ∧ w' = wd n (.dic kvs) k' st' past
  | 0, i, _, h, _, _, _, _, _, _ => by omega
  | f + 1, i, him, hif, k, st, hs, hk, hst, hl => by
    obtain ⟨ps, rfl, hpl, hps⟩ := hst
    have ht := hb.tok i him
    have hm3 := hb.hi
    have ek : keysD (.dic kvs) = some (.kys (kvs.map (·.1))) := rfl
    have ex : ixD (.tup ps) (.int (i : Int)) = some (ps.getD i .non) := by
      show atI ps (i : Int) = _
      rw [atI_nat (by omega)]
      simp [show i < ps.length by omega]
    rw [drawnS]
    simp only [F_Hand_drawn, sa_ok, sa_bind, ss_seq, ss_fin, ss_nx, ss_ret, ss_nil, sa_fn, sa_v0, sa_v1, sa_v2, sa_v3, sa_v4, sa_v5, sa_v6, sa_v7, sa_v8, sa_v9, sa_v10, sa_v11, sa_v12, sa_v13, sa_v14, sa_eCon, sa_lift, sa_liftB, sa_liftL, sa_eOp, sa_eUn, sa_lNil, sa_lCons, sa_eTup, sa_eLst, sa_eBlt, sa_eCall, sa_eIf, sa_eAnd, sa_eOr, sa_bAnd, sa_bOr, sa_bNot, sa_bTru, sa_bVal, sa_eChain, sa_iItems, sa_iRange, sa_iKeys, ss_if, ss_ifG, ss_sret, ss_expr, ss_asg, ss_new, ss_asgT, ss_for, ss_app, ss_put, ss_putP, ss_ext, ss_newP, sa_eDnew, sa_eSl, sa_oNone, sa_oSome, sa_eBM, isB_bl, tru_bl, len_lst, len_tup, len_dic, items_lst, items_tup, Nat.zero_add, Nat.reduceAdd, Nat.reduceSub, Nat.sub_self, Nat.reduceLT, Nat.reduceLeDiff, Nat.le_refl, Nat.zero_le, true_and, List.filter_nil, List.filter_cons, List.contains_cons, List.contains_nil, Nat.reduceBEq, Nat.reduceBNe, Bool.or_false, Bool.false_or, Bool.true_or, Bool.or_true, Bool.not_true, Bool.not_false, Bool.false_eq_true, if_true, if_false, ite_true, ite_false, decide_true, decide_false, wipeE, give, rmv, List.set_cons_zero, List.set_cons_succ, List.set_nil, List.map_cons, List.map_nil, List.length_cons, List.length_nil, List.cons_append, List.nil_append, List.replicate_succ, List.replicate_zero, List.getElem?_cons_zero, List.getElem?_cons_succ, sa_bk, sa_st, ek, hb.srt, idx_ok hm3 him, ix_bk hb him, ex]
    refine ⟨rfl, (weights_ok ht (hps i him) _).mono ?_⟩
    rintro _ _ ⟨ws, rfl, hws, rfl, hbag⟩
    have esum : sumD [.lst (ws.map .int)] = some (.int ws.sum) := by
      have := ints_map (fun x : Int => x) ws
      show (intsOf (ws.map .int)).map (fun bs => D.int bs.sum) = _
      rw [show intsOf (ws.map D.int) = some (ws.map fun x => x) from this]
      simp
    simp only [sa_ok, sa_bind, ss_seq, ss_fin, ss_nx, ss_ret, ss_nil, sa_fn, sa_v0, sa_v1, sa_v2, sa_v3, sa_v4, sa_v5, sa_v6, sa_v7, sa_v8, sa_v9, sa_v10, sa_v11, sa_v12, sa_v13, sa_v14, sa_eCon, sa_lift, sa_liftB, sa_liftL, sa_eOp, sa_eUn, sa_lNil, sa_lCons, sa_eTup, sa_eLst, sa_eBlt, sa_eCall, sa_eIf, sa_eAnd, sa_eOr, sa_bAnd, sa_bOr, sa_bNot, sa_bTru, sa_bVal, sa_eChain, sa_iItems, sa_iRange, sa_iKeys, ss_if, ss_ifG, ss_sret, ss_expr, ss_asg, ss_new, ss_asgT, ss_for, ss_app, ss_put, ss_putP, ss_ext, ss_newP, sa_eDnew, sa_eSl, sa_oNone, sa_oSome, sa_eBM, isB_bl, tru_bl, len_lst, len_tup, len_dic, items_lst, items_tup, Nat.zero_add, Nat.reduceAdd, Nat.reduceSub, Nat.sub_self, Nat.reduceLT, Nat.reduceLeDiff, Nat.le_refl, Nat.zero_le, true_and, List.filter_nil, List.filter_cons, List.contains_cons, List.contains_nil, Nat.reduceBEq, Nat.reduceBNe, Bool.or_false, Bool.false_or, Bool.true_or, Bool.or_true, Bool.not_true, Bool.not_false, Bool.false_eq_true, if_true, if_false, ite_true, ite_false, decide_true, decide_false, wipeE, give, rmv, List.set_cons_zero, List.set_cons_succ, List.set_nil, List.map_cons, List.map_nil, List.length_cons, List.length_nil, List.cons_append, List.nil_append, List.replicate_succ, List.replicate_zero, List.getElem?_cons_zero, List.getElem?_cons_succ, sa_eMeth, esum]
    refine ⟨4, _, cell4, no_below, (below_ok hk hws.pos hws.top).mono ?_⟩
    rintro _ _ ⟨j, k1, hj0, hj1, hk1, rfl, rfl⟩
    refine (place_loop ws _ _ _ _ _ _ _ _ 100 0 j (by have := hws.len; have := ht.hi; omega) hj0 (by simpa using hj1)).mono ?_ fun _ _ h => h
    rintro rh ow w' ⟨p, num', hp, hp1, rfl, rfl, rfl⟩
    have hpr : p < (t i).rows.length := by rw [← hws.len]; exact hp
    have a1 : slD (.tup ps) none (some (i : Int)) = some (.tup (ps.take i)) := sl_toT ps i
    have a2 : addD (.int (i : Int)) (.int 1) = some (.int ((i + 1 : Nat) : Int)) := rfl
    have a3 : slD (.tup ps) (some ((i + 1 : Nat) : Int)) none = some (.tup (ps.drop (i + 1))) := sl_fromT ps (i + 1)
    simp only [sa_ok, sa_bind, ss_seq, ss_fin, ss_nx, ss_ret, ss_nil, sa_fn, sa_v0, sa_v1, sa_v2, sa_v3, sa_v4, sa_v5, sa_v6, sa_v7, sa_v8, sa_v9, sa_v10, sa_v11, sa_v12, sa_v13, sa_v14, sa_eCon, sa_lift, sa_liftB, sa_liftL, sa_eOp, sa_eUn, sa_lNil, sa_lCons, sa_eTup, sa_eLst, sa_eBlt, sa_eCall, sa_eIf, sa_eAnd, sa_eOr, sa_bAnd, sa_bOr, sa_bNot, sa_bTru, sa_bVal, sa_eChain, sa_iItems, sa_iRange, sa_iKeys, ss_if, ss_ifG, ss_sret, ss_expr, ss_asg, ss_new, ss_asgT, ss_for, ss_app, ss_put, ss_putP, ss_ext, ss_newP, sa_eDnew, sa_eSl, sa_oNone, sa_oSome, sa_eBM, isB_bl, tru_bl, len_lst, len_tup, len_dic, items_lst, items_tup, Nat.zero_add, Nat.reduceAdd, Nat.reduceSub, Nat.sub_self, Nat.reduceLT, Nat.reduceLeDiff, Nat.le_refl, Nat.zero_le, true_and, List.filter_nil, List.filter_cons, List.contains_cons, List.contains_nil, Nat.reduceBEq, Nat.reduceBNe, Bool.or_false, Bool.false_or, Bool.true_or, Bool.or_true, Bool.not_true, Bool.not_false, Bool.false_eq_true, if_true, if_false, ite_true, ite_false, decide_true, decide_false, wipeE, give, rmv, List.set_cons_zero, List.set_cons_succ, List.set_nil, List.map_cons, List.map_nil, List.length_cons, List.length_nil, List.cons_append, List.nil_append, List.replicate_succ, List.replicate_zero, List.getElem?_cons_zero, List.getElem?_cons_succ, ss_setA, sa_st, D.int.injEq, exists_eq_left', a1, ex]
    refine (then_ok ht (hps i him) p ?_ _).mono ?_
    · intro rs qs e1 e2
      have e3 := hbag rs e1
      rw [e3] at e2
      injection e2 with e2
      have e4 : ws = qs := by
        have := congrArg (List.map fun d => match d with | D.int z => z | _ => 0) e2
        simpa [List.map_map, Function.comp_def] using this
      rw [← e4]; exact hp1
    rintro x _ ⟨hx, rfl⟩
    have a4 : addD (.tup (ps.take i)) (.tup [x]) = some (.tup (ps.take i ++ [x])) := by
      show (if _ ≤ 100000 then _ else _) = _
      rw [if_pos (by simp; omega)]
    have a5 : addD (.tup (ps.take i ++ [x])) (.tup (ps.drop (i + 1))) = some (.tup (ps.take i ++ [x] ++ ps.drop (i + 1))) := by
      show (if _ ≤ 100000 then _ else _) = _
      rw [if_pos (by simp; omega)]
    simp only [sa_ok, sa_bind, ss_seq, ss_fin, ss_nx, ss_ret, ss_nil, sa_fn, sa_v0, sa_v1, sa_v2, sa_v3, sa_v4, sa_v5, sa_v6, sa_v7, sa_v8, sa_v9, sa_v10, sa_v11, sa_v12, sa_v13, sa_v14, sa_eCon, sa_lift, sa_liftB, sa_liftL, sa_eOp, sa_eUn, sa_lNil, sa_lCons, sa_eTup, sa_eLst, sa_eBlt, sa_eCall, sa_eIf, sa_eAnd, sa_eOr, sa_bAnd, sa_bOr, sa_bNot, sa_bTru, sa_bVal, sa_eChain, sa_iItems, sa_iRange, sa_iKeys, ss_if, ss_ifG, ss_sret, ss_expr, ss_asg, ss_new, ss_asgT, ss_for, ss_app, ss_put, ss_putP, ss_ext, ss_newP, sa_eDnew, sa_eSl, sa_oNone, sa_oSome, sa_eBM, isB_bl, tru_bl, len_lst, len_tup, len_dic, items_lst, items_tup, Nat.zero_add, Nat.reduceAdd, Nat.reduceSub, Nat.sub_self, Nat.reduceLT, Nat.reduceLeDiff, Nat.le_refl, Nat.zero_le, true_and, List.filter_nil, List.filter_cons, List.contains_cons, List.contains_nil, Nat.reduceBEq, Nat.reduceBNe, Bool.or_false, Bool.false_or, Bool.true_or, Bool.or_true, Bool.not_true, Bool.not_false, Bool.false_eq_true, if_true, if_false, ite_true, ite_false, decide_true, decide_false, wipeE, give, rmv, List.set_cons_zero, List.set_cons_succ, List.set_nil, List.map_cons, List.map_nil, List.length_cons, List.length_nil, List.cons_append, List.nil_append, List.replicate_succ, List.replicate_zero, List.getElem?_cons_zero, List.getElem?_cons_succ, a4, sa_st, a2, D.int.injEq, exists_eq_left', a3, a5]
    refine ⟨4, _, cell4, ?_⟩
    rw [set_st]
    have hst' : StOk m t (.tup (ps.take i ++ [x] ++ ps.drop (i + 1))) := by
      refine ⟨_, rfl, by simp; omega, ?_⟩
      intro q hq
      have eset : ps.take i ++ [x] ++ ps.drop (i + 1) = ps.set i x := by
        rw [List.set_eq_take_append_cons_drop, if_pos (by omega), List.append_assoc]; rfl
      rw [eset]
      by_cases hqi : q = i
      · subst hqi
        rw [List.getD_eq_getElem?_getD, List.getElem?_set_self (by omega)]
        exact hx
      · rw [List.getD_eq_getElem?_getD, List.getElem?_set_ne (by omega), ← List.getD_eq_getElem?_getD]
        exact hps q hq
    have b1 : ixD (.tup ((t i).rows.map rowD)) (.int (p : Int)) = some (rowD (t i).rows[p]) := by
      show atI ((t i).rows.map rowD) (p : Int) = _
      rw [atI_nat (by simpa using hpr)]
      simp
    have b2 : ixD (rowD (t i).rows[p]) (.int 1) = some (t i).rows[p].2.d := rfl
    have hro := (ht.rw (t i).rows[p] (List.getElem_mem hpr)).2.2
    simp only [sa_ok, sa_bind, ss_seq, ss_fin, ss_nx, ss_ret, ss_nil, sa_fn, sa_v0, sa_v1, sa_v2, sa_v3, sa_v4, sa_v5, sa_v6, sa_v7, sa_v8, sa_v9, sa_v10, sa_v11, sa_v12, sa_v13, sa_v14, sa_eCon, sa_lift, sa_liftB, sa_liftL, sa_eOp, sa_eUn, sa_lNil, sa_lCons, sa_eTup, sa_eLst, sa_eBlt, sa_eCall, sa_eIf, sa_eAnd, sa_eOr, sa_bAnd, sa_bOr, sa_bNot, sa_bTru, sa_bVal, sa_eChain, sa_iItems, sa_iRange, sa_iKeys, ss_if, ss_ifG, ss_sret, ss_expr, ss_asg, ss_new, ss_asgT, ss_for, ss_app, ss_put, ss_putP, ss_ext, ss_newP, sa_eDnew, sa_eSl, sa_oNone, sa_oSome, sa_eBM, isB_bl, tru_bl, len_lst, len_tup, len_dic, items_lst, items_tup, Nat.zero_add, Nat.reduceAdd, Nat.reduceSub, Nat.sub_self, Nat.reduceLT, Nat.reduceLeDiff, Nat.le_refl, Nat.zero_le, true_and, List.filter_nil, List.filter_cons, List.contains_cons, List.contains_nil, Nat.reduceBEq, Nat.reduceBNe, Bool.or_false, Bool.false_or, Bool.true_or, Bool.or_true, Bool.not_true, Bool.not_false, Bool.false_eq_true, if_true, if_false, ite_true, ite_false, decide_true, decide_false, wipeE, give, rmv, List.set_cons_zero, List.set_cons_succ, List.set_nil, List.map_cons, List.map_nil, List.length_cons, List.length_nil, List.cons_append, List.nil_append, List.replicate_succ, List.replicate_zero, List.getElem?_cons_zero, List.getElem?_cons_succ, ix1_t, b1, b2, gifts_eq _ hro]
    refine for_inv (fun ds rh ow w => ∃ (gs : List Gi) (hs' : List (Str × Int)) (k' : Int) (st' : D) (x8 : Option D), ds = gs.map Gi.d ∧ (∀ g ∈ gs, g.ok (nms i)) ∧ hs'.length + gs.length * 2 ^ i ≤ hs.length + 2 ^ (i + 1) ∧ kOk k' ∧ StOk m t st' ∧ rh = [some (.obj 4), some (sI i), some (.tup (hs'.map hpD)), some (.int (i : Int)), some (t i).d, some (.lst (ws.map .int)), some (.int num'), some (.int (p : Nat)), x8] ∧ ow = [] ∧ w = wd n (.dic kvs) k' st' past)
      ⟨(t i).rows[p].2.all, hs, k1, _, none, rfl, gall_ok hro, ?_, hk1, hst', rfl, rfl, rfl⟩ ?_ ?_
    · have h2 := gall_len hro
      have := Nat.mul_le_mul_right (2 ^ i) h2
      rw [Nat.pow_succ]
      omega
    · rintro d ds rh ow w ⟨gs, hs', k', st', x8, hd, hgs, hlen, hk', hst', rfl, rfl, rfl⟩
      cases gs with
      | nil => cases hd
      | cons g gs =>
        cases hd
        refine ⟨rfl, _, rfl, ?_⟩
        have hg := hgs g (List.mem_cons_self ..)
        have hgs' : ∀ g ∈ gs, g.ok (nms i) := fun z hz => hgs z (List.mem_cons_of_mem _ hz)
        simp only [List.length_cons, Nat.add_mul, Nat.one_mul] at hlen
        have hp2 : 1 ≤ 2 ^ i := Nat.one_le_two_pow
        cases g with
        | none =>
          have c0 : ixD (Gi.d .none) (.int 0) = some (.str "none") := rfl
          simp only [sa_ok, sa_bind, ss_seq, ss_fin, ss_nx, ss_ret, ss_nil, sa_fn, sa_v0, sa_v1, sa_v2, sa_v3, sa_v4, sa_v5, sa_v6, sa_v7, sa_v8, sa_v9, sa_v10, sa_v11, sa_v12, sa_v13, sa_v14, sa_eCon, sa_lift, sa_liftB, sa_liftL, sa_eOp, sa_eUn, sa_lNil, sa_lCons, sa_eTup, sa_eLst, sa_eBlt, sa_eCall, sa_eIf, sa_eAnd, sa_eOr, sa_bAnd, sa_bOr, sa_bNot, sa_bTru, sa_bVal, sa_eChain, sa_iItems, sa_iRange, sa_iKeys, ss_if, ss_ifG, ss_sret, ss_expr, ss_asg, ss_new, ss_asgT, ss_for, ss_app, ss_put, ss_putP, ss_ext, ss_newP, sa_eDnew, sa_eSl, sa_oNone, sa_oSome, sa_eBM, isB_bl, tru_bl, len_lst, len_tup, len_dic, items_lst, items_tup, Nat.zero_add, Nat.reduceAdd, Nat.reduceSub, Nat.sub_self, Nat.reduceLT, Nat.reduceLeDiff, Nat.le_refl, Nat.zero_le, true_and, List.filter_nil, List.filter_cons, List.contains_cons, List.contains_nil, Nat.reduceBEq, Nat.reduceBNe, Bool.or_false, Bool.false_or, Bool.true_or, Bool.or_true, Bool.not_true, Bool.not_false, Bool.false_eq_true, if_true, if_false, ite_true, ite_false, decide_true, decide_false, wipeE, give, rmv, List.set_cons_zero, List.set_cons_succ, List.set_nil, List.map_cons, List.map_nil, List.length_cons, List.length_nil, List.cons_append, List.nil_append, List.replicate_succ, List.replicate_zero, List.getElem?_cons_zero, List.getElem?_cons_succ, c0, e_none_none, n_none_none, e_none_item, n_none_item, e_none_table, n_none_table, e_none_several, n_none_several, e_item_none, n_item_none, e_item_item, n_item_item, e_item_table, n_item_table, e_item_several, n_item_several, e_table_none, n_table_none, e_table_item, n_table_item, e_table_table, n_table_table, e_table_several, n_table_several, e_several_none, n_several_none, e_several_item, n_several_item, e_several_table, n_several_table, e_several_several, n_several_several, e_draw_draw, n_draw_draw, e_draw_bag, n_draw_bag, e_draw_sure, n_draw_sure, e_draw_unlike, n_draw_unlike, e_bag_draw, n_bag_draw, e_bag_bag, n_bag_bag, e_bag_sure, n_bag_sure, e_bag_unlike, n_bag_unlike, e_sure_draw, n_sure_draw, e_sure_bag, n_sure_bag, e_sure_sure, n_sure_sure, e_sure_unlike, n_sure_unlike, e_unlike_draw, n_unlike_draw, e_unlike_bag, n_unlike_bag, e_unlike_sure, n_unlike_sure, e_unlike_unlike, n_unlike_unlike]
          exact ⟨gs, hs', k', st', _, rfl, hgs', by omega, hk', hst', rfl, rfl⟩
        | item y c =>
          have c0 : ixD (Gi.d (.item y c)) (.int 0) = some (.str "item") := rfl
          have c1 : ixD (Gi.d (.item y c)) (.int 1) = some (.str y) := rfl
          have c2 : ixD (Gi.d (.item y c)) (.int 2) = some (.int c) := rfl
          simp only [sa_ok, sa_bind, ss_seq, ss_fin, ss_nx, ss_ret, ss_nil, sa_fn, sa_v0, sa_v1, sa_v2, sa_v3, sa_v4, sa_v5, sa_v6, sa_v7, sa_v8, sa_v9, sa_v10, sa_v11, sa_v12, sa_v13, sa_v14, sa_eCon, sa_lift, sa_liftB, sa_liftL, sa_eOp, sa_eUn, sa_lNil, sa_lCons, sa_eTup, sa_eLst, sa_eBlt, sa_eCall, sa_eIf, sa_eAnd, sa_eOr, sa_bAnd, sa_bOr, sa_bNot, sa_bTru, sa_bVal, sa_eChain, sa_iItems, sa_iRange, sa_iKeys, ss_if, ss_ifG, ss_sret, ss_expr, ss_asg, ss_new, ss_asgT, ss_for, ss_app, ss_put, ss_putP, ss_ext, ss_newP, sa_eDnew, sa_eSl, sa_oNone, sa_oSome, sa_eBM, isB_bl, tru_bl, len_lst, len_tup, len_dic, items_lst, items_tup, Nat.zero_add, Nat.reduceAdd, Nat.reduceSub, Nat.sub_self, Nat.reduceLT, Nat.reduceLeDiff, Nat.le_refl, Nat.zero_le, true_and, List.filter_nil, List.filter_cons, List.contains_cons, List.contains_nil, Nat.reduceBEq, Nat.reduceBNe, Bool.or_false, Bool.false_or, Bool.true_or, Bool.or_true, Bool.not_true, Bool.not_false, Bool.false_eq_true, if_true, if_false, ite_true, ite_false, decide_true, decide_false, wipeE, give, rmv, List.set_cons_zero, List.set_cons_succ, List.set_nil, List.map_cons, List.map_nil, List.length_cons, List.length_nil, List.cons_append, List.nil_append, List.replicate_succ, List.replicate_zero, List.getElem?_cons_zero, List.getElem?_cons_succ, c0, c1, c2, e_none_none, n_none_none, e_none_item, n_none_item, e_none_table, n_none_table, e_none_several, n_none_several, e_item_none, n_item_none, e_item_item, n_item_item, e_item_table, n_item_table, e_item_several, n_item_several, e_table_none, n_table_none, e_table_item, n_table_item, e_table_table, n_table_table, e_table_several, n_table_several, e_several_none, n_several_none, e_several_item, n_several_item, e_several_table, n_several_table, e_several_several, n_several_several, e_draw_draw, n_draw_draw, e_draw_bag, n_draw_bag, e_draw_sure, n_draw_sure, e_draw_unlike, n_draw_unlike, e_bag_draw, n_bag_draw, e_bag_bag, n_bag_bag, e_bag_sure, n_bag_sure, e_bag_unlike, n_bag_unlike, e_sure_draw, n_sure_draw, e_sure_bag, n_sure_bag, e_sure_sure, n_sure_sure, e_sure_unlike, n_sure_unlike, e_unlike_draw, n_unlike_draw, e_unlike_bag, n_unlike_bag, e_unlike_sure, n_unlike_sure, e_unlike_unlike, n_unlike_unlike]
          refine (heap_ok hs' y c (by omega) _).mono ?_
          rintro _ _ ⟨hs2, rfl, hl2, rfl⟩
          exact ⟨gs, hs2, k', st', _, rfl, hgs', by omega, hk', hst', rfl, rfl⟩
        | table y =>
          obtain ⟨q, hq, rfl⟩ := mem_nms (show y ∈ nms i from hg)
          have c0 : ixD (Gi.d (.table (nmI q))) (.int 0) = some (.str "table") := rfl
          have c1 : ixD (Gi.d (.table (nmI q))) (.int 1) = some (sI q) := rfl
          simp only [sa_ok, sa_bind, ss_seq, ss_fin, ss_nx, ss_ret, ss_nil, sa_fn, sa_v0, sa_v1, sa_v2, sa_v3, sa_v4, sa_v5, sa_v6, sa_v7, sa_v8, sa_v9, sa_v10, sa_v11, sa_v12, sa_v13, sa_v14, sa_eCon, sa_lift, sa_liftB, sa_liftL, sa_eOp, sa_eUn, sa_lNil, sa_lCons, sa_eTup, sa_eLst, sa_eBlt, sa_eCall, sa_eIf, sa_eAnd, sa_eOr, sa_bAnd, sa_bOr, sa_bNot, sa_bTru, sa_bVal, sa_eChain, sa_iItems, sa_iRange, sa_iKeys, ss_if, ss_ifG, ss_sret, ss_expr, ss_asg, ss_new, ss_asgT, ss_for, ss_app, ss_put, ss_putP, ss_ext, ss_newP, sa_eDnew, sa_eSl, sa_oNone, sa_oSome, sa_eBM, isB_bl, tru_bl, len_lst, len_tup, len_dic, items_lst, items_tup, Nat.zero_add, Nat.reduceAdd, Nat.reduceSub, Nat.sub_self, Nat.reduceLT, Nat.reduceLeDiff, Nat.le_refl, Nat.zero_le, true_and, List.filter_nil, List.filter_cons, List.contains_cons, List.contains_nil, Nat.reduceBEq, Nat.reduceBNe, Bool.or_false, Bool.false_or, Bool.true_or, Bool.or_true, Bool.not_true, Bool.not_false, Bool.false_eq_true, if_true, if_false, ite_true, ite_false, decide_true, decide_false, wipeE, give, rmv, List.set_cons_zero, List.set_cons_succ, List.set_nil, List.map_cons, List.map_nil, List.length_cons, List.length_nil, List.cons_append, List.nil_append, List.replicate_succ, List.replicate_zero, List.getElem?_cons_zero, List.getElem?_cons_succ, c0, c1, e_none_none, n_none_none, e_none_item, n_none_item, e_none_table, n_none_table, e_none_several, n_none_several, e_item_none, n_item_none, e_item_item, n_item_item, e_item_table, n_item_table, e_item_several, n_item_several, e_table_none, n_table_none, e_table_item, n_table_item, e_table_table, n_table_table, e_table_several, n_table_several, e_several_none, n_several_none, e_several_item, n_several_item, e_several_table, n_several_table, e_several_several, n_several_several, e_draw_draw, n_draw_draw, e_draw_bag, n_draw_bag, e_draw_sure, n_draw_sure, e_draw_unlike, n_draw_unlike, e_bag_draw, n_bag_draw, e_bag_bag, n_bag_bag, e_bag_sure, n_bag_sure, e_bag_unlike, n_bag_unlike, e_sure_draw, n_sure_draw, e_sure_bag, n_sure_bag, e_sure_sure, n_sure_sure, e_sure_unlike, n_sure_unlike, e_unlike_draw, n_unlike_draw, e_unlike_bag, n_unlike_bag, e_unlike_sure, n_unlike_sure, e_unlike_unlike, n_unlike_unlike, sa_eMeth]
          have hpw : 2 ^ (q + 1) ≤ 2 ^ i := Nat.pow_le_pow_right (by decide) (by omega)
          refine ⟨4, _, cell4, no_drawn, (drawn_ok hb f q (by omega) (by omega) k' st' hs' hk' hst' (by omega)).mono ?_⟩
          rintro _ _ ⟨hs2, k2, st2, rfl, hl2, hk2, hst2, rfl⟩
          exact ⟨gs, hs2, k2, st2, _, rfl, hgs', by omega, hk2, hst2, rfl, rfl⟩
    · rintro rh ow w ⟨gs, hs', k', st', x8, hd, hgs, hlen, hk', hst', rfl, rfl, rfl⟩
      simp only [sa_ok, sa_bind, ss_seq, ss_fin, ss_nx, ss_ret, ss_nil, sa_fn, sa_v0, sa_v1, sa_v2, sa_v3, sa_v4, sa_v5, sa_v6, sa_v7, sa_v8, sa_v9, sa_v10, sa_v11, sa_v12, sa_v13, sa_v14, sa_eCon, sa_lift, sa_liftB, sa_liftL, sa_eOp, sa_eUn, sa_lNil, sa_lCons, sa_eTup, sa_eLst, sa_eBlt, sa_eCall, sa_eIf, sa_eAnd, sa_eOr, sa_bAnd, sa_bOr, sa_bNot, sa_bTru, sa_bVal, sa_eChain, sa_iItems, sa_iRange, sa_iKeys, ss_if, ss_ifG, ss_sret, ss_expr, ss_asg, ss_new, ss_asgT, ss_for, ss_app, ss_put, ss_putP, ss_ext, ss_newP, sa_eDnew, sa_eSl, sa_oNone, sa_oSome, sa_eBM, isB_bl, tru_bl, len_lst, len_tup, len_dic, items_lst, items_tup, Nat.zero_add, Nat.reduceAdd, Nat.reduceSub, Nat.sub_self, Nat.reduceLT, Nat.reduceLeDiff, Nat.le_refl, Nat.zero_le, true_and, List.filter_nil, List.filter_cons, List.contains_cons, List.contains_nil, Nat.reduceBEq, Nat.reduceBNe, Bool.or_false, Bool.false_or, Bool.true_or, Bool.or_true, Bool.not_true, Bool.not_false, Bool.false_eq_true, if_true, if_false, ite_true, ite_false, decide_true, decide_false, wipeE, give, rmv, List.set_cons_zero, List.set_cons_succ, List.set_nil, List.map_cons, List.map_nil, List.length_cons, List.length_nil, List.cons_append, List.nil_append, List.replicate_succ, List.replicate_zero, List.getElem?_cons_zero, List.getElem?_cons_succ]
      exact ⟨hs', k', st', rfl, by omega, hk', hst', rfl⟩
/-! ### states are the same as themselves -/
def PyOk (d : D) (n : Nat) : Prop := ∃ p, toPy d = some p ∧ p.canLay0 = true ∧ p.depth ≤ n
theorem pys_ok {n : Nat} : ∀ ds : List D, (∀ d ∈ ds, PyOk d n) → ∃ ps, toPys ds = some ps ∧ PyData.canLayAll0 ps = true ∧ PyData.depthAll ps ≤ n
  | [], _ => ⟨[], rfl, rfl, Nat.zero_le _⟩
  | d :: ds, h => by
    obtain ⟨p, h1, h2, h3⟩ := h d (List.mem_cons_self ..)
    obtain ⟨ps, g1, g2, g3⟩ := pys_ok ds fun d hd => h d (List.mem_cons_of_mem _ hd)
    refine ⟨p :: ps, by rw [toPys, h1, g1], by rw [PyData.canLayAll0, h2, g2]; rfl, ?_⟩
    rw [PyData.depthAll]
    omega
theorem tup_ok {n : Nat} {ds : List D} (h : ∀ d ∈ ds, PyOk d n) : PyOk (.tup ds) (n + 1) := by
  obtain ⟨ps, g1, g2, g3⟩ := pys_ok ds h
  exact ⟨.tuple ps, by rw [toPy, g1]; rfl, by rw [PyData.canLay0]; exact g2, by rw [PyData.depth]; omega⟩
theorem int_ok (i : Int) (n : Nat) : PyOk (.int i) n := ⟨.int i, rfl, rfl, Nat.zero_le _⟩
theorem non_ok (n : Nat) : PyOk .non n := ⟨.none, rfl, rfl, Nat.zero_le _⟩
theorem part_py {t : Tb} {d : D} (h : PartOk t d) : PyOk d 2 := by
  cases t with
  | draw rs => cases h; exact non_ok 2
  | bag rs =>
    obtain ⟨ps, rfl, _⟩ := h
    refine tup_ok (n := 1) fun d hd => ?_
    obtain ⟨i, _, rfl⟩ := List.mem_map.mp hd
    exact int_ok i 1
  | unlike rs =>
    rcases h with rfl | ⟨i, rfl⟩
    · exact non_ok 2
    · exact int_ok i 2
  | sure rs a m => obtain ⟨i, rfl⟩ := h; exact int_ok i 2
theorem st_py {m : Nat} {t : Nat → Tb} {st : D} (h : StOk m t st) : PyOk st 3 := by
  obtain ⟨ps, rfl, hl, hp⟩ := h
  refine tup_ok fun d hd => ?_
  obtain ⟨i, hi, rfl⟩ := List.mem_iff_getElem.mp hd
  have := hp i (by omega)
  rw [show ps.getD i .non = ps[i] by simp [hi]] at this
  exact part_py this
theorem ne_stands {m : Nat} {t : Nat → Tb} {st : D} (h : StOk m t st) (k : Int) : neD (.tup [.int k, st]) (.tup [.int k, st]) = some (.bl false) := by
  have hp : PyOk (.tup [.int k, st]) 4 := tup_ok (n := 3) fun d hd => by
    simp only [List.mem_cons, List.not_mem_nil, or_false] at hd
    rcases hd with rfl | rfl
    · exact int_ok k 3
    · exact st_py h
  obtain ⟨p, h1, h2, h3⟩ := hp
  have := eqB_self h1 (by unfold SeqAt.shaped; rw [h2]; simp; omega)
  unfold neD
  rw [this]; rfl
/-! ### what is refused -/
theorem whole_bad : ∀ d ∈ [D.int (0 - 1), .int 1001, .non, .bl true, .str "1"], ∀ w : Wl, M_is_whole [d, .int 0, .int 1000] w = .ok (.bl false) w := by
  intro d hd w
  simp only [List.mem_cons, List.not_mem_nil, or_false] at hd
  rcases hd with rfl | rfl | rfl | rfl | rfl
  · rw [whole_int]; rfl
  · rw [whole_int]; rfl
  · kernel_rfl
  · kernel_rfl
  · kernel_rfl
theorem seed_bad : ∀ d ∈ [D.int 0, .int 2147483647, .int (0 - 1), .non, .bl true, .str "1", .int 1000000000000], ∀ w : Wl, M_is_whole [d, .int 1, .int 2147483646] w = .ok (.bl false) w := by
  intro d hd w
  simp only [List.mem_cons, List.not_mem_nil, or_false] at hd
  rcases hd with rfl | rfl | rfl | rfl | rfl | rfl | rfl
  · rw [whole_int]; rfl
  · rw [whole_int]; rfl
  · rw [whole_int]; rfl
  · kernel_rfl
  · kernel_rfl
  · kernel_rfl
  · rw [whole_int]; rfl
theorem look_bad (x : D) (kvs : List (Key × D)) : ∀ d ∈ [D.non, .dic [], .dic [(.inr "A", x)], .dic [(.inr "a", .non)], .lst [.dic kvs]], ∀ w : Wl, M_look_book [d] w = .exc "BadBook" w := by
  intro d hd w
  simp only [List.mem_cons, List.not_mem_nil, or_false] at hd
  rcases hd with rfl | rfl | rfl | rfl | rfl
  · kernel_rfl
  · kernel_rfl
  · kernel_rfl
  · kernel_rfl
  · kernel_rfl
theorem ref_book (w : Wl) : M_law_refusal [.exc "BadBook"] w = .ok (.tup [.str "refused", .str "book"]) w := by kernel_rfl
theorem ref_number (w : Wl) : M_law_refusal [.exc "BadNumber"] w = .ok (.tup [.str "refused", .str "number"]) w := by kernel_rfl
theorem ref_table (w : Wl) : M_law_refusal [.exc "NoTable"] w = .ok (.tup [.str "refused", .str "table"]) w := by kernel_rfl
theorem ref_nothing (w : Wl) : M_law_refusal [.exc "Nothing"] w = .ok (.tup [.str "refused", .str "nothing"]) w := by kernel_rfl
theorem xs_book : XsL "BadBook" "GiftError" = some true := by kernel_rfl
theorem xs_number : XsL "BadNumber" "GiftError" = some true := by kernel_rfl
theorem xs_table : XsL "NoTable" "GiftError" = some true := by kernel_rfl
theorem xs_nothing : XsL "Nothing" "GiftError" = some true := by kernel_rfl
theorem told_ok {a b c d x : D} {w w' : Wl} (h : M_law_one [a, b, c, d] w = .ok x w') : M_law_told [a, b, c, d] w = .ok (.tup [.str "found", x]) w' := by
  simp [M_law_told, F_law_told, fnRun, sSeq, sIf, sNil, sRet, sAsg, sExpr, fin, eVar, eCon, eUn, eOp, lCons, lNil, eTup, eLst, eBlt, eCall, eIf, eAnd, eOr, bAnd, bOr, bNot, bTru, bVal, eChain, Res.bind, lift, liftB, liftL, isB, truD, cmpI, isiD, tyName, lenD, notB, G.iItems, itemsOf, iRange, wipeE, give, sTry, h, isD, G.isNon, rmv]
theorem told_exc {a b c d x : D} {n : Str} {w w' : Wl} (h : M_law_one [a, b, c, d] w = .exc n w') (hx : XsL n "GiftError" = some true) (hr : M_law_refusal [.exc n] w' = .ok x w') : M_law_told [a, b, c, d] w = .ok x w' := by
  simp [M_law_told, F_law_told, fnRun, sSeq, sIf, sNil, sRet, sAsg, sExpr, fin, eVar, eCon, eUn, eOp, lCons, lNil, eTup, eLst, eBlt, eCall, eIf, eAnd, eOr, bAnd, bOr, bNot, bTru, bVal, eChain, Res.bind, lift, liftB, liftL, isB, truD, cmpI, isiD, tyName, lenD, notB, G.iItems, itemsOf, iRange, wipeE, give, sTry, h, hx, hr, isD, G.isNon, rmv]
/-! ### looks at tables -/
theorem val_no {m : Nat} {t : Nat → Tb} {kvs : List (Key × D)} (hb : BookOk m t kvs) {x : Str} (h : ∀ i, nmI i ≠ x) : valK kvs (.inr x) = none := by
  unfold valK
  rw [List.find?_eq_none.mpr, Option.map_none]
  intro kv hkv
  obtain ⟨i, _, e⟩ := hb.key kv hkv
  simp [e, h i]
theorem nm_ne {x : Str} (h0 : "a" ≠ x) (h1 : "box" ≠ x) (h2 : "chest" ≠ x) : ∀ i, nmI i ≠ x
  | 0 => h0
  | 1 => h1
  | n + 2 => h2
theorem lookt_ok {m : Nat} {t : Nat → Tb} {kvs : List (Key × D)} (hb : BookOk m t kvs) {i : Nat} (hi : i < m) (w : Wl) : M_look_table [.dic kvs, sI i] w = .ok .non w := by
  have e1 : notInD (sI i) (.dic kvs) = some (.bl false) := by
    show (some (valK kvs (.inr (nmI i))).isSome).map (fun k => D.bl (!k)) = _
    rw [hb.get i hi]; rfl
  refine sa_eq.mp ?_
  simp only [M_look_table, F_look_table, sa_ok, sa_bind, ss_seq, ss_fin, ss_nx, ss_ret, ss_nil, sa_fn, sa_v0, sa_v1, sa_v2, sa_v3, sa_v4, sa_v5, sa_v6, sa_v7, sa_v8, sa_v9, sa_v10, sa_v11, sa_v12, sa_v13, sa_v14, sa_eCon, sa_lift, sa_liftB, sa_liftL, sa_eOp, sa_eUn, sa_lNil, sa_lCons, sa_eTup, sa_eLst, sa_eBlt, sa_eCall, sa_eIf, sa_eAnd, sa_eOr, sa_bAnd, sa_bOr, sa_bNot, sa_bTru, sa_bVal, sa_eChain, sa_iItems, sa_iRange, sa_iKeys, ss_if, ss_ifG, ss_sret, ss_expr, ss_asg, ss_new, ss_asgT, ss_for, ss_app, ss_put, ss_putP, ss_ext, ss_newP, sa_eDnew, sa_eSl, sa_oNone, sa_oSome, sa_eBM, isB_bl, tru_bl, len_lst, len_tup, len_dic, items_lst, items_tup, Nat.zero_add, Nat.reduceAdd, Nat.reduceSub, Nat.sub_self, Nat.reduceLT, Nat.reduceLeDiff, Nat.le_refl, Nat.zero_le, true_and, List.filter_nil, List.filter_cons, List.contains_cons, List.contains_nil, Nat.reduceBEq, Nat.reduceBNe, Bool.or_false, Bool.false_or, Bool.true_or, Bool.or_true, Bool.not_true, Bool.not_false, Bool.false_eq_true, if_true, if_false, ite_true, ite_false, decide_true, decide_false, wipeE, give, rmv, List.set_cons_zero, List.set_cons_succ, List.set_nil, List.map_cons, List.map_nil, List.length_cons, List.length_nil, List.cons_append, List.nil_append, List.replicate_succ, List.replicate_zero, List.getElem?_cons_zero, List.getElem?_cons_succ, look_ok hb, sI, isi_ss]
  simp only [sI] at e1
  simp only [sa_ok, sa_bind, ss_seq, ss_fin, ss_nx, ss_ret, ss_nil, sa_fn, sa_v0, sa_v1, sa_v2, sa_v3, sa_v4, sa_v5, sa_v6, sa_v7, sa_v8, sa_v9, sa_v10, sa_v11, sa_v12, sa_v13, sa_v14, sa_eCon, sa_lift, sa_liftB, sa_liftL, sa_eOp, sa_eUn, sa_lNil, sa_lCons, sa_eTup, sa_eLst, sa_eBlt, sa_eCall, sa_eIf, sa_eAnd, sa_eOr, sa_bAnd, sa_bOr, sa_bNot, sa_bTru, sa_bVal, sa_eChain, sa_iItems, sa_iRange, sa_iKeys, ss_if, ss_ifG, ss_sret, ss_expr, ss_asg, ss_new, ss_asgT, ss_for, ss_app, ss_put, ss_putP, ss_ext, ss_newP, sa_eDnew, sa_eSl, sa_oNone, sa_oSome, sa_eBM, isB_bl, tru_bl, len_lst, len_tup, len_dic, items_lst, items_tup, Nat.zero_add, Nat.reduceAdd, Nat.reduceSub, Nat.sub_self, Nat.reduceLT, Nat.reduceLeDiff, Nat.le_refl, Nat.zero_le, true_and, List.filter_nil, List.filter_cons, List.contains_cons, List.contains_nil, Nat.reduceBEq, Nat.reduceBNe, Bool.or_false, Bool.false_or, Bool.true_or, Bool.or_true, Bool.not_true, Bool.not_false, Bool.false_eq_true, if_true, if_false, ite_true, ite_false, decide_true, decide_false, wipeE, give, rmv, List.set_cons_zero, List.set_cons_succ, List.set_nil, List.map_cons, List.map_nil, List.length_cons, List.length_nil, List.cons_append, List.nil_append, List.replicate_succ, List.replicate_zero, List.getElem?_cons_zero, List.getElem?_cons_succ, e1]
theorem lookt_bad {m : Nat} {t : Nat → Tb} {kvs : List (Key × D)} (hb : BookOk m t kvs) (z : D) : ∀ d ∈ [D.str "", .str "nothere", .non, .int 5, .tup [z]], ∀ w : Wl, M_look_table [.dic kvs, d] w = .exc "NoTable" w := by
  intro d hd w
  have k6 : kitB "NoneType" "str" = some false := by kernel_rfl
  have k7 : kitB "int" "str" = some false := by kernel_rfl
  have k8 : kitB "tuple" "str" = some false := by kernel_rfl
  simp only [List.mem_cons, List.not_mem_nil, or_false] at hd
  rcases hd with rfl | rfl | rfl | rfl | rfl
  · have hv := val_no hb (x := "") (nm_ne (by decide +kernel) (by decide +kernel) (by decide +kernel))
    simp [M_look_table, F_look_table, fnRun, sSeq, sIf, sNil, sRet, sAsg, sExpr, fin, eVar, eCon, eUn, eOp, lCons, lNil, eTup, eLst, eBlt, eCall, eIf, eAnd, eOr, bAnd, bOr, bNot, bTru, bVal, eChain, Res.bind, lift, liftB, liftL, isB, truD, cmpI, isiD, tyName, lenD, notB, G.iItems, itemsOf, iRange, wipeE, give, look_ok hb, k3, notInD, inB, G.keyOf, hv, sRaise]
  · have hv := val_no hb (x := "nothere") (nm_ne (by decide +kernel) (by decide +kernel) (by decide +kernel))
    simp [M_look_table, F_look_table, fnRun, sSeq, sIf, sNil, sRet, sAsg, sExpr, fin, eVar, eCon, eUn, eOp, lCons, lNil, eTup, eLst, eBlt, eCall, eIf, eAnd, eOr, bAnd, bOr, bNot, bTru, bVal, eChain, Res.bind, lift, liftB, liftL, isB, truD, cmpI, isiD, tyName, lenD, notB, G.iItems, itemsOf, iRange, wipeE, give, look_ok hb, k3, notInD, inB, G.keyOf, hv, sRaise]
  · simp [M_look_table, F_look_table, fnRun, sSeq, sIf, sNil, sRet, sAsg, sExpr, fin, eVar, eCon, eUn, eOp, lCons, lNil, eTup, eLst, eBlt, eCall, eIf, eAnd, eOr, bAnd, bOr, bNot, bTru, bVal, eChain, Res.bind, lift, liftB, liftL, isB, truD, cmpI, isiD, tyName, lenD, notB, G.iItems, itemsOf, iRange, wipeE, give, look_ok hb, k6, sRaise]
  · simp [M_look_table, F_look_table, fnRun, sSeq, sIf, sNil, sRet, sAsg, sExpr, fin, eVar, eCon, eUn, eOp, lCons, lNil, eTup, eLst, eBlt, eCall, eIf, eAnd, eOr, bAnd, bOr, bNot, bTru, bVal, eChain, Res.bind, lift, liftB, liftL, isB, truD, cmpI, isiD, tyName, lenD, notB, G.iItems, itemsOf, iRange, wipeE, give, look_ok hb, k7, sRaise]
  · simp [M_look_table, F_look_table, fnRun, sSeq, sIf, sNil, sRet, sAsg, sExpr, fin, eVar, eCon, eUn, eOp, lCons, lNil, eTup, eLst, eBlt, eCall, eIf, eAnd, eOr, bAnd, bOr, bNot, bTru, bVal, eChain, Res.bind, lift, liftB, liftL, isB, truD, cmpI, isiD, tyName, lenD, notB, G.iItems, itemsOf, iRange, wipeE, give, look_ok hb, k8, sRaise]
section
variable {n : Nat} {bk st : D} {k : Int} {past : List D} {rh : G.Env} {Q : D → Wl → Prop} {w : Wl} {fo fe : SE Wl}
theorem sa_eAppC : Sa (eAppC fo fe rh w) Q ↔ Sa (fo rh w) fun x w1 => ∃ j c, cellL x w1 = some (j, c) ∧ Sa (fe rh w1) fun d w2 => ∃ i xs, cellL x w2 = some (i, xs) ∧ Q .non (w2.set i (.lst (xs ++ [d]))) := by
  simp only [eAppC, sa_bind, sa_onC, sa_ok]
theorem cell5 (h : past.length < 50000) : cellL (.obj 5) (wd n bk k st past) = some (5, past) := by
  show (if past.length < 50000 then some (5, past) else none) = _
  rw [if_pos h]
theorem set_past (p : List D) : (wd n bk k st past).set 5 (.lst p) = wd n bk k st p := rfl
theorem draw_ok {m : Nat} {t : Nat → Tb} {kvs : List (Key × D)} (hb : BookOk m t kvs) {i : Nat} (hi : i < m) (hk : kOk k) (hst : StOk m t st) (hp : past.length < 50000) :
    Sa (M_Hand_draw [.obj 4, sI i] (wd n (.dic kvs) k st past)) fun d w' => ∃ k' st', kOk k' ∧ StOk m t st' ∧ w' = wd n (.dic kvs) k' st' (past ++ [.tup [.int k, st]]) := by
  simp only [M_Hand_draw, F_Hand_draw, sa_ok, sa_bind, ss_seq, ss_fin, ss_nx, ss_ret, ss_nil, sa_fn, sa_v0, sa_v1, sa_v2, sa_v3, sa_v4, sa_v5, sa_v6, sa_v7, sa_v8, sa_v9, sa_v10, sa_v11, sa_v12, sa_v13, sa_v14, sa_eCon, sa_lift, sa_liftB, sa_liftL, sa_eOp, sa_eUn, sa_lNil, sa_lCons, sa_eTup, sa_eLst, sa_eBlt, sa_eCall, sa_eIf, sa_eAnd, sa_eOr, sa_bAnd, sa_bOr, sa_bNot, sa_bTru, sa_bVal, sa_eChain, sa_iItems, sa_iRange, sa_iKeys, ss_if, ss_ifG, ss_sret, ss_expr, ss_asg, ss_new, ss_asgT, ss_for, ss_app, ss_put, ss_putP, ss_ext, ss_newP, sa_eDnew, sa_eSl, sa_oNone, sa_oSome, sa_eBM, isB_bl, tru_bl, len_lst, len_tup, len_dic, items_lst, items_tup, Nat.zero_add, Nat.reduceAdd, Nat.reduceSub, Nat.sub_self, Nat.reduceLT, Nat.reduceLeDiff, Nat.le_refl, Nat.zero_le, true_and, List.filter_nil, List.filter_cons, List.contains_cons, List.contains_nil, Nat.reduceBEq, Nat.reduceBNe, Bool.or_false, Bool.false_or, Bool.true_or, Bool.or_true, Bool.not_true, Bool.not_false, Bool.false_eq_true, if_true, if_false, ite_true, ite_false, decide_true, decide_false, wipeE, give, rmv, List.set_cons_zero, List.set_cons_succ, List.set_nil, List.map_cons, List.map_nil, List.length_cons, List.length_nil, List.cons_append, List.nil_append, List.replicate_succ, List.replicate_zero, List.getElem?_cons_zero, List.getElem?_cons_succ, sa_bk, lookt_ok hb hi, sa_eAppC, sa_past]
  refine ⟨5, _, cell5 hp, ?_⟩
  simp only [sa_ok, sa_bind, ss_seq, ss_fin, ss_nx, ss_ret, ss_nil, sa_fn, sa_v0, sa_v1, sa_v2, sa_v3, sa_v4, sa_v5, sa_v6, sa_v7, sa_v8, sa_v9, sa_v10, sa_v11, sa_v12, sa_v13, sa_v14, sa_eCon, sa_lift, sa_liftB, sa_liftL, sa_eOp, sa_eUn, sa_lNil, sa_lCons, sa_eTup, sa_eLst, sa_eBlt, sa_eCall, sa_eIf, sa_eAnd, sa_eOr, sa_bAnd, sa_bOr, sa_bNot, sa_bTru, sa_bVal, sa_eChain, sa_iItems, sa_iRange, sa_iKeys, ss_if, ss_ifG, ss_sret, ss_expr, ss_asg, ss_new, ss_asgT, ss_for, ss_app, ss_put, ss_putP, ss_ext, ss_newP, sa_eDnew, sa_eSl, sa_oNone, sa_oSome, sa_eBM, isB_bl, tru_bl, len_lst, len_tup, len_dic, items_lst, items_tup, Nat.zero_add, Nat.reduceAdd, Nat.reduceSub, Nat.sub_self, Nat.reduceLT, Nat.reduceLeDiff, Nat.le_refl, Nat.zero_le, true_and, List.filter_nil, List.filter_cons, List.contains_cons, List.contains_nil, Nat.reduceBEq, Nat.reduceBNe, Bool.or_false, Bool.false_or, Bool.true_or, Bool.or_true, Bool.not_true, Bool.not_false, Bool.false_eq_true, if_true, if_false, ite_true, ite_false, decide_true, decide_false, wipeE, give, rmv, List.set_cons_zero, List.set_cons_succ, List.set_nil, List.map_cons, List.map_nil, List.length_cons, List.length_nil, List.cons_append, List.nil_append, List.replicate_succ, List.replicate_zero, List.getElem?_cons_zero, List.getElem?_cons_succ, sa_num, sa_st]
  refine ⟨5, _, cell5 hp, ?_⟩
  rw [set_past]
  simp only [sa_ok, sa_bind, ss_seq, ss_fin, ss_nx, ss_ret, ss_nil, sa_fn, sa_v0, sa_v1, sa_v2, sa_v3, sa_v4, sa_v5, sa_v6, sa_v7, sa_v8, sa_v9, sa_v10, sa_v11, sa_v12, sa_v13, sa_v14, sa_eCon, sa_lift, sa_liftB, sa_liftL, sa_eOp, sa_eUn, sa_lNil, sa_lCons, sa_eTup, sa_eLst, sa_eBlt, sa_eCall, sa_eIf, sa_eAnd, sa_eOr, sa_bAnd, sa_bOr, sa_bNot, sa_bTru, sa_bVal, sa_eChain, sa_iItems, sa_iRange, sa_iKeys, ss_if, ss_ifG, ss_sret, ss_expr, ss_asg, ss_new, ss_asgT, ss_for, ss_app, ss_put, ss_putP, ss_ext, ss_newP, sa_eDnew, sa_eSl, sa_oNone, sa_oSome, sa_eBM, isB_bl, tru_bl, len_lst, len_tup, len_dic, items_lst, items_tup, Nat.zero_add, Nat.reduceAdd, Nat.reduceSub, Nat.sub_self, Nat.reduceLT, Nat.reduceLeDiff, Nat.le_refl, Nat.zero_le, true_and, List.filter_nil, List.filter_cons, List.contains_cons, List.contains_nil, Nat.reduceBEq, Nat.reduceBNe, Bool.or_false, Bool.false_or, Bool.true_or, Bool.or_true, Bool.not_true, Bool.not_false, Bool.false_eq_true, if_true, if_false, ite_true, ite_false, decide_true, decide_false, wipeE, give, rmv, List.set_cons_zero, List.set_cons_succ, List.set_nil, List.map_cons, List.map_nil, List.length_cons, List.length_nil, List.cons_append, List.nil_append, List.replicate_succ, List.replicate_zero, List.getElem?_cons_zero, List.getElem?_cons_succ, sa_eMeth]
  have hm := hb.hi
  have hpw : 2 ^ (i + 1) ≤ 2 ^ 3 := Nat.pow_le_pow_right (by decide) (by omega)
  refine ⟨4, _, cell4, no_drawn, (drawn_ok hb 5 i hi (by omega) k st [] hk hst (by simp; omega)).mono ?_⟩
  rintro _ _ ⟨hs2, k2, st2, rfl, hl2, hk2, hst2, rfl⟩
  exact ⟨k2, st2, hk2, hst2, rfl⟩
theorem eatt_bk : eAtt "Hand" "book" (eVar 0) (some (.obj 4) :: rh) (wd n bk k st past) = .ok bk (wd n bk k st past) := by kernel_rfl
theorem draw_bad {m : Nat} {t : Nat → Tb} {kvs : List (Key × D)} (hb : BookOk m t kvs) (z : D) : ∀ d ∈ [D.str "", .str "nothere", .non, .int 5, .tup [z]], M_Hand_draw [.obj 4, d] (wd n (.dic kvs) k st past) = .exc "NoTable" (wd n (.dic kvs) k st past) := by
  intro d hd
  simp [M_Hand_draw, F_Hand_draw, fnRun, sSeq, sExpr, fin, eCall, lCons, lNil, eVar, Res.bind, wipeE, give, eatt_bk, lookt_bad hb z d hd]
theorem many_bad1 {m : Nat} {t : Nat → Tb} {kvs : List (Key × D)} (hb : BookOk m t kvs) (z e : D) : ∀ d ∈ [D.str "", .str "nothere", .non, .int 5, .tup [z]], M_Hand_many [.obj 4, d, e] (wd n (.dic kvs) k st past) = .exc "NoTable" (wd n (.dic kvs) k st past) := by
  intro d hd
  simp [M_Hand_many, F_Hand_many, fnRun, sSeq, sExpr, fin, eCall, lCons, lNil, eVar, Res.bind, wipeE, give, eatt_bk, lookt_bad hb z d hd]
theorem many_bad2 {m : Nat} {t : Nat → Tb} {kvs : List (Key × D)} (hb : BookOk m t kvs) {i : Nat} (hi : i < m) : ∀ d ∈ [D.int (0 - 1), .int 1001, .non, .bl true, .str "1"], M_Hand_many [.obj 4, sI i, d] (wd n (.dic kvs) k st past) = .exc "BadNumber" (wd n (.dic kvs) k st past) := by
  intro d hd
  simp [M_Hand_many, F_Hand_many, fnRun, sSeq, sIf, sNil, sRet, sAsg, sExpr, fin, eVar, eCon, eUn, eOp, lCons, lNil, eTup, eLst, eBlt, eCall, eIf, eAnd, eOr, bAnd, bOr, bNot, bTru, bVal, eChain, Res.bind, lift, liftB, liftL, isB, truD, cmpI, isiD, tyName, lenD, notB, G.iItems, itemsOf, iRange, wipeE, give, eatt_bk, lookt_ok hb hi, whole_bad d hd, sRaise]
theorem many_ok {m : Nat} {t : Nat → Tb} {kvs : List (Key × D)} (hb : BookOk m t kvs) {i : Nat} (hi : i < m) (hk : kOk k) (hst : StOk m t st) (c : Nat) (hc : c ≤ 1000) (hp : past.length ≤ 2000) :
    Sa (M_Hand_many [.obj 4, sI i, .int c] (wd n (.dic kvs) k st past)) fun d w' => ∃ (ds : List D) (k' : Int) (st' : D) (past' : List D), d = .lst ds ∧ ds.length = c ∧ kOk k' ∧ StOk m t st' ∧ past'.length = past.length + c ∧ w' = wd n (.dic kvs) k' st' past' := by
  have hw : ∀ w : Wl, M_is_whole [.int c, .int 0, .int 1000] w = .ok (.bl true) w := by
    intro w
    rw [whole_int]
    simp; omega
  simp only [M_Hand_many, F_Hand_many, sa_ok, sa_bind, ss_seq, ss_fin, ss_nx, ss_ret, ss_nil, sa_fn, sa_v0, sa_v1, sa_v2, sa_v3, sa_v4, sa_v5, sa_v6, sa_v7, sa_v8, sa_v9, sa_v10, sa_v11, sa_v12, sa_v13, sa_v14, sa_eCon, sa_lift, sa_liftB, sa_liftL, sa_eOp, sa_eUn, sa_lNil, sa_lCons, sa_eTup, sa_eLst, sa_eBlt, sa_eCall, sa_eIf, sa_eAnd, sa_eOr, sa_bAnd, sa_bOr, sa_bNot, sa_bTru, sa_bVal, sa_eChain, sa_iItems, sa_iRange, sa_iKeys, ss_if, ss_ifG, ss_sret, ss_expr, ss_asg, ss_new, ss_asgT, ss_for, ss_app, ss_put, ss_putP, ss_ext, ss_newP, sa_eDnew, sa_eSl, sa_oNone, sa_oSome, sa_eBM, isB_bl, tru_bl, len_lst, len_tup, len_dic, items_lst, items_tup, Nat.zero_add, Nat.reduceAdd, Nat.reduceSub, Nat.sub_self, Nat.reduceLT, Nat.reduceLeDiff, Nat.le_refl, Nat.zero_le, true_and, List.filter_nil, List.filter_cons, List.contains_cons, List.contains_nil, Nat.reduceBEq, Nat.reduceBNe, Bool.or_false, Bool.false_or, Bool.true_or, Bool.or_true, Bool.not_true, Bool.not_false, Bool.false_eq_true, if_true, if_false, ite_true, ite_false, decide_true, decide_false, wipeE, give, rmv, List.set_cons_zero, List.set_cons_succ, List.set_nil, List.map_cons, List.map_nil, List.length_cons, List.length_nil, List.cons_append, List.nil_append, List.replicate_succ, List.replicate_zero, List.getElem?_cons_zero, List.getElem?_cons_succ, sa_bk, lookt_ok hb hi, hw, sa_eLc, range1_ok (show 0 ≤ (c : Int) by omega) (show (c : Int) ≤ 100000 by omega), Int.toNat_natCast, rangeFrom_len]
  refine ⟨by omega, lc_inv (fun ds acc w => ∃ (k' : Int) (st' : D) (past' : List D), acc.length + ds.length = c ∧ kOk k' ∧ StOk m t st' ∧ past'.length = past.length + acc.length ∧ w = wd n (.dic kvs) k' st' past') ⟨k, st, past, by simp [rangeFrom_len], hk, hst, by simp, rfl⟩ ?_ ?_⟩
  · rintro d ds acc w ⟨k', st', past', hl, hk', hst', hpl, rfl⟩
    simp only [List.length_cons] at hl
    simp only [sa_ok, sa_bind, ss_seq, ss_fin, ss_nx, ss_ret, ss_nil, sa_fn, sa_v0, sa_v1, sa_v2, sa_v3, sa_v4, sa_v5, sa_v6, sa_v7, sa_v8, sa_v9, sa_v10, sa_v11, sa_v12, sa_v13, sa_v14, sa_eCon, sa_lift, sa_liftB, sa_liftL, sa_eOp, sa_eUn, sa_lNil, sa_lCons, sa_eTup, sa_eLst, sa_eBlt, sa_eCall, sa_eIf, sa_eAnd, sa_eOr, sa_bAnd, sa_bOr, sa_bNot, sa_bTru, sa_bVal, sa_eChain, sa_iItems, sa_iRange, sa_iKeys, ss_if, ss_ifG, ss_sret, ss_expr, ss_asg, ss_new, ss_asgT, ss_for, ss_app, ss_put, ss_putP, ss_ext, ss_newP, sa_eDnew, sa_eSl, sa_oNone, sa_oSome, sa_eBM, isB_bl, tru_bl, len_lst, len_tup, len_dic, items_lst, items_tup, Nat.zero_add, Nat.reduceAdd, Nat.reduceSub, Nat.sub_self, Nat.reduceLT, Nat.reduceLeDiff, Nat.le_refl, Nat.zero_le, true_and, List.filter_nil, List.filter_cons, List.contains_cons, List.contains_nil, Nat.reduceBEq, Nat.reduceBNe, Bool.or_false, Bool.false_or, Bool.true_or, Bool.or_true, Bool.not_true, Bool.not_false, Bool.false_eq_true, if_true, if_false, ite_true, ite_false, decide_true, decide_false, wipeE, give, rmv, List.set_cons_zero, List.set_cons_succ, List.set_nil, List.map_cons, List.map_nil, List.length_cons, List.length_nil, List.cons_append, List.nil_append, List.replicate_succ, List.replicate_zero, List.getElem?_cons_zero, List.getElem?_cons_succ, sa_eMeth]
    refine ⟨4, _, cell4, no_draw, (draw_ok hb hi hk' hst' (by omega)).mono ?_⟩
    rintro x _ ⟨k2, st2, hk2, hst2, rfl⟩
    exact ⟨k2, st2, _, by simp; omega, hk2, hst2, by simp; omega, rfl⟩
  · rintro acc w ⟨k', st', past', hl, hk', hst', hpl, rfl⟩
    simp only [List.length_nil, Nat.add_zero] at hl
    exact ⟨acc, k', st', past', rfl, hl, hk', hst', by omega, rfl⟩
theorem stands_ok : M_Hand_stands [.obj 4] (wd n bk k st past) = .ok (.tup [.int k, st]) (wd n bk k st past) := by kernel_rfl
theorem back_no : M_Hand_back [.obj 4] (wd n bk k st []) = .exc "Nothing" (wd n bk k st []) := by kernel_rfl
theorem eatt_past : eAtt "Hand" "past" (eVar 0) (some (.obj 4) :: rh) (wd n bk k st past) = .ok (.obj 5) (wd n bk k st past) := by kernel_rfl
theorem set2 (k' : Int) (st' : D) (p : List D) : ((wd n bk k st p).set 4 (.ins "Hand" (putFD "number" (.int k') (fs4 bk k st)))).set 4 (.ins "Hand" (putFD "state" st' (putFD "number" (.int k') (fs4 bk k st)))) = wd n bk k' st' p := by kernel_rfl
theorem set2' (k' : Int) (st' : D) (p : List D) : (wd n bk k st p).set 4 (.ins "Hand" (putFD "state" st' (putFD "number" (.int k') (fs4 bk k st)))) = wd n bk k' st' p := by kernel_rfl
theorem back_ok (k' : Int) (st' : D) (hp : past.length < 49000) : M_Hand_back [.obj 4] (wd n bk k st (past ++ [.tup [.int k', st']])) = .ok .non (wd n bk k' st' past) := by
  have c5 : cellL (.obj 5) (wd n bk k st (past ++ [.tup [.int k', st']])) = some (5, past ++ [.tup [.int k', st']]) := cell5 (by simp; omega)
  have hlen : (putFD "number" (.int k') (fs4 bk k st)).length < 1000 := by
    have : putFD "number" (.int k') (fs4 bk k st) = fs4 bk k' st := by kernel_rfl
    rw [this]; show 4 < 1000; decide
  have s5 : (wd n bk k st (past ++ [.tup [.int k', st']])).set 5 (.lst past) = wd n bk k st past := rfl
  simp [M_Hand_back, F_Hand_back, fnRun, sSeq, sIf, sNil, bNot, bTruC, eatt_past, c5, Res.bind, fin, sSetA2, give, wipeE, ePopC, onC, twoOf, s5, cell4, hlen, set2, set2']
end
section
variable {n : Nat} {r w : Wl} {m : Nat} {t : Nat → Tb} {kvs : List (Key × D)} {k : Int} {st : D} {past : List D}
theorem told0_bad (x : D) (kvs : List (Key × D)) (s : D) : ∀ d ∈ [D.non, .dic [], .dic [(.inr "A", x)], .dic [(.inr "a", .non)], .lst [.dic kvs]], M_law_told [.int 0, .non, d, s] w = .ok (.tup [.str "refused", .str "book"]) (w ++ [e0]) := by
  intro d hd
  refine told_exc (n := "BadBook") ?_ xs_book (ref_book _)
  have hi : ∀ w : Wl, M_Hand_init [.obj 0, d, s] w = .exc "BadBook" w := by
    intro w
    simp [M_Hand_init, F_Hand_init, fnRun, sSeq, sExpr, fin, eCall, lCons, lNil, eVar, Res.bind, wipeE, give, look_bad x kvs d hd]
  have hi : ∀ (j : Nat) (w : Wl), M_Hand_init [.obj j, d, s] w = .exc "BadBook" w := by
    intro j w
    simp [M_Hand_init, F_Hand_init, fnRun, sSeq, sExpr, fin, eCall, lCons, lNil, eVar, Res.bind, wipeE, give, look_bad x kvs d hd]
  simp [M_law_one, F_law_one, fnRun, sSeq, sIf, sNil, sRet, sAsg, sExpr, fin, eVar, eCon, eUn, eOp, lCons, lNil, eTup, eLst, eBlt, eCall, eIf, eAnd, eOr, bAnd, bOr, bNot, bTru, bVal, eChain, Res.bind, lift, liftB, liftL, isB, truD, cmpI, isiD, tyName, lenD, notB, G.iItems, itemsOf, iRange, wipeE, give, eqD_int, eMeth, eMake, hi, e0]
theorem told0_seed (hb : BookOk m t kvs) : ∀ d ∈ [D.int 0, .int 2147483647, .int (0 - 1), .non, .bl true, .str "1", .int 1000000000000], M_law_told [.int 0, .non, .dic kvs, d] w = .ok (.tup [.str "refused", .str "number"]) (w ++ [e0]) := by
  intro d hd
  refine told_exc (n := "BadNumber") ?_ xs_number (ref_number _)
  have hi : ∀ (j : Nat) (w : Wl), M_Hand_init [.obj j, .dic kvs, d] w = .exc "BadNumber" w := by
    intro j w
    simp [M_Hand_init, F_Hand_init, fnRun, sSeq, sIf, sNil, sRet, sAsg, sExpr, fin, eVar, eCon, eUn, eOp, lCons, lNil, eTup, eLst, eBlt, eCall, eIf, eAnd, eOr, bAnd, bOr, bNot, bTru, bVal, eChain, Res.bind, lift, liftB, liftL, isB, truD, cmpI, isiD, tyName, lenD, notB, G.iItems, itemsOf, iRange, wipeE, give, subD, look_ok hb, seed_bad d hd, sRaise]
  simp [M_law_one, F_law_one, fnRun, sSeq, sIf, sNil, sRet, sAsg, sExpr, fin, eVar, eCon, eUn, eOp, lCons, lNil, eTup, eLst, eBlt, eCall, eIf, eAnd, eOr, bAnd, bOr, bNot, bTru, bVal, eChain, Res.bind, lift, liftB, liftL, isB, truD, cmpI, isiD, tyName, lenD, notB, G.iItems, itemsOf, iRange, wipeE, give, eqD_int, eMeth, eMake, hi, e0]
theorem told3_no : M_law_told [.int 3, .obj 4, .non, .non] (wd n (.dic kvs) k st []) = .ok (.tup [.str "refused", .str "nothing"]) (wd n (.dic kvs) k st []) := by
  refine told_exc (n := "Nothing") ?_ xs_nothing (ref_nothing _)
  have h := no_back (bk := .dic kvs) (k := k) (st := st)
  simp [M_law_one, F_law_one, fnRun, sSeq, sIf, sNil, sRet, sAsg, sExpr, fin, eVar, eCon, eUn, eOp, lCons, lNil, eTup, eLst, eBlt, eCall, eIf, eAnd, eOr, bAnd, bOr, bNot, bTru, bVal, eChain, Res.bind, lift, liftB, liftL, isB, truD, cmpI, isiD, tyName, lenD, notB, G.iItems, itemsOf, iRange, wipeE, give, eqD_int, eMeth, cell4, onC, h, back_no]
theorem told3_ok (k' : Int) (st' : D) (hp : past.length < 49000) : M_law_told [.int 3, .obj 4, .non, .non] (wd n (.dic kvs) k st (past ++ [.tup [.int k', st']])) = .ok (.tup [.str "found", .non]) (wd n (.dic kvs) k' st' past) := by
  refine told_ok ?_
  have h := no_back (bk := .dic kvs) (k := k) (st := st)
  simp [M_law_one, F_law_one, fnRun, sSeq, sIf, sNil, sRet, sAsg, sExpr, fin, eVar, eCon, eUn, eOp, lCons, lNil, eTup, eLst, eBlt, eCall, eIf, eAnd, eOr, bAnd, bOr, bNot, bTru, bVal, eChain, Res.bind, lift, liftB, liftL, isB, truD, cmpI, isiD, tyName, lenD, notB, G.iItems, itemsOf, iRange, wipeE, give, eqD_int, eMeth, cell4, onC, h, back_ok k' st' hp]
theorem told1_bad (hb : BookOk m t kvs) (z e : D) : ∀ d ∈ [D.str "", .str "nothere", .non, .int 5, .tup [z]], M_law_told [.int 1, .obj 4, d, e] (wd n (.dic kvs) k st past) = .ok (.tup [.str "refused", .str "table"]) (wd n (.dic kvs) k st past) := by
  intro d hd
  refine told_exc (n := "NoTable") ?_ xs_table (ref_table _)
  have h := no_draw (bk := .dic kvs) (k := k) (st := st)
  simp [M_law_one, F_law_one, fnRun, sSeq, sIf, sNil, sRet, sAsg, sExpr, fin, eVar, eCon, eUn, eOp, lCons, lNil, eTup, eLst, eBlt, eCall, eIf, eAnd, eOr, bAnd, bOr, bNot, bTru, bVal, eChain, Res.bind, lift, liftB, liftL, isB, truD, cmpI, isiD, tyName, lenD, notB, G.iItems, itemsOf, iRange, wipeE, give, eqD_int, eMeth, cell4, onC, h, draw_bad hb z d hd]
theorem told2_bad (hb : BookOk m t kvs) (z e : D) : ∀ d ∈ [D.str "", .str "nothere", .non, .int 5, .tup [z]], M_law_told [.int 2, .obj 4, d, e] (wd n (.dic kvs) k st past) = .ok (.tup [.str "refused", .str "table"]) (wd n (.dic kvs) k st past) := by
  intro d hd
  refine told_exc (n := "NoTable") ?_ xs_table (ref_table _)
  have h := no_many (bk := .dic kvs) (k := k) (st := st)
  simp [M_law_one, F_law_one, fnRun, sSeq, sIf, sNil, sRet, sAsg, sExpr, fin, eVar, eCon, eUn, eOp, lCons, lNil, eTup, eLst, eBlt, eCall, eIf, eAnd, eOr, bAnd, bOr, bNot, bTru, bVal, eChain, Res.bind, lift, liftB, liftL, isB, truD, cmpI, isiD, tyName, lenD, notB, G.iItems, itemsOf, iRange, wipeE, give, eqD_int, eMeth, cell4, onC, h, many_bad1 hb z e d hd]
theorem told2_num (hb : BookOk m t kvs) {i : Nat} (hi : i < m) : ∀ d ∈ [D.int (0 - 1), .int 1001, .non, .bl true, .str "1"], M_law_told [.int 2, .obj 4, sI i, d] (wd n (.dic kvs) k st past) = .ok (.tup [.str "refused", .str "number"]) (wd n (.dic kvs) k st past) := by
  intro d hd
  refine told_exc (n := "BadNumber") ?_ xs_number (ref_number _)
  have h := no_many (bk := .dic kvs) (k := k) (st := st)
  simp [M_law_one, F_law_one, fnRun, sSeq, sIf, sNil, sRet, sAsg, sExpr, fin, eVar, eCon, eUn, eOp, lCons, lNil, eTup, eLst, eBlt, eCall, eIf, eAnd, eOr, bAnd, bOr, bNot, bTru, bVal, eChain, Res.bind, lift, liftB, liftL, isB, truD, cmpI, isiD, tyName, lenD, notB, G.iItems, itemsOf, iRange, wipeE, give, eqD_int, eMeth, cell4, onC, h, many_bad2 hb hi d hd]
theorem told2_ok (hb : BookOk m t kvs) {i : Nat} (hi : i < m) (hk : kOk k) (hst : StOk m t st) (c : Nat) (hc : c ≤ 1000) (hp : past.length ≤ 2000) :
    Sa (M_law_told [.int 2, .obj 4, sI i, .int c] (wd n (.dic kvs) k st past)) fun d w' => ∃ (ds : List D) (k' : Int) (st' : D) (past' : List D), d = .tup [.str "found", .lst ds] ∧ ds.length = c ∧ kOk k' ∧ StOk m t st' ∧ past'.length = past.length + c ∧ w' = wd n (.dic kvs) k' st' past' := by
  obtain ⟨d, w', e, ds, k', st', past', rfl, h1, h2, h3, h4, rfl⟩ := many_ok (n := n) hb hi hk hst c hc hp
  have h := no_many (bk := .dic kvs) (k := k) (st := st)
  refine ⟨_, _, told_ok (x := .lst ds) (w' := wd n (.dic kvs) k' st' past') ?_, ds, k', st', past', rfl, h1, h2, h3, h4, rfl⟩
  simp [M_law_one, F_law_one, fnRun, sSeq, sIf, sNil, sRet, sAsg, sExpr, fin, eVar, eCon, eUn, eOp, lCons, lNil, eTup, eLst, eBlt, eCall, eIf, eAnd, eOr, bAnd, bOr, bNot, bTru, bVal, eChain, Res.bind, lift, liftB, liftL, isB, truD, cmpI, isiD, tyName, lenD, notB, G.iItems, itemsOf, iRange, wipeE, give, eqD_int, eMeth, cell4, onC, h, e]
/-- a hand is made -/
def wd0 (n : Nat) : Wl := tw n [e0, e0, e0]
theorem make_ok (hb : BookOk m t kvs) (s : Int) (h1 : 1 ≤ s) (h2 : s ≤ 1000) : M_Hand_init [.obj 4, .dic kvs, .int s] (wd0 n ++ [.ins "Hand" []]) = .ok .non (wd n (.dic kvs) s (.tup ((List.range m).map fun i => fr (t i))) []) := by
  have hw : ∀ w : Wl, M_is_whole [.int s, .int 1, .int 2147483646] w = .ok (.bl true) w := by
    intro w
    rw [whole_int]
    simp; omega
  have e1 : subD (.int 2147483647) (.int 1) = some (.int 2147483646) := rfl
  have e2 : dictN [.dic kvs] = some (.dic kvs) := rfl
  refine sa_eq.mp ?_
  simp only [M_Hand_init, F_Hand_init, sa_ok, sa_bind, ss_seq, ss_fin, ss_nx, ss_ret, ss_nil, sa_fn, sa_v0, sa_v1, sa_v2, sa_v3, sa_v4, sa_v5, sa_v6, sa_v7, sa_v8, sa_v9, sa_v10, sa_v11, sa_v12, sa_v13, sa_v14, sa_eCon, sa_lift, sa_liftB, sa_liftL, sa_eOp, sa_eUn, sa_lNil, sa_lCons, sa_eTup, sa_eLst, sa_eBlt, sa_eCall, sa_eIf, sa_eAnd, sa_eOr, sa_bAnd, sa_bOr, sa_bNot, sa_bTru, sa_bVal, sa_eChain, sa_iItems, sa_iRange, sa_iKeys, ss_if, ss_ifG, ss_sret, ss_expr, ss_asg, ss_new, ss_asgT, ss_for, ss_app, ss_put, ss_putP, ss_ext, ss_newP, sa_eDnew, sa_eSl, sa_oNone, sa_oSome, sa_eBM, isB_bl, tru_bl, len_lst, len_tup, len_dic, items_lst, items_tup, Nat.zero_add, Nat.reduceAdd, Nat.reduceSub, Nat.sub_self, Nat.reduceLT, Nat.reduceLeDiff, Nat.le_refl, Nat.zero_le, true_and, List.filter_nil, List.filter_cons, List.contains_cons, List.contains_nil, Nat.reduceBEq, Nat.reduceBNe, Bool.or_false, Bool.false_or, Bool.true_or, Bool.or_true, Bool.not_true, Bool.not_false, Bool.false_eq_true, if_true, if_false, ite_true, ite_false, decide_true, decide_false, wipeE, give, rmv, List.set_cons_zero, List.set_cons_succ, List.set_nil, List.map_cons, List.map_nil, List.length_cons, List.length_nil, List.cons_append, List.nil_append, List.replicate_succ, List.replicate_zero, List.getElem?_cons_zero, List.getElem?_cons_succ, look_ok hb, e1, hw, ss_setA, e2, fresh_eq hb]
  refine ⟨4, [], by kernel_rfl, ?_⟩
  refine ⟨4, [("book", .dic kvs)], by kernel_rfl, ?_⟩
  refine ⟨4, [("book", .dic kvs), ("number", .int s)], by kernel_rfl, ?_⟩
  generalize (D.tup ((List.range m).map fun i => fr (t i))) = f0
  have ec : eCellN (eLst lNil) [some (D.obj 4), some (D.dic kvs), some (D.int s)] (((List.set (wd0 n ++ [Cell.ins "Hand" []]) 4 (Cell.ins "Hand" (putFD "book" (D.dic kvs) []))).set 4 (Cell.ins "Hand" (putFD "number" (D.int s) [("book", D.dic kvs)]))).set 4 (Cell.ins "Hand" (putFD "state" f0 [("book", D.dic kvs), ("number", D.int s)]))) = .ok (.obj 5) [.lst (List.replicate n (.int 0)), e0, e0, e0, .ins "Hand" [("book", D.dic kvs), ("number", D.int s), ("state", f0)], .lst []] := by kernel_rfl
  rw [ec, sa_ok]
  exact ⟨4, [("book", D.dic kvs), ("number", D.int s), ("state", f0)], by kernel_rfl, by kernel_rfl⟩
end
theorem sa_eMake {cn : Str} {M : List D → Wl → Res Wl D} {fs : SL Wl} {rh : G.Env} {w : Wl} {Q : D → Wl → Prop} : Sa (eMake cn M fs rh w) Q ↔ Sa (fs rh w) fun xs w1 => Sa (M (.obj w1.length :: xs) (w1 ++ [.ins cn []])) fun d w2 => d = .non ∧ Q (.obj w1.length) w2 := by
  simp only [eMake, sa_bind]
  constructor
  · intro q
    refine q.mono fun xs w1 q => q.mono fun d w2 q => ?_
    cases d with
    | non => simp only [sa_ok] at q; exact ⟨rfl, q⟩
    | _ => simp only [sa_fail] at q
  · intro q
    refine q.mono fun xs w1 q => q.mono fun d w2 q => ?_
    obtain ⟨rfl, q⟩ := q
    simp only [sa_ok]
    exact q
theorem tw_app (n : Nat) (r : Wl) (c : Cell) : tw n r ++ [c] = tw n (r ++ [c]) := rfl
theorem addI (i j : Int) : addD (.int i) (.int j) = some (.int (i + j)) := rfl
theorem c_mul : mulD (.lst [.tup [.str "refused", .str "book"]]) (.int 2) = some (.lst [.tup [.str "refused", .str "book"], .tup [.str "refused", .str "book"]]) := by kernel_rfl
theorem c_add : addD (.lst [.tup [.str "refused", .str "book"], .tup [.str "refused", .str "book"]]) (.lst [.tup [.str "refused", .str "number"]]) = some (.lst [.tup [.str "refused", .str "book"], .tup [.str "refused", .str "book"], .tup [.str "refused", .str "number"]]) := by kernel_rfl
theorem c_ne : neD (.lst [.tup [.str "refused", .str "book"], .tup [.str "refused", .str "book"], .tup [.str "refused", .str "number"]]) (.lst [.tup [.str "refused", .str "book"], .tup [.str "refused", .str "book"], .tup [.str "refused", .str "number"]]) = some (.bl false) := by kernel_rfl
theorem c_nothing : neD (.tup [.str "refused", .str "nothing"]) (.tup [.str "refused", .str "nothing"]) = some (.bl false) := by kernel_rfl
theorem c_number : neD (.tup [.str "refused", .str "number"]) (.tup [.str "refused", .str "number"]) = some (.bl false) := by kernel_rfl
theorem c_mul3 : mulD (.lst [.tup [.str "refused", .str "table"]]) (.int 3) = some (.lst [.tup [.str "refused", .str "table"], .tup [.str "refused", .str "table"], .tup [.str "refused", .str "table"]]) := by kernel_rfl
theorem c_tables : neD (.lst [.tup [.str "refused", .str "table"], .tup [.str "refused", .str "table"], .tup [.str "refused", .str "table"]]) (.lst [.tup [.str "refused", .str "table"], .tup [.str "refused", .str "table"], .tup [.str "refused", .str "table"]]) = some (.bl false) := by kernel_rfl
theorem sa_drawW {ns : List Int} {n : Nat} {bk st : D} {k : Int} {past : List D} {Q : D → Wl → Prop} {m : Int} (hm : 0 < m) (hn : n < 49000) (h : ∀ j, 0 ≤ j → j < m → Q (.int j) (wd (n + 1) bk k st past)) : Sa (M_law_draw [.scr ns, .obj 0, .int m] (wd n bk k st past)) Q :=
  sa_draw (r := [e0, e0, e0, .ins "Hand" (fs4 bk k st), .lst past]) hm hn h
def fN : D := .tup [.str "found", .non]
def rN : D := .tup [.str "refused", .str "nothing"]
theorem c_back : ∀ c : Nat, c ≤ 5 → mulD (.lst [fN]) (.int c) = some (.lst (List.replicate c fN)) ∧ addD (.lst (List.replicate c fN)) (.lst [rN]) = some (.lst (List.replicate c fN ++ [rN])) ∧ neD (.lst (List.replicate c fN ++ [rN])) (.lst (List.replicate c fN ++ [rN])) = some (.bl false) := by
  intro c hc
  obtain rfl | rfl | rfl | rfl | rfl | rfl : c = 0 ∨ c = 1 ∨ c = 2 ∨ c = 3 ∨ c = 4 ∨ c = 5 := by omega
  · exact ⟨by kernel_rfl, by kernel_rfl, by kernel_rfl⟩
  · exact ⟨by kernel_rfl, by kernel_rfl, by kernel_rfl⟩
  · exact ⟨by kernel_rfl, by kernel_rfl, by kernel_rfl⟩
  · exact ⟨by kernel_rfl, by kernel_rfl, by kernel_rfl⟩
  · exact ⟨by kernel_rfl, by kernel_rfl, by kernel_rfl⟩
  · exact ⟨by kernel_rfl, by kernel_rfl, by kernel_rfl⟩
theorem c_found : eqD (.str "found") (.str "found") = some (.bl true) := by kernel_rfl
theorem c_empty : eqD (.tup [.str "found", .lst []]) (.tup [.str "found", .lst []]) = some (.bl true) := by kernel_rfl
def PastOk (m : Nat) (t : Nat → Tb) (past : List D) : Prop := ∀ d ∈ past, ∃ k st, kOk k ∧ StOk m t st ∧ d = .tup [.int k, st]
theorem law_true (ns : List Int) (h : ns.length ≤ 63) : ∃ w' : Wl, M_law [.scr ns] [] = .ok (.bl true) w' := by
  suffices hs : Sa (M_law [.scr ns] []) (fun d _ => d = .bl true) by
    obtain ⟨d, w', e, rfl⟩ := hs
    exact ⟨w', e⟩
  have ec : ∀ rh : G.Env, eCellN (eLst lNil) rh [] = .ok (.obj 0) (tw 0 []) := fun _ => rfl
  simp only [M_law, F_law, sa_ok, sa_bind, ss_seq, ss_fin, ss_nx, ss_ret, ss_nil, sa_fn, sa_v0, sa_v1, sa_v2, sa_v3, sa_v4, sa_v5, sa_v6, sa_v7, sa_v8, sa_v9, sa_v10, sa_v11, sa_v12, sa_v13, sa_v14, sa_eCon, sa_lift, sa_liftB, sa_liftL, sa_eOp, sa_eUn, sa_lNil, sa_lCons, sa_eTup, sa_eLst, sa_eBlt, sa_eCall, sa_eIf, sa_eAnd, sa_eOr, sa_bAnd, sa_bOr, sa_bNot, sa_bTru, sa_bVal, sa_eChain, sa_iItems, sa_iRange, sa_iKeys, ss_if, ss_ifG, ss_sret, ss_expr, ss_asg, ss_new, ss_asgT, ss_for, ss_app, ss_put, ss_putP, ss_ext, ss_newP, sa_eDnew, sa_eSl, sa_oNone, sa_oSome, sa_eBM, isB_bl, tru_bl, len_lst, len_tup, len_dic, items_lst, items_tup, Nat.zero_add, Nat.reduceAdd, Nat.reduceSub, Nat.sub_self, Nat.reduceLT, Nat.reduceLeDiff, Nat.le_refl, Nat.zero_le, true_and, List.filter_nil, List.filter_cons, List.contains_cons, List.contains_nil, Nat.reduceBEq, Nat.reduceBNe, Bool.or_false, Bool.false_or, Bool.true_or, Bool.or_true, Bool.not_true, Bool.not_false, Bool.false_eq_true, if_true, if_false, ite_true, ite_false, decide_true, decide_false, wipeE, give, rmv, List.set_cons_zero, List.set_cons_succ, List.set_nil, List.map_cons, List.map_nil, List.length_cons, List.length_nil, List.cons_append, List.nil_append, List.replicate_succ, List.replicate_zero, List.getElem?_cons_zero, List.getElem?_cons_succ, ec]
  rw [ss_asgT (by rfl)]
  simp only [sa_ok, sa_bind, ss_seq, ss_fin, ss_nx, ss_ret, ss_nil, sa_fn, sa_v0, sa_v1, sa_v2, sa_v3, sa_v4, sa_v5, sa_v6, sa_v7, sa_v8, sa_v9, sa_v10, sa_v11, sa_v12, sa_v13, sa_v14, sa_eCon, sa_lift, sa_liftB, sa_liftL, sa_eOp, sa_eUn, sa_lNil, sa_lCons, sa_eTup, sa_eLst, sa_eBlt, sa_eCall, sa_eIf, sa_eAnd, sa_eOr, sa_bAnd, sa_bOr, sa_bNot, sa_bTru, sa_bVal, sa_eChain, sa_iItems, sa_iRange, sa_iKeys, ss_if, ss_ifG, ss_sret, ss_expr, ss_asg, ss_new, ss_asgT, ss_for, ss_app, ss_put, ss_putP, ss_ext, ss_newP, sa_eDnew, sa_eSl, sa_oNone, sa_oSome, sa_eBM, isB_bl, tru_bl, len_lst, len_tup, len_dic, items_lst, items_tup, Nat.zero_add, Nat.reduceAdd, Nat.reduceSub, Nat.sub_self, Nat.reduceLT, Nat.reduceLeDiff, Nat.le_refl, Nat.zero_le, true_and, List.filter_nil, List.filter_cons, List.contains_cons, List.contains_nil, Nat.reduceBEq, Nat.reduceBNe, Bool.or_false, Bool.false_or, Bool.true_or, Bool.or_true, Bool.not_true, Bool.not_false, Bool.false_eq_true, if_true, if_false, ite_true, ite_false, decide_true, decide_false, wipeE, give, rmv, List.set_cons_zero, List.set_cons_succ, List.set_nil, List.map_cons, List.map_nil, List.length_cons, List.length_nil, List.cons_append, List.nil_append, List.replicate_succ, List.replicate_zero, List.getElem?_cons_zero, List.getElem?_cons_succ]
  refine (lbook (by omega)).mono ?_
  rintro _ _ ⟨m, t, kvs, i, hb, hi, rfl, n1, hn1, rfl⟩
  refine ⟨_, rfl, ?_⟩
  have es : subD (.int 0) (.int 1) = some (.int (0 - 1)) := rfl
  have ix : ixD (.dic kvs) (.str (nmI i)) = some (t i).d := ix_bk hb hi
  have ed1 : ∀ (a2 : Option D) (w : Wl), eDisp [(eCon (D.str "A"), eOp ixD (eVar 11) (eVar 12))] [some (.scr ns), some (.obj 0), a2, none, none, none, none, none, none, none, none, some (.dic kvs), some (.str (nmI i)), none, none] w = .ok (.dic [(.inr "A", (t i).d)]) w := by
    intro a2 w
    simp [eDisp, lPairs, eCon, eOp, eVar, Res.bind, lift, ix, keysOfP, G.keyOf, mergeD, putD]
  have ed2 : ∀ (rh : G.Env) (w : Wl), eDisp [(eCon (D.str "a"), eCon D.non)] rh w = .ok (.dic [(.inr "a", .non)]) w := fun _ _ => rfl
  simp only [sa_ok, sa_bind, ss_seq, ss_fin, ss_nx, ss_ret, ss_nil, sa_fn, sa_v0, sa_v1, sa_v2, sa_v3, sa_v4, sa_v5, sa_v6, sa_v7, sa_v8, sa_v9, sa_v10, sa_v11, sa_v12, sa_v13, sa_v14, sa_eCon, sa_lift, sa_liftB, sa_liftL, sa_eOp, sa_eUn, sa_lNil, sa_lCons, sa_eTup, sa_eLst, sa_eBlt, sa_eCall, sa_eIf, sa_eAnd, sa_eOr, sa_bAnd, sa_bOr, sa_bNot, sa_bTru, sa_bVal, sa_eChain, sa_iItems, sa_iRange, sa_iKeys, ss_if, ss_ifG, ss_sret, ss_expr, ss_asg, ss_new, ss_asgT, ss_for, ss_app, ss_put, ss_putP, ss_ext, ss_newP, sa_eDnew, sa_eSl, sa_oNone, sa_oSome, sa_eBM, isB_bl, tru_bl, len_lst, len_tup, len_dic, items_lst, items_tup, Nat.zero_add, Nat.reduceAdd, Nat.reduceSub, Nat.sub_self, Nat.reduceLT, Nat.reduceLeDiff, Nat.le_refl, Nat.zero_le, true_and, List.filter_nil, List.filter_cons, List.contains_cons, List.contains_nil, Nat.reduceBEq, Nat.reduceBNe, Bool.or_false, Bool.false_or, Bool.true_or, Bool.or_true, Bool.not_true, Bool.not_false, Bool.false_eq_true, if_true, if_false, ite_true, ite_false, decide_true, decide_false, wipeE, give, rmv, List.set_cons_zero, List.set_cons_succ, List.set_nil, List.map_cons, List.map_nil, List.length_cons, List.length_nil, List.cons_append, List.nil_append, List.replicate_succ, List.replicate_zero, List.getElem?_cons_zero, List.getElem?_cons_succ, es]
  refine sa_pick (by decide) (by omega) fun seed hseed => ?_
  simp only [sa_ok, sa_bind, ss_seq, ss_fin, ss_nx, ss_ret, ss_nil, sa_fn, sa_v0, sa_v1, sa_v2, sa_v3, sa_v4, sa_v5, sa_v6, sa_v7, sa_v8, sa_v9, sa_v10, sa_v11, sa_v12, sa_v13, sa_v14, sa_eCon, sa_lift, sa_liftB, sa_liftL, sa_eOp, sa_eUn, sa_lNil, sa_lCons, sa_eTup, sa_eLst, sa_eBlt, sa_eCall, sa_eIf, sa_eAnd, sa_eOr, sa_bAnd, sa_bOr, sa_bNot, sa_bTru, sa_bVal, sa_eChain, sa_iItems, sa_iRange, sa_iKeys, ss_if, ss_ifG, ss_sret, ss_expr, ss_asg, ss_new, ss_asgT, ss_for, ss_app, ss_put, ss_putP, ss_ext, ss_newP, sa_eDnew, sa_eSl, sa_oNone, sa_oSome, sa_eBM, isB_bl, tru_bl, len_lst, len_tup, len_dic, items_lst, items_tup, Nat.zero_add, Nat.reduceAdd, Nat.reduceSub, Nat.sub_self, Nat.reduceLT, Nat.reduceLeDiff, Nat.le_refl, Nat.zero_le, true_and, List.filter_nil, List.filter_cons, List.contains_cons, List.contains_nil, Nat.reduceBEq, Nat.reduceBNe, Bool.or_false, Bool.false_or, Bool.true_or, Bool.or_true, Bool.not_true, Bool.not_false, Bool.false_eq_true, if_true, if_false, ite_true, ite_false, decide_true, decide_false, wipeE, give, rmv, List.set_cons_zero, List.set_cons_succ, List.set_nil, List.map_cons, List.map_nil, List.length_cons, List.length_nil, List.cons_append, List.nil_append, List.replicate_succ, List.replicate_zero, List.getElem?_cons_zero, List.getElem?_cons_succ, ed1, ed2]
  refine sa_pick (by simp) (by omega) fun bad hbad => ?_
  refine sa_pick (by simp) (by omega) fun none_ hnone => ?_
  refine sa_pick (by simp) (by omega) fun draws hdraws => ?_
  simp only [sa_ok, sa_bind, ss_seq, ss_fin, ss_nx, ss_ret, ss_nil, sa_fn, sa_v0, sa_v1, sa_v2, sa_v3, sa_v4, sa_v5, sa_v6, sa_v7, sa_v8, sa_v9, sa_v10, sa_v11, sa_v12, sa_v13, sa_v14, sa_eCon, sa_lift, sa_liftB, sa_liftL, sa_eOp, sa_eUn, sa_lNil, sa_lCons, sa_eTup, sa_eLst, sa_eBlt, sa_eCall, sa_eIf, sa_eAnd, sa_eOr, sa_bAnd, sa_bOr, sa_bNot, sa_bTru, sa_bVal, sa_eChain, sa_iItems, sa_iRange, sa_iKeys, ss_if, ss_ifG, ss_sret, ss_expr, ss_asg, ss_new, ss_asgT, ss_for, ss_app, ss_put, ss_putP, ss_ext, ss_newP, sa_eDnew, sa_eSl, sa_oNone, sa_oSome, sa_eBM, isB_bl, tru_bl, len_lst, len_tup, len_dic, items_lst, items_tup, Nat.zero_add, Nat.reduceAdd, Nat.reduceSub, Nat.sub_self, Nat.reduceLT, Nat.reduceLeDiff, Nat.le_refl, Nat.zero_le, true_and, List.filter_nil, List.filter_cons, List.contains_cons, List.contains_nil, Nat.reduceBEq, Nat.reduceBNe, Bool.or_false, Bool.false_or, Bool.true_or, Bool.or_true, Bool.not_true, Bool.not_false, Bool.false_eq_true, if_true, if_false, ite_true, ite_false, decide_true, decide_false, wipeE, give, rmv, List.set_cons_zero, List.set_cons_succ, List.set_nil, List.map_cons, List.map_nil, List.length_cons, List.length_nil, List.cons_append, List.nil_append, List.replicate_succ, List.replicate_zero, List.getElem?_cons_zero, List.getElem?_cons_succ, told0_bad (t i).d kvs _ bad hbad, told0_seed hb seed hseed, tw_app, c_mul, c_add, c_ne, sa_eMake]
  refine sa_draw (m := 1000) (by decide) (by omega) fun s s0 s1 => ?_
  simp only [sa_ok, sa_bind, ss_seq, ss_fin, ss_nx, ss_ret, ss_nil, sa_fn, sa_v0, sa_v1, sa_v2, sa_v3, sa_v4, sa_v5, sa_v6, sa_v7, sa_v8, sa_v9, sa_v10, sa_v11, sa_v12, sa_v13, sa_v14, sa_eCon, sa_lift, sa_liftB, sa_liftL, sa_eOp, sa_eUn, sa_lNil, sa_lCons, sa_eTup, sa_eLst, sa_eBlt, sa_eCall, sa_eIf, sa_eAnd, sa_eOr, sa_bAnd, sa_bOr, sa_bNot, sa_bTru, sa_bVal, sa_eChain, sa_iItems, sa_iRange, sa_iKeys, ss_if, ss_ifG, ss_sret, ss_expr, ss_asg, ss_new, ss_asgT, ss_for, ss_app, ss_put, ss_putP, ss_ext, ss_newP, sa_eDnew, sa_eSl, sa_oNone, sa_oSome, sa_eBM, isB_bl, tru_bl, len_lst, len_tup, len_dic, items_lst, items_tup, Nat.zero_add, Nat.reduceAdd, Nat.reduceSub, Nat.sub_self, Nat.reduceLT, Nat.reduceLeDiff, Nat.le_refl, Nat.zero_le, true_and, List.filter_nil, List.filter_cons, List.contains_cons, List.contains_nil, Nat.reduceBEq, Nat.reduceBNe, Bool.or_false, Bool.false_or, Bool.true_or, Bool.or_true, Bool.not_true, Bool.not_false, Bool.false_eq_true, if_true, if_false, ite_true, ite_false, decide_true, decide_false, wipeE, give, rmv, List.set_cons_zero, List.set_cons_succ, List.set_nil, List.map_cons, List.map_nil, List.length_cons, List.length_nil, List.cons_append, List.nil_append, List.replicate_succ, List.replicate_zero, List.getElem?_cons_zero, List.getElem?_cons_succ, addI]
  have hmk := make_ok (n := n1 + 1 + 1 + 1 + 1 + 1) hb (1 + s) (by omega) (by omega)
  have hl4 : (tw (n1 + 1 + 1 + 1 + 1 + 1) [e0, e0, e0]).length = 4 := rfl
  rw [hl4, show tw (n1 + 1 + 1 + 1 + 1 + 1) [e0, e0, e0] ++ [.ins "Hand" []] = wd0 (n1 + 1 + 1 + 1 + 1 + 1) ++ [.ins "Hand" []] from rfl, hmk, sa_ok]
  refine ⟨rfl, ?_⟩
  clear hmk
  have hst0 : StOk m t (.tup ((List.range m).map fun i => fr (t i))) := by
    refine ⟨_, rfl, by simp, ?_⟩
    intro q hq
    simp [hq]
    exact fr_ok (hb.tok q hq)
  generalize D.tup ((List.range m).map fun i => fr (t i)) = st0 at hst0 ⊢
  have hk0 : kOk (1 + s) := ⟨by omega, by omega⟩
  simp only [sa_ok, sa_bind, ss_seq, ss_fin, ss_nx, ss_ret, ss_nil, sa_fn, sa_v0, sa_v1, sa_v2, sa_v3, sa_v4, sa_v5, sa_v6, sa_v7, sa_v8, sa_v9, sa_v10, sa_v11, sa_v12, sa_v13, sa_v14, sa_eCon, sa_lift, sa_liftB, sa_liftL, sa_eOp, sa_eUn, sa_lNil, sa_lCons, sa_eTup, sa_eLst, sa_eBlt, sa_eCall, sa_eIf, sa_eAnd, sa_eOr, sa_bAnd, sa_bOr, sa_bNot, sa_bTru, sa_bVal, sa_eChain, sa_iItems, sa_iRange, sa_iKeys, ss_if, ss_ifG, ss_sret, ss_expr, ss_asg, ss_new, ss_asgT, ss_for, ss_app, ss_put, ss_putP, ss_ext, ss_newP, sa_eDnew, sa_eSl, sa_oNone, sa_oSome, sa_eBM, isB_bl, tru_bl, len_lst, len_tup, len_dic, items_lst, items_tup, Nat.zero_add, Nat.reduceAdd, Nat.reduceSub, Nat.sub_self, Nat.reduceLT, Nat.reduceLeDiff, Nat.le_refl, Nat.zero_le, true_and, List.filter_nil, List.filter_cons, List.contains_cons, List.contains_nil, Nat.reduceBEq, Nat.reduceBNe, Bool.or_false, Bool.false_or, Bool.true_or, Bool.or_true, Bool.not_true, Bool.not_false, Bool.false_eq_true, if_true, if_false, ite_true, ite_false, decide_true, decide_false, wipeE, give, rmv, List.set_cons_zero, List.set_cons_succ, List.set_nil, List.map_cons, List.map_nil, List.length_cons, List.length_nil, List.cons_append, List.nil_append, List.replicate_succ, List.replicate_zero, List.getElem?_cons_zero, List.getElem?_cons_succ, told3_no, c_nothing]
  refine sa_drawW (m := 6) (by decide) (by omega) fun c0 c00 c01 => ?_
  obtain ⟨c, hc, rfl⟩ : ∃ c : Nat, c ≤ 5 ∧ c0 = (c : Int) := ⟨c0.toNat, by omega, by omega⟩
  simp only [sa_ok, sa_bind, ss_seq, ss_fin, ss_nx, ss_ret, ss_nil, sa_fn, sa_v0, sa_v1, sa_v2, sa_v3, sa_v4, sa_v5, sa_v6, sa_v7, sa_v8, sa_v9, sa_v10, sa_v11, sa_v12, sa_v13, sa_v14, sa_eCon, sa_lift, sa_liftB, sa_liftL, sa_eOp, sa_eUn, sa_lNil, sa_lCons, sa_eTup, sa_eLst, sa_eBlt, sa_eCall, sa_eIf, sa_eAnd, sa_eOr, sa_bAnd, sa_bOr, sa_bNot, sa_bTru, sa_bVal, sa_eChain, sa_iItems, sa_iRange, sa_iKeys, ss_if, ss_ifG, ss_sret, ss_expr, ss_asg, ss_new, ss_asgT, ss_for, ss_app, ss_put, ss_putP, ss_ext, ss_newP, sa_eDnew, sa_eSl, sa_oNone, sa_oSome, sa_eBM, isB_bl, tru_bl, len_lst, len_tup, len_dic, items_lst, items_tup, Nat.zero_add, Nat.reduceAdd, Nat.reduceSub, Nat.sub_self, Nat.reduceLT, Nat.reduceLeDiff, Nat.le_refl, Nat.zero_le, true_and, List.filter_nil, List.filter_cons, List.contains_cons, List.contains_nil, Nat.reduceBEq, Nat.reduceBNe, Bool.or_false, Bool.false_or, Bool.true_or, Bool.or_true, Bool.not_true, Bool.not_false, Bool.false_eq_true, if_true, if_false, ite_true, ite_false, decide_true, decide_false, wipeE, give, rmv, List.set_cons_zero, List.set_cons_succ, List.set_nil, List.map_cons, List.map_nil, List.length_cons, List.length_nil, List.cons_append, List.nil_append, List.replicate_succ, List.replicate_zero, List.getElem?_cons_zero, List.getElem?_cons_succ, range1_ok (show 0 ≤ (c : Int) by omega) (show (c : Int) ≤ 100000 by omega), Int.toNat_natCast]
  generalize hN : n1 + 1 + 1 + 1 + 1 + 1 + 1 = N
  refine for_inv (fun ds rh ow w => ∃ (past : List D) (k : Int) (st : D) (x6 x9 x13 : Option D), rh = [some (.scr ns), some (.obj 0), some seed, some bad, some none_, some draws, x6, some (.obj 4), some (.int (c : Int)), x9, none, some (.dic kvs), some (.str (nmI i)), x13, none] ∧ ow = [] ∧ past.length + ds.length = c ∧ PastOk m t past ∧ kOk k ∧ StOk m t st ∧ w = wd N (.dic kvs) k st past)
    ⟨[], 1 + s, st0, _, none, none, rfl, rfl, by simp [rangeFrom_len], (fun d hd => by cases hd), hk0, hst0, rfl⟩ ?_ ?_
  · rintro d ds rh ow w ⟨past, k, st, x6, x9, x13, rfl, rfl, hlen, hpast, hk, hst, rfl⟩
    simp only [List.length_cons] at hlen
    refine ⟨rfl, _, rfl, ?_⟩
    simp only [sa_ok, sa_bind, ss_seq, ss_fin, ss_nx, ss_ret, ss_nil, sa_fn, sa_v0, sa_v1, sa_v2, sa_v3, sa_v4, sa_v5, sa_v6, sa_v7, sa_v8, sa_v9, sa_v10, sa_v11, sa_v12, sa_v13, sa_v14, sa_eCon, sa_lift, sa_liftB, sa_liftL, sa_eOp, sa_eUn, sa_lNil, sa_lCons, sa_eTup, sa_eLst, sa_eBlt, sa_eCall, sa_eIf, sa_eAnd, sa_eOr, sa_bAnd, sa_bOr, sa_bNot, sa_bTru, sa_bVal, sa_eChain, sa_iItems, sa_iRange, sa_iKeys, ss_if, ss_ifG, ss_sret, ss_expr, ss_asg, ss_new, ss_asgT, ss_for, ss_app, ss_put, ss_putP, ss_ext, ss_newP, sa_eDnew, sa_eSl, sa_oNone, sa_oSome, sa_eBM, isB_bl, tru_bl, len_lst, len_tup, len_dic, items_lst, items_tup, Nat.zero_add, Nat.reduceAdd, Nat.reduceSub, Nat.sub_self, Nat.reduceLT, Nat.reduceLeDiff, Nat.le_refl, Nat.zero_le, true_and, List.filter_nil, List.filter_cons, List.contains_cons, List.contains_nil, Nat.reduceBEq, Nat.reduceBNe, Bool.or_false, Bool.false_or, Bool.true_or, Bool.or_true, Bool.not_true, Bool.not_false, Bool.false_eq_true, if_true, if_false, ite_true, ite_false, decide_true, decide_false, wipeE, give, rmv, List.set_cons_zero, List.set_cons_succ, List.set_nil, List.map_cons, List.map_nil, List.length_cons, List.length_nil, List.cons_append, List.nil_append, List.replicate_succ, List.replicate_zero, List.getElem?_cons_zero, List.getElem?_cons_succ, sa_eMeth]
    refine ⟨4, _, cell4, no_draw, (draw_ok hb hi hk hst (by omega)).mono ?_⟩
    rintro x _ ⟨k', st', hk', hst', rfl⟩
    have hp' : PastOk m t (past ++ [.tup [.int k, st]]) := by
      intro d hd
      rcases List.mem_append.mp hd with hd | hd
      · exact hpast d hd
      · cases List.mem_singleton.mp hd; exact ⟨k, st, hk, hst, rfl⟩
    have hl' : (past ++ [D.tup [.int k, st]]).length + ds.length = c := by simp; omega
    generalize past ++ [D.tup [.int k, st]] = past' at hp' hl'
    refine ⟨4, _, cell4, no_stands, ?_⟩
    have tn : M_law_told [.int 2, .obj 4, .str (nmI i), draws] (wd N (.dic kvs) k' st' past') = _ := told2_num hb hi draws hdraws
    simp only [sa_ok, sa_bind, ss_seq, ss_fin, ss_nx, ss_ret, ss_nil, sa_fn, sa_v0, sa_v1, sa_v2, sa_v3, sa_v4, sa_v5, sa_v6, sa_v7, sa_v8, sa_v9, sa_v10, sa_v11, sa_v12, sa_v13, sa_v14, sa_eCon, sa_lift, sa_liftB, sa_liftL, sa_eOp, sa_eUn, sa_lNil, sa_lCons, sa_eTup, sa_eLst, sa_eBlt, sa_eCall, sa_eIf, sa_eAnd, sa_eOr, sa_bAnd, sa_bOr, sa_bNot, sa_bTru, sa_bVal, sa_eChain, sa_iItems, sa_iRange, sa_iKeys, ss_if, ss_ifG, ss_sret, ss_expr, ss_asg, ss_new, ss_asgT, ss_for, ss_app, ss_put, ss_putP, ss_ext, ss_newP, sa_eDnew, sa_eSl, sa_oNone, sa_oSome, sa_eBM, isB_bl, tru_bl, len_lst, len_tup, len_dic, items_lst, items_tup, Nat.zero_add, Nat.reduceAdd, Nat.reduceSub, Nat.sub_self, Nat.reduceLT, Nat.reduceLeDiff, Nat.le_refl, Nat.zero_le, true_and, List.filter_nil, List.filter_cons, List.contains_cons, List.contains_nil, Nat.reduceBEq, Nat.reduceBNe, Bool.or_false, Bool.false_or, Bool.true_or, Bool.or_true, Bool.not_true, Bool.not_false, Bool.false_eq_true, if_true, if_false, ite_true, ite_false, decide_true, decide_false, wipeE, give, rmv, List.set_cons_zero, List.set_cons_succ, List.set_nil, List.map_cons, List.map_nil, List.length_cons, List.length_nil, List.cons_append, List.nil_append, List.replicate_succ, List.replicate_zero, List.getElem?_cons_zero, List.getElem?_cons_succ, stands_ok, told1_bad hb _ _ none_ hnone, told2_bad hb _ _ none_ hnone, c_mul3, c_tables, tn, c_number]
    refine ⟨4, _, cell4, no_stands, ?_⟩
    simp only [sa_ok, sa_bind, ss_seq, ss_fin, ss_nx, ss_ret, ss_nil, sa_fn, sa_v0, sa_v1, sa_v2, sa_v3, sa_v4, sa_v5, sa_v6, sa_v7, sa_v8, sa_v9, sa_v10, sa_v11, sa_v12, sa_v13, sa_v14, sa_eCon, sa_lift, sa_liftB, sa_liftL, sa_eOp, sa_eUn, sa_lNil, sa_lCons, sa_eTup, sa_eLst, sa_eBlt, sa_eCall, sa_eIf, sa_eAnd, sa_eOr, sa_bAnd, sa_bOr, sa_bNot, sa_bTru, sa_bVal, sa_eChain, sa_iItems, sa_iRange, sa_iKeys, ss_if, ss_ifG, ss_sret, ss_expr, ss_asg, ss_new, ss_asgT, ss_for, ss_app, ss_put, ss_putP, ss_ext, ss_newP, sa_eDnew, sa_eSl, sa_oNone, sa_oSome, sa_eBM, isB_bl, tru_bl, len_lst, len_tup, len_dic, items_lst, items_tup, Nat.zero_add, Nat.reduceAdd, Nat.reduceSub, Nat.sub_self, Nat.reduceLT, Nat.reduceLeDiff, Nat.le_refl, Nat.zero_le, true_and, List.filter_nil, List.filter_cons, List.contains_cons, List.contains_nil, Nat.reduceBEq, Nat.reduceBNe, Bool.or_false, Bool.false_or, Bool.true_or, Bool.or_true, Bool.not_true, Bool.not_false, Bool.false_eq_true, if_true, if_false, ite_true, ite_false, decide_true, decide_false, wipeE, give, rmv, List.set_cons_zero, List.set_cons_succ, List.set_nil, List.map_cons, List.map_nil, List.length_cons, List.length_nil, List.cons_append, List.nil_append, List.replicate_succ, List.replicate_zero, List.getElem?_cons_zero, List.getElem?_cons_succ, stands_ok, ne_stands hst' k']
    exact ⟨past', k', st', _, _, _, rfl, hl', hp', hk', hst', rfl⟩
  · rintro rh ow w ⟨past, k, st, x6, x9, x13, rfl, rfl, hlen, hpast, hk, hst, rfl⟩
    simp only [List.length_nil, Nat.add_zero] at hlen
    have hc1 : ((c : Int) + 1).toNat = c + 1 := by omega
    simp only [sa_ok, sa_bind, ss_seq, ss_fin, ss_nx, ss_ret, ss_nil, sa_fn, sa_v0, sa_v1, sa_v2, sa_v3, sa_v4, sa_v5, sa_v6, sa_v7, sa_v8, sa_v9, sa_v10, sa_v11, sa_v12, sa_v13, sa_v14, sa_eCon, sa_lift, sa_liftB, sa_liftL, sa_eOp, sa_eUn, sa_lNil, sa_lCons, sa_eTup, sa_eLst, sa_eBlt, sa_eCall, sa_eIf, sa_eAnd, sa_eOr, sa_bAnd, sa_bOr, sa_bNot, sa_bTru, sa_bVal, sa_eChain, sa_iItems, sa_iRange, sa_iKeys, ss_if, ss_ifG, ss_sret, ss_expr, ss_asg, ss_new, ss_asgT, ss_for, ss_app, ss_put, ss_putP, ss_ext, ss_newP, sa_eDnew, sa_eSl, sa_oNone, sa_oSome, sa_eBM, isB_bl, tru_bl, len_lst, len_tup, len_dic, items_lst, items_tup, Nat.zero_add, Nat.reduceAdd, Nat.reduceSub, Nat.sub_self, Nat.reduceLT, Nat.reduceLeDiff, Nat.le_refl, Nat.zero_le, true_and, List.filter_nil, List.filter_cons, List.contains_cons, List.contains_nil, Nat.reduceBEq, Nat.reduceBNe, Bool.or_false, Bool.false_or, Bool.true_or, Bool.or_true, Bool.not_true, Bool.not_false, Bool.false_eq_true, if_true, if_false, ite_true, ite_false, decide_true, decide_false, wipeE, give, rmv, List.set_cons_zero, List.set_cons_succ, List.set_nil, List.map_cons, List.map_nil, List.length_cons, List.length_nil, List.cons_append, List.nil_append, List.replicate_succ, List.replicate_zero, List.getElem?_cons_zero, List.getElem?_cons_succ, addI, sa_eLc, range1_ok (show 0 ≤ (c : Int) + 1 by omega) (show (c : Int) + 1 ≤ 100000 by omega), hc1, rangeFrom_len]
    refine ⟨by omega, lc_inv (fun ds acc w => (∃ (past : List D) (k : Int) (st : D), past.length + 1 = ds.length ∧ past.length ≤ c ∧ acc = List.replicate (c - past.length) fN ∧ PastOk m t past ∧ kOk k ∧ StOk m t st ∧ w = wd N (.dic kvs) k st past) ∨ (ds = [] ∧ acc = List.replicate c fN ++ [rN] ∧ ∃ (k : Int) (st : D), kOk k ∧ StOk m t st ∧ w = wd N (.dic kvs) k st []))
      (.inl ⟨past, k, st, by rw [rangeFrom_len]; omega, by omega, by rw [hlen]; simp, hpast, hk, hst, rfl⟩) ?_ ?_⟩
    · rintro d ds acc w (⟨past, k, st, hl, hle, rfl, hpast, hk, hst, rfl⟩ | ⟨hd, _⟩)
      · simp only [List.length_cons] at hl
        simp only [sa_ok, sa_bind, ss_seq, ss_fin, ss_nx, ss_ret, ss_nil, sa_fn, sa_v0, sa_v1, sa_v2, sa_v3, sa_v4, sa_v5, sa_v6, sa_v7, sa_v8, sa_v9, sa_v10, sa_v11, sa_v12, sa_v13, sa_v14, sa_eCon, sa_lift, sa_liftB, sa_liftL, sa_eOp, sa_eUn, sa_lNil, sa_lCons, sa_eTup, sa_eLst, sa_eBlt, sa_eCall, sa_eIf, sa_eAnd, sa_eOr, sa_bAnd, sa_bOr, sa_bNot, sa_bTru, sa_bVal, sa_eChain, sa_iItems, sa_iRange, sa_iKeys, ss_if, ss_ifG, ss_sret, ss_expr, ss_asg, ss_new, ss_asgT, ss_for, ss_app, ss_put, ss_putP, ss_ext, ss_newP, sa_eDnew, sa_eSl, sa_oNone, sa_oSome, sa_eBM, isB_bl, tru_bl, len_lst, len_tup, len_dic, items_lst, items_tup, Nat.zero_add, Nat.reduceAdd, Nat.reduceSub, Nat.sub_self, Nat.reduceLT, Nat.reduceLeDiff, Nat.le_refl, Nat.zero_le, true_and, List.filter_nil, List.filter_cons, List.contains_cons, List.contains_nil, Nat.reduceBEq, Nat.reduceBNe, Bool.or_false, Bool.false_or, Bool.true_or, Bool.or_true, Bool.not_true, Bool.not_false, Bool.false_eq_true, if_true, if_false, ite_true, ite_false, decide_true, decide_false, wipeE, give, rmv, List.set_cons_zero, List.set_cons_succ, List.set_nil, List.map_cons, List.map_nil, List.length_cons, List.length_nil, List.cons_append, List.nil_append, List.replicate_succ, List.replicate_zero, List.getElem?_cons_zero, List.getElem?_cons_succ]
        rcases List.eq_nil_or_concat past with rfl | ⟨p1, x, rfl⟩
        · rw [told3_no, sa_ok]
          refine .inr ⟨?_, ?_, k, st, hk, hst, rfl⟩
          · exact List.eq_nil_of_length_eq_zero (by simp only [List.length_nil] at hl; omega)
          · simp [rN]
        · rw [List.concat_eq_append] at *
          obtain ⟨k', st', hk', hst', rfl⟩ := hpast x (by simp)
          rw [told3_ok k' st' (by simp at hle; omega), sa_ok]
          simp only [List.length_append, List.length_cons, List.length_nil] at hl hle
          refine .inl ⟨p1, k', st', by omega, by omega, ?_, fun d hd => hpast d (by simp [hd]), hk', hst', rfl⟩
          have e1 : c - p1.length = (c - (p1.length + 1)) + 1 := by omega
          simp only [List.length_append, List.length_cons, List.length_nil]
          rw [e1, List.replicate_succ']
          rfl
      · cases hd
    · rintro acc w (⟨past, k, st, hl, _⟩ | ⟨_, rfl, k, st, hk, hst, rfl⟩)
      · simp at hl
      · obtain ⟨cb1, cb2, cb3⟩ := c_back c hc
        simp only [fN, rN] at cb1 cb2 cb3
        simp only [sa_ok, sa_bind, ss_seq, ss_fin, ss_nx, ss_ret, ss_nil, sa_fn, sa_v0, sa_v1, sa_v2, sa_v3, sa_v4, sa_v5, sa_v6, sa_v7, sa_v8, sa_v9, sa_v10, sa_v11, sa_v12, sa_v13, sa_v14, sa_eCon, sa_lift, sa_liftB, sa_liftL, sa_eOp, sa_eUn, sa_lNil, sa_lCons, sa_eTup, sa_eLst, sa_eBlt, sa_eCall, sa_eIf, sa_eAnd, sa_eOr, sa_bAnd, sa_bOr, sa_bNot, sa_bTru, sa_bVal, sa_eChain, sa_iItems, sa_iRange, sa_iKeys, ss_if, ss_ifG, ss_sret, ss_expr, ss_asg, ss_new, ss_asgT, ss_for, ss_app, ss_put, ss_putP, ss_ext, ss_newP, sa_eDnew, sa_eSl, sa_oNone, sa_oSome, sa_eBM, isB_bl, tru_bl, len_lst, len_tup, len_dic, items_lst, items_tup, Nat.zero_add, Nat.reduceAdd, Nat.reduceSub, Nat.sub_self, Nat.reduceLT, Nat.reduceLeDiff, Nat.le_refl, Nat.zero_le, true_and, List.filter_nil, List.filter_cons, List.contains_cons, List.contains_nil, Nat.reduceBEq, Nat.reduceBNe, Bool.or_false, Bool.false_or, Bool.true_or, Bool.or_true, Bool.not_true, Bool.not_false, Bool.false_eq_true, if_true, if_false, ite_true, ite_false, decide_true, decide_false, wipeE, give, rmv, List.set_cons_zero, List.set_cons_succ, List.set_nil, List.map_cons, List.map_nil, List.length_cons, List.length_nil, List.cons_append, List.nil_append, List.replicate_succ, List.replicate_zero, List.getElem?_cons_zero, List.getElem?_cons_succ, fN, rN, cb1, cb2, cb3]
        have t1 := told2_ok (n := N) hb hi hk hst 1000 (by decide) (past := []) (by simp)
        refine t1.mono ?_
        rintro _ _ ⟨ds, k2, st2, past2, rfl, hds, hk2, hst2, hpl, rfl⟩
        have f0 : ixD (.tup [.str "found", .lst ds]) (.int 0) = some (.str "found") := rfl
        have f1 : ixD (.tup [.str "found", .lst ds]) (.int 1) = some (.lst ds) := rfl
        have f2 : ((1000 : Nat) : Int) = 1000 := rfl
        simp only [sa_ok, sa_bind, ss_seq, ss_fin, ss_nx, ss_ret, ss_nil, sa_fn, sa_v0, sa_v1, sa_v2, sa_v3, sa_v4, sa_v5, sa_v6, sa_v7, sa_v8, sa_v9, sa_v10, sa_v11, sa_v12, sa_v13, sa_v14, sa_eCon, sa_lift, sa_liftB, sa_liftL, sa_eOp, sa_eUn, sa_lNil, sa_lCons, sa_eTup, sa_eLst, sa_eBlt, sa_eCall, sa_eIf, sa_eAnd, sa_eOr, sa_bAnd, sa_bOr, sa_bNot, sa_bTru, sa_bVal, sa_eChain, sa_iItems, sa_iRange, sa_iKeys, ss_if, ss_ifG, ss_sret, ss_expr, ss_asg, ss_new, ss_asgT, ss_for, ss_app, ss_put, ss_putP, ss_ext, ss_newP, sa_eDnew, sa_eSl, sa_oNone, sa_oSome, sa_eBM, isB_bl, tru_bl, len_lst, len_tup, len_dic, items_lst, items_tup, Nat.zero_add, Nat.reduceAdd, Nat.reduceSub, Nat.sub_self, Nat.reduceLT, Nat.reduceLeDiff, Nat.le_refl, Nat.zero_le, true_and, List.filter_nil, List.filter_cons, List.contains_cons, List.contains_nil, Nat.reduceBEq, Nat.reduceBNe, Bool.or_false, Bool.false_or, Bool.true_or, Bool.or_true, Bool.not_true, Bool.not_false, Bool.false_eq_true, if_true, if_false, ite_true, ite_false, decide_true, decide_false, wipeE, give, rmv, List.set_cons_zero, List.set_cons_succ, List.set_nil, List.map_cons, List.map_nil, List.length_cons, List.length_nil, List.cons_append, List.nil_append, List.replicate_succ, List.replicate_zero, List.getElem?_cons_zero, List.getElem?_cons_succ, f0, f1, c_found, hds, eqD_int, f2]
        have t2 := told2_ok (n := N) hb hi hk2 hst2 0 (by decide) (past := past2) (by simp at hpl; omega)
        refine t2.mono ?_
        rintro _ _ ⟨ds3, k3, st3, past3, rfl, hds3, hk3, hst3, hpl3, rfl⟩
        cases List.eq_nil_of_length_eq_zero hds3
        simp only [sa_ok, sa_bind, ss_seq, ss_fin, ss_nx, ss_ret, ss_nil, sa_fn, sa_v0, sa_v1, sa_v2, sa_v3, sa_v4, sa_v5, sa_v6, sa_v7, sa_v8, sa_v9, sa_v10, sa_v11, sa_v12, sa_v13, sa_v14, sa_eCon, sa_lift, sa_liftB, sa_liftL, sa_eOp, sa_eUn, sa_lNil, sa_lCons, sa_eTup, sa_eLst, sa_eBlt, sa_eCall, sa_eIf, sa_eAnd, sa_eOr, sa_bAnd, sa_bOr, sa_bNot, sa_bTru, sa_bVal, sa_eChain, sa_iItems, sa_iRange, sa_iKeys, ss_if, ss_ifG, ss_sret, ss_expr, ss_asg, ss_new, ss_asgT, ss_for, ss_app, ss_put, ss_putP, ss_ext, ss_newP, sa_eDnew, sa_eSl, sa_oNone, sa_oSome, sa_eBM, isB_bl, tru_bl, len_lst, len_tup, len_dic, items_lst, items_tup, Nat.zero_add, Nat.reduceAdd, Nat.reduceSub, Nat.sub_self, Nat.reduceLT, Nat.reduceLeDiff, Nat.le_refl, Nat.zero_le, true_and, List.filter_nil, List.filter_cons, List.contains_cons, List.contains_nil, Nat.reduceBEq, Nat.reduceBNe, Bool.or_false, Bool.false_or, Bool.true_or, Bool.or_true, Bool.not_true, Bool.not_false, Bool.false_eq_true, if_true, if_false, ite_true, ite_false, decide_true, decide_false, wipeE, give, rmv, List.set_cons_zero, List.set_cons_succ, List.set_nil, List.map_cons, List.map_nil, List.length_cons, List.length_nil, List.cons_append, List.nil_append, List.replicate_succ, List.replicate_zero, List.getElem?_cons_zero, List.getElem?_cons_succ, c_empty]
end L
open PySem PySem.W PySem.Calls PyProof.Rows
theorem PySem.Challenge.cw_gifttables_k42_refused_hands_holds : PySem.Challenge.rw_gifttables_k42_refused_hands.Holds := by
  w_on; o_law
  refine HandSHeadRun.head_any (r := OpenLaw.row PySem.Challenge.rw_gifttables_k42_refused_hands) (q := view (OpenLaw.row PySem.Challenge.rw_gifttables_k42_refused_hands).prog [54]) (H := L.hk) (ob := L.ob) (M := 20000) (loose := L.names) (d := HandSHeadRun.topDef (OpenLaw.row PySem.Challenge.rw_gifttables_k42_refused_hands).prog 54) (kwd := []) L.ob_eq
    (by kernel_rfl) (fun s => by kernel_rfl) L.run (by kernel_rfl) (by kernel_rfl) (by kernel_rfl) (by rfl) (by first | assumption | decide +kernel) (by decide +kernel) ⟨rfl, rfl, rfl, rfl, rfl, by decide +kernel⟩ ?hw ?hc
  case hw => w_witness2
  case hc =>
    refine G.walk_ofW (l := PySem.Challenge.rw_gifttables_k42_refused_hands) (n := 63) (k := 13) (x := "script") rfl (by decide) (by kernel_rfl) ⟨rfl, by decide, by decide⟩ ?F
    intro w mg fa h Y Gn hmg0
    obtain ⟨K, KX, c⟩ := Y
    have hmg : mg ("law" : PySem.Str) = some (.ref fa) := by
      have e : (HandSHeadRun.topDef (OpenLaw.row PySem.Challenge.rw_gifttables_k42_refused_hands).prog 54).name = ("law" : PySem.Str) := by kernel_rfl
      rw [← e]
      exact hmg0
    have fx := L.fx_of KX Gn c
    obtain ⟨fd, F⟩ := fx.d_law
    have e := hmg.symm.trans fx.g_law
    cases e
    have b := L2.FunD.bindsA (ps := ["script"]) F fun _ _ _ _ _ _ us hl => match us, hl with | [_], _ => rfl
    refine ⟨K, fd, G.spD false K 1 L.M_law, KX, fun s v => b s [v] rfl, fun H a ns hl _ hS => ?_, fun base _ _ => L.ok_law_fd fx F⟩
    obtain ⟨w', e⟩ := L.law_true ns hl
    exact G.sp_script e hS
