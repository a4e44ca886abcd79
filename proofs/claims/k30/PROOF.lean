import PyProof.Rows.All
import Wide.All
import OpenK.AllK
import Wide.FinOn
import HandS.ForMost
import HandS.ForExc
import HandS.More
import HandS.TupAny
import HandS.Zip
import KE.GoesZip
import KE.GoesMore
import HandS.List
import HandS.Set
import HandS.SetFor
import HandS.Strs
import PyProof.Rows.SortShellAny
import KE.GoesEnum
import PySem.Syntax
import PyProof.StrBlockL
import KE.IntText
import HandS.Wide
import HandS.Text
import KE.LtSeq
import HandS.SortOrd
import KE.KSortTup
import HandS.SortRule
import KE.KItemsList
import HandS.Deep
import KE.KDictPairs
import HandS.IsInst
import HandS.RaiseMore
import HandS.ExcOwn
import HandS.WordsExc
import HandS.EndBits
import PyProof.Rows.ReprOcc
import PyProof.Rows.Walk
import PySem.Challenge.RW_keptnest_k30_even_and_degree
set_option Elab.async false
set_option linter.all false
set_option maxRecDepth 100000
/-! Tuples that have no dict of their own: told when they are laid. -/
namespace KvT
open PySem L2 PySem.Spec PyProof.Rows HT
/-- a tuple as a display lays it -/
def tobj (us : List Value) : PySem.Obj := { cls := .type "tuple", data := .seq us.toArray }
def TupO (xs : List V) (u : HO) : Prop := ∃ o : PySem.Obj, u = .frz o (.tup xs) ∧ o.dict = none
theorem tob_ok {P : Program} {w : World} {H : Hp} {h : Heap} {us : List Value} {xs : List V} (r : Vals xs us) (z : xs.length ≤ sizeLine) : ObjOk P w H (h.push (tobj us)) h.objs.size (.frz (tobj us) (.tup xs)) :=
  ⟨Heap.get?_push_size _ rfl, z, us, r, IsTup.new _ _⟩
section
variable {X : Cx} {pins : List (Addr × PySem.Obj)} {σ : L2.St} {H : Hp} {s : Shared}
theorem lay {us : List Value} {xs : List V} {t : Nat} {Q : VK} (I : Inv X pins σ H s) (r : Vals xs us) (z : xs.length ≤ sizeLine) (q : ∀ p u, H p = none → TupO xs u → Q (.ref p) (upd H p u)) :
    EP X pins σ Q (.ref s.heap.objs.size) { s with heap := s.heap.push (tobj us), toks := t } := by
  have fresh := I.hok.fresh (Nat.le_refl s.heap.objs.size)
  exact ⟨.ref _, _, I.laid (o := .frz (tobj us) (.tup xs)) (fun _ _ h => Heap.get?_push_of_some _ h) (Nat.le_refl _) (tob_ok r z), rfl, q _ _ fresh ⟨_, rfl, rfl⟩⟩
/-- a display -/
theorem pe_tupD {es : List Expr} {k : Nat} {pos : Pos} {t : TA} (h : PA X es t) : PE X (.Tuple es k pos) (fun σ H Q => t σ H fun xs H1 => xs.length ≤ sizeLine ∧ ∀ p u, H1 p = none → TupO xs u → Q (.ref p) (upd H1 p u)) := by
  constructor
  intro pins s σ H Q I hq
  refine wpAny_Tuple_spliced (thn (h.run pos pins s σ H _ I hq) fun us s1 hh => ?_)
  obtain ⟨xs, H1, I1, r, z, q⟩ := hh
  exact ⟨r.length ▸ z, lay (t := s1.toks) I1 r z q⟩
/-- t + u -/
def rCatD (K : PySem.W.Frag) : R2 := fun x y H Q => ∃ a b xs ys, (x = .ref a ∧ y = .ref b) ∧ (SqT K H a xs ∧ SqT K H b ys) ∧ xs.length + ys.length ≤ sizeLine ∧
  (xs = [] → Q (.ref b) H) ∧ (xs ≠ [] → ys = [] → Q (.ref a) H) ∧ ∀ p u, H p = none → TupO (xs ++ ys) u → Q (.ref p) (upd H p u)
theorem op_catD : OpR X (binaryOp .Add) (rCatD X.K) := by
  intro pins s σ H x y v u Q I rx ry ⟨a, b, xs, ys, ⟨e1, e2⟩, ⟨ha, hb⟩, hz, q0, q1, q2⟩
  subst e1 e2
  cases rx
  cases ry
  obtain ⟨us, r1, p1, _⟩ := I.tuple ha
  obtain ⟨ws, r2, p2, _⟩ := I.tuple hb
  by_cases hx : xs = []
  · subst hx
    cases r1
    exact cat_tup0 p1 p2 ⟨.ref b, H, I, rfl, q0 rfl⟩
  · have hx' : us ≠ [] := fun z => hx (r1.nil_iff.mp z)
    refine cat_tup p1 p2 hx' (fun z => ⟨.ref a, H, I, rfl, q1 hx (r2.nil_iff.mp z)⟩) (fun z => ?_) (by rw [← r1.length, ← r2.length]; exact hz)
    exact lay (t := s.toks) I (r1.append r2) (by rw [List.length_append]; exact hz) q2
/-- t[lo:hi] -/
def rSlD (K : PySem.W.Frag) : V → Option Int → Option Int → Hp → VK → Prop := fun x lo hi H Q => ∃ a xs, x = .ref a ∧ SqT K H a xs ∧
  (sIx xs.length 0 lo = 0 → sIx xs.length xs.length hi = xs.length → Q (.ref a) H) ∧ ∀ p u, H p = none → TupO (cutV xs lo hi) u → Q (.ref p) (upd H p u)
theorem sl_tupD : SlR X (rSlD X.K) := by
  intro pins s σ H x v vl vu lo hi sl Q I rx hs pl pu ⟨a, xs, ex, hx, q1, q2⟩
  subst ex
  by_cases hw : sIx xs.length 0 lo = 0 ∧ sIx xs.length xs.length hi = xs.length
  · exact sl_tupA pins s σ H _ v vl vu lo hi sl Q I rx hs pl pu ⟨a, xs, rfl, hx, fun c => q1 c.1 c.2, fun c => absurd hw c⟩
  · cases rx
    obtain ⟨us, r, ht, hz⟩ := I.tuple hx
    have ln : us.toArray.size = xs.length := List.size_toArray.trans r.length.symm
    refine ⟨"tuple", _, PyProof.Rows.slot_tuple_getitem.lookup, ht.typeIs, getItem_tuple_cut ht hs pl pu (ln ▸ hw) ?_ (ln ▸ hz)⟩
    rw [ln]
    have rc := (r.drop (sIx xs.length 0 lo)).take (sIx xs.length xs.length hi - sIx xs.length 0 lo)
    exact lay (t := s.toks) I rc (Nat.le_trans (cutV_length xs lo hi) hz) q2
/-- tuple(l), tuple(t) -/
theorem call_tupleD : CallR X (.type "tuple") (fun xs H Q => ∃ p ys, xs = [.ref p] ∧ ((SqL X.K H p ys ∧ ∀ l u, H l = none → TupO ys u → Q (.ref l) (upd H l u)) ∨ (SqT X.K H p ys ∧ Q (.ref p) H))) := by
  intro pins s σ H xs us Q I r ⟨p, ys, ex, h⟩
  subst ex
  obtain ⟨u, eu, rx⟩ := vals1 r
  subst eu
  cases rx
  rcases h with ⟨hq, q⟩ | ⟨hq, q⟩
  · obtain ⟨its, rv, pl, hz⟩ := I.list hq
    have ln := rv.length
    refine call_tuple_list pl.isList (fun h' kp => ?_) (by simp only [List.size_toArray] <;> omega)
    have I1 : Inv X pins σ H { s with heap := h' } := I.kept (t' := s.toks) kp
    exact lay (s := { s with heap := h' }) (t := s.toks) I1 rv hz q
  · obtain ⟨its, rv, pl, hz⟩ := I.tuple hq
    exact call_tuple_same pl ⟨.ref p, H, I, rfl, q⟩
end
end KvT

set_option Elab.async false
set_option linter.all false
set_option maxRecDepth 100000
set_option maxHeartbeats 1000000
/-! zip of a text (of the first 128 signs) and a tuple. -/
namespace Kv
open PySem L2 PySem.Spec PyProof.Rows RZ

abbrev zsH1 (h : Heap) (x : Str) (t : Tok) : Heap := h.push { cls := .type "str_ascii_iterator", data := .fields #[.str x t, .int 0 0] }
abbrev zsH2 (h : Heap) (x : Str) (t : Tok) (l : Addr) : Heap := (zsH1 h x t).push { cls := .type "tuple_iterator", data := .fields #[.ref l, .int 0 0] }
abbrev zsH3 (h : Heap) (x : Str) (t : Tok) (l : Addr) : Heap := (zsH2 h x t l).push { cls := .type "tuple", data := .seq #[.ref h.objs.size, .ref (zsH1 h x t).objs.size] }
abbrev zsH4 (h : Heap) (x : Str) (t : Tok) (l : Addr) : Heap := (zsH3 h x t l).push { cls := .type "tuple", data := .seq #[.none, .none] }
abbrev zsH5 (h : Heap) (x : Str) (t : Tok) (l : Addr) : Heap := (zsH4 h x t l).push { cls := .type "zip", data := .fields #[.none, .bool false, .bool false, .ref (zsH2 h x t l).objs.size, .ref (zsH3 h x t l).objs.size] }

theorem meets_zipS_new (x : Str) (t : Tok) (l : Addr) (ys : Array Value) :
    Meets (Builtin.«zip.__new__» ⟨[.type "zip", .str x t, .ref l], []⟩) (fun _ R s => x.cps.all (· < 128) = true ∧ s.heap.IsTuple l ys ∧
      R (.ok (.ret (.ref (zsH4 s.heap x t l).objs.size))) { s with heap := zsH5 s.heap x t l }) :=
  .of_wp fun prog w A R s h => by
    obtain ⟨hp, g, d, tk, os⟩ := s
    obtain ⟨hx, hl, h⟩ := h
    have hsub := sub_zip
    have hL : Heap.IsTuple (Shared.heap ⟨hp.push { cls := .type "str_ascii_iterator", data := .fields #[.str x t, .int 0 0] }, g, d, tk, os⟩) l ys := Heap.IsTuple.push hl _
    wp_walk using wpAny_pyIter_ascii hx, wpAny_pyIter_tuple hL
    exact ⟨_, rfl, h⟩

section
variable {prog : Program} {w : World} {A : Around} {E : Value → Shared → Prop} {s : Shared}
theorem call_zipS {x : Str} {t : Tok} {l : Addr} {ys : Array Value} {Q : Value → Shared → Prop} (hx : x.cps.all (· < 128) = true) (hl : s.heap.IsTuple l ys)
    (h : ∀ h', IsZip h' (s.heap.objs.size + 4) (s.heap.objs.size + 2) (s.heap.objs.size + 3) .none → IsPair h' (s.heap.objs.size + 2) (.ref s.heap.objs.size) (.ref (s.heap.objs.size + 1)) →
      IsPair h' (s.heap.objs.size + 3) .none .none → h'.IsStrIter s.heap.objs.size "str_ascii_iterator" x t 0 → h'.IsTupleIter (s.heap.objs.size + 1) l 0 →
      (∀ c o, s.heap.get? c = some o → h'.get? c = some o) → Q (.ref (s.heap.objs.size + 4)) { s with heap := h' }) :
    wpAny (model prog w) A (call (.type "zip") [.str x t, .ref l]) Q E s := by
  refine callType_new F.called_zip (by decide) (F.typeCall_zip_2 _ _) (F.newCall_zip_2 _ _) (fun obj => F.args_object_init_3 obj _ _) F.entry_zip_new
    (meets_zipS_new x t l ys) ⟨hx, hl, ?_⟩
  have z1 : (zsH1 s.heap x t).objs.size = s.heap.objs.size + 1 := Heap.size_push ..
  have z2 : (zsH2 s.heap x t l).objs.size = s.heap.objs.size + 2 := by rw [Heap.size_push, z1]
  have z3 : (zsH3 s.heap x t l).objs.size = s.heap.objs.size + 3 := by rw [Heap.size_push, z2]
  have z4 : (zsH4 s.heap x t l).objs.size = s.heap.objs.size + 4 := by rw [Heap.size_push, z3]
  have up : ∀ {h : Heap} {o ob : Obj} {c : Addr}, h.get? c = some ob → (h.push o).get? c = some ob := fun e => Heap.get?_push_of_some _ e
  have g5 : (zsH5 s.heap x t l).get? (zsH4 s.heap x t l).objs.size = some _ := Heap.get?_push_size _ rfl
  have g4 : (zsH5 s.heap x t l).get? (zsH3 s.heap x t l).objs.size = some _ := up (Heap.get?_push_size _ rfl)
  have g3 : (zsH5 s.heap x t l).get? (zsH2 s.heap x t l).objs.size = some _ := up (up (Heap.get?_push_size _ rfl))
  have g2 : (zsH5 s.heap x t l).get? (zsH1 s.heap x t).objs.size = some _ := up (up (up (Heap.get?_push_size _ rfl)))
  have g1 : (zsH5 s.heap x t l).get? s.heap.objs.size = some _ := up (up (up (up (Heap.get?_push_size _ rfl))))
  show _ ∧ _
  rw [z2, z3, z4] at g5
  rw [z1, z2] at g3
  rw [z3] at g4
  rw [z1] at g2
  rw [z4]
  exact ⟨⟨_, g5, rfl⟩, h _ g5 g3 g4 ⟨_, g1, rfl, rfl⟩ ⟨_, g2, rfl, rfl⟩ fun c o e => up (up (up (up (up e))))⟩
end

theorem zs_apart {I l : Nat} (h : l < I) : ZipSep2 (I + 4) (I + 2) (I + 3) I (I + 1) [I] [I + 1, l] := by
  have e4 : I + 4 ≠ l := Nat.ne_of_gt (Nat.lt_of_lt_of_le h (Nat.le_add_right _ _))
  have e3 : I + 3 ≠ l := Nat.ne_of_gt (Nat.lt_of_lt_of_le h (Nat.le_add_right _ _))
  have e0 : I ≠ l := Nat.ne_of_gt h
  constructor <;> simp [e4, e3, e0]

/-- a text's signs beside the tuple at b -/
def ItzS (K : PySem.W.Frag) (x : Str) (b : Addr) : It :=
  ⟨fun i H => ∃ (ys : List V) (c : Nat) (y : V), SqT K H b ys ∧ x.cps[i]? = some c ∧ ys[i]? = some y,
    fun i H v H' => ∃ T c y, v = .ref T ∧ H T = none ∧ H' = upd H T (.tup [.str ⟨#[c]⟩, y]) ∧ x.cps[i]? = some c ∧ ∀ ys, SqT K H b ys → ys[i]? = some y,
    fun i H => ∃ ys : List V, SqT K H b ys ∧ i ≤ x.cps.size ∧ i ≤ ys.length ∧ (i = x.cps.size ∨ i = ys.length)⟩
theorem turn_zipS {P : Program} {w : World} {K : PySem.W.Frag} {elts : List Expr} {kk : Nat} {tpos : Pos} {x : Str} {t : Tok} {b z TI TO i1 i2 : Addr} (D : ZipSep2 z TI TO i1 i2 [i1] [i2, b]) :
    Turn P w K (.Tuple elts kk tpos) (ItzS K x b) [z, TI, TO, i1, i2] z (fun i h => IsZip h z TI TO .none ∧ IsPair h TI (.ref i1) (.ref i2) ∧ (∃ x y, IsPair h TO x y) ∧ h.IsStrIter i1 "str_ascii_iterator" x t i ∧ h.IsTupleIter i2 b i) where
  mem := by simp
  obj := fun i h st c hc => by
    obtain ⟨hz, hTI, ⟨x, y, hTO⟩, ⟨o1, e1, _, d1⟩, ⟨o2, e2, _, d2⟩⟩ := st
    have e' : c = z ∨ c = TI ∨ c = TO ∨ c = i1 ∨ c = i2 := by simpa using hc
    rcases e' with q | q | q | q | q
    · rw [q]; exact ⟨_, hz, fun v q => nomatch q⟩
    · rw [q]; exact ⟨_, hTI, fun v q => nomatch q⟩
    · rw [q]; exact ⟨_, hTO, fun v q => nomatch q⟩
    · rw [q]; exact ⟨o1, e1, fun v q => by rw [d1] at q; cases q⟩
    · rw [q]; exact ⟨o2, e2, fun v q => by rw [d2] at q; cases q⟩
  keep := fun i h h' st k => by
    obtain ⟨hz, hTI, ⟨x, y, hTO⟩, ⟨o1, e1, r1⟩, h2⟩ := st
    exact ⟨k z (by simp) _ hz, k TI (by simp) _ hTI, ⟨x, y, k TO (by simp) _ hTO⟩, ⟨o1, k i1 (by simp) _ e1, r1⟩, h2.at fun o q => k i2 (by simp) o q⟩
  item := by
    intro X hP hw hK hc i pins s σ H E I hf st hg
    subst hP hw hK
    obtain ⟨hz, hTI, ⟨x0, y0, hTO⟩, h1, h2⟩ := st
    obtain ⟨ys, c, y, hqy, hx, hy⟩ := hg
    obtain ⟨its, rv, p, _⟩ := I.tuple hqy
    obtain ⟨u, hu, ru⟩ := rv.get hy
    have hzl : z < s.heap.objs.size := Heap.lt_size hz
    have n1 : i < x.cps.size := (Array.getElem?_eq_some_iff.mp hx).1
    have n2 : i < its.toArray.size := by
      have := (List.getElem?_eq_some_iff.mp hu).1
      simpa using this
    have d2 : b ≠ i2 := fun e => by
      obtain ⟨o, e1, e2, _⟩ := p
      obtain ⟨o', e1', e2', _⟩ := h2
      rw [← e, e1] at e1'; cases e1'; rw [e2] at e2'; exact absurd e2' (by decide)
    have D1 : Draws X.prog X.w X.A.in1 i1 [i1] x.cps.size (fun i v => ∃ c u, x.cps[i]? = some c ∧ v = .str ⟨#[c]⟩ u) (fun i h => h.IsStrIter i1 "str_ascii_iterator" x t i) := .strAscii (show X.A.in1.handled = none from I.ok.hd hc) i1 x t
    have D2 : Draws X.prog X.w X.A.in1 i2 [i2, b] its.toArray.size (fun i v => its.toArray[i]? = some v) (fun i h => h.IsTupleIter i2 b i ∧ h.IsTuple b its.toArray) := .tuple (show X.A.in1.handled = none from I.ok.hd hc) i2 b d2 its.toArray
    refine wpAny_pyNext_zipD2_item D D1 D2 hz hTI hTO h1 ⟨h2, p⟩ n1 n2 fun x1 x2 h' tk y1 y2 z' TO' h1' h2' hT hsz hk => ?_
    obtain ⟨c', u', hc', rfl⟩ := y1
    rw [hx] at hc'
    cases hc'
    have ex2 : x2 = u := by
      have : its.toArray[i]? = some u := by simpa using hu
      rw [this] at y2; exact (Option.some.inj y2).symm
    subst ex2
    refine ⟨_, rfl, wpAny_letOwnedTupleGo_zip (s := { s with heap := h', toks := tk }) z' fun h'' z'' sb => ?_⟩
    have hT2 : h''.get? s.heap.objs.size = some { cls := .type "tuple", data := .seq #[.str ⟨#[c]⟩ u', x2] } := (sb.2 _ (Nat.ne_of_gt hzl)).trans hT
    have new : ObjOk X.prog X.w (upd H s.heap.objs.size (.tup [.str ⟨#[c]⟩, y])) h'' s.heap.objs.size (.tup [.str ⟨#[c]⟩, y]) :=
      ⟨by show 2 ≤ sizeLine; decide, [.str ⟨#[c]⟩ u', x2], .cons ⟨u', rfl⟩ (.cons ru .nil), ⟨_, hT2, rfl, _, rfl⟩⟩
    have I1 : Inv X pins σ (upd H s.heap.objs.size (.tup [.str ⟨#[c]⟩, y])) { s with heap := h'', toks := tk } :=
      I.turnedNew (t' := tk) (ch := [z, TI, TO, i1, i2]) (fun c o hb q => (sb.2 c (fun q' => hb (by simp [q']))).trans (hk c o (fun q' => hb (by simp [q'])) (fun q' => hb (by simp [q'])) (fun q' => hb (by simp [q'])) (fun q' => hb (by simp [q'])) q)) hf (Nat.le_refl _) new
    refine ⟨.ref s.heap.objs.size, _, I1, rfl, ⟨_, c, y, rfl, I.hok.fresh (Nat.le_refl _), rfl, hx, fun l hl => by rw [I.tuple_inj hl hqy]; exact hy⟩, ⟨z'', ?_, ⟨.str ⟨#[c]⟩ u', x2, ?_⟩, ?_, ?_⟩, fun c hcm => ?_⟩
    · exact (sb.2 _ D.TIz).trans (hk _ _ D.TIz D.TITO D.TIi1 D.TIi2 hTI)
    · exact (sb.2 _ D.TOz).trans TO'
    · obtain ⟨o1, e1, r1⟩ := h1'
      exact ⟨o1, (sb.2 _ D.zi1.symm).trans e1, r1⟩
    · exact h2'.1.at fun o q => (sb.2 _ D.zi2.symm).trans q
    · have hlt : c < s.heap.objs.size := by
        have e' : c = z ∨ c = TI ∨ c = TO ∨ c = i1 ∨ c = i2 := by simpa using hcm
        rcases e' with q | q | q | q | q
        · rw [q]; exact hzl
        · rw [q]; exact Heap.lt_size hTI
        · rw [q]; exact Heap.lt_size hTO
        · rw [q]; obtain ⟨_, e1, _⟩ := h1; exact Heap.lt_size e1
        · rw [q]; obtain ⟨_, e2, _⟩ := h2; exact Heap.lt_size e2
      rw [upd_ne (Nat.ne_of_lt hlt)]
      exact (hf c hcm).1
  done := by
    intro X hP hw hK hc i pins s σ H E I hf st hg
    subst hP hw hK
    obtain ⟨hz, hTI, ⟨x0, y0, hTO⟩, h1, h2⟩ := st
    obtain ⟨ys, hqy, b1, b2, hend⟩ := hg
    obtain ⟨its, rv, p, _⟩ := I.tuple hqy
    have l2 := rv.length
    have sz : its.toArray.size = ys.length := by simp; omega
    have d2 : b ≠ i2 := fun e => by
      obtain ⟨o, e1, e2, _⟩ := p
      obtain ⟨o', e1', e2', _⟩ := h2
      rw [← e, e1] at e1'; cases e1'; rw [e2] at e2'; exact absurd e2' (by decide)
    have D1 : Draws X.prog X.w X.A.in1 i1 [i1] x.cps.size (fun i v => ∃ c u, x.cps[i]? = some c ∧ v = .str ⟨#[c]⟩ u) (fun i h => h.IsStrIter i1 "str_ascii_iterator" x t i) := .strAscii (show X.A.in1.handled = none from I.ok.hd hc) i1 x t
    have D2 : Draws X.prog X.w X.A.in1 i2 [i2, b] its.toArray.size (fun i v => its.toArray[i]? = some v) (fun i h => h.IsTupleIter i2 b i ∧ h.IsTuple b its.toArray) := .tuple (show X.A.in1.handled = none from I.ok.hd hc) i2 b d2 its.toArray
    exact wpAny_pyNext_zipD2_end D D1 D2 hz hTI hTO h1 ⟨h2, p⟩ b1 (by rw [sz]; exact b2) (by rw [sz]; exact hend) fun h' tk hk => ⟨rfl, I.turnedL (t' := tk) (ch := [z, TI, TO, i1, i2]) (fun c o hb q =>
      hk c o (fun q' => hb (by simp [q'])) (fun q' => hb (by simp [q'])) (fun q' => hb (by simp [q'])) (fun q' => hb (by simp [q'])) q) hf⟩
  self := fun A i s Q E st h => wpAny_pyIter_zip st.1 h
/-- zip of a text and a tuple -/
def iZipS (K : PySem.W.Frag) (ta : TA) : TI := fun σ H R => ta σ H fun vs H1 => ∃ x b ys, vs = [.str x, .ref b] ∧ x.cps.all (· < 128) = true ∧ SqT K H1 b ys ∧ R (ItzS K x b) H1
theorem pi_zipS {X : Cx} {e e2 : Expr} {ta : TA} {p pos tpos : Pos} {elts : List Expr} {kk : Nat} (hg : Gl X "zip") (hm : X.mg "zip" = none) (ha : PA X [e, e2] ta)
    (hs : starEach [e, e2] X.env = (false, eval e X.env) :: starEach [e2] X.env) (hpl : (backTo pos (starEach [e2] X.env)).any (·.1) = false) :
    PI X (.Tuple elts kk tpos) (.Call (.Name "zip" p) [e, e2] [] pos) (fun σ H R => ta σ H fun vs H1 => (∃ a b xs ys, vs = [.ref a, .ref b] ∧ ((SqL X.K H1 a xs ∧ SqL X.K H1 b ys ∧ R (Itz X.K a b) H1) ∨ (SqT X.K H1 a xs ∧ SqT X.K H1 b ys ∧ R (ItzT X.K a b) H1))) ∨
      ∃ x b ys, vs = [.str x, .ref b] ∧ x.cps.all (· < 128) = true ∧ SqT X.K H1 b ys ∧ R (ItzS X.K x b) H1) := by
  refine ⟨fun pins s σ H R I h => ?_⟩
  refine Call_ (ld_blt I hg hm PyProof.Rows.boot_zip (PyProof.Rows.callWith_type1 (thn (ha.run pos pins s σ H _ I h) fun us s1 ⟨vs, H1, I1, r1, q1⟩ => ?_) hs hpl))
  have fresh5 : ∀ c, c ∈ [s1.heap.objs.size + 4, s1.heap.objs.size + 2, s1.heap.objs.size + 3, s1.heap.objs.size, s1.heap.objs.size + 1] → FpOk X pins H1 c := fun c hcm => by
    have hle : s1.heap.objs.size ≤ c := by
      simp only [List.mem_cons, List.not_mem_nil, or_false] at hcm
      rcases hcm with z | z | z | z | z <;> (subst z; first | exact Nat.le_refl _ | exact Nat.le_add_right _ _)
    exact I1.fpOk hle (I1.hok.fresh hle)
  rcases q1 with ⟨a, b, xs, ys, ex, q1⟩ | ⟨x, b, ys, ex, hx, hqy, q⟩
  · subst ex
    cases r1 with
    | cons r rr =>
      cases rr with
      | cons r' rr =>
        cases rr
        cases r
        cases r'
        rcases q1 with ⟨hqx, hqy, q⟩ | ⟨hqx, hqy, q⟩
        · obtain ⟨its, rv, p1, _⟩ := I1.list hqx
          obtain ⟨its2, rv2, p2, _⟩ := I1.list hqy
          refine call_zip_2 p1.isList p2.isList fun h' hz hTI hTO h1 h2 hsz hk => wpAny_pyIter_zip hz ?_
          exact ⟨_, _, _, _, H1, rfl, I1.kept (t' := s1.toks) hk, turn_zip (PySem.W.ktu_apart s1.heap.objs.size a b p1.lt p2.lt), ⟨hz, hTI, ⟨_, _, hTO⟩, h1, h2⟩, fresh5, q⟩
        · obtain ⟨its, rv, p1, _⟩ := I1.tuple hqx
          obtain ⟨its2, rv2, p2, _⟩ := I1.tuple hqy
          obtain ⟨o1, ho1, _⟩ := id p1
          obtain ⟨o2, ho2, _⟩ := id p2
          refine call_zipT (show s1.heap.IsTuple a its.toArray from p1) (show s1.heap.IsTuple b its2.toArray from p2) fun h' hz hTI hTO h1 h2 hsz hk => wpAny_pyIter_zip hz ?_
          exact ⟨_, _, _, _, H1, rfl, I1.kept (t' := s1.toks) hk, turn_zipT (PySem.W.ktu_apart s1.heap.objs.size a b (Heap.lt_size ho1) (Heap.lt_size ho2)), ⟨hz, hTI, ⟨_, _, hTO⟩, h1, h2⟩, fresh5, q⟩
  · subst ex
    cases r1 with
    | cons r rr =>
      cases rr with
      | cons r' rr =>
        cases rr
        cases r'
        obtain ⟨t, rfl⟩ := r
        obtain ⟨its2, rv2, p2, _⟩ := I1.tuple hqy
        obtain ⟨o2, ho2, _⟩ := id p2
        refine call_zipS hx (show s1.heap.IsTuple b its2.toArray from p2) fun h' hz hTI hTO h1 h2 hk => wpAny_pyIter_zip hz ?_
        exact ⟨_, _, _, _, H1, rfl, I1.kept (t' := s1.toks) hk, turn_zipS (zs_apart (Heap.lt_size ho2)), ⟨hz, hTI, ⟨_, _, hTO⟩, h1, h2⟩, fresh5, q⟩
end Kv

set_option Elab.async false
set_option linter.all false
set_option maxRecDepth 100000
/-! sorted(set(texts)). -/
namespace KvS
open PySem L2 PySem.Spec PyProof.Rows
section
variable {P : Program} {w : World} {A : Around} {E : Value → Shared → Prop} {K : Type} [DecidableEq K] {knd : KeyKind P w K}
/-- an exact set stands at a: its entries, its table in order -/
def At (w : World) (h : Heap) (a : Addr) (es : Array (Int × Value)) : Prop := ∃ (ob : Obj) (ep : Nat) (t : SetTable),
  h.get? a = some ob ∧ ob.ExactSet ∧ ob.data = .set es ep t ∧ es.size < scanBound ∧ t.fits es.size = true ∧ Ris t.place.toList ∧ (w.params.followText "set-order" = true ∨ t.led = true)
theorem At.keep {h h' : Heap} {a : Addr} {es : Array (Int × Value)} (x : At w h a es) (k : ∀ ob, h.get? a = some ob → h'.get? a = some ob) : At w h' a es := by
  obtain ⟨ob, ep, t, g, rest⟩ := x
  exact ⟨ob, ep, t, k ob g, rest⟩
theorem At.lay {h : Heap} {a : Addr} {ob : Obj} {es es2 : Array (Int × Value)} {ep : Nat} {t t2 : SetTable} (g : h.get? a = some ob) (x : ob.ExactSet) (d : ob.data = .set es ep t)
    (b : es2.size < scanBound) (f : t2.fits es2.size = true) (r : Ris t2.place.toList) (l : w.params.followText "set-order" = true ∨ t2.led = true) :
    (h.update a (Obj.putSet es2 t2)).get? a = some { ob with data := .set es2 (ep + 1) t2 } ∧ At w (h.update a (Obj.putSet es2 t2)) a es2 := by
  have z := Heap.get?_update_self (Obj.putSet es2 t2) g (by rw [putSet_of es2 t2 d]; rfl)
  rw [putSet_of es2 t2 d] at z
  exact ⟨z, _, ep + 1, t2, z, x, rfl, b, f, r, l⟩
/-- what an adding comes to -/
def Added (w : World) (a : Addr) (es : Array (Int × Value)) (e : Int × Value) (s : Shared) (Q : Bool → Shared → Prop) : Prop :=
  ∀ (hp : Heap) (es2 : Array (Int × Value)), Heap.SameBut a s.heap hp → At w hp a es2 → es2.toList.Perm (e :: es.toList) → Q true { s with heap := hp }
theorem end_add {s : Shared} {a : Addr} {ob : Obj} {es : Array (Int × Value)} {ep : Nat} {t : SetTable} {tell : Bool → Sem Unit} {es1 : Array (Int × Value)} {t1 : SetTable} {wd : Bool} {e : Int × Value} {Q : Bool → Shared → Prop} {F : Option Bool → Shared → Prop}
    (ht : ∀ b s1 (U : Unit → Shared → Prop), U () s1 → wpAny (model P w) A (tell b) U E s1) (g : s.heap.get? a = some ob) (x : ob.ExactSet) (d : ob.data = .set es ep t)
    (b : es1.size < scanBound) (f : t1.fits es1.size = true) (r : Ris t1.place.toList) (l : w.params.followText "set-order" = true ∨ t1.led = true) (p : es1.toList.Perm (e :: es.toList))
    (hF : ∀ hp, Q true { s with heap := hp } → F (some true) { s with heap := hp }) (q : Added w a es e s Q) :
    wpAny (model P w) A (storeSet a es1 t1 >>= fun _ => if (!wd && t1.tooFull) = true then
        (tell (relayAll t1 es1 (SetTable.grown es1.size)).2.2 >>= fun _ => storeSet a (relayAll t1 es1 (SetTable.grown es1.size)).1 (relayAll t1 es1 (SetTable.grown es1.size)).2.1 >>= fun _ => pure (some true))
      else pure (some true)) F E s := by
  obtain ⟨g1, x1⟩ := At.lay (w := w) g x d b f r l
  have u1 := Heap.SameBut.update s.heap a (Obj.putSet es1 t1)
  refine wpAny_bind (wpAny_storeSet_of g d ?_ (fits_of_scanBound b))
  by_cases c : (!wd && t1.tooFull) = true
  · rw [if_pos c]
    have k1 := relayAll_perm t1 es1 (SetTable.grown es1.size)
    have k2 := relayAll_fits t1 es1 (SetTable.grown es1.size)
    have k3 := relayAll_ris t1 es1 (SetTable.grown es1.size)
    have k4 := relayAll_led t1 es1 (SetTable.grown es1.size)
    revert k1 k2 k3 k4
    generalize relayAll t1 es1 (SetTable.grown es1.size) = Y
    rcases Y with ⟨es3, t3, gv⟩
    intro k1 k2 k3 k4
    have sz : es3.size = es1.size := by
      have := k1.length_eq
      simpa using this
    have b3 : es3.size < scanBound := sz ▸ b
    have l3 : w.params.followText "set-order" = true ∨ t3.led = true := by
      rcases l with l | l
      · exact .inl l
      · exact .inr (k4.trans l)
    obtain ⟨_, x3⟩ := At.lay (w := w) g1 x rfl b3 k2 k3 l3
    refine wpAny_bind (ht _ _ _ (wpAny_bind (wpAny_storeSet_of g1 rfl (wpAny_pure (hF _ ?_)) (fits_of_scanBound b3))))
    exact q _ es3 (u1.trans (Heap.SameBut.update _ a _)) x3 (k1.trans p)
  · rw [if_neg c]
    exact wpAny_pure (hF _ (q _ es1 u1 x1 p))
theorem add_at {s : Shared} {a : Addr} {es : Array (Int × Value)} {k : K} {v : Value} {Q : Bool → Shared → Prop} (hv : knd.is k v = true) (sc : v.scannable = true) (el : ElemsOf knd es.toList) (x : At w s.heap a es) (room : es.size + 1 < scanBound)
    (q0 : (∃ e ∈ es.toList, knd.is k e.2 = true) → Q false s) (q1 : (∀ e ∈ es.toList, knd.is k e.2 = false) → Added w a es (knd.hash k, v) s Q) : wpAny (model P w) A (setAddHashed a v (knd.hash k)) Q E s := by
  obtain ⟨ob, ep, t, g, ex, d, b, f, r, l⟩ := x
  unfold setAddHashed setAddHashedIn
  refine wpAny_holding (wpAny_bind (wpAny_setState_of g d f ?_))
  simp only [byScan_of sc b el, if_true]
  unfold setAddByScan
  refine wpAny_bind (wpAny_bind (wpAny_rule (wpAny_bind (wpAny_setScan_of hv g d f el ?_))))
  have tl : ∀ (z : Bool) {s1 : Shared} {U : Unit → Shared → Prop}, U () s1 → wpAny (model P w) A (match z with | true => rule "set.scan.the-table-gave-way" | false => pure ()) U E s1 := by
    intro z s1 U u
    cases z
    · exact wpAny_pure u
    · exact wpAny_rule u
  cases fi : List.findIdx? (fun e => knd.is k e.2) es.toList with
  | some j =>
    obtain ⟨hj, pj, _⟩ := List.findIdx?_eq_some_iff_getElem.mp fi
    exact wpAny_pure (wpAny_pure (q0 ⟨_, List.getElem_mem hj, pj⟩))
  | none =>
    have no : ∀ e ∈ es.toList, knd.is k e.2 = false := fun e he => by simpa using List.findIdx?_eq_none_iff.mp fi e he
    have q := q1 no
    have n1 := layNew_perm t es (knd.hash k) v
    have n2 := layNew_fits t es (knd.hash k) v
    have n3 := layNew_ris t es (knd.hash k) v r
    have n4 := layNew_led t es (knd.hash k) v
    revert n1 n2 n3 n4
    generalize layNew t es (knd.hash k) v = Y
    rcases Y with ⟨es1, t1, wd, gv⟩
    intro n1 n2 n3 n4
    have pc : es1.toList.Perm ((knd.hash k, v) :: es.toList) := by
      have : es1.toList.Perm (es.push (knd.hash k, v)).toList := n1
      rw [Array.toList_push] at this
      exact this.trans (List.perm_append_singleton _ _)
    have b1 : es1.size < scanBound := by
      have := pc.length_eq
      simp only [Array.length_toList, List.length_cons] at this
      omega
    have l1 : w.params.followText "set-order" = true ∨ t1.led = true := by
      rcases l with l | l
      · exact .inl l
      · exact .inr (n4.trans l)
    refine wpAny_bind (tl _ ?_)
    by_cases c : t1.plain = true
    · simp only [c, if_true]
      refine wpAny_bind ?_
      rw [hashByValue_scannable 8 sc]
      refine wpAny_pure ?_
      by_cases c2 : plainKind v = true
      · simp only [c2, if_true]
        exact end_add (Q := Q) (fun z s1 U u => tl z u) g ex d b1 n2 n3 l1 pc (fun hp u => wpAny_pure u) q
      · simp only [c2]
        exact end_add (Q := Q) (fun z s1 U u => tl z u) g ex d b1 (SetTable.fits_plain_off n2) n3 l1 pc (fun hp u => wpAny_pure u) q
    · simp only [c]
      refine wpAny_bind (wpAny_pure ?_)
      exact end_add (Q := Q) (fun z s1 U u => tl z u) g ex d b1 n2 n3 l1 pc (fun hp u => wpAny_pure u) q
end
end KvS

set_option Elab.async false
set_option linter.all false
set_option maxRecDepth 100000
namespace KvS
open PySem L2 PySem.Spec PyProof.Rows
def txOf (e : Int × Value) : Str := match e.2 with
  | .str k _ => k
  | _ => Str.empty
/-- a set of texts -/
def StrSet (P : Program) (w : World) (h : Heap) (a : Addr) (ks : List Str) : Prop := ∃ es : Array (Int × Value), At w h a es ∧ (∀ e ∈ es.toList, ∃ t, e.2 = .str (txOf e) t ∧ e.1 = (PySem.strKind P w).hash (txOf e)) ∧ es.toList.map txOf = ks ∧ ks.Nodup
section
variable {P : Program} {w : World} {A : Around} {E : Value → Shared → Prop}
theorem StrSet.keep {h h' : Heap} {a : Addr} {ks : List Str} (x : StrSet P w h a ks) (k : ∀ ob, h.get? a = some ob → h'.get? a = some ob) : StrSet P w h' a ks := by
  obtain ⟨es, g, rest⟩ := x
  exact ⟨es, g.keep k, rest⟩
theorem str_is {k x : Str} {t : Tok} : (PySem.strKind P w).is k (.str x t) = true ↔ x = k := by
  show (Value.str x t).isStrOf k = true ↔ _
  simp [Value.isStrOf]
theorem add_text {s : Shared} {a : Addr} {ks : List Str} {k : Str} {t : Tok} {Q : Bool → Shared → Prop} (x : StrSet P w s.heap a ks) (room : ks.length + 1 < scanBound)
    (q : ∀ (b : Bool) (hp : Heap) (ks2 : List Str), Heap.SameBut a s.heap hp → StrSet P w hp a ks2 → ks2.Perm (if k ∈ ks then ks else k :: ks) → Q b { s with heap := hp }) : wpAny (model P w) A (setAddHashed a (.str k t) ((PySem.strKind P w).hash k)) Q E s := by
  obtain ⟨es, g, fe, rfl, nd⟩ := x
  have el : ElemsOf (PySem.strKind P w) es.toList := fun e he => by
    obtain ⟨u, h1, h2⟩ := fe e he
    exact ⟨⟨txOf e, by rw [h1]; exact str_is.mpr rfl, h2⟩, by rw [h1]; rfl⟩
  have sz : es.size + 1 < scanBound := by simpa using room
  refine add_at (knd := PySem.strKind P w) (str_is.mpr rfl) rfl el g sz (fun ⟨e, he, hk⟩ => ?_) fun no hp es2 sb g2 p => ?_
  · obtain ⟨u, h1, h2⟩ := fe e he
    rw [h1] at hk
    have mem : k ∈ es.toList.map txOf := by rw [← str_is.mp hk]; exact List.mem_map_of_mem he
    have z := q false s.heap _ (Heap.SameBut.refl a s.heap) ⟨es, g, fe, rfl, nd⟩ (by rw [if_pos mem])
    exact z
  · have nm : k ∉ es.toList.map txOf := fun m => by
      obtain ⟨e, he, rfl⟩ := List.mem_map.mp m
      obtain ⟨u, h1, _⟩ := fe e he
      have c := no e he
      rw [h1] at c
      exact absurd (str_is.mpr rfl) (by rw [c]; decide)
    have pk : (es2.toList.map txOf).Perm (k :: es.toList.map txOf) := p.map txOf
    refine q true hp _ sb ⟨es2, g2, fun e he => ?_, rfl, pk.nodup_iff.mpr (List.nodup_cons.mpr ⟨nm, nd⟩)⟩ (by rw [if_neg nm]; exact pk)
    rcases List.mem_cons.mp (p.mem_iff.mp he) with z | z
    · rw [z]; exact ⟨t, rfl, rfl⟩
    · exact fe e z
def addK (ks : List Str) (k : Str) : List Str := if k ∈ ks then ks else k :: ks
theorem addK_perm {k : Str} {a b : List Str} (p : a.Perm b) : (addK a k).Perm (addK b k) := by
  unfold addK
  by_cases c : k ∈ a
  · rw [if_pos c, if_pos (p.mem_iff.mp c)]; exact p
  · rw [if_neg c, if_neg (fun z => c (p.mem_iff.mpr z))]; exact p.cons k
theorem fold_perm : ∀ {xs : List Str} {a b : List Str}, a.Perm b → (xs.foldl addK a).Perm (xs.foldl addK b)
  | [], _, _, p => p
  | x :: r, _, _, p => fold_perm (xs := r) (addK_perm p)
theorem addK_len {k : Str} {a : List Str} : (addK a k).length ≤ a.length + 1 := by
  unfold addK
  split
  · exact Nat.le_succ _
  · exact Nat.le_refl _
theorem fold_len : ∀ {xs : List Str} {a : List Str}, (xs.foldl addK a).length ≤ a.length + xs.length
  | [], a => Nat.le_refl _
  | x :: r, a => by
    have h1 := fold_len (xs := r) (a := addK a x)
    have h2 := addK_len (k := x) (a := a)
    rw [List.foldl_cons, List.length_cons]
    omega
/-- the loop that fills the set -/
theorem fill {I : Addr} {fp wr : List Addr} {G : Array GenState → Array GenState → Prop} {n : Nat} {Pv : Nat → Value → Prop} {St : Nat → Shared → Prop} {R : Result → Shared → Prop}
    (W : WalksS P w A.in1 I fp wr G n Pv St) (a : Addr) (out : a ∉ fp) (xs : List Str) (hn : xs.length = n) (small : xs.length < 1000) (tells : ∀ i v, Pv i v → ∃ k t, xs[i]? = some k ∧ v = .str k t) :
    ∀ (left : List Str) (i : Nat) (s : Shared) (ks : List Str), xs.drop i = left → i ≤ n → ks.length ≤ i → St i s → StrSet P w s.heap a ks →
      (∀ s2 ks2, Moved (a :: wr) G s s2 → ks2.Perm (left.foldl addK ks) → StrSet P w s2.heap a ks2 → R (.ok (.ret .none)) s2) → codeAny (model P w) A (.builtin "set.update.loop" ⟨[.ref a, .ref I], []⟩) R s := by
  have nw : a ∉ wr := fun m => out (W.sub _ m)
  have up : ∀ b, b ∈ wr → b ∈ a :: wr := fun b m => List.mem_cons_of_mem _ m
  intro left
  induction left with
  | nil =>
    intro i s ks hd hi hk st x r
    have hin : i = n := by
      have := congrArg List.length hd
      rw [List.length_drop, hn] at this
      simp only [List.length_nil] at this
      omega
    refine codeAny_builtin F.entry_set_update_loop ?_
    rw [Around.under_plainId F.plain_set_update_loop _]
    refine wpAny_bind (m := pyNext (.ref I)) (W.done s _ _ (hin ▸ st) fun s2 mv => ?_)
    show wpAny _ A.in1 (ret Value.none) _ _ s2
    exact wpAny_pure (r s2 ks (mv.mono up) (.refl _) (x.keep fun ob e => mv.heap a ob nw e))
  | cons k left ih =>
    intro i s ks hd hi hk st x r
    have li : i < n := by
      have := congrArg List.length hd
      rw [List.length_drop, hn, List.length_cons] at this
      omega
    have hk0 : xs[i]? = some k := by
      have e1 : (xs.drop i)[0]? = some k := by rw [hd]; rfl
      rwa [List.getElem?_drop, Nat.add_zero] at e1
    have hd2 : xs.drop (i + 1) = left := by
      rw [← List.drop_drop, hd]; rfl
    refine codeAny_builtin F.entry_set_update_loop ?_
    rw [Around.under_plainId F.plain_set_update_loop _]
    refine wpAny_bind (m := pyNext (.ref I)) (W.item i s _ _ li st fun v s2 pv st2 mv => ?_)
    obtain ⟨k2, t, e2, rfl⟩ := tells i v pv
    have ek : k2 = k := Option.some.inj (e2.symm.trans hk0)
    subst ek
    have x2 : StrSet P w s2.heap a ks := x.keep fun ob e => mv.heap a ob nw e
    refine wpAny_bind (m := holding [Value.str k2 t] (setAdd a (.str k2 t))) (wpAny_holding ?_)
    unfold setAdd
    refine wpAny_holding (wpAny_bind ((PySem.strKind P w).pyHash (k := k2) (str_is.mpr rfl) ?_))
    refine add_text (s := { s2 with toks := s2.toks + 1 }) x2 (by have : scanBound = 4096 := rfl; omega) fun b hp ks2 sb x3 p3 => ?_
    have l2 : ks2.length ≤ i + 1 := by
      have h1 := p3.length_eq
      have h2 := addK_len (k := k2) (a := ks)
      unfold addK at h2
      omega
    have stay : ∀ c ob, c ≠ a → s2.heap.get? c = some ob → hp.get? c = some ob := fun c ob ne e => (sb.2 c ne).trans e
    refine wpAny_pure ⟨plainId_quiet F.plain_set_update_loop _, ih (i + 1) _ ks2 hd2 li l2 (W.frame _ s2 _ _ st2 (Nat.le_succ _) fun c m ob e => stay c ob (fun z => out (z ▸ m)) e) x3 fun s3 ks3 mv3 p4 x4 => ?_⟩
    refine r s3 ks3 (Moved.trans W.gtrans ((mv.mono up).then_heap (Nat.le_succ _) fun c ob m e => stay c ob (fun z => m (z ▸ List.mem_cons_self)) e) mv3) ?_ x4
    exact p4.trans (fold_perm p3)
end
end KvS

set_option Elab.async false
set_option linter.all false
set_option maxRecDepth 100000
namespace KvS
open PySem L2 PySem.Spec PyProof.Rows
/-- set(), as it is laid -/
def bare (w : World) : Obj := { cls := .type "set", dict := none, data := .set #[] 0 (.fresh 0 0 (!w.params.followText "set-order")) }
section
variable {P : Program} {w : World} {A : Around} {E : Value → Shared → Prop}
theorem bare_set {h : Heap} {a : Addr} (g : h.get? a = some (bare w)) : StrSet P w h a [] := by
  refine ⟨#[], ⟨_, 0, _, g, ⟨rfl, rfl, rfl⟩, rfl, by decide, rfl, List.Pairwise.nil, ?_⟩, fun e he => by simp at he, rfl, .nil⟩
  by_cases hq : w.params.followText "set-order" = true
  · exact .inl hq
  · exact .inr (by show (!w.params.followText "set-order") = true; simpa using hq)
theorem str_at : ∀ {us : List Value} {xs : List Str}, StrsAre us xs → ∀ {i : Nat} {v : Value}, us[i]? = some v → ∃ k t, xs[i]? = some k ∧ v = .str k t
  | _, _, .nil, i, v, h => by simp at h
  | _, _, .cons n t r, 0, v, h => ⟨n, t, rfl, (Option.some.inj h).symm⟩
  | _, _, .cons n t r, i + 1, v, h => str_at r (i := i) h
set_option maxHeartbeats 4000000 in
theorem set_of {s : Shared} {l : Addr} {its : Array Value} {xs : List Str} {Q : Value → Shared → Prop} (hh : A.handled = none) (hl : s.heap.IsList l its) (hx : StrsAre its.toList xs) (small : xs.length < 1000)
    (q : ∀ hp tk ks, StrSet P w hp s.heap.objs.size ks → ks.Perm (xs.foldl addK []) → (∀ b ob, s.heap.get? b = some ob → hp.get? b = some ob) → Q (.ref s.heap.objs.size) { s with heap := hp, toks := tk }) :
    wpAny (model P w) A (call (.type "set") [.ref l]) Q E s := by
  have nx : xs.length = its.size := by rw [← Array.length_toList]; exact (StrsAre.length hx).symm
  obtain ⟨cc, tl, hmro⟩ := F.called_set.mro
  have a1 := F.called_set.made
  have a2 := F.called_set.sub
  have a3 := F.called_set.notType
  have a4 := F.called_set.canCreate
  have a5 := F.typeCall_set_1 (.ref l)
  have a6 := F.called_set.init.lookup
  have a7 := F.called_set.init.bind (.ref s.heap.objs.size)
  refine wpAny_call (codeAny_of_tree (wpAny_pure ⟨Code.quiet_builtin _ (by decide +kernel), codeAny_builtin PySem.F.entry_type_call ?_⟩))
  rw [Around.under_plain (weight_type_call_type "set" [.ref l] []) rfl]
  repeat (any_goals (first | assumption | wp_step))
  refine codeAny_mono (code_set_led1 (.ref l) (E := E) (Q₁ := fun r s1 => r = .ref s.heap.objs.size ∧ s1 = { s with heap := s.heap.push (bare w) }) ⟨rfl, rfl⟩) fun r s1 hr => ?_
  rcases r with e | fl
  · exact hr
  · cases fl with
    | ret r0 =>
      obtain ⟨rfl, rfl⟩ := hr
      have g0 : (s.heap.push (bare w)).get? s.heap.objs.size = some (bare w) := Heap.get?_push_size _ rfl
      have ty0 : Shared.TypeIs { s with heap := s.heap.push (bare w) } (.ref s.heap.objs.size) "set" := ⟨_, g0, rfl⟩
      repeat (any_goals (first | assumption | wp_step))
      refine codeAny_mono (codeAny_call_builtin (R := wants (fun r s2 => r = .none ∧ ∃ hp tk ks, s2 = { s with heap := hp, toks := tk } ∧ StrSet P w hp s.heap.objs.size ks ∧ ks.Perm (xs.foldl addK []) ∧
          (∀ b ob, s.heap.get? b = some ob → hp.get? b = some ob)) E) F.called_set.init.plain F.entry_set_init (check_set_init_1 ty0 ?_)) fun r2 s2 hr2 => ?_
      · obtain ⟨ol, gl, kl, nl, dl⟩ := hl
        obtain ⟨c1, d1, dt1, sl1⟩ := ol
        simp only at kl dl
        subst kl; subst dl
        have gl2 : (s.heap.push (bare w)).get? l = some { cls := .type "list", dict := d1, data := .seq its nl, slots := sl1 } := Heap.get?_push_of_some _ gl
        have b1 := F.sub_list_set
        have b2 := F.sub_list_frozenset
        have b3 : (Value.type "list" == Value.type "dict") = false := by decide
        have hl2 : (s.heap.push (bare w)).IsList l its := ⟨_, gl2, rfl, nl, rfl⟩
        have ll : l < s.heap.objs.size := Heap.lt_size gl
        have zz : (s.heap.push (bare w)).objs.size = s.heap.objs.size + 1 := Heap.size_push ..
        unfold Builtin.«set.__init__» noKeywords Builtin.Frozenset.updateFrom
        generalize hPI : pyIter = PI
        wp_walk
        subst hPI
        refine wpAny_pyIter_list hl2 (wpAny_bind (wpAny_runValue ?_))
        have nl2 : l ≠ (s.heap.push (bare w)).objs.size := Nat.ne_of_lt (by rw [zz]; exact Nat.lt_succ_of_lt ll)
        have far : s.heap.objs.size ∉ [(s.heap.push (bare w)).objs.size, l] := by
          intro m
          rcases List.mem_cons.mp m with z | z
          · exact Nat.ne_of_lt (Nat.lt_succ_self _) (z.trans zz)
          · exact Nat.ne_of_lt ll (List.mem_singleton.mp z).symm
        have hh3 : A.in1.in1.in1.handled = none := by simp [hh]
        refine fill ((Walks.list hh3 _ l nl2 its).toS) s.heap.objs.size far xs nx small (fun i v hv => str_at hx (by rw [Array.getElem?_toList]; exact hv)) xs 0 _ [] rfl (Nat.zero_le _) (Nat.le_refl 0)
          ⟨⟨_, Heap.get?_push_size _ rfl, rfl, rfl⟩, hl2.push _⟩ ?fresh ?done
        case fresh => exact bare_set (Heap.get?_push_of_some _ g0)
        case done =>
          intro s3 ks mv p x
          obtain ⟨hp3, gg, dd, tk, oo⟩ := s3
          have eg : gg = s.gens := mv.gens
          have ed : dd = s.drawn := mv.drawn
          have eo : oo = s.os := mv.os
          subst eg ed eo
          refine wpAny_pure (M := model P w) ?_
          refine wpAny_pure (M := model P w) ⟨rfl, hp3, tk, ks, rfl, x, p, fun b ob e => ?_⟩
          have lb : b < s.heap.objs.size := Heap.lt_size e
          refine mv.heap b ob (fun m => ?_) (Heap.get?_push_of_some _ (Heap.get?_push_of_some _ e))
          rcases List.mem_cons.mp m with z | z
          · exact Nat.ne_of_lt lb z
          · exact Nat.ne_of_lt (Nat.lt_succ_of_lt lb) ((List.mem_singleton.mp z).trans zz)
      · rcases r2 with e | fl2
        · exact hr2
        · cases fl2 with
          | ret r3 =>
            obtain ⟨rfl, hp, tk, ks, rfl, x, p, k⟩ := hr2
            repeat (any_goals (first | assumption | wp_step))
            exact q _ _ _ x p k
          | _ => exact hr2.elim
    | _ => exact hr.elim
theorem strs_are : ∀ {vs : List Value}, (∀ v ∈ vs, ∃ k t, v = Value.str k t) → ∃ ss, StrsAre vs ss ∧ ss = vs.map (fun v => txOf (0, v))
  | [], _ => ⟨[], .nil, rfl⟩
  | v :: r, h => by
    obtain ⟨k, t, rfl⟩ := h v List.mem_cons_self
    obtain ⟨ss, a, b⟩ := strs_are fun u m => h u (List.mem_cons_of_mem _ m)
    exact ⟨k :: ss, .cons k t a, by rw [b]; rfl⟩
theorem sort_texts {s : Shared} {a : Addr} {vs : List Value} {ss : List Str} {n : Nat} {F : PySem.Fin → Shared → Prop} (g : s.heap.get? a = some (seqObj "list" vs.toArray n)) (hS : StrsAre vs ss) (few : vs.length < 64)
    (h : ∀ (out : Array Value) (ys : List Str), StrsAre out.toList ys → ys.Perm ss → sortedS ys = true → F (.done (.ret .none)) { s with heap := sortedHeap s.heap a vs out }) : wpAny (model P w) A (Builtin.«list.sort» ⟨[.ref a], []⟩) F E s := by
  refine list_sort_treeK strKind_oneLt g hS.keysOf (fun v1 v2 rest e => keyKind_strs (by rw [← e]; exact hS)) few fun st p1 p2 => ?_
  obtain ⟨ys, y1, y2, y3⟩ := sorted_out_str hS p1 p2
  exact h _ ys y1 y2 y3
set_option maxHeartbeats 4000000 in
theorem sort_set {s : Shared} {a : Addr} {ks : List Str} {Q : Value → Shared → Prop} (x : StrSet P w s.heap a ks) (hh : A.handled = none) (few : ks.length < 64)
    (q : ∀ s2 p (out : Array Value) c ys, (∀ b ob, s.heap.get? b = some ob → s2.heap.get? b = some ob) → s2.gens = s.gens → s2.os = s.os → s.heap.objs.size ≤ p → s2.heap.get? p = some (seqObj "list" out c) →
      StrsAre out.toList ys → ys.Perm ks → sortedS ys = true → Q (.ref p) s2) : wpAny (model P w) A (call (.builtin "sorted") [.ref a]) Q E s := by
  obtain ⟨es, ⟨ob, ep, t, g, ex, d, b, f, r, l⟩, fe, rfl, nd⟩ := x
  refine Calls.call_function_entry kind_sorted plain_sorted entry_sorted (args_sorted1 _) ?_
  unfold Builtin.«sorted»
  refine wpAny_bind (m := checkCount "sorted" 1 1 _) (wpAny_pure (wpAny_bind (collect_set (A := A.in1) hh ⟨ob, g, ex.1, d⟩ f b r l fun s1 vs k1 hz g1 o1 pm => ?_)))
  obtain ⟨ss, hS, eS⟩ := strs_are (vs := vs) fun v m => by
    obtain ⟨e, he, z⟩ := List.mem_map.mp (pm.mem_iff.mp m)
    obtain ⟨u, h1, _⟩ := fe e he
    exact ⟨txOf e, u, z.symm.trans h1⟩
  have pS : ss.Perm (es.toList.map txOf) := by
    have z := pm.map fun v => txOf (0, v)
    rw [List.map_map] at z
    rw [eS]
    exact z
  have lv : vs.length < 64 := by
    have h1 := pm.length_eq
    rw [List.length_map] at h1 few
    omega
  refine wpAny_bind (wpAny_newList ?_ (by rw [sizeLine_eq]; omega))
  have g2 : (s1.heap.push (seqObj "list" vs.toArray 0)).get? s1.heap.objs.size = some (seqObj "list" vs.toArray 0) := Heap.get?_push_size _ rfl
  refine wpAny_bind (wpAny_holding (wpAny_call_entry slot_list_sort ⟨_, g2, rfl⟩ entry_list_sort (sort_texts g2 hS lv fun out ys y1 y2 y3 => ⟨_, rfl, ?_⟩) (args_list_sort _)))
  obtain ⟨c, hc⟩ := sortedHeap_at (vs := vs) (out := out) g2
  refine wpAny_pure ⟨_, rfl, q _ s1.heap.objs.size _ c ys (fun b u e => ?_) g1 o1 hz hc y1 (y2.trans pS) y3⟩
  have z := k1 b u e
  have lt := Heap.lt_size z
  exact (sortedHeap_old (Nat.ne_of_lt lt) (by rw [Heap.size_push]; exact Nat.lt_succ_of_lt lt)).trans (Heap.get?_push_of_some _ z)
end
end KvS

set_option Elab.async false
set_option linter.all false
set_option maxRecDepth 100000
namespace KvS
open PySem L2 PySem.Spec PyProof.Rows
section
variable {X : Cx}
theorem boot_srt : bootBuiltins ("sorted" : Str) = some (.builtin "sorted") := by decide +kernel
theorem boot_set2 : bootBuiltins ("set" : Str) = some (.type "set") := by decide +kernel
/-- sorted(set(xs)), xs a list of texts -/
def tSS (K : PySem.W.Frag) (ta : TE) : TE := fun σ H Q => ta σ H fun x H1 => ∃ l, ∃ xs : List Str, x = .ref l ∧ SqL K H1 l (xs.map V.str) ∧ xs.length < 64 ∧ ∀ ys p, ys.Perm (xs.foldl addK []) → sortedS ys = true → H1 p = none → Q (.ref p) (upd H1 p (.lst (ys.map V.str)))
theorem pe_sortedSet {a : Expr} {ta : TE} {p p2 q pos : Pos} (hc : X.calm = true) (hg : Gl X "sorted") (hm : X.mg "sorted" = none) (hg2 : Gl X "set") (hm2 : X.mg "set" = none) (ha : PE X a ta)
    (na : starEach [a] X.env = (false, eval a X.env) :: starEach [] X.env) : PE X (.Call (.Name "sorted" p) [.Call (.Name "set" p2) [a] [] q] [] pos) (tSS X.K ta) := by
  refine ⟨fun pins s σ H Q I h => ?_⟩
  refine Call_ (ld_blt I hg hm boot_srt (PyProof.Rows.callWith_builtin1 (PyProof.Rows.args_cons ?_ rfl) rfl rfl))
  refine Call_ (ld_blt I hg2 hm2 boot_set2 (PyProof.Rows.callWith_type1 (PyProof.Rows.args_cons (thn (ha.run pins s σ H _ I h) fun v s1 ⟨x, H1, I1, r1, q1⟩ => PyProof.Rows.args_nil ?_) na) na rfl))
  obtain ⟨l, xs, rfl, hq, few, q1⟩ := q1
  cases r1
  obtain ⟨its, rv, pl, hz⟩ := I1.list hq
  have sa := strsAre_of rv
  refine set_of (I1.ok.hd hc) pl.isList (by simpa using sa) (by omega) fun hp tk ks x pk kept => ?_
  refine PyProof.Rows.args_nil ?_
  have I2 : Inv X pins σ H1 { s1 with heap := hp, toks := tk } := I1.kept fun b ob e => kept b ob e
  have lk : ks.length < 64 := by
    have h1 := pk.length_eq
    have h2 := fold_len (xs := xs) (a := [])
    simp only [List.length_nil] at h2
    omega
  refine sort_set (s := { s1 with heap := hp, toks := tk }) x (I2.ok.hd hc) lk fun s2 p out c ys k2 g2 o2 hp2 hout hys py sy => ?_
  have lys : ys.length < 64 := by rw [py.length_eq]; exact lk
  have hlen : (ys.map V.str).length ≤ sizeLine := by rw [List.length_map]; exact small64 lys
  have hn : H1 p = none := I2.hok.fresh hp2
  have J : Inv X pins σ (upd H1 p (.lst (ys.map V.str))) s2 := by
    have j : Inv X pins σ (upd H1 p (.lst (ys.map V.str))) { ({ s1 with heap := hp, toks := tk } : Shared) with heap := s2.heap, gens := s2.gens, drawn := s2.drawn, toks := s2.toks } :=
      I2.call (ch := []) (Un.laid k2 hp2 hn) (I2.hok.laid k2 hp2 ⟨hlen, out.toList, c, vals_of_strs hys, hout⟩) (by rw [g2]; exact I2.bare) (fun _ z => nomatch z)
    have e : s2 = { s1 with heap := s2.heap, gens := s2.gens, drawn := s2.drawn, toks := s2.toks } := by
      cases s2
      cases s1
      cases o2
      rfl
    rw [e]; exact j
  exact ⟨.ref p, _, J, rfl, q1 ys p (py.trans pk) sy hn⟩
end
end KvS

set_option Elab.async false
set_option linter.all false
set_option maxRecDepth 100000
/-! sorted of a dict's keys, sorted of texts: any number. -/
namespace KvS
open PySem L2 PySem.Spec PyProof.Rows
theorem sort_textsA {P : Program} {w : World} {A : Around} {E : Value → Shared → Prop} {s : Shared} {a : Addr} {vs : List Value} {ss : List Str} {n : Nat} {F : PySem.Fin → Shared → Prop} (g : s.heap.get? a = some (seqObj "list" vs.toArray n)) (hS : StrsAre vs ss) (few : vs.length ≤ sizeLine)
    (h : ∀ (out : Array Value) (ys : List Str), StrsAre out.toList ys → ys.Perm ss → sortedS ys = true → F (.done (.ret .none)) { s with heap := sortedHeap s.heap a vs out }) : wpAny (model P w) A (Builtin.«list.sort» ⟨[.ref a], []⟩) F E s := by
  refine list_sort_treeKAny strKind_oneLt g hS.keysOf (fun v1 v2 rest e => keyKind_strs (by rw [← e]; exact hS)) few fun st p1 p2 => ?_
  obtain ⟨ys, y1, y2, y3⟩ := sorted_out_str hS p1 p2
  exact h _ ys y1 y2 y3
section
variable {X : Cx}
def rSD : List V → Hp → VK → Prop := fun xs H Q => ∃ (a : Addr) (kvs : List (Key × V)) (ks : List Str), xs = [.ref a] ∧ Rd H a (.dK kvs) ∧ kvs.map (·.1) = ks.map Sum.inr ∧ ks.length ≤ sizeLine ∧ ∀ ys p, ys.Perm ks → sortedS ys = true → H p = none → Q (.ref p) (upd H p (.lst (ys.map V.str)))
set_option maxHeartbeats 4000000 in
theorem call_sortedDA (hcalm : X.calm = true) : CallR X (.builtin "sorted") rSD := by
  intro pins s σ H xs us Q I r ⟨a, kvs, ks, ex, hd, hks, lk, q⟩
  subst ex
  obtain ⟨u, eu, rx⟩ := vals1 r
  subst eu
  cases rx
  obtain ⟨z, lo, vs, rel, dd⟩ := dk_rd I.hok hd
  obtain ⟨ep, hat⟩ := dd.dictAt
  have same : vs.map (·.1) = ks.map Sum.inr := rel.keys.symm.trans hks
  have hl : vs.length = ks.length := by
    have e := congrArg List.length same
    simpa using e
  refine Calls.call_function_entry kind_sorted plain_sorted entry_sorted (args_sorted1 _) ?_
  unfold Builtin.«sorted»
  refine wpAny_bind (m := checkCount "sorted" 1 1 _) (wpAny_pure (wpAny_bind (PySem.W.kdu_collect (A := X.A.in1) (PySem.W.kdl_dict (knd := mixKind X.prog X.w) (kvs := vs) (ep := ep) lo) (I.ok.hd hcalm) hat (by rw [hl]; exact lk) fun h1 tk acc hk hacc => ?_)))
  have la : acc.toList.length = ks.length := by rw [Array.length_toList, hacc.1, hl]
  have hS : StrsAre acc.toList ks := by
    refine L2.strs_at la fun j v e => ?_
    obtain ⟨k, x, e1, e2⟩ := hacc.2 j v (by rw [← Array.getElem?_toList]; exact e)
    have e3 : (ks.map Sum.inr)[j]? = some k := by rw [← same, List.getElem?_map, e1]; rfl
    rw [List.getElem?_map] at e3
    obtain ⟨y, e4, e5⟩ := Option.map_eq_some_iff.mp e3
    subst e5
    obtain ⟨t, ev⟩ := Value.isStrOf_shape (x := y) (v := v) e2
    exact ⟨y, t, e4, ev⟩
  have I1 : Inv X pins σ H { s with heap := h1, toks := tk } := I.kept hk
  refine wpAny_bind (wpAny_newList ?_ (by rw [la]; exact lk))
  have g : (h1.push (seqObj "list" acc.toList.toArray 0)).get? h1.objs.size = some (seqObj "list" acc.toList.toArray 0) := Heap.get?_push_size _ rfl
  refine wpAny_bind (wpAny_holding (wpAny_call_entry slot_list_sort ⟨_, g, rfl⟩ entry_list_sort (sort_textsA (s := { s with heap := h1.push (seqObj "list" acc.toList.toArray 0), toks := tk }) g hS (by rw [la]; exact lk) fun out ys y1 y2 y3 => ⟨_, rfl, ?_⟩) (args_list_sort _)))
  obtain ⟨c, hc⟩ := sortedHeap_at (vs := acc.toList) (out := out) g
  have ln : (ys.map V.str).length ≤ sizeLine := by rw [List.length_map, y2.length_eq]; exact lk
  refine wpAny_pure ⟨_, rfl, .ref h1.objs.size, upd H h1.objs.size (.lst (ys.map V.str)), I1.laid (t' := tk) (fun b u e => ?_) (Nat.le_refl _) (show ObjOk X.prog X.w _ _ _ (.lst (ys.map V.str)) from ⟨ln, out.toList, c, vals_of_strs y1, by rw [Array.toArray_toList]; exact hc⟩), rfl, q ys _ y2 y3 (I1.hok.fresh (Nat.le_refl _))⟩
  have lt : b < h1.objs.size := Heap.lt_size e
  exact (sortedHeap_old (Nat.ne_of_lt lt) (by rw [Heap.size_push]; exact Nat.lt_succ_of_lt lt)).trans (Heap.get?_push_of_some _ e)
def rSL (K : PySem.W.Frag) : List V → Hp → VK → Prop := fun vs H Q => ∃ (a : Addr) (xs : List Str), vs = [V.ref a] ∧ SqL K H a (xs.map V.str) ∧ ∀ (ys : List Str) (p : Addr), ys.Perm xs → sortedS ys = true → H p = none → Q (.ref p) (upd H p (.lst (ys.map V.str)))
theorem call_sortedLA : CallR X (.builtin "sorted") (rSL X.K) := by
  intro pins s σ H vs us Q I r ⟨a, xs, ex, hs, q⟩
  subst ex
  obtain ⟨its, rv, hl, hz⟩ := I.list hs
  rw [Vals.ref1 r]
  have ll := rv.length
  rw [List.length_map] at ll
  rw [List.length_map] at hz
  refine sorted_strsAny hl.isList rv.strs (by rw [← ll]; exact hz) fun out ys h1 h2 h3 => ?_
  obtain ⟨ep, he⟩ := sortedAll_at s.heap its out
  have ln : (ys.map V.str).length ≤ sizeLine := by rw [List.length_map, h2.length_eq]; exact hz
  exact ⟨.ref _, upd H (s.heap.objs.size + 1) (.lst (ys.map V.str)), I.laid (t' := s.toks) (fun _ _ => sortedAll_old) (Nat.le_succ _) ⟨ln, out.toList, ep, vals_of_strs h1, he⟩, rfl, q ys _ h2 h3 (I.hok.fresh (Nat.le_succ _))⟩
end
end KvS

set_option Elab.async false
set_option linter.all false
set_option maxRecDepth 100000
set_option maxHeartbeats 1000000
/-! enumerate of a tuple. -/
namespace KvN
open PySem L2 PySem.Spec PyProof.Rows RZ
abbrev nH1 (h : Heap) (l : Addr) : Heap := h.push { cls := .type "tuple_iterator", data := .fields #[.ref l, .int 0 0] }
abbrev nH2 (h : Heap) (l : Addr) : Heap := (nH1 h l).push { cls := .type "enumerate", data := .fields #[.none, .bool false, .ref h.objs.size, rawInt 0, .none, .none] }
theorem meets_enumT (l : Addr) (ys : Array Value) : Meets (Builtin.«enumerate.__new__» ⟨[.type "enumerate", .ref l], []⟩) (fun _ R s => s.heap.IsTuple l ys ∧ R (.ok (.ret (.ref (s.heap.objs.size + 1)))) { s with heap := nH2 s.heap l }) :=
  .of_wp fun prog w A R s h => by
    obtain ⟨hp, g, d, tk, os⟩ := s
    obtain ⟨hl, h⟩ := h
    have hz : (nH1 hp l).objs.size = hp.objs.size + 1 := Heap.size_push ..
    have hsub := sub_enumerate
    wp_walk using wpAny_pyIter_tuple hl
    refine wpAny_stack_any fun st => wpAny_pure ?_
    split
    · rename_i c _ _ _ _ _
      cases (c == Value.type "enumerate")
      · wp_walk using wpAny_pyIter_tuple hl
        exact ⟨_, rfl, by rw [hz] <;> exact h⟩
      · wp_walk using wpAny_pyIter_tuple hl
        exact ⟨_, rfl, by rw [hz] <;> exact h⟩
    · wp_walk using wpAny_pyIter_tuple hl
      exact ⟨_, rfl, by rw [hz] <;> exact h⟩
section
variable {prog : Program} {w : World} {A : Around} {E : Value → Shared → Prop} {s : Shared}
theorem call_enumT {l : Addr} {ys : Array Value} {Q : Value → Shared → Prop} (hl : s.heap.IsTuple l ys)
    (h : ∀ h', IsEnum h' (s.heap.objs.size + 1) s.heap.objs.size 0 .none → h'.IsTupleIter s.heap.objs.size l 0 → (∀ b o, s.heap.get? b = some o → h'.get? b = some o) → Q (.ref (s.heap.objs.size + 1)) { s with heap := h' }) :
    wpAny (model prog w) A (call (.type "enumerate") [.ref l]) Q E s := by
  refine callType_new F.called_enumerate (by decide) (F.typeCall_enumerate_1 _) (F.newCall_enumerate_1 _) (fun obj => F.args_object_init_2 obj _) F.entry_enumerate_new (meets_enumT l ys) ⟨hl, ?_⟩
  have hz : (nH1 s.heap l).objs.size = s.heap.objs.size + 1 := Heap.size_push ..
  have e1 : IsEnum (nH2 s.heap l) (s.heap.objs.size + 1) s.heap.objs.size 0 .none := by
    have z := Heap.get?_push_size (nH1 s.heap l) (o := { cls := .type "enumerate", data := .fields #[.none, .bool false, .ref s.heap.objs.size, rawInt 0, .none, .none] }) rfl
    rw [hz] at z
    exact z
  have e2 : (nH2 s.heap l).IsTupleIter s.heap.objs.size l 0 := ⟨_, Heap.get?_push_of_some _ (Heap.get?_push_size _ rfl), rfl, rfl⟩
  exact ⟨⟨_, e1, rfl⟩, h _ e1 e2 fun b o x => Heap.get?_push_of_some _ (Heap.get?_push_of_some _ x)⟩
end
/-- a tuple's items, numbered -/
def ItN (K : PySem.W.Frag) (a : Addr) : It :=
  ⟨fun i H => ∃ (xs : List V) (x : V), SqT K H a xs ∧ xs[i]? = some x, fun i H v H' => ∃ T x, v = .ref T ∧ H T = none ∧ H' = upd H T (.tup [.int (i : Nat), x]) ∧ ∀ xs, SqT K H a xs → xs[i]? = some x, fun i H => ∃ xs : List V, SqT K H a xs ∧ xs.length = i⟩
theorem turn_N {P : Program} {w : World} {K : PySem.W.Frag} {elts : List Expr} {kk : Nat} {tpos : Pos} {a e it : Addr} (ne : e ≠ it) :
    Turn P w K (.Tuple elts kk tpos) (ItN K a) [e, it] e (fun i h => (∃ old, IsEnum h e it ((i : Nat) : Int) old) ∧ h.IsTupleIter it a i) where
  mem := by simp
  obj := fun i h st b hb => by
    obtain ⟨⟨old, he⟩, ⟨o, ho, hc, hd⟩⟩ := st
    rcases (by simpa using hb : b = e ∨ b = it) with z | z
    · rw [z]; exact ⟨_, he, fun v q => nomatch q⟩
    · rw [z]; exact ⟨o, ho, fun v q => by rw [hd] at q; cases q⟩
  keep := fun i h h' st k => ⟨st.1.imp fun old he => k e (by simp) _ he, st.2.at fun o q => k it (by simp) o q⟩
  item := by
    intro X hP hw hK hc i pins s σ H E I hf st hg
    subst hP hw hK
    obtain ⟨⟨old, he⟩, hit⟩ := st
    obtain ⟨xs, x, hq, hx⟩ := hg
    obtain ⟨its, rv, p, _⟩ := I.tuple hq
    obtain ⟨u, hu, ru⟩ := rv.get hx
    have el : e < s.heap.objs.size := Heap.lt_size he
    have il : it < s.heap.objs.size := by obtain ⟨_, q, _⟩ := hit; exact Heap.lt_size q
    have ai : a ≠ it := fun z => by
      obtain ⟨o, e1, e2, _⟩ := p
      obtain ⟨o', e1', e2', _⟩ := hit
      rw [← z, e1] at e1'; cases e1'; rw [e2] at e2'; exact absurd e2' (by decide)
    have ae : a ≠ e := fun z => by
      obtain ⟨o, e1, e2, _⟩ := p
      have he' := he
      unfold IsEnum at he'
      rw [← z, e1] at he'; cases he'; exact absurd (Value.type.inj e2 : ("enumerate" : String) = "tuple") (by decide)
    have n1 : i < its.toArray.size := by
      have := (List.getElem?_eq_some_iff.mp hu).1
      simpa using this
    have D : Draws X.prog X.w X.A.in1 it [it, a] its.toArray.size (fun i v => its.toArray[i]? = some v) (fun i h => h.IsTupleIter it a i ∧ h.IsTuple a its.toArray) := .tuple (show X.A.in1.handled = none from I.ok.hd hc) it a ai its.toArray
    have out : e ∉ [it, a] := fun m => by
      rcases List.mem_cons.mp m with z | z
      · exact ne z
      · exact ae (List.mem_singleton.mp z).symm
    refine wpAny_pyNext_enum_itemD D he ⟨hit, p⟩ n1 ne out fun v h' tk y1 ho st2 hT hsz hk => ?_
    have ev : v = u := by
      have : its.toArray[i]? = some u := by simpa using hu
      rw [this] at y1; exact (Option.some.inj y1).symm
    subst ev
    refine ⟨_, rfl, wpAny_letOwnedTupleGo_enum (s := { s with heap := h', toks := tk + 1 }) ho fun h'' he2 sb => ?_⟩
    have hT2 : h''.get? s.heap.objs.size = some { cls := .type "tuple", data := .seq #[.int i tk, v] } := (sb.2 _ (Nat.ne_of_gt el)).trans hT
    have new : ObjOk X.prog X.w (upd H s.heap.objs.size (.tup [.int (i : Nat), x])) h'' s.heap.objs.size (.tup [.int (i : Nat), x]) :=
      ⟨by show 2 ≤ sizeLine; decide, [.int i tk, v], .cons ⟨_, rfl⟩ (.cons ru .nil), ⟨_, hT2, rfl, _, rfl⟩⟩
    have I1 : Inv X pins σ (upd H s.heap.objs.size (.tup [.int (i : Nat), x])) { s with heap := h'', toks := tk + 1 } :=
      I.turnedNew (t' := tk + 1) (ch := [e, it]) (fun b ob hb q => (sb.2 b (fun z => hb (by simp [z]))).trans (hk b ob (fun z => hb (by simp [z])) (fun z => hb (by simp [z])) q)) hf (Nat.le_refl _) new
    refine ⟨.ref s.heap.objs.size, _, I1, rfl, ⟨_, x, rfl, I.hok.fresh (Nat.le_refl _), rfl, fun l hl => by rw [I.tuple_inj hl hq]; exact hx⟩, ⟨⟨v, ?_⟩, st2.1.at fun o q => (sb.2 it ne.symm).trans q⟩, fun b hb => ?_⟩
    · have e1 : ((i + 1 : Nat) : Int) = (i : Int) + 1 := by omega
      rw [e1]; exact he2
    · have lt : b < s.heap.objs.size := by
        rcases (by simpa using hb : b = e ∨ b = it) with z | z
        · rw [z]; exact el
        · rw [z]; exact il
      rw [upd_ne (Nat.ne_of_lt lt)]
      exact (hf b hb).1
  done := by
    intro X hP hw hK hc i pins s σ H E I hf st hg
    subst hP hw hK
    obtain ⟨⟨old, he⟩, hit⟩ := st
    obtain ⟨xs, hq, hx⟩ := hg
    obtain ⟨its, rv, p, _⟩ := I.tuple hq
    have ai : a ≠ it := fun z => by
      obtain ⟨o, e1, e2, _⟩ := p
      obtain ⟨o', e1', e2', _⟩ := hit
      rw [← z, e1] at e1'; cases e1'; rw [e2] at e2'; exact absurd e2' (by decide)
    have sz : its.toArray.size = i := by
      have := rv.length
      simp only [List.size_toArray]
      omega
    have D : Draws X.prog X.w X.A.in1 it [it, a] its.toArray.size (fun i v => its.toArray[i]? = some v) (fun i h => h.IsTupleIter it a i ∧ h.IsTuple a its.toArray) := .tuple (show X.A.in1.handled = none from I.ok.hd hc) it a ai its.toArray
    obtain ⟨f0, f1, f2, f3, f4, f5⟩ := hf it (by simp)
    exact wpAny_pyNext_enum_endD D he ⟨by rw [sz]; exact hit, p⟩ fun h' eb => ⟨rfl, I.turned (t' := s.toks) (fun b o hb q => eb b o hb q) f0 f1 f3 f4 f5⟩
  self := fun A i s Q E st h => let ⟨⟨_, he⟩, _⟩ := st; wpAny_pyIter_enum he h
theorem pi_enumN {X : Cx} {e : Expr} {ta : TA} {p pos tpos : Pos} {elts : List Expr} {kk : Nat} (hg : Gl X "enumerate") (hm : X.mg "enumerate" = none) (ha : PA X [e] ta) (hs : starEach [e] X.env = [(false, eval e X.env)]) :
    PI X (.Tuple elts kk tpos) (.Call (.Name "enumerate" p) [e] [] pos) (fun σ H R => ta σ H fun vs H1 => ∃ a xs, vs = [.ref a] ∧ ((SqL X.K H1 a xs ∧ R (Ite X.K a) H1) ∨ (SqT X.K H1 a xs ∧ R (ItN X.K a) H1))) := by
  refine ⟨fun pins s σ H R I h => ?_⟩
  refine Call_ (ld_blt I hg hm boot_enumerate (PyProof.Rows.callWith_type1 (thn (ha.run pos pins s σ H _ I h) fun us s1 ⟨vs, H1, I1, r1, q1⟩ => ?_) hs rfl))
  obtain ⟨a, xs, ex, q1⟩ := q1
  subst ex
  have fresh2 : ∀ c, c ∈ [s1.heap.objs.size + 1, s1.heap.objs.size] → FpOk X pins H1 c := fun c hcm => by
    have hle : s1.heap.objs.size ≤ c := by
      simp only [List.mem_cons, List.not_mem_nil, or_false] at hcm
      rcases hcm with z | z <;> (subst z; first | exact Nat.le_refl _ | exact Nat.le_add_right _ _)
    exact I1.fpOk hle (I1.hok.fresh hle)
  cases r1 with
  | cons r rr =>
    cases rr
    cases r
    rcases q1 with ⟨hq, q⟩ | ⟨hq, q⟩
    · obtain ⟨its, rv, p', _⟩ := I1.list hq
      exact call_enumerate_list p'.isList fun h' he hit hsz hk => wpAny_pyIter_enum he ⟨_, _, _, _, H1, rfl, I1.kept (t' := s1.toks) hk, turn_enum a (s1.heap.objs.size + 1) s1.heap.objs.size, ⟨⟨.none, he⟩, hit, Nat.succ_ne_self _⟩, fresh2, q⟩
    · obtain ⟨its, rv, p', _⟩ := I1.tuple hq
      exact call_enumT (show s1.heap.IsTuple a its.toArray from p') fun h' he hit hk => wpAny_pyIter_enum he ⟨_, _, _, _, H1, rfl, I1.kept (t' := s1.toks) hk, turn_N (Nat.succ_ne_self _), ⟨⟨.none, he⟩, hit⟩, fresh2, q⟩
end KvN

set_option linter.all false
/-! A small language with value semantics: own lists, dicts, instances live in slots; what is shared is laid in the store mu. -/
namespace Kv
open PySem (Operator CmpOp)

abbrev Tx := List Nat

inductive PV where
  | non | bl (b : Bool) | int (i : Int) | str (s : Tx) | tup (xs : List PV) | loc (n : Nat) | fn (f : Nat)
  deriving Inhabited, Repr

mutual
def PV.beq : PV → PV → Bool
  | .non, .non => true
  | .bl a, .bl b => a == b
  | .int a, .int b => decide (a = b)
  | .str a, .str b => decide (a = b)
  | .tup a, .tup b => PV.beqs a b
  | .loc a, .loc b => decide (a = b)
  | .fn a, .fn b => decide (a = b)
  | _, _ => false
def PV.beqs : List PV → List PV → Bool
  | [], [] => true
  | a :: r, b :: t => PV.beq a b && PV.beqs r t
  | _, _ => false
end
mutual
theorem PV.beq_iff : ∀ a b : PV, PV.beq a b = true ↔ a = b
  | .non, b => by cases b <;> simp [PV.beq]
  | .bl x, b => by cases b <;> simp [PV.beq]
  | .int x, b => by cases b <;> simp [PV.beq]
  | .str x, b => by cases b <;> simp [PV.beq]
  | .loc x, b => by cases b <;> simp [PV.beq]
  | .fn x, b => by cases b <;> simp [PV.beq]
  | .tup x, b => by
    cases b <;> simp [PV.beq]
    exact PV.beqs_iff x _
theorem PV.beqs_iff : ∀ a b : List PV, PV.beqs a b = true ↔ a = b
  | [], b => by cases b <;> simp [PV.beqs]
  | a :: r, b => by
    cases b with
    | nil => simp [PV.beqs]
    | cons y t => simp [PV.beqs, PV.beq_iff a y, PV.beqs_iff r t]
end
instance : DecidableEq PV := fun a b => decidable_of_iff _ (PV.beq_iff a b)

inductive Obj where
  | lst (xs : List PV) | flst (xs : List PV) | dic (kvs : List (PV × PV)) | fdic (kvs : List (PV × PV)) | tdic (kvs : List (PV × PV)) | ins (c : Nat) (fs : List (Tx × PV))
  deriving Inhabited, Repr, DecidableEq

inductive SV where
  | pv (v : PV) | own (o : Obj)
  deriving Inhabited, Repr, DecidableEq

structure St where
  sg : List (Option SV)
  mu : List Obj
  deriving Inhabited, Repr, DecidableEq

/-- an exception: its class, its fields -/
structure Ex where
  cls : Nat
  fs : List (Tx × PV)
  deriving Inhabited, Repr

inductive Out (α : Type) where
  | ok (a : α) (s : St) | exc (x : Ex) (s : St) | bad
  deriving Inhabited, Repr
abbrev M (α : Type) := St → Out α
@[inline] def M.bind {α β : Type} (m : M α) (f : α → M β) : M β := fun s => match m s with
  | .ok a s' => f a s'
  | .exc x s' => .exc x s'
  | .bad => .bad
@[inline] def M.pure {α : Type} (a : α) : M α := fun s => .ok a s
instance : Monad M where
  pure := M.pure
  bind := M.bind
def M.bad {α : Type} : M α := fun _ => .bad
def M.ofo {α : Type} (o : Option α) : M α := fun s => match o with
  | some a => .ok a s
  | none => .bad

/-- an operand: a value, or the object that a slot owns, or a table of the module -/
inductive Opd where
  | val (v : SV) | slot (i : Nat) | tab (o : Obj)
  deriving Inhabited, Repr

/-- a name of the module -/
def tabOpd : SV → Opd
  | .own o => .tab o
  | .pv p => .val (.pv p)
def St.get (s : St) (i : Nat) : Option SV := (s.sg[i]?).getD none
def St.put (s : St) (i : Nat) (v : Option SV) : St := { s with sg := s.sg.set i v }

def cont : Opd → St → Option SV
  | .val (.pv (.loc n)), s => s.mu[n]?.map .own
  | .val v, _ => some v
  | .slot i, s => match s.get i with
    | some (.pv (.loc n)) => s.mu[n]?.map .own
    | r => r
  | .tab o, _ => some (.own o)
def box : Opd → M PV
  | .val (.pv p), s => .ok p s
  | .val (.own o), s => .ok (.loc s.mu.length) { s with mu := s.mu ++ [o] }
  | .slot i, s => match s.get i with
    | some (.pv p) => .ok p s
    | some (.own o) => .ok (.loc s.mu.length) { sg := s.sg.set i (some (.pv (.loc s.mu.length))), mu := s.mu ++ [o] }
    | none => .bad
  | .tab _, _ => .bad
def boxs : List Opd → M (List PV)
  | [] => pure []
  | o :: os => do
    let p ← box o
    let ps ← boxs os
    pure (p :: ps)
/-- the receiver becomes o -/
def wback : Opd → Obj → M Unit
  | .val (.pv (.loc n)), o, s => if n < s.mu.length then .ok () { s with mu := s.mu.set n o } else .bad
  | .slot i, o, s => match s.get i with
    | some (.pv (.loc n)) => if n < s.mu.length then .ok () { s with mu := s.mu.set n o } else .bad
    | some (.own _) => .ok () (s.put i (some (.own o)))
    | _ => .bad
  | _, _, _ => .bad

inductive T where
  | nm (i : Nat) | tup (ts : List T)
  deriving Inhabited, Repr

/-- what a for walks -/
inductive Ik where
  | it | range | zip | enum | items | values | rev
  deriving Inhabited, Repr, DecidableEq

/-- built-in functions and methods -/
inductive Bi where
  | len | tuple | list | str | int | abs | dict | sum | all | any | sorted | min2 | max2
  deriving Inhabited, Repr, DecidableEq
inductive Ty where
  | int | str | bool | tuple | list | dict
  deriving Inhabited, Repr, DecidableEq
/-- methods that change their object -/
inductive Bm where
  | append | extend | pop | popAt | insert | dpop | reverse | clear
  deriving Inhabited, Repr, DecidableEq

/-- methods that only look -/
inductive Me where
  | index | split | startswith
  deriving Inhabited, Repr, DecidableEq

mutual
inductive E where
  | c (v : PV)
  | any
  | sset (a : E)
  | sit (a : E)
  | isiT (ts : List Ty) (a : E)
  | var (i : Nat)
  | tab (x : Nat)
  | tup (es : List E)
  | lst (es : List E)
  | dic (ks : List Tx) (vs : List E)
  | bin (op : Operator) (a b : E)
  | neg (a : E)
  | cmp (op : CmpOp) (a b : E)
  | not (a : E)
  | and (es : List E)
  | or (es : List E)
  | ite (t : B) (a b : E)
  | call (f : Nat) (es : List E)
  | bi (b : Bi) (es : List E)
  | bm (m : Bm) (o : E) (es : List E)
  | me (m : Me) (o : E) (es : List E)
  | getd (o k d : E)
  | get1 (o k : E)
  | join (a b : E)
  | isi (t : Ty) (a : E)
  | idx (o i : E)
  | sl (o : E) (lo hi : List E)
  | comp (elt : E) (t : T) (ik : Ik) (es : List E) (cond : List B) (own : List Nat)
  | fld (c : Nat) (o : E) (f : Tx)
  | meth (c : Nat) (m : Tx) (f : Nat) (o : E) (es : List E)
  | make (c : Nat) (f : Nat) (es : List E)
/-- a test -/
inductive B where
  | e (x : E)
  | not (a : B)
  | and (bs : List B)
  | or (bs : List B)
end
instance : Inhabited E := ⟨.lst []⟩
instance : Inhabited B := ⟨.and []⟩

inductive S where
  | asg (t : T) (e : E)
  | asgI (o i e : E)
  | asgF (c : Nat) (o : E) (f : Tx) (e : E)
  | augF (c : Nat) (o : E) (f : Tx) (op : Operator) (e : E)
  | aug (i : Nat) (op : Operator) (e : E)
  | ex (e : E)
  | ret (e : E)
  | retN
  | iff (c : B) (a b : List S)
  | forr (t : T) (ik : Ik) (es : List E) (body : List S)
  | while (c : B) (body : List S)
  | brk | cnt | pass | any
  deriving Inhabited

/-- one def -/
structure Fn where
  np : Nat
  ns : Nat
  keep : List Bool
  body : List S
  deriving Inhabited

def sizeL : Nat := 16777216

/-! ### the operations on contents -/
mutual
def PV.plain : PV → Bool
  | .non => true
  | .int _ => true
  | .str s => s.all fun c => decide (c < 1114112)
  | .tup xs => PV.plains xs
  | _ => false
def PV.plains : List PV → Bool
  | [] => true
  | a :: r => PV.plain a && PV.plains r
end
mutual
def PV.depth : PV → Nat
  | .tup xs => PV.depths xs + 1
  | _ => 0
def PV.depths : List PV → Nat
  | [] => 0
  | a :: r => max (PV.depth a) (PV.depths r)
end

def mulOk (i j : Int) : Bool := decide (i.natAbs.log2 + j.natAbs.log2 < 1000000)

def binop : Operator → SV → SV → Option SV
  | .Add, .pv (.int a), .pv (.int b) => some (.pv (.int (a + b)))
  | .Add, .pv (.str a), .pv (.str b) => if a.length + b.length ≤ sizeL then some (.pv (.str (a ++ b))) else none
  | .Add, .own (.lst a), .own (.lst b) => if a.length + b.length ≤ sizeL then some (.own (.lst (a ++ b))) else none
  | .Mult, .own (.lst a), .pv (.int b) => if 0 ≤ b ∧ b < 2 ^ 62 ∧ a.length * b.toNat ≤ sizeL then some (.own (.lst (List.replicate b.toNat a).flatten)) else none
  | .Add, .pv (.tup a), .pv (.tup b) => if a.length + b.length ≤ sizeL then some (.pv (.tup (a ++ b))) else none
  | .Sub, .pv (.int a), .pv (.int b) => some (.pv (.int (a - b)))
  | .Mult, .pv (.int a), .pv (.int b) => if mulOk a b then some (.pv (.int (a * b))) else none
  | .FloorDiv, .pv (.int a), .pv (.int b) => if b ≠ 0 ∧ b.natAbs < 1073741824 then some (.pv (.int (a.fdiv b))) else if 0 < b ∧ b.natAbs.log2 < 9000 then some (.pv (.int (a.fdiv b))) else none
  | .Mod, .pv (.int a), .pv (.int b) => if b ≠ 0 then some (.pv (.int (a.fmod b))) else none
  | .Pow, .pv (.int a), .pv (.int b) => if 0 ≤ b ∧ b ≤ 1000000 ∧ a.natAbs < 2 ^ 64 then some (.pv (.int (a ^ b.toNat))) else none
  | _, _, _ => none

def eqSV : SV → SV → Option Bool
  | .pv (.bl a), .pv (.bl b) => some (decide (a = b))
  | .pv a, .pv b => if a.plain && b.plain && decide (a.depth ≤ 150) && decide (b.depth ≤ 150) then some (decide (a = b)) else none
  | .own (.lst a), .own (.lst b) => if PV.plains a && PV.plains b && decide (PV.depths a ≤ 149) && decide (PV.depths b ≤ 149) then some (decide (a = b)) else none
  | .own (.flst a), .own (.lst b) => if PV.plains a && PV.plains b && decide (PV.depths a ≤ 149) && decide (PV.depths b ≤ 149) then some (decide (a = b)) else none
  | _, _ => none

def ltTx : Tx → Tx → Bool := fun a b => decide (a < b)

mutual
/-- < of data: the first place that differs decides -/
def PV.lt : PV → PV → Option Bool
  | .int a, .int b => some (decide (a < b))
  | .str a, .str b => some (ltTx a b)
  | .tup a, .tup b => PV.lts a b
  | _, _ => none
def PV.lts : List PV → List PV → Option Bool
  | [], [] => some false
  | [], _ :: _ => some true
  | _ :: _, [] => some false
  | x :: xs, y :: ys => if x = y then PV.lts xs ys else PV.lt x y
end
def cmpop : CmpOp → SV → SV → Option Bool
  | .Eq, a, b => eqSV a b
  | .NotEq, a, b => (eqSV a b).map (!·)
  | .Lt, .pv (.int a), .pv (.int b) => some (decide (a < b))
  | .LtE, .pv (.int a), .pv (.int b) => some (decide (a ≤ b))
  | .Gt, .pv (.int a), .pv (.int b) => some (decide (b < a))
  | .GtE, .pv (.int a), .pv (.int b) => some (decide (b ≤ a))
  | .Lt, .pv (.str a), .pv (.str b) => some (ltTx a b)
  | .LtE, .pv (.str a), .pv (.str b) => some (!ltTx b a)
  | .Gt, .pv (.str a), .pv (.str b) => some (ltTx b a)
  | .GtE, .pv (.str a), .pv (.str b) => some (!ltTx a b)
  | .Lt, .pv (.tup a), .pv (.tup b) => if PV.plains a && PV.plains b && decide (PV.depths a ≤ 140) && decide (PV.depths b ≤ 140) then PV.lts a b else none
  | _, _, _ => none

/-- a total order of data, which is < where that answers -/
def PV.rank : PV → Nat
  | .non => 0 | .bl _ => 1 | .int _ => 2 | .str _ => 3 | .tup _ => 4 | .loc _ => 5 | .fn _ => 6
mutual
def PV.tlt : PV → PV → Bool
  | .int a, .int b => decide (a < b)
  | .str a, .str b => ltTx a b
  | .bl a, .bl b => !a && b
  | .loc a, .loc b => decide (a < b)
  | .fn a, .fn b => decide (a < b)
  | .tup a, .tup b => PV.tlts a b
  | a, b => decide (a.rank < b.rank)
def PV.tlts : List PV → List PV → Bool
  | [], [] => false
  | [], _ :: _ => true
  | _ :: _, [] => false
  | x :: xs, y :: ys => if x = y then PV.tlts xs ys else PV.tlt x y
end
def insPV (x : PV) : List PV → List PV
  | [] => [x]
  | y :: r => if PV.tlt x y then x :: y :: r else y :: insPV x r
def sortPV : List PV → List PV
  | [] => []
  | x :: r => insPV x (sortPV r)
/-- what may be sorted: tuples that begin alike, and < answers of each two -/
def PV.head : PV → Nat
  | .tup (.int _ :: _) => 1
  | .tup (.str _ :: _) => 2
  | .tup (.tup _ :: _) => 3
  | _ => 0
def sortable (xs : List PV) : Bool :=
  decide (xs.length ≤ sizeL) && PV.plains xs && decide (PV.depths xs ≤ 100) && (xs.all fun x => x.head != 0 && x.head == ((xs.head?.map PV.head).getD 0)) && (xs.all fun x => xs.all fun y => (PV.lt x y).isSome)
/-- texts in order -/
def insTx (x : Tx) : List Tx → List Tx
  | [] => [x]
  | y :: r => if x < y then x :: y :: r else y :: insTx x r
def sortTx : List Tx → List Tx
  | [] => []
  | x :: r => insTx x (sortTx r)
def asTx : List PV → Option (List Tx)
  | [] => some []
  | .str s :: r => (asTx r).map (s :: ·)
  | _ => none
def asInts : List PV → Option (List Int)
  | [] => some []
  | .int s :: r => (asInts r).map (s :: ·)
  | _ => none
def asBools : List PV → Option (List Bool)
  | [] => some []
  | .bl s :: r => (asBools r).map (s :: ·)
  | _ => none
def joinTx (sep : Tx) : List Tx → Tx
  | [] => []
  | [x] => x
  | x :: r => x ++ sep ++ joinTx sep r

/-- keys: ints and texts -/
def PV.isKey : PV → Bool
  | .int _ => true
  | .str _ => true
  | _ => false
def dlook (kvs : List (PV × PV)) (k : PV) : Option PV := (kvs.find? fun p => decide (p.1 = k)).map (·.2)
def dput (kvs : List (PV × PV)) (k v : PV) : List (PV × PV) :=
  if kvs.any fun p => decide (p.1 = k) then kvs.map fun p => if p.1 = k then (p.1, v) else p else kvs ++ [(k, v)]
def flook (fs : List (Tx × PV)) (k : Tx) : Option PV := (fs.find? fun p => decide (p.1 = k)).map (·.2)
def fput : List (Tx × PV) → Tx → PV → List (Tx × PV)
  | [], k, v => [(k, v)]
  | p :: r, k, v => if p.1 = k then (p.1, v) :: r else p :: fput r k v

/-- the place that an index names -/
def ixOf (n : Nat) (i : Int) : Option Nat := if 0 ≤ i then (if i < n then some i.toNat else none) else if -(n : Int) ≤ i then some (i + n).toNat else none
def atOf {α : Type} (xs : List α) (i : Int) : Option α := (ixOf xs.length i).bind fun j => xs[j]?

def index : SV → SV → Option PV
  | .own (.lst xs), .pv (.int i) => atOf xs i
  | .own (.flst xs), .pv (.int i) => atOf xs i
  | .pv (.tup xs), .pv (.int i) => atOf xs i
  | .pv (.str s), .pv (.int i) => if s.length ≤ sizeL then (atOf s i).map fun c => .str [c] else none
  | .own (.dic kvs), .pv k => if k.isKey then dlook kvs k else none
  | .own (.fdic kvs), .pv k => if k.isKey then dlook kvs k else none
  | .own (.tdic kvs), .pv (.str x) => dlook kvs (.str x)
  | _, _ => none

/-- a slice's bound -/
def sbnd (n d : Nat) : Option Int → Nat
  | none => d
  | some i => if i < 0 then (i + n).toNat else min i.toNat n
def cut {α : Type} (xs : List α) (lo hi : Option Int) : List α := (xs.drop (sbnd xs.length 0 lo)).take (sbnd xs.length xs.length hi - sbnd xs.length 0 lo)
def slice : SV → Option Int → Option Int → Option SV
  | .own (.lst xs), lo, hi => some (.own (.lst (cut xs lo hi)))
  | .own (.flst xs), lo, hi => some (.own (.lst (cut xs lo hi)))
  | .pv (.tup xs), lo, hi => some (.pv (.tup (cut xs lo hi)))
  | .pv (.str xs), lo, hi => if xs.length ≤ sizeL then some (.pv (.str (cut xs lo hi))) else none
  | _, _, _ => none

def truth : SV → Option Bool
  | .pv (.bl b) => some b
  | .pv .non => some false
  | .pv (.int i) => some (i != 0)
  | .pv (.str s) => if s.length ≤ sizeL then some (s.length != 0) else none
  | .own (.lst xs) => some (!xs.isEmpty)
  | _ => none

def inop : SV → SV → Option Bool
  | .pv (.str c), .own (.lst xs) => match asTx xs with
    | some ts => some (ts.contains c)
    | none => none
  | .pv (.int c), .own (.lst xs) => match asInts xs with
    | some ts => some (ts.contains c)
    | none => none
  | .pv (.str c), .pv (.tup xs) => match asTx xs with
    | some ts => some (ts.contains c)
    | none => none
  | .pv k, .own (.lst xs) => if k.plain && PV.plains xs && decide (k.depth ≤ 60) && decide (PV.depths xs ≤ 60) then some (decide (k ∈ xs)) else none
  | .pv (.tup ys), .pv (.tup xs) => if (PV.tup ys).plain && PV.plains xs && decide ((PV.tup ys).depth ≤ 60) && decide (PV.depths xs ≤ 60) then some (decide (PV.tup ys ∈ xs)) else none
  | .pv k, .own (.dic kvs) => if k.isKey then some (dlook kvs k).isSome else none
  | .pv k, .own (.fdic kvs) => if k.isKey then some (dlook kvs k).isSome else none
  | .pv (.str [c]), .pv (.str s) => some (s.contains c)
  | _, _ => none

def cmpall : CmpOp → SV → SV → Option Bool
  | .In, a, b => inop a b
  | .NotIn, a, b => (inop a b).map (!·)
  | .Is, a, .pv .non => some (decide (a = .pv .non))
  | .IsNot, a, .pv .non => some (!decide (a = .pv .non))
  | op, a, b => cmpop op a b

def intTx (n : Int) : Tx := (PySem.Str.ofString (toString n)).cps.toList

/-- int(text) -/
def txInt (s : Tx) : Option Int := if s.length ≤ 640 then PySem.intText? ⟨s.toArray⟩ else none
/-- a dict of pairs -/
def asPairs : List PV → Option (List (PV × PV))
  | [] => some []
  | .tup [k, v] :: r => if k.isKey then (asPairs r).map ((k, v) :: ·) else none
  | _ => none
def dpairs (xs : List PV) : Option (List (PV × PV)) := (asPairs xs).map fun ps => ps.foldl (fun acc p => dput acc p.1 p.2) []
/-- a text cut at a separator -/
def splitTx (a b : Tx) : List Tx := (PySem.Txt.split ⟨a.toArray⟩ ⟨b.toArray⟩).map fun s => s.cps.toList
/-- methods that only look: the receiver's type, the answer -/
def meTy : Me → SV → Bool
  | .index, .own (.lst _) => true
  | .split, .pv (.str _) => true
  | .startswith, .pv (.str _) => true
  | _, _ => false
def meFn : Me → SV → List SV → Option SV
  | .index, .own (.lst xs), [.pv p] => if p.plain && PV.plains xs && decide (p.depth ≤ 60) && decide (PV.depths xs ≤ 60) then (xs.findIdx? fun x => decide (x = p)).map fun (j : Nat) => SV.pv (.int (j : Int)) else none
  | .split, .pv (.str a), [.pv (.str (c :: b))] => if a.length + 2 ≤ sizeL then some (.own (.lst ((splitTx a (c :: b)).map .str))) else none
  | .startswith, .pv (.str a), [.pv (.str b)] => some (.pv (.bl (PySem.Txt.startswith ⟨a.toArray⟩ ⟨b.toArray⟩)))
  | _, _, _ => none
/-- built-in functions of contents -/
def biFn : Bi → List SV → Option SV
  | .len, [.own (.lst xs)] => some (.pv (.int xs.length))
  | .len, [.own (.flst xs)] => some (.pv (.int xs.length))
  | .len, [.pv (.tup xs)] => some (.pv (.int xs.length))
  | .len, [.pv (.str s)] => if s.length ≤ sizeL then some (.pv (.int s.length)) else none
  | .len, [.own (.dic kvs)] => some (.pv (.int kvs.length))
  | .tuple, [.own (.lst xs)] => some (.pv (.tup xs))
  | .tuple, [.pv (.tup xs)] => some (.pv (.tup xs))
  | .list, [.own (.lst xs)] => some (.own (.lst xs))
  | .list, [.own (.flst xs)] => some (.own (.lst xs))
  | .list, [.pv (.tup xs)] => some (.own (.lst xs))
  | .str, [.pv (.int n)] => if n.natAbs.log2 < 1920 then some (.pv (.str (intTx n))) else none
  | .str, [.pv (.str s)] => some (.pv (.str s))
  | .int, [.pv (.int n)] => some (.pv (.int n))
  | .int, [.pv (.bl b)] => some (.pv (.int (if b then 1 else 0)))
  | .int, [.pv (.str s)] => (txInt s).map fun n => .pv (.int n)
  | .abs, [.pv (.int n)] => some (.pv (.int (if n < 0 then -n else n)))
  | .sum, [.own (.lst xs)] => (asInts xs).map fun ns => .pv (.int ns.sum)
  | .sum, [.own (.flst xs)] => (asInts xs).map fun ns => .pv (.int ns.sum)
  | .all, [.own (.lst xs)] => (asBools xs).map fun ns => .pv (.bl (ns.all id))
  | .any, [.own (.lst xs)] => (asBools xs).map fun ns => .pv (.bl (ns.any id))
  | .sorted, [.own (.dic kvs)] => if kvs.length ≤ sizeL then (asTx (kvs.map (·.1))).map fun ts => .own (.lst ((sortTx ts).map .str)) else none
  | .sorted, [.own (.lst xs)] => if xs.length ≤ sizeL then (match asTx xs with
    | some ts => some (.own (.lst ((sortTx ts).map .str)))
    | none => if sortable xs then some (.own (.lst (sortPV xs))) else none) else none
  | .dict, [.own (.dic kvs)] => some (.own (.dic kvs))
  | .dict, [.own (.lst xs)] => (dpairs xs).map fun kvs => .own (.dic kvs)
  | .dict, [.pv (.tup xs)] => (dpairs xs).map fun kvs => .own (.dic kvs)
  | .min2, [.pv (.int a), .pv (.int b)] => some (.pv (.int (if b < a then b else a)))
  | .max2, [.pv (.int a), .pv (.int b)] => some (.pv (.int (if b > a then b else a)))
  | _, _ => none

def SV.ty : SV → Option Ty
  | .pv (.int _) => some .int
  | .pv (.bl _) => some .bool
  | .pv (.str _) => some .str
  | .pv (.tup _) => some .tuple
  | .own (.lst _) => some .list
  | .own (.dic _) => some .dict
  | _ => none
def Ty.sub : Ty → Ty → Bool
  | .bool, .int => true
  | a, b => decide (a = b)
/-- sorted(set(texts)) -/
def addTx (ks : List Tx) (t : Tx) : List Tx := if t ∈ ks then ks else t :: ks
def ssetOf : SV → Option SV
  | .own (.lst xs) => if xs.length < 64 then (asTx xs).map fun ts => .own (.lst ((sortTx (ts.foldl addTx [])).map .str)) else none
  | _ => none
/-- sorted(d.items()), the keys texts -/
def sitOf : SV → Option SV
  | .own (.dic kvs) => if sortable (kvs.map fun p => .tup [p.1, p.2]) then some (.own (.lst (sortPV (kvs.map fun p => .tup [p.1, p.2])))) else none
  | _ => none
def joinOf (sep : Tx) : SV → Option PV
  | .own (.lst xs) => match asTx xs with
    | some ts => if (ts.map (·.length)).sum + ts.length * sep.length ≤ sizeL then some (.str (joinTx sep ts)) else none
    | none => none
  | _ => none
def isDic : SV → Bool
  | .own (.dic _) => true
  | .own (.fdic _) => true
  | _ => false
def dgetd : SV → SV → PV → Option PV
  | .own (.dic kvs), .pv k, d => if k.isKey then some ((dlook kvs k).getD d) else none
  | .own (.fdic kvs), .pv k, d => if k.isKey then some ((dlook kvs k).getD d) else none
  | _, _, _ => none
/-- methods that change: the receiver's content, the arguments' contents: the new object, the answer -/
def bmf : Bm → Obj → List SV → Option (Obj × PV)
  | .append, .lst xs, [.pv p] => if xs.length < sizeL then some (.lst (xs ++ [p]), .non) else none
  | .extend, .lst xs, [.own (.lst ys)] => if xs.length + ys.length ≤ sizeL then some (.lst (xs ++ ys), .non) else none
  | .insert, .lst xs, [.pv (.int i), .pv p] => if xs.length < sizeL ∧ 0 ≤ i ∧ i < 2 ^ 62 then some (.lst (xs.take i.toNat ++ [p] ++ xs.drop i.toNat), .non) else none
  | .pop, .lst xs, [] => match xs[xs.length - 1]? with
    | some y => some (.lst xs.dropLast, y)
    | none => none
  | .popAt, .lst xs, [.pv (.int i)] => if -(2 ^ 62) ≤ i ∧ i < 2 ^ 62 then (ixOf xs.length i).bind fun j => (xs[j]?).map fun y => (.lst (xs.eraseIdx j), y) else none
  | _, _, _ => none
/-- which arguments are boxed -/
def Bm.boxes : Bm → Bool
  | .append => true
  | .insert => true
  | _ => false

def setix : Obj → PV → PV → Option Obj
  | .lst xs, .int i, v => (ixOf xs.length i).map fun j => .lst (xs.set j v)
  | .dic kvs, k, v => if k.isKey && decide (kvs.length < sizeL) then some (.dic (dput kvs k v)) else none
  | _, _, _ => none

mutual
/-- a target gets a value -/
def bindT : T → SV → List (Option SV) → Option (List (Option SV))
  | .nm i, v, sg => some (sg.set i (some v))
  | .tup ts, .pv (.tup xs), sg => bindTs ts xs sg
  | _, _, _ => none
def bindTs : List T → List PV → List (Option SV) → Option (List (Option SV))
  | [], [], sg => some sg
  | t :: ts, x :: xs, sg => (bindT t (.pv x) sg).bind fun sg' => bindTs ts xs sg'
  | _, _, _ => none
end
mutual
def T.slots : T → List Nat
  | .nm i => [i]
  | .tup ts => T.slotss ts
def T.slotss : List T → List Nat
  | [] => []
  | t :: r => t.slots ++ T.slotss r
end

/-- what is walked: its items; the operand that has to stay as it is -/
def itemsOf : Ik → List SV → Option (List PV)
  | .it, [.own (.lst xs)] => some xs
  | .it, [.own (.flst xs)] => some xs
  | .it, [.pv (.tup xs)] => some xs
  | .it, [.pv (.str s)] => some (s.map fun c => .str [c])
  | .range, [.pv (.int n)] => if -(2 ^ 62) ≤ n ∧ n < 2 ^ 62 then some ((List.range n.toNat).map fun (i : Nat) => PV.int (i : Int)) else none
  | .range, [.pv (.int a), .pv (.int b)] => if -(2 ^ 62) ≤ a ∧ a < 2 ^ 62 ∧ -(2 ^ 62) ≤ b ∧ b < 2 ^ 62 then some ((List.range (b - a).toNat).map fun (i : Nat) => PV.int (a + (i : Int))) else none
  | .zip, [.own (.lst xs), .own (.lst ys)] => some ((xs.zip ys).map fun p => .tup [p.1, p.2])
  | .zip, [.pv (.tup xs), .pv (.tup ys)] => some ((xs.zip ys).map fun p => .tup [p.1, p.2])
  | .zip, [.pv (.str s), .pv (.tup ys)] => if s.all (fun c => decide (c < 128)) then some (((s.map fun c => PV.str [c]).zip ys).map fun p => .tup [p.1, p.2]) else none
  | .items, [.own (.dic kvs)] => some (kvs.map fun p => .tup [p.1, p.2])
  | .enum, [.own (.lst xs)] => some (xs.zipIdx.map fun p => .tup [.int p.2, p.1])
  | .enum, [.pv (.tup xs)] => some (xs.zipIdx.map fun p => .tup [.int p.2, p.1])
  | _, _ => none

/-- arguments handed over: what a slot owns is handed over and given back (keep), or laid in the store -/
def pass : List Opd → List Bool → M (List (SV × Option Nat))
  | [], _ => pure []
  | .slot i :: os, ks => fun s => match s.get i with
    | some (.own o) => if ks.headD false then (do let r ← pass os ks.tail; pure ((SV.own o, some i) :: r)) (s.put i none)
      else (do let p ← box (.slot i); let r ← pass os ks.tail; pure ((SV.pv p, none) :: r)) s
    | some (.pv p) => (do let r ← pass os ks.tail; pure ((SV.pv p, none) :: r)) s
    | none => .bad
  | .val v :: os, ks => do
    let r ← pass os ks.tail
    pure ((v, none) :: r)
  | .tab _ :: _, _ => M.bad
def giveBack : List (SV × Option Nat) → List (Option SV) → List (Option SV) → Option (List (Option SV))
  | [], _, sg => some sg
  | (_, none) :: r, ps, sg => giveBack r ps.tail sg
  | (_, some i) :: r, ps, sg => match ps.headD none with
    | some v => giveBack r ps.tail (sg.set i (some v))
    | none => none

/-- a call's way: by the number of the def -/
abbrev Cl := Nat → List SV → List Obj → Out SV

/-- behind a call: what was handed over is given back -/
def callEnd (args : List (SV × Option Nat)) (s1 : St) : Out SV → Out Opd
  | .ok v s2 => (match giveBack args s2.sg s1.sg with
    | some sg => .ok (.val v) { sg := sg, mu := s2.mu }
    | none => .bad)
  | .exc x s2 => (match giveBack args s2.sg s1.sg with
    | some sg => .exc x { sg := sg, mu := s2.mu }
    | none => .bad)
  | .bad => .bad
def callF (fns : List Fn) (cl : Cl) (f : Nat) (os : List Opd) : M Opd :=
  match fns[f]? with
  | none => M.bad
  | some fn => if os.length = fn.np then do
      let args ← pass os fn.keep
      fun s1 => callEnd args s1 (cl f (args.map (·.1)) s1.mu)
    else M.bad

/-- an instance of the class c: its fields -/
def insOf (c : Nat) : SV → Option (List (Tx × PV))
  | .own (.ins k fs) => if k = c then some fs else none
  | _ => none
/-- behind an instance's __init__ -/
def makeEnd (args : List (SV × Option Nat)) (s1 : St) : Out SV → Out Opd
  | .ok (.pv .non) s2 => (match giveBack args s2.sg s1.sg, s2.sg with
    | some sg, some (.own o) :: _ => .ok (.val (.own o)) { sg := sg, mu := s2.mu }
    | _, _ => .bad)
  | .ok _ _ => .bad
  | .exc x s2 => (match giveBack args s2.sg s1.sg with
    | some sg => .exc x { sg := sg, mu := s2.mu }
    | none => .bad)
  | .bad => .bad
def makeF (fns : List Fn) (cl : Cl) (c f : Nat) (os : List Opd) : M Opd :=
  match fns[f]? with
  | none => M.bad
  | some fn => if os.length + 1 = fn.np then do
      let args ← pass (.val (.own (.ins c [])) :: os) fn.keep
      fun s1 => makeEnd args s1 (cl f (args.map (·.1)) s1.mu)
    else M.bad

/-- the slots of a comprehension's own names forgotten, and laid back -/
def wipeS (sg : List (Option SV)) : List Nat → List (Option SV)
  | [] => sg
  | i :: r => (wipeS sg r).set i none
def layBack (old sg : List (Option SV)) : List Nat → List (Option SV)
  | [] => sg
  | i :: r => (layBack old sg r).set i ((old[i]?).getD none)

/-- the sources stand as they stood -/
def stands (os : List Opd) (cs : List SV) (s : St) : Bool := decide (os.map (cont · s) = cs.map some)

def conts : List Opd → M (List SV) := fun os s => match os.mapM (cont · s) with
  | some cs => .ok cs s
  | none => .bad

structure Env where
  fns : List Fn
  tabs : List SV
  cl : Cl
  np : Nat

/-- the comprehension's own names are forgotten -/
def St.wipe (s : St) (own : List Nat) : St := { s with sg := wipeS s.sg own }
def compL (cond : M Bool) (elt : M Opd) (t : T) (still : St → Bool) (own : List Nat) : List PV → List PV → M (List PV)
  | [], acc => fun s => if still (s.wipe own) then .ok acc (s.wipe own) else .bad
  | x :: xs, acc => fun s => if still (s.wipe own) then
      (match bindT t (.pv x) (s.wipe own).sg with
      | some sg => (do
          let b ← cond
          if b then
            let o ← elt
            let p ← box o
            if acc.length < sizeL then compL cond elt t still own xs (acc ++ [p]) else M.bad
          else compL cond elt t still own xs acc) { s with sg := sg }
      | none => .bad)
    else .bad

def cont1 (x : Opd) : M SV := fun s => match cont x s with
  | some c => .ok c s
  | none => .bad
def cont2 (x y : Opd) : M (SV × SV) := fun s => match cont x s, cont y s with
  | some c, some d => .ok (c, d) s
  | _, _ => .bad
def isBl : Opd → M Bool
  | .val (.pv (.bl b)) => pure b
  | _ => M.bad
def isTx : Opd → M Tx
  | .val (.pv (.str b)) => pure b
  | _ => M.bad
def isPv : Opd → M PV
  | .val (.pv p) => pure p
  | _ => M.bad
def isInt : Opd → M Int
  | .val (.pv (.int b)) => pure b
  | _ => M.bad
def isLst : SV → Bool
  | .own (.lst _) => true
  | _ => false
/-- a method that changes its receiver -/
def mutate (m : Bm) (x : Opd) (os : List Opd) : M Opd := do
  let cs ← (if m.boxes then (do let ps ← boxs os; pure (ps.map SV.pv)) else conts os)
  let c ← cont1 x
  match c with
  | .own ob => (match bmf m ob cs with
    | some (ob', p) => do
      wback x ob'
      pure (.val (.pv p))
    | none => M.bad)
  | _ => M.bad
def compEnd (s0 : St) (own : List Nat) : Out (List PV) → Out Opd
  | .ok ps s1 => .ok (.val (.own (.lst ps))) { s1 with sg := layBack s0.sg s1.sg own }
  | .exc _ _ => .bad
  | .bad => .bad
/-- a display -/
def dmk (ks : List Tx) (ps : List PV) : List (PV × PV) := (ks.zip ps).map fun p => (.str p.1, p.2)
/-- the source of a loop -/
def srcOf (ik : Ik) (os : List Opd) : M (List Opd × List SV × List PV) := do
  let cs ← conts os
  let xs ← M.ofo (itemsOf ik cs)
  pure (os, cs, xs)

mutual
def ev (N : Env) : E → M Opd
  | .c v => pure (.val (.pv v))
  | .any => M.bad
  | .sset a => do
    let x ← ev N a
    let c ← cont1 x
    M.ofo ((ssetOf c).map .val)
  | .sit a => do
    let x ← ev N a
    let c ← cont1 x
    M.ofo ((sitOf c).map .val)
  | .isiT ts a => do
    let x ← ev N a
    let c ← cont1 x
    M.ofo ((c.ty).map fun u => .val (.pv (.bl (ts.any fun t => u.sub t))))
  | .var i => fun s => match s.get i with
    | some (.pv p) => .ok (.val (.pv p)) s
    | some (.own _) => .ok (.slot i) s
    | none => .bad
  | .tab x => M.ofo (N.tabs[x]?.map tabOpd)
  | .tup es => do
    let os ← evs N es
    let ps ← boxs os
    pure (.val (.pv (.tup ps)))
  | .lst es => do
    let os ← evs N es
    let ps ← boxs os
    pure (.val (.own (.lst ps)))
  | .dic ks vs => do
    let os ← evs N vs
    let ps ← boxs os
    if ks.Nodup ∧ ks.length = ps.length then pure (.val (.own (.dic (dmk ks ps)))) else M.bad
  | .bin op a b => do
    let x ← ev N a
    let y ← ev N b
    let c ← cont2 x y
    M.ofo ((binop op c.1 c.2).map .val)
  | .neg a => do
    let x ← ev N a
    let i ← isInt x
    pure (.val (.pv (.int (-i))))
  | .cmp op a b => do
    let x ← ev N a
    let y ← ev N b
    let c ← cont2 x y
    M.ofo ((cmpall op c.1 c.2).map fun r => .val (.pv (.bl r)))
  | .not a => do
    let x ← ev N a
    let b ← isBl x
    pure (.val (.pv (.bl !b)))
  | .and es => evAndV N es
  | .or es => evOrV N es
  | .ite t a b => do
    let c ← evT N t
    if c then ev N a else ev N b
  | .call f es => do
    let os ← evs N es
    callF N.fns N.cl f os
  | .bi b es => do
    let os ← evs N es
    let cs ← conts os
    M.ofo ((biFn b cs).map .val)
  | .bm m o es => do
    let x ← ev N o
    let c ← cont1 x
    if isLst c then (do
      let os ← evs N es
      mutate m x os) else M.bad
  | .me m o es => do
    let x ← ev N o
    let c ← cont1 x
    if meTy m c then (do
      let os ← evs N es
      let c ← cont1 x
      let cs ← conts os
      M.ofo ((meFn m c cs).map .val)) else M.bad
  | .getd o k d => do
    let x ← ev N o
    let c ← cont1 x
    if isDic c then (do
      let y ← ev N k
      let z ← ev N d
      let c ← cont2 x y
      let p ← isPv z
      M.ofo ((dgetd c.1 c.2 p).map fun p => .val (.pv p))) else M.bad
  | .get1 o k => do
    let x ← ev N o
    let c ← cont1 x
    if isDic c then (do
      let y ← ev N k
      let c ← cont2 x y
      M.ofo ((dgetd c.1 c.2 .non).map fun p => .val (.pv p))) else M.bad
  | .join a b => do
    let x ← ev N a
    let sep ← isTx x
    let y ← ev N b
    let c ← cont1 y
    M.ofo ((joinOf sep c).map fun p => .val (.pv p))
  | .isi t a => do
    let x ← ev N a
    let c ← cont1 x
    M.ofo ((c.ty).map fun u => .val (.pv (.bl (u.sub t))))
  | .idx o i => do
    let x ← ev N o
    let y ← ev N i
    let c ← cont2 x y
    M.ofo ((index c.1 c.2).map fun p => .val (.pv p))
  | .sl o lo hi => do
    let x ← ev N o
    let l ← evB N lo
    let h ← evB N hi
    let c ← cont1 x
    M.ofo ((slice c l h).map .val)
  | .fld c o f => do
    let x ← ev N o
    let k ← cont1 x
    M.ofo (((insOf c k).bind fun fs => flook fs f).map fun p => .val (.pv p))
  | .meth c m f o es => do
    let x ← ev N o
    let k ← cont1 x
    let fs ← M.ofo (insOf c k)
    if (flook fs m).isNone then (do
      let os ← evs N es
      callF N.fns N.cl f (x :: os)) else M.bad
  | .make c f es => do
    let os ← evs N es
    makeF N.fns N.cl c f os
  | .comp elt t ik es cond own => do
    let os ← evs N es
    let r ← srcOf ik os
    fun s => compEnd s own (compL (evAnd N cond) (ev N elt) t (stands r.1 r.2.1) own r.2.2 [] s)
def evs (N : Env) : List E → M (List Opd)
  | [] => pure []
  | e :: es => do
    let o ← ev N e
    let os ← evs N es
    pure (o :: os)
def evB (N : Env) : List E → M (Option Int)
  | [] => pure none
  | e :: _ => do
    let o ← ev N e
    let i ← isInt o
    pure (some i)
def evT (N : Env) : B → M Bool
  | .e x => do
    let o ← ev N x
    let c ← cont1 o
    M.ofo (truth c)
  | .not a => do
    let b ← evT N a
    pure !b
  | .and bs => evAnd N bs
  | .or bs => evOr N bs
def evAnd (N : Env) : List B → M Bool
  | [] => pure true
  | e :: es => do
    let b ← evT N e
    if b then evAnd N es else pure false
def evOr (N : Env) : List B → M Bool
  | [] => pure false
  | e :: es => do
    let b ← evT N e
    if b then pure true else evOr N es
def evAndV (N : Env) : List E → M Opd
  | [] => M.bad
  | [e] => ev N e
  | e :: e2 :: es => do
    let x ← ev N e
    let b ← isBl x
    if b then evAndV N (e2 :: es) else pure (.val (.pv (.bl false)))
def evOrV (N : Env) : List E → M Opd
  | [] => M.bad
  | [e] => ev N e
  | e :: e2 :: es => do
    let x ← ev N e
    let b ← isBl x
    if b then pure (.val (.pv (.bl true))) else evOrV N (e2 :: es)
end

inductive Fl where
  | nx | brk | cnt | ret (v : SV)
  deriving Inhabited, Repr

def augop : Operator → PV → Int → Option PV
  | .Add, .int a, b => some (.int (a + b))
  | .Sub, .int a, b => some (.int (a - b))
  | _, _, _ => none
/-- the value of an operand, to be stored in a slot -/
def toSV : Opd → M SV
  | .val v => pure v
  | .slot i => do
    let p ← box (.slot i)
    pure (.pv p)
  | .tab _ => M.bad
def prot (pr : List Nat) (i : Nat) : Bool := pr.contains i
def store (pr : List Nat) (t : T) (v : SV) : M Unit := fun s =>
  if t.slots.any (prot pr) then .bad else match bindT t v s.sg with
    | some sg => .ok () { s with sg := sg }
    | none => .bad
def setAt (x : Opd) (i v : PV) : M Unit := do
  let c ← cont1 x
  match c with
  | .own ob => (match setix ob i v with
    | some ob' => wback x ob'
    | none => M.bad)
  | _ => M.bad
/-- a field gets a value -/
def setF (c : Nat) (x : Opd) (f : Tx) (v : PV) : M Unit := do
  let k ← cont1 x
  let fs ← M.ofo (insOf c k)
  if fs.length < 1000 then wback x (.ins c (fput fs f v)) else M.bad
/-- how many turns a while may take -/
def WF : Nat := 1000000000

/-- the slots that are walked -/
def srcSlots : List Opd → List Nat
  | [] => []
  | .slot i :: r => i :: srcSlots r
  | .val _ :: r => srcSlots r
  | .tab _ :: r => srcSlots r
def forL (body : M Fl) (pr : List Nat) (t : T) (still : St → Bool) : List PV → M Fl
  | [] => fun s => if still s then .ok .nx s else .bad
  | x :: xs => fun s => if still s then
      (match store pr t (.pv x) s with
      | .ok _ s1 => (match body s1 with
        | .ok .nx s2 => forL body pr t still xs s2
        | .ok .cnt s2 => forL body pr t still xs s2
        | .ok .brk s2 => .ok .nx s2
        | r => r)
      | .exc x s => .exc x s
      | .bad => .bad)
    else .bad
def whileL (c : M Bool) (body : M Fl) : Nat → M Fl
  | 0 => M.bad
  | n + 1 => fun s => match c s with
    | .ok true s1 => (match body s1 with
      | .ok .nx s2 => whileL c body n s2
      | .ok .cnt s2 => whileL c body n s2
      | .ok .brk s2 => .ok .nx s2
      | r => r)
    | .ok false s1 => .ok .nx s1
    | .exc x s1 => .exc x s1
    | .bad => .bad

mutual
def evS (N : Env) : S → List Nat → M Fl
  | .asg t e, pr => do
    let o ← ev N e
    let v ← toSV o
    store pr t v
    pure Fl.nx
  | .asgI o i e, pr => do
    let v ← ev N e
    let x ← ev N o
    let k ← ev N i
    let p ← box v
    let q ← box k
    setAt x q p
    pure Fl.nx
  | .asgF c o f e, pr => do
    let v ← ev N e
    let x ← ev N o
    let p ← box v
    setF c x f p
    pure Fl.nx
  | .augF c o f op e, pr => do
    let x ← ev N o
    let k ← cont1 x
    let a ← M.ofo ((insOf c k).bind fun fs => flook fs f)
    let y ← ev N e
    let b ← isInt y
    let v ← M.ofo (augop op a b)
    setF c x f v
    pure Fl.nx
  | .aug i op e, pr => fun s => match s.get i with
    | some (.pv a) => (do
      let o ← ev N e
      let b ← isInt o
      let v ← M.ofo (augop op a b)
      store pr (.nm i) (.pv v)
      pure Fl.nx) s
    | _ => .bad
  | .ex e, pr => do
    let _ ← ev N e
    pure Fl.nx
  | .ret e, pr => do
    let o ← ev N e
    match o with
    | .slot i => fun s => if i < N.np then (do let v ← toSV (.slot i); pure (Fl.ret v)) s
        else (match s.get i with
          | some v => .ok (.ret v) (s.put i none)
          | none => .bad)
    | o => do
      let v ← toSV o
      pure (Fl.ret v)
  | .retN, pr => pure (Fl.ret (.pv .non))
  | .iff c a b, pr => do
    let t ← evT N c
    if t then evSs N a pr else evSs N b pr
  | .forr t ik es body, pr => do
    let os ← evs N es
    let r ← srcOf ik os
    forL (evSs N body (srcSlots r.1 ++ pr)) (srcSlots r.1 ++ pr) t (stands r.1 r.2.1) r.2.2
  | .while c body, pr => whileL (evT N c) (evSs N body pr) WF
  | .brk, pr => pure Fl.brk
  | .cnt, pr => pure Fl.cnt
  | .pass, pr => pure Fl.nx
  | .any, pr => M.bad
def evSs (N : Env) : List S → List Nat → M Fl
  | [], _ => pure Fl.nx
  | a :: r, pr => do
    let f ← evS N a pr
    match f with
    | .nx => evSs N r pr
    | f => pure f
end

/-- the parameters that are kept -/
def keeps : List Bool → List (Option SV) → List (Option SV)
  | [], _ => []
  | k :: ks, sg => (if k then sg.headD none else none) :: keeps ks sg.tail
def keepIx : Nat → List Bool → List Nat
  | _, [] => []
  | n, b :: r => if b then n :: keepIx (n + 1) r else keepIx (n + 1) r
/-- a def's run -/
def runFn (fns : List Fn) (tabs : List SV) (cl : Cl) : Cl := fun f args mu => match fns[f]? with
  | none => .bad
  | some fn => if args.length = fn.np ∧ fn.keep.length = fn.np then
    (match evSs ⟨fns, tabs, cl, fn.np⟩ fn.body (keepIx 0 fn.keep) ⟨args.map some ++ List.replicate (fn.ns - fn.np) none, mu⟩ with
    | .ok (.ret v) s => .ok v { s with sg := keeps fn.keep s.sg }
    | .ok .nx s => .ok (.pv .non) { s with sg := keeps fn.keep s.sg }
    | .exc x s => .exc x { s with sg := keeps fn.keep s.sg }
    | _ => .bad) else .bad
def callK (fns : List Fn) (tabs : List SV) : Nat → Cl
  | 0 => fun _ _ _ => .bad
  | k + 1 => runFn fns tabs (callK fns tabs k)
/-- the law's run over a script -/
def runLaw (fns : List Fn) (tabs : List SV) (k law : Nat) (ns : List Int) : Bool := match callK fns tabs k law [.pv (.loc 0)] [.flst (ns.map .int)] with
  | .ok (.pv (.bl true)) _ => true
  | _ => false
end Kv

set_option Elab.async false
set_option linter.all false
set_option maxRecDepth 100000
/-! What a value of Kv stands for in the abstract heap of the hand layer. -/
namespace Kv
open PySem L2

/-- what may be own: tracked -/
def Obj.tr : Obj → Bool
  | .flst _ => false
  | .tdic _ => false
  | _ => true
structure Kx where
  K : PySem.W.Frag
  fa : Nat → Addr
  ca : Nat → Addr
  w : World

def toStr (s : Tx) : Str := ⟨s.toArray⟩

/-- a tuple without a dict of its own -/
def SqD (K : PySem.W.Frag) (H : Hp) (a : Addr) (xs : List V) : Prop :=
  (∃ o : PySem.Obj, H a = some (.frz o (.tup xs)) ∧ o.dict = none) ∨
    ∃ (o : PySem.Obj) (its : Array Value) (n : Nat), K.lookup a = some o ∧ o.cls = .type "tuple" ∧ o.dict = none ∧ o.data = .seq its n ∧ its.size ≤ sizeLine ∧ Vals xs its.toList
theorem SqD.t {K : PySem.W.Frag} {H : Hp} {a : Addr} {xs : List V} (h : SqD K H a xs) : SqT K H a xs := by
  rcases h with ⟨o, h, _⟩ | ⟨o, its, n, h1, h2, _, h3⟩
  · exact .inl (.inr ⟨o, h⟩)
  · exact .inr ⟨o, its, n, h1, h2, h3⟩
theorem SqD.new {K : PySem.W.Frag} {H : Hp} {a : Addr} {xs : List V} {u : HO} (h : KvT.TupO xs u) : SqD K (upd H a u) a xs := by
  obtain ⟨o, rfl, hd⟩ := h
  exact .inl ⟨o, upd_same, hd⟩

section
variable (Z : Kx)
mutual
def RepV (H : Hp) (al : List Addr) : PV → V → Prop
  | .non, v => v = .non
  | .bl b, v => v = .bl b
  | .int i, v => v = .int i
  | .str s, v => v = .str (toStr s)
  | .tup xs, v => ∃ a vs, v = .ref a ∧ SqD Z.K H a vs ∧ RepVs H al xs vs
  | .loc n, v => ∃ a, al[n]? = some a ∧ v = .ref a
  | .fn f, v => v = .ref (Z.fa f)
def RepVs (H : Hp) (al : List Addr) : List PV → List V → Prop
  | [], vs => vs = []
  | x :: xs, vs => ∃ v vr, vs = v :: vr ∧ RepV H al x v ∧ RepVs H al xs vr
end
def RepK (H : Hp) (al : List Addr) : List (PV × PV) → List (Key × V) → Prop
  | [], vs => vs = []
  | p :: xs, vs => ∃ k v vr, vs = (k, v) :: vr ∧ RepV Z H al p.1 (kV k) ∧ RepV Z H al p.2 v ∧ RepK H al xs vr
def RepF (H : Hp) (al : List Addr) : List (Tx × PV) → List (Str × V) → Prop
  | [], vs => vs = []
  | p :: xs, vs => ∃ v vr, vs = (toStr p.1, v) :: vr ∧ RepV Z H al p.2 v ∧ RepF H al xs vr
/-- a list that never changes -/
def FrzL (K : PySem.W.Frag) (H : Hp) (a : Addr) (xs : List V) : Prop :=
  (∃ o, H a = some (.frz o (.lst xs))) ∨
    ∃ (o : PySem.Obj) (its : Array Value) (n : Nat), K.lookup a = some o ∧ o.cls = .type "list" ∧ o.dict = none ∧ o.data = .seq its n ∧ its.size ≤ sizeLine ∧ Vals xs its.toList
/-- a written dict of the module -/
def TabOk (kvs : List (PV × PV)) (a : Addr) : Prop := ∀ (x : Tx) (p : PV), dlook kvs (.str x) = some p → ∃ v, KDct Z.K Z.w a (toStr x) v ∧ RepV Z (fun _ => none) [] p v
def RepO (H : Hp) (al : List Addr) : Obj → Addr → Prop
  | .lst xs, a => ∃ vs, H a = some (.lst vs) ∧ RepVs Z H al xs vs
  | .flst xs, a => ∃ vs, FrzL Z.K H a vs ∧ RepVs Z H al xs vs
  | .dic kvs, a => ∃ hk, H a = some (.dK hk) ∧ RepK Z H al kvs hk
  | .fdic kvs, a => ∃ hk o, H a = some (.frz o (.dK hk)) ∧ RepK Z H al kvs hk
  | .tdic kvs, a => TabOk Z kvs a
  | .ins c fs, a => ∃ dx hf, H a = some (.ins (Z.ca c) dx hf) ∧ RepF Z H al fs hf
def RepS (H : Hp) (al : List Addr) : SV → V → Prop
  | .pv p, v => RepV Z H al p v
  | .own o, v => ∃ a, v = .ref a ∧ RepO Z H al o a
end

/-- the slot i owns what stands at a -/
def OwnAt (s : Kv.St) (σ : L2.St) (i : Nat) (a : Addr) : Prop := ∃ o : Obj, s.sg[i]? = some (some (SV.own o)) ∧ σ[i]? = some (some (V.ref a))
/-- a cell of the store that may change stands at a -/
def LocAt (al : List Addr) (s : Kv.St) (n : Nat) (a : Addr) : Prop := ∃ o : Obj, s.mu[n]? = some o ∧ o.tr = true ∧ al[n]? = some a
/-- the addresses that a state may change -/
def Ft (al : List Addr) (s : Kv.St) (σ : L2.St) (a : Addr) : Prop := (∃ n, LocAt al s n a) ∨ ∃ i, OwnAt s σ i a
/-- all but the addresses of F, and what cannot change, stand as they stood -/
def Ext (F : Addr → Prop) (H H' : Hp) : Prop := ∀ a o, H a = some o → (¬ F a ∨ ¬ Mut (some o)) → H' a = some o

variable {Z : Kx}
theorem Ext.refl (F : Addr → Prop) (H : Hp) : Ext F H H := fun _ _ h _ => h
theorem Ext.sqT {F : Addr → Prop} {H H' : Hp} {a : Addr} {vs : List V} {K : PySem.W.Frag} (e : Ext F H H') (h : SqT K H a vs) : SqT K H' a vs := by
  rcases h with (h | ⟨o, h⟩) | h
  · exact .inl (.inl (e _ _ h (.inr fun z => z)))
  · exact .inl (.inr ⟨o, e _ _ h (.inr fun z => z)⟩)
  · exact .inr h
theorem Ext.sqD {F : Addr → Prop} {H H' : Hp} {a : Addr} {vs : List V} {K : PySem.W.Frag} (e : Ext F H H') (h : SqD K H a vs) : SqD K H' a vs :=
  h.elim (fun ⟨o, h, hd⟩ => .inl ⟨o, e _ _ h (.inr fun z => z), hd⟩) .inr
theorem pre_get {al al' : List Addr} (p : al <+: al') {n : Nat} {a : Addr} (h : al[n]? = some a) : al'[n]? = some a := by
  obtain ⟨t, rfl⟩ := p
  rw [List.getElem?_append_left (List.getElem?_eq_some_iff.mp h).1]; exact h
section
variable {F : Addr → Prop} {H H' : Hp} {al al' : List Addr}
mutual
theorem RepV.ext (e : Ext F H H') (p : al <+: al') : ∀ {x : PV} {v : V}, RepV Z H al x v → RepV Z H' al' x v
  | .non, _, h => h
  | .bl _, _, h => h
  | .int _, _, h => h
  | .str _, _, h => h
  | .fn _, _, h => h
  | .loc n, _, ⟨a, h1, h2⟩ => ⟨a, pre_get p h1, h2⟩
  | .tup xs, _, ⟨a, vs, h1, h2, h3⟩ => ⟨a, vs, h1, e.sqD h2, RepVs.ext e p h3⟩
theorem RepVs.ext (e : Ext F H H') (p : al <+: al') : ∀ {xs : List PV} {vs : List V}, RepVs Z H al xs vs → RepVs Z H' al' xs vs
  | [], _, h => h
  | _ :: _, _, ⟨v, vr, h1, h2, h3⟩ => ⟨v, vr, h1, RepV.ext e p h2, RepVs.ext e p h3⟩
end
theorem RepK.ext (e : Ext F H H') (p : al <+: al') : ∀ {xs : List (PV × PV)} {vs : List (Key × V)}, RepK Z H al xs vs → RepK Z H' al' xs vs
  | [], _, h => h
  | _ :: _, _, ⟨k, v, vr, h1, h2, h3, h4⟩ => ⟨k, v, vr, h1, h2.ext e p, h3.ext e p, RepK.ext e p h4⟩
theorem RepF.ext (e : Ext F H H') (p : al <+: al') : ∀ {xs : List (Tx × PV)} {vs : List (Str × V)}, RepF Z H al xs vs → RepF Z H' al' xs vs
  | [], _, h => h
  | _ :: _, _, ⟨v, vr, h1, h2, h4⟩ => ⟨v, vr, h1, h2.ext e p, RepF.ext e p h4⟩
theorem FrzL.seq {K : PySem.W.Frag} {a : Addr} {xs : List V} (h : FrzL K H a xs) : SqL K H a xs := h.elim (fun h => .inl (.inr h)) .inr
theorem FrzL.ext {K : PySem.W.Frag} {a : Addr} {xs : List V} (e : Ext F H H') (h : FrzL K H a xs) : FrzL K H' a xs :=
  h.elim (fun ⟨o, h⟩ => .inl ⟨o, e _ _ h (.inr fun z => z)⟩) .inr
/-- an object whose own cell stands -/
theorem RepO.at' (e : Ext F H H') (p : al <+: al') {a : Addr} {o : Obj} (same : o.tr = true → H' a = H a) (h : RepO Z H al o a) : RepO Z H' al' o a := by
  cases o with
  | lst xs => obtain ⟨vs, h1, h2⟩ := h; exact ⟨vs, (same rfl).trans h1, h2.ext e p⟩
  | flst xs => obtain ⟨vs, h1, h2⟩ := h; exact ⟨vs, h1.ext e, h2.ext e p⟩
  | dic kvs => obtain ⟨vs, h1, h2⟩ := h; exact ⟨vs, (same rfl).trans h1, h2.ext e p⟩
  | fdic kvs => obtain ⟨vs, ob, h1, h2⟩ := h; exact ⟨vs, ob, (same rfl).trans h1, h2.ext e p⟩
  | tdic kvs => exact h
  | ins c fs => obtain ⟨dx, vs, h1, h2⟩ := h; exact ⟨dx, vs, (same rfl).trans h1, h2.ext e p⟩
theorem RepO.at (e : Ext F H H') (p : al <+: al') {a : Addr} (same : H' a = H a) {o : Obj} (h : RepO Z H al o a) : RepO Z H' al' o a := h.at' e p fun _ => same
end
theorem RepO.tracked {H : Hp} {al : List Addr} {a : Addr} {o : Obj} (h : RepO Z H al o a) (t : o.tr = true) : ∃ u, H a = some u := by
  cases o with
  | lst xs => obtain ⟨vs, h1, h2⟩ := h; exact ⟨_, h1⟩
  | flst xs => cases t
  | dic kvs => obtain ⟨vs, h1, h2⟩ := h; exact ⟨_, h1⟩
  | fdic kvs => obtain ⟨vs, ob, h1, h2⟩ := h; exact ⟨_, h1⟩
  | tdic kvs => cases t
  | ins c fs => obtain ⟨dx, vs, h1, h2⟩ := h; exact ⟨_, h1⟩

structure SR (Z : Kx) (H : Hp) (al : List Addr) (s : Kv.St) (σ : L2.St) : Prop where
  len : σ.length = s.sg.length
  aln : al.length = s.mu.length
  mu : ∀ (n : Nat) (o : Obj) (a : Addr), s.mu[n]? = some o → al[n]? = some a → RepO Z H al o a
  sg : ∀ (i : Nat) (v : SV), s.sg[i]? = some (some v) → ∃ u, σ[i]? = some (some u) ∧ RepS Z H al v u
  tr : ∀ (i : Nat) (o : Obj), s.sg[i]? = some (some (.own o)) → o.tr = true
  nd : ∀ (n m : Nat) (a : Addr), LocAt al s n a → LocAt al s m a → n = m
  off : ∀ (i n : Nat) (a : Addr), OwnAt s σ i a → ¬ LocAt al s n a
  inj : ∀ (i j : Nat) (a : Addr), OwnAt s σ i a → OwnAt s σ j a → i = j

structure Step (Z : Kx) (s : Kv.St) (σ : L2.St) (H : Hp) (al : List Addr) (s' : Kv.St) (σ' : L2.St) (H' : Hp) (al' : List Addr) : Prop where
  pre : al <+: al'
  sr : SR Z H' al' s' σ'
  ext : Ext (Ft al s σ) H H'
  new : ∀ a, Ft al' s' σ' a → Ft al s σ a ∨ H a = none

section
variable {s s1 s2 : Kv.St} {σ σ1 σ2 : L2.St} {H H1 H2 : Hp} {al al1 al2 : List Addr}
theorem Step.refl (h : SR Z H al s σ) : Step Z s σ H al s σ H al := ⟨List.prefix_refl _, h, .refl _ _, fun _ q => .inl q⟩
theorem Ext.none {F : Addr → Prop} {a : Addr} (e : Ext F H H1) (h : H1 a = Option.none) : H a = Option.none ∨ F a := by
  by_cases q : F a
  · exact .inr q
  · cases g : H a with
    | none => exact .inl rfl
    | some o => rw [e a o g (.inl q)] at h; cases h
theorem Step.trans (a : Step Z s σ H al s1 σ1 H1 al1) (b : Step Z s1 σ1 H1 al1 s2 σ2 H2 al2) : Step Z s σ H al s2 σ2 H2 al2 where
  pre := a.pre.trans b.pre
  sr := b.sr
  ext := fun c o h q => by
    have h1 := a.ext c o h q
    refine b.ext c o h1 ?_
    rcases q with q | q
    · refine .inl fun z => ?_
      rcases a.new c z with z | z
      · exact q z
      · rw [h] at z; cases z
    · exact .inr q
  new := fun c q => by
    rcases b.new c q with q | q
    · exact a.new c q
    · rcases a.ext.none q with q | q
      · exact .inr q
      · exact .inl q
end

/-- a table of the module, or a value -/
def RepTab (Z : Kx) : SV → V → Prop
  | .own (.tdic kvs), v => ∃ a, v = .ref a ∧ RepO Z (fun _ => none) [] (.tdic kvs) a
  | .pv p, v => RepV Z (fun _ => none) [] p v
  | _, _ => False
theorem RepTab.rep {o : Obj} {v : V} {H : Hp} {al : List Addr} (h : RepTab Z (.own o) v) : ∃ a, v = .ref a ∧ RepO Z H al o a := by
  cases o with
  | tdic kvs => exact h
  | _ => exact h.elim
theorem RepTab.val {p : PV} {v : V} {H : Hp} {al : List Addr} (h : RepTab Z (.pv p) v) : RepV Z H al p v :=
  RepV.ext (F := fun _ => True) (H := fun _ => none) (al := []) (fun _ _ e => nomatch e) (List.nil_prefix) h
/-- what an operand stands for -/
def RepP (Z : Kx) (H : Hp) (al : List Addr) (s : Kv.St) (σ : L2.St) : Opd → V → Prop
  | .val (.pv p), v => RepV Z H al p v
  | .val (.own o), v => ∃ a, v = .ref a ∧ RepO Z H al o a ∧ o.tr = true ∧ ¬ Ft al s σ a
  | .slot i, v => σ[i]? = some (some v)
  | .tab o, v => RepTab Z (.own o) v
/-- a temporary thing is new -/
def New (al : List Addr) (s : Kv.St) (σ : L2.St) (H : Hp) : Opd → V → Prop
  | .val (.own _), .ref a => Ft al s σ a ∨ H a = none
  | _, _ => True
def IsTemp : Opd → Bool
  | .val (.own _) => true
  | _ => false

section
variable {s s1 : Kv.St} {σ : L2.St} {H H1 : Hp} {al al1 : List Addr}
theorem RepP.step (st : Step Z s σ H al s1 σ H1 al1) : ∀ {o : Opd} {v : V}, RepP Z H al s σ o v → RepP Z H1 al1 s1 σ o v
  | .val (.pv p), v, h => RepV.ext st.ext st.pre h
  | .val (.own o), v, ⟨a, e, h, t, n⟩ => by
    obtain ⟨u, hu⟩ := h.tracked t
    have hs : H1 a = H a := by rw [hu]; exact st.ext a u hu (.inl n)
    refine ⟨a, e, h.at st.ext st.pre hs, t, fun q => ?_⟩
    rcases st.new a q with q | q
    · exact n q
    · rw [hu] at q; cases q
  | .slot i, v, h => h
  | .tab o, v, h => h
/-- the content of an operand -/
def RepC (Z : Kx) (H : Hp) (al : List Addr) : SV → V → Prop
  | .pv p, v => RepV Z H al p v
  | .own o, v => ∃ a, v = .ref a ∧ RepO Z H al o a
theorem cont_rep (r : SR Z H al s σ) : ∀ {o : Opd} {v : V} {c : SV}, RepP Z H al s σ o v → cont o s = some c → RepC Z H al c v := by
  have key : ∀ {p : PV} {v : V} {c : SV}, RepV Z H al p v → cont (.val (.pv p)) s = some c → RepC Z H al c v := by
    intro p v c h e
    cases p with
    | loc n =>
      obtain ⟨a, h1, rfl⟩ := h
      simp only [cont] at e
      cases g : s.mu[n]? with
      | none => rw [g] at e; cases e
      | some o => rw [g] at e; cases e; exact ⟨a, rfl, r.mu n o a g h1⟩
    | _ => simp only [cont] at e; cases e; exact h
  intro o v c h e
  cases o with
  | val w =>
    cases w with
    | pv p => exact key h e
    | own o =>
      obtain ⟨a, rfl, h1, _⟩ := h
      simp only [cont] at e; cases e
      exact ⟨a, rfl, h1⟩
  | slot i =>
    have h' : σ[i]? = some (some v) := h
    cases g : s.get i with
    | none => simp only [cont, g] at e; cases e
    | some w =>
      have g' : s.sg[i]? = some (some w) := by
        unfold St.get at g
        cases q : s.sg[i]? with
        | none => rw [q] at g; cases g
        | some z => rw [q] at g; exact congrArg some g
      obtain ⟨u, h1, h2⟩ := r.sg i w g'
      rw [h'] at h1
      obtain rfl : v = u := by simpa using h1
      cases w with
      | pv p =>
        refine key (p := p) h2 ?_
        cases p with
        | loc n => simpa only [cont, g] using e
        | _ => simp only [cont, g] at e ⊢; exact e
      | own o => simp only [cont, g] at e; cases e; exact h2
  | tab o =>
    have h' : RepTab Z (.own o) v := h
    simp only [cont] at e; cases e
    exact h'.rep
end
end Kv

set_option Elab.async false
set_option linter.all false
set_option maxRecDepth 100000
/-! Steps of the state that the abstract heap does not see, and stores. -/
namespace Kv
open PySem L2
variable {Z : Kx}

theorem get_some {s : Kv.St} {i : Nat} {v : SV} (g : s.get i = some v) : s.sg[i]? = some (some v) := by
  unfold St.get at g
  cases q : s.sg[i]? with
  | none => rw [q] at g; cases g
  | some z => rw [q] at g; exact congrArg some g
theorem some_get {s : Kv.St} {i : Nat} {v : SV} (g : s.sg[i]? = some (some v)) : s.get i = some v := by
  unfold St.get; rw [g]; rfl
theorem lt_of_get {α : Type} {l : List α} {i : Nat} {x : α} (h : l[i]? = some x) : i < l.length := (List.getElem?_eq_some_iff.mp h).1
theorem get_append {α : Type} {l : List α} {x : α} {i : Nat} {y : α} (h : (l ++ [x])[i]? = some y) : (i < l.length ∧ l[i]? = some y) ∨ (i = l.length ∧ y = x) := by
  by_cases c : i < l.length
  · rw [List.getElem?_append_left c] at h; exact .inl ⟨c, h⟩
  · have q := lt_of_get h
    rw [List.length_append, List.length_singleton] at q
    have e : i = l.length := by omega
    subst e
    rw [List.getElem?_append_right (Nat.le_refl _)] at h
    simp at h
    exact .inr ⟨rfl, h.symm⟩
theorem append_get {α : Type} {l : List α} {x : α} : (l ++ [x])[l.length]? = some x := by
  rw [List.getElem?_append_right (Nat.le_refl _)]; simp
theorem append_lt {α : Type} {l : List α} {x : α} {i : Nat} {y : α} (h : l[i]? = some y) : (l ++ [x])[i]? = some y := by
  rw [List.getElem?_append_left (lt_of_get h)]; exact h

section
variable {α β : Type} {m : M α} {f : α → M β} {s s' s'' : Kv.St} {a : α} {b : β} {x : Ex}
theorem bind_ok (h : m s = .ok a s') : (m >>= f) s = f a s' := by
  show M.bind m f s = _
  unfold M.bind; rw [h]
theorem bind_exc (h : m s = .exc x s') : (m >>= f) s = .exc x s' := by
  show M.bind m f s = _
  unfold M.bind; rw [h]
theorem bind_bad (h : m s = .bad) : (m >>= f) s = .bad := by
  show M.bind m f s = _
  unfold M.bind; rw [h]
theorem bind_inv (h : (m >>= f) s = .ok b s'') : ∃ a s', m s = .ok a s' ∧ f a s' = .ok b s'' := by
  cases q : m s with
  | ok a s' => rw [bind_ok q] at h; exact ⟨a, s', rfl, h⟩
  | exc x s' => rw [bind_exc q] at h; cases h
  | bad => rw [bind_bad q] at h; cases h
end
section
variable {s0 s s' : Kv.St} {σ0 σ : L2.St} {H0 H : Hp} {al0 al : List Addr}
/-- a new cell of the store: what stood at a, own by a slot or by none -/
theorem SR.lay (r : SR Z H al s σ) {o : Obj} {a : Addr} (h : RepO Z H al o a) (t : o.tr = true) (fresh : ¬ Ft al s σ a) :
    SR Z H (al ++ [a]) { s with mu := s.mu ++ [o] } σ := by
  have pre : al <+: al ++ [a] := List.prefix_append _ _
  have loc : ∀ {n : Nat} {b : Addr}, LocAt (al ++ [a]) { s with mu := s.mu ++ [o] } n b → LocAt al s n b ∨ (n = s.mu.length ∧ b = a) := by
    rintro n b ⟨o', h1, h2, h3⟩
    rcases get_append h1 with ⟨c, q⟩ | ⟨c, q⟩
    · rcases get_append h3 with ⟨_, q'⟩ | ⟨c', _⟩
      · exact .inl ⟨o', q, h2, q'⟩
      · rw [r.aln] at c'; omega
    · rcases get_append h3 with ⟨c', _⟩ | ⟨_, q'⟩
      · rw [r.aln] at c'; omega
      · exact .inr ⟨c, q'⟩
  refine ⟨r.len, by simp [r.aln], fun n o' b h1 h2 => ?_, fun i v hv => ?_, r.tr, fun n m b h1 h2 => ?_, fun i n b h1 h2 => ?_, r.inj⟩
  · rcases get_append h1 with ⟨c, q⟩ | ⟨c, q⟩
    · rcases get_append h2 with ⟨_, q'⟩ | ⟨c', _⟩
      · exact (r.mu n o' b q q').at (.refl (Ft al s σ) _) pre rfl
      · rw [r.aln] at c'; omega
    · rcases get_append h2 with ⟨c', _⟩ | ⟨_, q'⟩
      · rw [r.aln] at c'; omega
      · subst q q'; exact h.at (.refl (Ft al s σ) _) pre rfl
  · obtain ⟨u, e, q⟩ := r.sg i v hv
    refine ⟨u, e, ?_⟩
    cases v with
    | pv p => exact RepV.ext (.refl (Ft al s σ) _) pre q
    | own o' => obtain ⟨b, e', q'⟩ := q; exact ⟨b, e', q'.at (.refl (Ft al s σ) _) pre rfl⟩
  · rcases loc h1 with z | ⟨z, z'⟩
    · rcases loc h2 with y | ⟨y, y'⟩
      · exact r.nd n m b z y
      · subst y'; exact absurd (.inl ⟨n, z⟩) fresh
    · rcases loc h2 with y | ⟨y, y'⟩
      · subst z'; exact absurd (.inl ⟨m, y⟩) fresh
      · omega
  · rcases loc h2 with z | ⟨_, z⟩
    · exact r.off i n b h1 z
    · subst z; exact fresh (.inr ⟨i, h1⟩)
theorem Ft.lay (r : SR Z H al s σ) {o : Obj} {a b : Addr} (h : Ft (al ++ [a]) { s with mu := s.mu ++ [o] } σ b) : Ft al s σ b ∨ b = a := by
  rcases h with ⟨n, o', h1, h2, h3⟩ | h
  · rcases get_append h1 with ⟨c, q⟩ | ⟨c, q⟩
    · rcases get_append h3 with ⟨_, q'⟩ | ⟨c', _⟩
      · exact .inl (.inl ⟨n, o', q, h2, q'⟩)
      · rw [r.aln] at c'; omega
    · rcases get_append h3 with ⟨c', _⟩ | ⟨_, q'⟩
      · rw [r.aln] at c'; omega
      · exact .inr q'
  · exact .inl (.inr h)
/-- a slot is emptied -/
theorem SR.drop (r : SR Z H al s σ) (i : Nat) : SR Z H al (s.put i none) σ := by
  have back : ∀ {j : Nat} {v : SV}, (s.put i none).sg[j]? = some (some v) → s.sg[j]? = some (some v) ∧ j ≠ i := fun {j v} h => by
    have h' : (s.sg.set i none)[j]? = some (some v) := h
    by_cases c : i = j
    · subst c
      by_cases l : i < s.sg.length
      · rw [List.getElem?_set_self l] at h'; cases h'
      · rw [List.getElem?_eq_none (by simpa using l)] at h'; cases h'
    · rw [List.getElem?_set_ne c] at h'; exact ⟨h', fun e => c e.symm⟩
  have own : ∀ {j : Nat} {a : Addr}, OwnAt (s.put i none) σ j a → OwnAt s σ j a := fun ⟨o, h1, h2⟩ => ⟨o, (back h1).1, h2⟩
  exact ⟨by simpa [St.put] using r.len, r.aln, r.mu, fun j v h => r.sg j v (back h).1, fun j o h => r.tr j o (back h).1, r.nd, fun j n a h => r.off j n a (own h), fun j j' a h h' => r.inj j j' a (own h) (own h')⟩
theorem OwnAt.drop {i j : Nat} {a : Addr} (h : OwnAt (s.put i none) σ j a) : OwnAt s σ j a ∧ j ≠ i := by
  obtain ⟨o, h1, h2⟩ := h
  have h' : (s.sg.set i none)[j]? = some (some (SV.own o)) := h1
  by_cases c : i = j
  · subst c
    by_cases l : i < s.sg.length
    · rw [List.getElem?_set_self l] at h'; cases h'
    · rw [List.getElem?_eq_none (by simpa using l)] at h'; cases h'
  · rw [List.getElem?_set_ne c] at h'; exact ⟨⟨o, h', h2⟩, fun e => c e.symm⟩
/-- a slot gets what σ has there already: a shared value, or an own thing that stands apart -/
theorem SR.put (r : SR Z H al s σ) {i : Nat} {v : SV} {u : V} (hu : σ[i]? = some (some u)) (h : RepS Z H al v u)
    (ho : ∀ o a, v = .own o → u = .ref a → o.tr = true ∧ ¬ Ft al (s.put i none) σ a) : SR Z H al (s.put i (some v)) σ := by
  have li : i < s.sg.length := by rw [← r.len]; exact lt_of_get hu
  have back : ∀ {j : Nat} {w : SV}, (s.put i (some v)).sg[j]? = some (some w) → (j = i ∧ w = v) ∨ (s.sg[j]? = some (some w) ∧ j ≠ i) := fun {j w} h => by
    have h' : (s.sg.set i (some v))[j]? = some (some w) := h
    by_cases c : i = j
    · subst c
      rw [List.getElem?_set_self li] at h'
      exact .inl ⟨rfl, (Option.some.inj (Option.some.inj h')).symm⟩
    · rw [List.getElem?_set_ne c] at h'; exact .inr ⟨h', fun e => c e.symm⟩
  have own : ∀ {j : Nat} {a : Addr}, OwnAt (s.put i (some v)) σ j a → (j = i ∧ ∃ o, v = .own o ∧ u = .ref a) ∨ (OwnAt (s.put i none) σ j a ∧ OwnAt s σ j a ∧ j ≠ i) := fun {j a} ⟨o, h1, h2⟩ => by
    rcases back h1 with ⟨e, q⟩ | ⟨q, e⟩
    · subst e
      rw [hu] at h2
      exact .inl ⟨rfl, o, q.symm, Option.some.inj (Option.some.inj h2)⟩
    · have q' : (s.put i none).sg[j]? = some (some (SV.own o)) := by
        show (s.sg.set i none)[j]? = _
        rw [List.getElem?_set_ne (fun z => e z.symm)]; exact q
      exact .inr ⟨⟨o, q', h2⟩, ⟨o, q, h2⟩, e⟩
  refine ⟨by simpa [St.put] using r.len, r.aln, r.mu, fun j w h => ?_, fun j o h => ?_, r.nd, fun j n a h1 h2 => ?_, fun j j' a h1 h2 => ?_⟩
  · rcases back h with ⟨e, q⟩ | ⟨q, _⟩
    · subst e q; exact ⟨u, hu, by assumption⟩
    · exact r.sg j w q
  · rcases back h with ⟨e, q⟩ | ⟨q, _⟩
    · obtain ⟨a, z, _⟩ : ∃ a, u = .ref a ∧ RepO Z H al o a := by
        have h2 : RepS Z H al v u := by assumption
        rw [← q] at h2; exact h2
      exact (ho o a q.symm z).1
    · exact r.tr j o q
  · rcases own h1 with ⟨_, o, z, z'⟩ | ⟨_, z, _⟩
    · exact (ho o a z z').2 (.inl ⟨n, h2⟩)
    · exact r.off j n a z h2
  · rcases own h1 with ⟨e1, o1, z1, z1'⟩ | ⟨y1, z1, e1⟩
    · rcases own h2 with ⟨e2, o2, z2, z2'⟩ | ⟨y2, z2, e2⟩
      · exact e1.trans e2.symm
      · exact absurd (.inr ⟨j', y2⟩) (ho o1 a z1 z1').2
    · rcases own h2 with ⟨e2, o2, z2, z2'⟩ | ⟨y2, z2, e2⟩
      · exact absurd (.inr ⟨j, y1⟩) (ho o2 a z2 z2').2
      · exact r.inj j j' a z1 z2
theorem Ft.drop {i : Nat} {a : Addr} (h : Ft al (s.put i none) σ a) : Ft al s σ a := h.elim .inl fun ⟨j, q⟩ => .inr ⟨j, q.drop.1⟩

/-- an operand becomes a shared value -/
theorem box_step (st : Step Z s0 σ0 H0 al0 s σ H al) {o : Opd} {v : V} (h : RepP Z H al s σ o v) (nw : New al0 s0 σ0 H0 o v) {p : PV} (e : box o s = .ok p s') :
    ∃ al', Step Z s0 σ0 H0 al0 s' σ H al' ∧ RepV Z H al' p v ∧ al <+: al' ∧ s'.sg.length = s.sg.length ∧ ∀ a, Ft al' s' σ a → Ft al s σ a ∨ (IsTemp o = true ∧ v = .ref a) := by
  cases o with
  | val w =>
    cases w with
    | pv q =>
      simp only [box] at e
      injection e with e1 e2
      subst e1 e2
      exact ⟨al, st, h, List.prefix_refl _, rfl, fun _ z => .inl z⟩
    | own ob =>
      obtain ⟨a, rfl, h1, t, n⟩ := h
      simp only [box] at e
      injection e with e1 e2
      subst e1 e2
      refine ⟨al ++ [a], ⟨st.pre.trans (List.prefix_append _ _), st.sr.lay h1 t n, st.ext, fun b hb => ?_⟩, ⟨a, by rw [← st.sr.aln]; exact append_get, rfl⟩, List.prefix_append _ _, rfl, fun b hb => ?_⟩
      · rcases Ft.lay st.sr hb with z | z
        · exact st.new b z
        · subst z; exact nw
      · rcases Ft.lay st.sr hb with z | z
        · exact .inl z
        · exact .inr ⟨rfl, by rw [z]⟩
  | slot i =>
    have h' : σ[i]? = some (some v) := h
    cases g : s.get i with
    | none => simp only [box, g] at e; cases e
    | some w =>
      obtain ⟨u, h1, h2⟩ := st.sr.sg i w (get_some g)
      rw [h'] at h1
      obtain rfl : v = u := Option.some.inj (Option.some.inj h1)
      cases w with
      | pv q =>
        simp only [box, g] at e
        injection e with e1 e2
        subst e1 e2
        exact ⟨al, st, h2, List.prefix_refl _, rfl, fun _ z => .inl z⟩
      | own ob =>
        simp only [box, g] at e
        injection e with e1 e2
        subst e1 e2
        obtain ⟨a, rfl, h3⟩ := h2
        have own : OwnAt s σ i a := ⟨ob, get_some g, h'⟩
        have t := st.sr.tr i ob (get_some g)
        have r1 := st.sr.drop i
        have fr : ¬ Ft al (s.put i none) σ a := by
          rintro (⟨n, z⟩ | ⟨j, z⟩)
          · exact st.sr.off i n a own z
          · have z' := z.drop
            exact z'.2 (st.sr.inj j i a z'.1 own)
        have r2 := r1.lay h3 t fr
        have gl : (al ++ [a])[s.mu.length]? = some a := by rw [← st.sr.aln]; exact append_get
        have r3 := r2.put (i := i) (v := .pv (.loc s.mu.length)) (u := .ref a) h' ⟨a, gl, rfl⟩ fun _ _ z _ => nomatch z
        have eq : ({ s.put i none with mu := s.mu ++ [ob] } : Kv.St).put i (some (.pv (.loc s.mu.length))) = { sg := s.sg.set i (some (.pv (.loc s.mu.length))), mu := s.mu ++ [ob] } := by
          simp [St.put]
        rw [← eq]
        have ft : ∀ b, Ft (al ++ [a]) (({ s.put i none with mu := s.mu ++ [ob] } : Kv.St).put i (some (.pv (.loc s.mu.length)))) σ b → Ft al s σ b := fun b hb => by
          have hb' : Ft (al ++ [a]) { s.put i none with mu := s.mu ++ [ob] } σ b := by
            rcases hb with z | ⟨j, o', z1, z2⟩
            · exact .inl z
            · refine .inr ⟨j, o', ?_, z2⟩
              have z1' : (((s.sg.set i none).set i (some (SV.pv (.loc s.mu.length)))))[j]? = some (some (SV.own o')) := z1
              by_cases c : i = j
              · subst c
                rw [List.getElem?_set_self (by have := lt_of_get h'; rw [st.sr.len] at this; simpa using this)] at z1'
                cases z1'
              · rw [List.getElem?_set_ne c] at z1'; exact z1'
          rcases Ft.lay r1 hb' with z | z
          · exact z.drop
          · subst z; exact .inr ⟨i, own⟩
        refine ⟨al ++ [a], ⟨st.pre.trans (List.prefix_append _ _), r3, st.ext, fun b hb => st.new b (ft b hb)⟩, ⟨a, gl, rfl⟩, List.prefix_append _ _, by simp [St.put], fun b hb => .inl (ft b hb)⟩
  | tab o => simp only [box] at e; cases e
end

/-- operands, the temporary ones apart -/
def temps : List Opd → List V → List V
  | o :: os, v :: vs => if IsTemp o = true then v :: temps os vs else temps os vs
  | _, _ => []
def Reps (Z : Kx) (H : Hp) (al : List Addr) (s : Kv.St) (σ : L2.St) : List Opd → List V → Prop
  | [], vs => vs = []
  | o :: os, vs => ∃ v vr, vs = v :: vr ∧ RepP Z H al s σ o v ∧ Reps Z H al s σ os vr
def News (al : List Addr) (s : Kv.St) (σ : L2.St) (H : Hp) : List Opd → List V → Prop
  | o :: os, v :: vs => New al s σ H o v ∧ News al s σ H os vs
  | _, _ => True
section
variable {s0 s s' s1 : Kv.St} {σ0 σ : L2.St} {H0 H H1 : Hp} {al0 al al1 : List Addr}
theorem Reps.step (st : Step Z s σ H al s1 σ H1 al1) : ∀ {os : List Opd} {vs : List V}, Reps Z H al s σ os vs → Reps Z H1 al1 s1 σ os vs
  | [], _, h => h
  | _ :: _, _, ⟨v, vr, e, h1, h2⟩ => ⟨v, vr, e, h1.step st, Reps.step st h2⟩
theorem RepP.relay {o : Opd} {v v0 : V} (pre : al <+: al1) (ft : ∀ a, Ft al1 s1 σ a → Ft al s σ a ∨ v0 = .ref a) (ne : IsTemp o = true → v ≠ v0) (h : RepP Z H al s σ o v) : RepP Z H al1 s1 σ o v := by
  cases o with
  | val w =>
    cases w with
    | pv p => exact RepV.ext (.refl (Ft al s σ) _) pre h
    | own ob =>
      obtain ⟨a, rfl, h1, t, n⟩ := h
      exact ⟨a, rfl, h1.at (.refl (Ft al s σ) _) pre rfl, t, fun q => (ft a q).elim n fun z => ne rfl z.symm⟩
  | slot i => exact h
  | tab ob => exact h
theorem Reps.relay {v0 : V} (pre : al <+: al1) (ft : ∀ a, Ft al1 s1 σ a → Ft al s σ a ∨ v0 = .ref a) : ∀ {os : List Opd} {vs : List V}, v0 ∉ temps os vs → Reps Z H al s σ os vs → Reps Z H al1 s1 σ os vs
  | [], _, _, h => h
  | o :: os, _, nm, ⟨v, vr, e, h1, h2⟩ => by
    subst e
    refine ⟨v, vr, rfl, h1.relay pre ft fun t e => nm ?_, Reps.relay pre ft (fun z => nm ?_) h2⟩
    · show v0 ∈ (if IsTemp o = true then v :: temps os vr else temps os vr)
      rw [if_pos t, e]; exact List.mem_cons_self
    · show v0 ∈ (if IsTemp o = true then v :: temps os vr else temps os vr)
      split
      · exact List.mem_cons_of_mem _ z
      · exact z
theorem boxs_step : ∀ {os : List Opd} {vs : List V} {ps : List PV} {s s' : Kv.St} {al : List Addr}, Step Z s0 σ0 H0 al0 s σ H al → Reps Z H al s σ os vs → News al0 s0 σ0 H0 os vs → (temps os vs).Nodup → boxs os s = .ok ps s' →
    ∃ al', Step Z s0 σ0 H0 al0 s' σ H al' ∧ RepVs Z H al' ps vs ∧ al <+: al' ∧ s'.sg.length = s.sg.length ∧ ps.length = os.length
  | [], vs, ps, s, s', al, st, h, _, _, e => by
    have e' : Out.ok ([] : List PV) s = .ok ps s' := e
    injection e' with e1 e2
    subst e1 e2
    exact ⟨al, st, h, List.prefix_refl _, rfl, rfl⟩
  | o :: os, _, ps, s, s', al, st, ⟨v, vr, ev, h1, h2⟩, nw, nd, e => by
    subst ev
    obtain ⟨p, s1, hb, e⟩ := bind_inv e
    obtain ⟨pr, s2, hbs, e⟩ := bind_inv e
    have e' : Out.ok (p :: pr) s2 = .ok ps s' := e
    injection e' with e1 e2
    subst e1 e2
    obtain ⟨al1, st1, r1, p1, l1, f1⟩ := box_step st h1 nw.1 hb
    have nd2 : (temps os vr).Nodup := by
      have z : (if IsTemp o = true then v :: temps os vr else temps os vr).Nodup := nd
      split at z
      · exact (List.nodup_cons.mp z).2
      · exact z
    have h2' : Reps Z H al1 s1 σ os vr := by
      by_cases t : IsTemp o = true
      · have z : (if IsTemp o = true then v :: temps os vr else temps os vr).Nodup := nd
        rw [if_pos t] at z
        exact Reps.relay p1 (fun a q => (f1 a q).elim .inl fun w => .inr w.2) (List.nodup_cons.mp z).1 h2
      · exact Reps.relay (v0 := .non) p1 (fun a q => (f1 a q).elim .inl fun w => absurd w.1 t) (by
          intro z
          have : ∀ (os : List Opd) (vs : List V), Reps Z H al s σ os vs → V.non ∉ temps os vs := by
            intro os
            induction os with
            | nil => intro vs h z; cases h; exact absurd z (by simp [temps])
            | cons o os ih =>
              rintro vs ⟨v, vr, rfl, h1, h2⟩ z
              have z' : V.non ∈ (if IsTemp o = true then v :: temps os vr else temps os vr) := z
              split at z'
              · rename_i t
                cases z' with
                | head =>
                  cases o with
                  | val w =>
                    cases w with
                    | pv p => cases t
                    | own ob => obtain ⟨a, e, _⟩ := h1; cases e
                  | slot i => cases t
                  | tab ob => cases t
                | tail _ q => exact ih vr h2 q
              · exact ih vr h2 z'
          exact this os vr h2 z) h2
    obtain ⟨al2, st2, r2, p2, l2, n2⟩ := boxs_step st1 h2' nw.2 nd2 hbs
    exact ⟨al2, st2, ⟨v, vr, rfl, r1.ext (.refl (Ft al s σ) _) p2, r2⟩, p1.trans p2, l2.trans l1, by rw [List.length_cons, List.length_cons, n2]⟩
def RepCs (Z : Kx) (H : Hp) (al : List Addr) : List SV → List V → Prop
  | [], vs => vs = []
  | c :: cs, vs => ∃ v vr, vs = v :: vr ∧ RepC Z H al c v ∧ RepCs Z H al cs vr
theorem mapM_cons {s : Kv.St} {o : Opd} {os : List Opd} : (o :: os).mapM (cont · s) = (match cont o s with | none => none | some c => match os.mapM (cont · s) with | none => none | some cs => some (c :: cs)) := by
  rw [List.mapM_cons]
  cases cont o s with
  | none => rfl
  | some c => cases os.mapM (cont · s) <;> rfl
theorem conts_rep (r : SR Z H al s σ) : ∀ {os : List Opd} {vs : List V} {cs : List SV}, Reps Z H al s σ os vs → os.mapM (cont · s) = some cs → RepCs Z H al cs vs
  | [], _, _, h, e => by
    have e' : some ([] : List SV) = some _ := e
    cases e'; exact h
  | o :: os, _, cs, ⟨v, vr, ev, h1, h2⟩, e => by
    subst ev
    rw [mapM_cons] at e
    cases hc : cont o s with
    | none => rw [hc] at e; cases e
    | some c =>
      rw [hc] at e
      cases hcs : os.mapM (cont · s) with
      | none => simp only [hcs] at e; cases e
      | some cr =>
        simp only [hcs] at e
        cases e
        exact ⟨v, vr, rfl, cont_rep r h1 hc, conts_rep r h2 hcs⟩
theorem conts_eq {os : List Opd} {s s' : Kv.St} {cs : List SV} (e : conts os s = .ok cs s') : s' = s ∧ os.mapM (cont · s) = some cs := by
  unfold conts at e
  split at e
  · injection e with e1 e2
    subst e1 e2
    exact ⟨rfl, by assumption⟩
  · cases e
theorem Ft.tracked (r : SR Z H al s σ) {a : Addr} (h : Ft al s σ a) : ∃ u, H a = some u := by
  rcases h with ⟨n, o, h1, h2, h3⟩ | ⟨i, o, h1, h2⟩
  · exact (r.mu n o a h1 h3).tracked h2
  · obtain ⟨u, e, q⟩ := r.sg i _ h1
    rw [h2] at e
    obtain rfl : V.ref a = u := Option.some.inj (Option.some.inj e)
    obtain ⟨b, e, q⟩ := q
    cases e
    exact q.tracked (r.tr i o h1)
/-- the abstract heap grows or turns apart from the state -/
theorem SR.heap (r : SR Z H al s σ) {F : Addr → Prop} (e : Ext F H H1) (f : ∀ a, Ft al s σ a → H1 a = H a) : SR Z H1 al s σ := by
  refine ⟨r.len, r.aln, fun n o a h1 h2 => (r.mu n o a h1 h2).at' e (List.prefix_refl _) fun t => f a (.inl ⟨n, o, h1, t, h2⟩), fun i v h => ?_, r.tr, r.nd, r.off, r.inj⟩
  obtain ⟨u, h1, h2⟩ := r.sg i v h
  refine ⟨u, h1, ?_⟩
  cases v with
  | pv p => exact RepV.ext e (List.prefix_refl _) h2
  | own o =>
    obtain ⟨a, e', q⟩ := h2
    refine ⟨a, e', q.at' e (List.prefix_refl _) fun t => f a (.inr ⟨i, o, h, ?_⟩)⟩
    rw [h1, e']
theorem ext_new {p : Addr} {u : HO} {F : Addr → Prop} (hp : H p = none) : Ext F H (upd H p u) := fun a o h _ => by
  rw [upd_ne (ne_of_none h hp)]; exact h
/-- a new temporary thing -/
theorem alloc_step (st : Step Z s0 σ0 H0 al0 s σ H al) {p : Addr} {u : HO} (hp : H p = none) : Step Z s0 σ0 H0 al0 s σ (upd H p u) al ∧ ¬ Ft al s σ p ∧ (Ft al0 s0 σ0 p ∨ H0 p = none) := by
  have nf : ¬ Ft al s σ p := fun z => by obtain ⟨w, e⟩ := z.tracked st.sr; rw [hp] at e; cases e
  have f : ∀ a, Ft al s σ a → upd H p u a = H a := fun a z => upd_ne fun e => nf (e ▸ z)
  refine ⟨⟨st.pre, st.sr.heap (F := Ft al s σ) (ext_new hp) f, fun a o h q => ?_, st.new⟩, nf, (st.ext.none hp).elim .inr .inl⟩
  have h1 := st.ext a o h q
  rw [upd_ne (ne_of_none h1 hp)]; exact h1
end
end Kv

set_option Elab.async false
set_option linter.all false
set_option maxRecDepth 100000
/-! The operations on contents, by the hand layer's rules. -/
namespace Kv
open PySem L2
variable {Z : Kx}

/-- what a new value is wanted for -/
def Gives (Z : Kx) (H : Hp) (al : List Addr) (res : SV) (Q : VK) : Prop := match res with
  | .pv p => ∀ v H', Same H H' → RepV Z H' al p v → Q v H'
  | .own o => ∀ a H', Same H H' → H a = none → RepO Z H' al o a → o.tr = true → Q (.ref a) H'

theorem same_new {H : Hp} {p : Addr} (h : H p = none) (o : HO) : Same H (upd H p o) := fun b u q => by rw [upd_ne (ne_of_none q h)]; exact q
theorem same_ext {F : Addr → Prop} {H H' : Hp} (h : Same H H') : Ext F H H' := fun a o q _ => h a o q
theorem RepVs.same {H H' : Hp} {al : List Addr} {xs : List PV} {vs : List V} (s : Same H H') (h : RepVs Z H al xs vs) : RepVs Z H' al xs vs :=
  RepVs.ext (F := fun _ => True) (same_ext s) (List.prefix_refl _) h
theorem RepV.same {H H' : Hp} {al : List Addr} {x : PV} {v : V} (s : Same H H') (h : RepV Z H al x v) : RepV Z H' al x v :=
  RepV.ext (F := fun _ => True) (same_ext s) (List.prefix_refl _) h
section
variable {H : Hp} {al : List Addr}
theorem RepVs.length : ∀ {xs : List PV} {vs : List V}, RepVs Z H al xs vs → vs.length = xs.length
  | [], _, h => by cases h; rfl
  | _ :: _, _, ⟨v, vr, e, _, h⟩ => by subst e; rw [List.length_cons, List.length_cons, RepVs.length h]
theorem RepVs.append : ∀ {xs ys : List PV} {vs ws : List V}, RepVs Z H al xs vs → RepVs Z H al ys ws → RepVs Z H al (xs ++ ys) (vs ++ ws)
  | [], _, _, _, h, h' => by cases h; exact h'
  | _ :: _, _, _, _, ⟨v, vr, e, h1, h2⟩, h' => by subst e; exact ⟨v, vr ++ _, rfl, h1, RepVs.append h2 h'⟩
theorem RepVs.rep {xs : List PV} {vs : List V} (h : RepVs Z H al xs vs) : ∀ n : Nat, RepVs Z H al (List.replicate n xs).flatten (List.replicate n vs).flatten
  | 0 => rfl
  | n + 1 => by
    rw [List.replicate_succ, List.replicate_succ, List.flatten_cons, List.flatten_cons]
    exact h.append (RepVs.rep h n)
theorem RepVs.get : ∀ {xs : List PV} {vs : List V} {i : Nat} {x : PV}, RepVs Z H al xs vs → xs[i]? = some x → ∃ v, vs[i]? = some v ∧ RepV Z H al x v
  | [], _, _, _, _, e => by cases e
  | y :: xs, _, 0, x, ⟨v, vr, e, h1, h2⟩, q => by
    subst e
    have q' : some y = some x := q
    cases q'
    exact ⟨v, rfl, h1⟩
  | y :: xs, _, i + 1, x, ⟨v, vr, e, h1, h2⟩, q => by
    subst e
    have q' : xs[i]? = some x := by simpa using q
    obtain ⟨w, e, h⟩ := RepVs.get h2 q'
    exact ⟨w, by simpa using e, h⟩
theorem RepVs.drop : ∀ {xs : List PV} {vs : List V} (n : Nat), RepVs Z H al xs vs → RepVs Z H al (xs.drop n) (vs.drop n)
  | _, _, 0, h => h
  | [], _, _ + 1, h => by cases h; exact rfl
  | _ :: _, _, n + 1, ⟨_, _, e, _, h⟩ => by subst e; exact RepVs.drop n h
theorem RepVs.take : ∀ {xs : List PV} {vs : List V} (n : Nat), RepVs Z H al xs vs → RepVs Z H al (xs.take n) (vs.take n)
  | _, _, 0, h => rfl
  | [], _, _ + 1, h => by cases h; exact rfl
  | _ :: _, _, n + 1, ⟨v, _, e, h1, h⟩ => by subst e; exact ⟨v, _, rfl, h1, RepVs.take n h⟩
theorem RepVs.set : ∀ {xs : List PV} {vs : List V} {x : PV} {v : V} (i : Nat), RepVs Z H al xs vs → RepV Z H al x v → RepVs Z H al (xs.set i x) (vs.set i v)
  | [], _, _, _, _, h, _ => by cases h; exact rfl
  | _ :: _, _, _, v, 0, ⟨_, _, e, h1, h⟩, q => by subst e; exact ⟨v, _, rfl, q, h⟩
  | _ :: _, _, _, _, i + 1, ⟨_, _, e, h1, h⟩, q => by subst e; exact ⟨_, _, rfl, h1, RepVs.set i h q⟩
theorem RepVs.cut {xs : List PV} {vs : List V} (lo hi : Option Int) (h : RepVs Z H al xs vs) : RepVs Z H al (Kv.cut xs lo hi) (cutV vs lo hi) := by
  have e : ∀ n d o, HT.sIx n d o = sbnd n d o := fun n d o => by cases o <;> rfl
  unfold Kv.cut cutV
  rw [e, e, h.length]
  exact (h.drop _).take _
/-- what is a list to be read -/
theorem RepO.sqL {xs : List PV} {a : Addr} (h : RepO Z H al (.lst xs) a ∨ RepO Z H al (.flst xs) a) : ∃ vs, SqL Z.K H a vs ∧ RepVs Z H al xs vs := by
  rcases h with ⟨vs, h1, h2⟩ | ⟨vs, h1, h2⟩
  · exact ⟨vs, .of h1, h2⟩
  · exact ⟨vs, h1.seq, h2⟩
end

/-! ### data -/
mutual
def toD : PV → PyData
  | .int i => .int i
  | .str s => .str (toStr s)
  | .tup xs => .tuple (toDs xs)
  | _ => .none
def toDs : List PV → List PyData
  | [] => []
  | x :: xs => toD x :: toDs xs
end
theorem toStr_inj {a b : Tx} : toStr a = toStr b ↔ a = b := by
  constructor
  · intro h
    have := congrArg (fun s => s.cps.toList) h
    simpa [toStr] using this
  · intro h; rw [h]
section
variable {H : Hp} {al : List Addr}
mutual
theorem dp_of : ∀ {x : PV} {v : V}, x.plain = true → RepV Z H al x v → Dp Z.K H v (toD x)
  | .non, _, _, h => by cases h; exact .non
  | .int i, _, _, h => by cases h; exact .int i
  | .str s, _, _, h => by cases h; exact .str _
  | .tup xs, _, p, ⟨a, vs, e, h1, h2⟩ => by subst e; exact .tup h1.t (dps_of p h2)
theorem dps_of : ∀ {xs : List PV} {vs : List V}, PV.plains xs = true → RepVs Z H al xs vs → DpAll Z.K H vs (toDs xs)
  | [], _, _, h => by cases h; exact .nil
  | x :: xs, _, p, ⟨v, vr, e, h1, h2⟩ => by
    subst e
    have p' : (x.plain && PV.plains xs) = true := p
    rw [Bool.and_eq_true] at p'
    exact .cons (dp_of p'.1 h1) (dps_of p'.2 h2)
end
end
mutual
theorem lay_of : ∀ {x : PV}, x.plain = true → (toD x).canLay0 = true
  | .non, _ => rfl
  | .int _, _ => rfl
  | .str s, h => by
    have h' : (s.all fun c => decide (c < 1114112)) = true := h
    show PyData.strOk (toStr s) = true
    unfold PyData.strOk toStr
    rw [Array.all_eq_true']
    intro c hc
    exact List.all_eq_true.mp h' c (by simpa using hc)
  | .tup xs, h => lays_of h
theorem lays_of : ∀ {xs : List PV}, PV.plains xs = true → PyData.canLayAll0 (toDs xs) = true
  | [], _ => rfl
  | x :: xs, p => by
    have p' : (x.plain && PV.plains xs) = true := p
    rw [Bool.and_eq_true] at p'
    show ((toD x).canLay0 && PyData.canLayAll0 (toDs xs)) = true
    rw [lay_of p'.1, lays_of p'.2]; rfl
end
mutual
theorem dep_of : ∀ {x : PV}, (toD x).depth = x.depth
  | .non => rfl
  | .bl _ => rfl
  | .int _ => rfl
  | .str s => rfl
  | .loc _ => rfl
  | .fn _ => rfl
  | .tup xs => congrArg (· + 1) deps_of
theorem deps_of : ∀ {xs : List PV}, PyData.depthAll (toDs xs) = PV.depths xs
  | [] => rfl
  | x :: xs => by
    show max (toD x).depth (PyData.depthAll (toDs xs)) = max x.depth (PV.depths xs)
    rw [dep_of, deps_of]
end
theorem dec_str {a b : Tx} : (toStr a == toStr b) = decide (a = b) := by
  by_cases h : a = b
  · subst h; simp
  · rw [decide_eq_false h]
    exact beq_eq_false_iff_ne.mpr fun e => h (toStr_inj.mp e)
mutual
theorem eqv_of : ∀ {x y : PV}, x.plain = true → y.plain = true → PyData.eqv (toD x) (toD y) = decide (x = y)
  | .non, y, _, q => by cases y <;> first | rfl | cases q
  | .int i, y, _, q => by
    cases y with
    | int j =>
      show (i == j) = _
      by_cases h : i = j
      · subst h; simp
      · rw [decide_eq_false (fun e => h (PV.int.inj e))]; exact beq_eq_false_iff_ne.mpr h
    | bl _ => cases q
    | loc _ => cases q
    | fn _ => cases q
    | _ => rfl
  | .str s, y, _, q => by
    cases y with
    | str t =>
      show (toStr s == toStr t) = _
      rw [dec_str]
      by_cases h : s = t
      · subst h; simp
      · rw [decide_eq_false h, decide_eq_false (fun e => h (PV.str.inj e))]
    | bl _ => cases q
    | loc _ => cases q
    | fn _ => cases q
    | _ => rfl
  | .tup xs, y, p, q => by
    cases y with
    | tup ys =>
      show PyData.eqvAll (toDs xs) (toDs ys) = _
      rw [eqvs_of p q]
      by_cases h : xs = ys
      · subst h; simp
      · rw [decide_eq_false h, decide_eq_false (fun e => h (PV.tup.inj e))]
    | bl _ => cases q
    | loc _ => cases q
    | fn _ => cases q
    | _ => rfl
theorem eqvs_of : ∀ {xs ys : List PV}, PV.plains xs = true → PV.plains ys = true → PyData.eqvAll (toDs xs) (toDs ys) = decide (xs = ys)
  | [], ys, _, q => by cases ys <;> rfl
  | x :: xs, ys, p, q => by
    cases ys with
    | nil => rfl
    | cons y ys =>
      have p' : (x.plain && PV.plains xs) = true := p
      have q' : (y.plain && PV.plains ys) = true := q
      rw [Bool.and_eq_true] at p' q'
      show (PyData.eqv (toD x) (toD y) && PyData.eqvAll (toDs xs) (toDs ys)) = _
      rw [eqv_of p'.1 q'.1, eqvs_of p'.2 q'.2]
      by_cases h : x = y
      · subst h
        by_cases h' : xs = ys
        · subst h'; simp
        · rw [decide_eq_false h', decide_eq_false (fun e => h' (List.cons.inj e).2)]; simp
      · rw [decide_eq_false h, decide_eq_false (fun e => h (List.cons.inj e).1)]; rfl
end
section
variable {X : Cx}
def rEqW (K : PySem.W.Frag) (n : Nat) (f : Bool → Bool) : R2 := fun x y H Q => ∃ d e, Dp K H x d ∧ Dp K H y e ∧ d.canLay0 = true ∧ e.canLay0 = true ∧ d.depth ≤ n ∧ Q (.bl (f (PyData.eqv d e))) H
theorem op_eqW {n : Nat} (hu : X.A.units + n < cLine) : OpR X (compareOp .Eq) (rEqW X.K n id) := by
  intro pins s σ H x y v u Q I rx ry h
  obtain ⟨d, e, hd, he, sd, se, z, q⟩ := h
  obtain ⟨as, r1⟩ := Dp.reads I d x v hd rx
  obtain ⟨bs, r2⟩ := Dp.reads I e y u he ry
  exact SeqAt.compareEq_reads r1 r2 sd se (by have := Nat.min_le_left d.depth e.depth; omega) ⟨.bl _, H, I, rfl, q⟩
theorem op_neW {n : Nat} (hu : X.A.units + n < cLine) : OpR X (compareOp .NotEq) (rEqW X.K n (!·)) := by
  intro pins s σ H x y v u Q I rx ry h
  obtain ⟨d, e, hd, he, sd, se, z, q⟩ := h
  obtain ⟨as, r1⟩ := Dp.reads I d x v hd rx
  obtain ⟨bs, r2⟩ := Dp.reads I e y u he ry
  exact SeqAt.compareNe_reads r1 r2 sd se (by have := Nat.min_le_left d.depth e.depth; omega) ⟨.bl _, H, I, rfl, q⟩
end

/-! ### operators -/
/-- any rule of the operator -/
def rAny (X : Cx) (f : Value → Value → Sem Value) : R2 := fun x y H Q => ∃ r, OpR X f r ∧ r x y H Q
theorem op_any {X : Cx} (f : Value → Value → Sem Value) : OpR X f (rAny X f) := fun pins s σ H x y v u Q I rx ry ⟨r, h, q⟩ => h pins s σ H x y v u Q I rx ry q
theorem rAny.of {X : Cx} {f : Value → Value → Sem Value} {r : R2} (h : OpR X f r) {x y : V} {H : Hp} {Q : VK} (q : r x y H Q) : rAny X f x y H Q := ⟨r, h, q⟩

theorem append_str {a b : Tx} : toStr a ++ toStr b = toStr (a ++ b) := by
  show Str.append _ _ = _
  unfold Str.append toStr
  simp
theorem length_str {a : Tx} : (toStr a).length = a.length := by simp [toStr, Str.length]

theorem binop_ok {X : Cx} (hK : X.K = Z.K) {H : Hp} {al : List Addr} {op : Operator} {c d res : SV} {x y : V} {Q : VK} (e : binop op c d = some res) (hc : RepC Z H al c x) (hd : RepC Z H al d y) (q : Gives Z H al res Q) : rAny X (binaryOp op) x y H Q := by
  have ii : ∀ {r : PV} {a b : Int} {C : Int → Int → Prop} {g : Int → Int → V}, OpR X (binaryOp op) (rI C g) → RepC Z H al (.pv (.int a)) x → RepC Z H al (.pv (.int b)) y → C a b → Gives Z H al (.pv r) Q → RepV Z H al r (g a b) → rAny X (binaryOp op) x y H Q := by
    intro r a b C g o h1 h2 hC q hr
    cases h1; cases h2
    exact .of o ⟨a, b, rfl, rfl, hC, q _ _ (.refl _) hr⟩
  have ii0 : ∀ {r : PV} {a b : Int} {g : Int → Int → V}, OpR X (binaryOp op) (rI0 g) → RepC Z H al (.pv (.int a)) x → RepC Z H al (.pv (.int b)) y → Gives Z H al (.pv r) Q → RepV Z H al r (g a b) → rAny X (binaryOp op) x y H Q := by
    intro r a b g o h1 h2 q hr
    cases h1; cases h2
    exact .of o ⟨a, b, rfl, rfl, q _ _ (.refl _) hr⟩
  unfold binop at e
  split at e
  · cases e; exact ii0 op_add hc hd q rfl
  · split at e
    · rename_i hz
      cases e; cases hc; cases hd
      refine .of op_add_str ⟨_, _, rfl, rfl, ?_, q _ _ (.refl _) ?_⟩
      · rw [length_str, length_str]; exact hz
      · show V.str _ = V.str _
        rw [append_str]
    · cases e
  · split at e
    · rename_i hz
      cases e
      obtain ⟨a, rfl, vs, h1, h2⟩ := hc
      obtain ⟨b, rfl, ws, h3, h4⟩ := hd
      refine .of op_cat ⟨a, b, vs, ws, rfl, rfl, h1, h3, by rw [h2.length, h4.length]; exact hz, fun p hp => ?_⟩
      exact q p _ (same_new hp _) hp ⟨_, upd_same, (h2.same (same_new hp _)).append (h4.same (same_new hp _))⟩ rfl
    · cases e
  · split at e
    · rename_i hz
      cases e; cases hd
      obtain ⟨a, rfl, vs, h1, h2⟩ := hc
      have z : (2 : Int) ^ 62 = 4611686018427387904 := by decide
      refine .of op_rep ⟨a, _, vs, rfl, rfl, h1, by have := hz.1; omega, by have := hz.2.1; omega, by rw [h2.length]; exact hz.2.2, fun p hp => ?_⟩
      exact q p _ (same_new hp _) hp ⟨_, upd_same, (h2.rep _).same (same_new hp _)⟩ rfl
    · cases e
  · split at e
    · rename_i hz
      cases e
      obtain ⟨a, vs, rfl, h1, h2⟩ := hc
      obtain ⟨b, ws, rfl, h3, h4⟩ := hd
      refine .of KvT.op_catD ⟨a, b, vs, ws, ⟨rfl, rfl⟩, ⟨by rw [hK]; exact h1.t, by rw [hK]; exact h3.t⟩, by rw [h2.length, h4.length]; exact hz, fun e => ?_, fun _ e => ?_, fun p u hp hu => ?_⟩
      · have z := h2.length
        rw [e] at z
        obtain rfl := List.length_eq_zero_iff.mp z.symm
        exact q _ _ (.refl _) ⟨b, ws, rfl, h3, h4⟩
      · have z := h4.length
        rw [e] at z
        obtain rfl := List.length_eq_zero_iff.mp z.symm
        refine q _ _ (.refl _) ⟨a, vs, rfl, h1, ?_⟩
        rw [List.append_nil]; exact h2
      · exact q _ _ (same_new hp _) ⟨p, _, rfl, .new hu, (h2.same (same_new hp _)).append (h4.same (same_new hp _))⟩
    · cases e
  · cases e; exact ii0 op_sub hc hd q rfl
  · split at e
    · rename_i hz
      cases e; exact ii op_mulW hc hd (of_decide_eq_true (p := _ < 1000000) hz) q rfl
    · cases e
  · split at e
    · rename_i hz
      cases e; exact ii op_fdivN hc hd hz q rfl
    · split at e
      · rename_i hz2
        cases e
        refine ii op_fdivW hc hd hz2 q ?_
        rw [Int.fdiv_eq_ediv_of_nonneg _ (Int.le_of_lt hz2.1)]
        rfl
      · cases e
  · split at e
    · rename_i hz
      cases e; exact ii op_modN hc hd hz q rfl
    · cases e
  · split at e
    · rename_i hz
      cases e; exact ii op_pow hc hd hz q rfl
    · cases e
  · cases e
end Kv

set_option Elab.async false
set_option linter.all false
set_option maxRecDepth 100000
/-! a < b of nested tuples, kinds mixed: the first difference decides. -/
namespace Kv
open PySem L2 PySem.SeqAt PyProof.Rows
open AutoSeq1 (wpAny_loadPart')
open MeetsSeq MeetsSeq2 MeetsSeq3 SeqRoads2
/-- the method: only the first place that differs is asked for its < -/
theorem tup_lt_meets (p q : Addr) (us ws : Array Value) (m m2 : Nat) (pd qd : Option Addr) (ps qs : Array (Option Value)) (eqs lts : Nat → Bool) :
    Meets (Builtin.«tuple.__lt__» ⟨[.ref p, .ref q], []⟩)
      (fun A R s => (s.heap.get? p = some { cls := .type "tuple", dict := pd, data := .seq us m, slots := ps } ∧ s.heap.get? q = some { cls := .type "tuple", dict := qd, data := .seq ws m2, slots := qs }) ∧
        (∀ j (k1 : j < us.size) (k2 : j < ws.size), EqAt A.in1 s us[j] ws[j] (eqs j)) ∧ (∀ j (k1 : j < us.size) (k2 : j < ws.size), (∀ i, i < j → eqs i = true) → eqs j = false → RcLt A.in1 s us[j] ws[j] (lts j)) ∧
        R (.ok (.ret (.bool (firstLt eqs lts (decide (us.size < ws.size)) (List.range (min us.size ws.size)))))) s) :=
  .of_wp fun prg wld A R s hyp => by
    obtain ⟨hp, gn, dd, tk, os⟩ := s; obtain ⟨⟨hP, hQ⟩, hE, hL, hyp⟩ := hyp
    have sub2 := AutoSeq1.sub_tuple_tuple
    have zl : (us.toList.zip ws.toList).length = min us.size ws.size := by simp
    wp_walk using wpAny_loadPart' hP, wpAny_loadPart' hQ, wpAny_forIn_list _ (fun rest b s' => b.1 = none ∧ s' = ⟨hp, gn, dd, tk, os⟩ ∧ ∃ i, (∀ k, k < i → eqs k = true) ∧ rest = (us.toList.zip ws.toList).drop i ∧
      R (.ok (.ret (.bool (firstLt eqs lts (decide (us.size < ws.size)) ((List.range (min us.size ws.size)).drop i))))) ⟨hp, gn, dd, tk, os⟩) _
    case turn =>
      rintro ⟨u, v⟩ rest b s' ⟨bn, rfl, i, hpre, hz, hR⟩
      have li : i < (us.toList.zip ws.toList).length := by
        rcases Nat.lt_or_ge i (us.toList.zip ws.toList).length with z | z
        · exact z
        · rw [List.drop_of_length_le z] at hz; cases hz
      have lm : i < min us.size ws.size := zl ▸ li
      have k1 : i < us.size := Nat.lt_of_lt_of_le lm (Nat.min_le_left _ _)
      have k2 : i < ws.size := Nat.lt_of_lt_of_le lm (Nat.min_le_right _ _)
      rw [List.drop_eq_getElem_cons li] at hz
      injection hz with huv hrest
      have hu : u = us[i] := by have := congrArg Prod.fst huv; simpa using this
      have hv : v = ws[i] := by have := congrArg Prod.snd huv; simpa using this
      subst hu hv
      have hd : (List.range (min us.size ws.size)).drop i = i :: (List.range (min us.size ws.size)).drop (i + 1) := by simp [List.drop_eq_getElem_cons, lm]
      rw [hd] at hR
      refine wpAny_bind (hE i k1 k2 prg wld _ _ ?_)
      cases he : eqs i with
      | true =>
        rw [firstLt_yes he] at hR
        wp_walk
        exact ⟨rfl, rfl, i + 1, fun k hk => (Nat.lt_succ_iff_lt_or_eq.mp hk).elim (hpre k) fun e => e ▸ he, hrest, hR⟩
      | false =>
        rw [firstLt_no he] at hR
        refine wpAny_ite_true rfl (wpAny_bind (wpAny_rule (wpAny_bind (hL i k1 k2 hpre he prg wld _ _ ?_))))
        wp_walk
        exact ⟨_, rfl, hR⟩
    case fin =>
      rintro ⟨b1, b2⟩ s' ⟨bn, rfl, i, hpre, hz, hR⟩
      simp only at bn
      subst bn
      have ge : min us.size ws.size ≤ i := by
        rcases Nat.lt_or_ge i (us.toList.zip ws.toList).length with z | z
        · rw [List.drop_eq_getElem_cons z] at hz; cases hz
        · exact zl ▸ z
      rw [List.drop_of_length_le (by simpa using ge)] at hR
      wp_walk
      exact ⟨_, rfl, by simpa [Builtin.Tuple.tupleCompareSizes, firstLt] using hR⟩
    case h => exact ⟨rfl, rfl, 0, fun k hk => absurd hk (Nat.not_lt_zero _), rfl, by simpa using hyp⟩
theorem rc_tups {A : Around} {s : Shared} {p q : Addr} {us ws : Array Value} {eqs lts : Nat → Bool} (hp : s.heap.IsTuple p us) (hq : s.heap.IsTuple q ws) (hu : A.units < cLine)
    (he : ∀ j (k1 : j < us.size) (k2 : j < ws.size), EqAt A.in1 s us[j] ws[j] (eqs j)) (hl : ∀ j (k1 : j < us.size) (k2 : j < ws.size), (∀ i, i < j → eqs i = true) → eqs j = false → RcLt A.in1 s us[j] ws[j] (lts j)) :
    RcLt A s (.ref p) (.ref q) (firstLt eqs lts (decide (us.size < ws.size)) (List.range (min us.size ws.size))) := by
  intro prg wld E Q hQ
  obtain ⟨⟨c1, d1, x1, l1⟩, o1, e1, n1, f1⟩ := id hp
  obtain ⟨⟨c2, d2, x2, l2⟩, o2, e2, n2, f2⟩ := id hq
  simp only at e1 f1 e2 f2
  subst e1 f1 e2 f2
  refine richCompare_meets_room (op := .Lt) ⟨_, o1, rfl⟩ ⟨_, o2, rfl⟩ F.slot_tuple_lt F.entry_tuple_lt (F.args_tuple_lt_2 _ _) (tup_lt_meets p q us ws n1 n2 d1 d2 l1 l2 eqs lts) ⟨⟨o1, o2⟩, he, hl, ?_⟩ hu
  exact (⟨(fun z => nomatch z), hQ⟩ : Value.bool _ ≠ Value.notImplemented ∧ Q (.bool _) s)
theorem first_const {e : Nat → Bool} {r fin : Bool} : ∀ {l : List Nat}, (∀ j ∈ l, e j = true) → firstLt e (fun _ => r) fin l = fin
  | [], _ => rfl
  | j :: t, h => by
    rw [firstLt_yes (h j List.mem_cons_self)]
    exact first_const fun i m => h i (List.mem_cons_of_mem _ m)
theorem first_some {e : Nat → Bool} {r fin : Bool} : ∀ {l : List Nat}, (∃ j ∈ l, e j = false) → firstLt e (fun _ => r) fin l = r
  | [], ⟨j, h, _⟩ => nomatch h
  | i :: t, ⟨j, h, hj⟩ => by
    cases hi : e i with
    | false => exact firstLt_no hi
    | true =>
      rw [firstLt_yes hi]
      rcases List.mem_cons.mp h with z | z
      · rw [z, hi] at hj; cases hj
      · exact first_some ⟨j, z, hj⟩
theorem peq_cons {x y : PV} {xs ys : List PV} (hx : x.plain = true) (hy : y.plain = true) : pairEq (toDs (x :: xs)) (toDs (y :: ys)) 0 = decide (x = y) := eqv_of hx hy
theorem toDs_len : ∀ {xs : List PV}, (toDs xs).length = xs.length
  | [] => rfl
  | x :: xs => congrArg (· + 1) toDs_len
theorem lts_all : ∀ {xs ys : List PV} {r : Bool}, PV.plains xs = true → PV.plains ys = true → PV.lts xs ys = some r → (∀ j, j < min xs.length ys.length → pairEq (toDs xs) (toDs ys) j = true) → r = decide (xs.length < ys.length)
  | [], [], r, _, _, h, _ => by cases h; rfl
  | [], _ :: _, r, _, _, h, _ => by cases h; simp
  | _ :: _, [], r, _, _, h, _ => by cases h; simp
  | x :: xs, y :: ys, r, hx, hy, h, k => by
    have hx' : (x.plain && PV.plains xs) = true := hx
    have hy' : (y.plain && PV.plains ys) = true := hy
    rw [Bool.and_eq_true] at hx' hy'
    have k0 := k 0 (by simp)
    rw [peq_cons hx'.1 hy'.1] at k0
    have h' : (if x = y then PV.lts xs ys else PV.lt x y) = some r := h
    rw [if_pos (of_decide_eq_true k0)] at h'
    have := lts_all hx'.2 hy'.2 h' fun j hj => k (j + 1) (by rw [List.length_cons, List.length_cons]; omega)
    rw [this]
    simp
mutual
theorem rc_lt : ∀ (x y : PV) (r : Bool) (A : Around) (s : Shared) (a b : Value) (as bs : List Addr), x.plain = true → y.plain = true → Reads s.heap a (toD x) as → Reads s.heap b (toD y) bs → PV.lt x y = some r → A.units + min (toD x).depth (toD y).depth < cLine → RcLt A s a b r
  | .int i, y, r, A, s, a, b, as, bs, hx, hy, ra, rb, h, hu => by
    cases y with
    | int j =>
      have h' : some (decide (i < j)) = some r := h
      cases h'
      cases ra; cases rb
      exact fun prg wld E Q hq => P.lt_int hq
    | _ => cases h
  | .str i, y, r, A, s, a, b, as, bs, hx, hy, ra, rb, h, hu => by
    cases y with
    | str j =>
      have h' : some (ltTx i j) = some r := h
      cases h'
      cases ra; cases rb
      intro prg wld E Q hq
      refine P.lt_str ?_
      have e : decide ((toStr i).cps.toList < (toStr j).cps.toList) = ltTx i j := by
        show decide _ = decide (i < j)
        exact decide_eq_decide.mpr (by simp [toStr])
      rw [e]; exact hq
    | _ => cases h
  | .tup xs, y, r, A, s, a, b, as, bs, hx, hy, ra, rb, h, hu => by
    cases y with
    | tup ys =>
      have hxs : PV.plains xs = true := hx
      have hys : PV.plains ys = true := hy
      have ra' : Reads s.heap a (.tuple (toDs xs)) as := ra
      have rb' : Reads s.heap b (.tuple (toDs ys)) bs := rb
      have h' : PV.lts xs ys = some r := h
      have hu' : A.units + min (PyData.depthAll (toDs xs) + 1) (PyData.depthAll (toDs ys) + 1) < cLine := hu
      cases ra' with
      | @tuple p o us n _ as1 h1 h2 h3 h4 =>
        cases rb' with
        | @tuple q o2 ws n2 _ bs1 k1 k2 k3 k4 =>
          have z1 : us.size = xs.length := by have := ReadsAll.length _ _ _ h4; rw [toDs_len] at this; simpa using this
          have z2 : ws.size = ys.length := by have := ReadsAll.length _ _ _ k4; rw [toDs_len] at this; simpa using this
          have key := rc_tups (A := A) (s := s) (p := p) (q := q) (us := us) (ws := ws) (eqs := pairEq (toDs xs) (toDs ys)) (lts := fun _ => r) ⟨_, h1, h2, _, h3⟩ ⟨_, k1, k2, _, k3⟩ (Nat.lt_of_le_of_lt (Nat.le_add_right _ _) hu')
            (fun j j1 j2 => by
              have := eqAt_readsAll (toDs xs) (toDs ys) A.in1 s us.toList ws.toList _ _ h4 k4 (lays_of hxs) (lays_of hys) (PySem.SeqAt.room_in hu') j (by simpa using j1) (by simpa using j2)
              simpa using this)
            (fun j j1 j2 pre no => by
              have := rc_lts xs ys r A.in1 s us.toList ws.toList _ _ hxs hys h4 k4 h' (PySem.SeqAt.room_in hu') j (by simpa using j1) (by simpa using j2) pre no
              simpa using this)
          have fe : firstLt (pairEq (toDs xs) (toDs ys)) (fun _ => r) (decide (us.size < ws.size)) (List.range (min us.size ws.size)) = r := by
            by_cases c : ∃ j ∈ List.range (min us.size ws.size), pairEq (toDs xs) (toDs ys) j = false
            · exact first_some c
            · have all : ∀ j ∈ List.range (min us.size ws.size), pairEq (toDs xs) (toDs ys) j = true := fun j m => by
                cases e : pairEq (toDs xs) (toDs ys) j with
                | true => rfl
                | false => exact absurd ⟨j, m, e⟩ c
              rw [first_const all, z1, z2]
              exact (lts_all hxs hys h' fun j hj => all j (by rw [z1, z2]; exact List.mem_range.mpr hj)).symm
          rw [fe] at key
          exact key
    | _ => cases h
  | .non, y, r, A, s, a, b, as, bs, hx, hy, ra, rb, h, hu => by cases y <;> cases h
  | .bl _, y, r, A, s, a, b, as, bs, hx, hy, ra, rb, h, hu => by cases hx
  | .loc _, y, r, A, s, a, b, as, bs, hx, hy, ra, rb, h, hu => by cases hx
  | .fn _, y, r, A, s, a, b, as, bs, hx, hy, ra, rb, h, hu => by cases hx
theorem rc_lts : ∀ (xs ys : List PV) (r : Bool) (A : Around) (s : Shared) (vs ws : List Value) (as bs : List Addr), PV.plains xs = true → PV.plains ys = true → ReadsAll s.heap vs (toDs xs) as → ReadsAll s.heap ws (toDs ys) bs → PV.lts xs ys = some r →
    A.units + min (PyData.depthAll (toDs xs)) (PyData.depthAll (toDs ys)) < cLine → ∀ j (k1 : j < vs.length) (k2 : j < ws.length), (∀ i, i < j → pairEq (toDs xs) (toDs ys) i = true) → pairEq (toDs xs) (toDs ys) j = false → RcLt A s vs[j] ws[j] r
  | [], ys, r, A, s, vs, ws, as, bs, _, _, ra, rb, h, hu, j, k1, k2, _, _ => by
    have ra' : ReadsAll s.heap vs [] as := ra
    cases ra'
    exact absurd k1 (Nat.not_lt_zero _)
  | x :: xs, [], r, A, s, vs, ws, as, bs, _, _, ra, rb, h, hu, j, k1, k2, _, _ => by
    have rb' : ReadsAll s.heap ws [] bs := rb
    cases rb'
    exact absurd k2 (Nat.not_lt_zero _)
  | x :: xs, y :: ys, r, A, s, vs, ws, as, bs, hx, hy, ra, rb, h, hu, j, k1, k2, pre, no => by
    have hx' : (x.plain && PV.plains xs) = true := hx
    have hy' : (y.plain && PV.plains ys) = true := hy
    rw [Bool.and_eq_true] at hx' hy'
    have ra' : ReadsAll s.heap vs (toD x :: toDs xs) as := ra
    have rb' : ReadsAll s.heap ws (toD y :: toDs ys) bs := rb
    have h' : (if x = y then PV.lts xs ys else PV.lt x y) = some r := h
    have hu' : A.units + min (max (toD x).depth (PyData.depthAll (toDs xs))) (max (toD y).depth (PyData.depthAll (toDs ys))) < cLine := hu
    cases ra' with
    | cons r1 r2 =>
      cases rb' with
      | cons s1 s2 =>
        cases j with
        | zero =>
          rw [peq_cons hx'.1 hy'.1] at no
          rw [if_neg (of_decide_eq_false no)] at h'
          exact rc_lt x y r A s _ _ _ _ hx'.1 hy'.1 r1 s1 h' (PySem.SeqAt.room_head hu')
        | succ j =>
          have p0 := pre 0 (Nat.zero_lt_succ _)
          rw [peq_cons hx'.1 hy'.1] at p0
          rw [if_pos (of_decide_eq_true p0)] at h'
          exact rc_lts xs ys r A s _ _ _ _ hx'.2 hy'.2 r2 s2 h' (PySem.SeqAt.room_tail hu') j (Nat.lt_of_succ_lt_succ k1) (Nat.lt_of_succ_lt_succ k2) (fun i hi => pre (i + 1) (Nat.succ_lt_succ hi)) no
end
section
variable {X : Cx}
def rLtW (Z : Kx) (al : List Addr) (n : Nat) : R2 := fun x y H Q => ∃ p q r, p.plain = true ∧ q.plain = true ∧ RepV Z H al p x ∧ RepV Z H al q y ∧ PV.lt p q = some r ∧ p.depth ≤ n ∧ Q (.bl r) H
theorem op_ltW {Z : Kx} {al : List Addr} {n : Nat} (hK : X.K = Z.K) (hu : X.A.units + n < cLine) : OpR X (compareOp .Lt) (rLtW Z al n) := by
  intro pins s σ H x y v u Q I rx ry h
  obtain ⟨p, q, r, hp, hq, h1, h2, e, hd, k⟩ := h
  have d1 := dp_of hp h1
  have d2 := dp_of hq h2
  rw [← hK] at d1 d2
  obtain ⟨as, r1⟩ := Dp.reads I (toD p) x v d1 rx
  obtain ⟨bs, r2⟩ := Dp.reads I (toD q) y u d2 ry
  exact rc_lt p q r X.A s v u as bs hp hq r1 r2 e (by rw [dep_of, dep_of]; have := Nat.min_le_left p.depth q.depth; omega) X.prog X.w X.xe _ ⟨.bl _, H, I, rfl, k⟩
end
end Kv

set_option Elab.async false
set_option linter.all false
set_option maxRecDepth 100000
/-! sorted of nested tuples that begin alike. -/
namespace Kv
open PySem L2 PySem.SeqAt PyProof.Rows SrtO
theorem ltTx_irr (a : Tx) : ltTx a a = false := decide_eq_false (List.lt_irrefl a)
theorem ltTx_tri {a b : Tx} (h : a ≠ b) : ltTx a b = true ∨ ltTx b a = true := by
  by_cases c : a < b
  · exact .inl (decide_eq_true c)
  · by_cases d : b < a
    · exact .inr (decide_eq_true d)
    · exact absurd (List.le_antisymm (show a ≤ b from d) (show b ≤ a from c)) h
theorem ltTx_tr {a b c : Tx} (h : ltTx a b = true) (k : ltTx b c = true) : ltTx a c = true := decide_eq_true (List.lt_trans (of_decide_eq_true h) (of_decide_eq_true k))
theorem rk_lt : ∀ {x y : PV}, x.rank < y.rank → PV.tlt x y = true := by
  intro x y h
  cases x <;> cases y <;> simp_all [PV.rank, PV.tlt]
theorem rk_le : ∀ {x y : PV}, PV.tlt x y = true → x.rank ≤ y.rank := by
  intro x y h
  cases x <;> cases y <;> simp_all [PV.rank, PV.tlt]
mutual
theorem tlt_irr : ∀ x : PV, PV.tlt x x = false
  | .non => by simp [PV.tlt, PV.rank]
  | .bl b => by cases b <;> rfl
  | .int i => by simp [PV.tlt]
  | .str s => ltTx_irr s
  | .tup xs => tlts_irr xs
  | .loc n => by simp [PV.tlt]
  | .fn n => by simp [PV.tlt]
theorem tlts_irr : ∀ xs : List PV, PV.tlts xs xs = false
  | [] => rfl
  | x :: xs => by
    unfold PV.tlts
    rw [if_pos rfl]; exact tlts_irr xs
end
mutual
theorem tlt_tri : ∀ {x y : PV}, x ≠ y → PV.tlt x y = true ∨ PV.tlt y x = true
  | x, y, h => by
    rcases Nat.lt_trichotomy x.rank y.rank with c | c | c
    · exact .inl (rk_lt c)
    · cases x with
      | non => cases y <;> first | exact absurd rfl h | (simp [PV.rank] at c)
      | bl a =>
        cases y <;> first | (simp [PV.rank] at c; done) | skip
        rename_i b
        cases a <;> cases b <;> simp_all [PV.tlt]
      | int a =>
        cases y <;> first | (simp [PV.rank] at c; done) | skip
        rename_i b
        have : a ≠ b := fun z => h (by rw [z])
        simp only [PV.tlt, decide_eq_true_eq]; omega
      | str a =>
        cases y <;> first | (simp [PV.rank] at c; done) | skip
        rename_i b
        exact ltTx_tri fun z => h (by rw [z])
      | tup a =>
        cases y <;> first | (simp [PV.rank] at c; done) | skip
        rename_i b
        exact tlts_tri fun z => h (by rw [z])
      | loc a =>
        cases y <;> first | (simp [PV.rank] at c; done) | skip
        rename_i b
        have : a ≠ b := fun z => h (by rw [z])
        simp only [PV.tlt, decide_eq_true_eq]; omega
      | fn a =>
        cases y <;> first | (simp [PV.rank] at c; done) | skip
        rename_i b
        have : a ≠ b := fun z => h (by rw [z])
        simp only [PV.tlt, decide_eq_true_eq]; omega
    · exact .inr (rk_lt c)
theorem tlts_tri : ∀ {x y : List PV}, x ≠ y → PV.tlts x y = true ∨ PV.tlts y x = true
  | [], [], h => absurd rfl h
  | [], _ :: _, _ => .inl rfl
  | _ :: _, [], _ => .inr rfl
  | x :: xs, y :: ys, h => by
    unfold PV.tlts
    by_cases c : x = y
    · rw [if_pos c, if_pos c.symm]
      exact tlts_tri fun z => h (by rw [c, z])
    · rw [if_neg c, if_neg fun z => c z.symm]
      exact tlt_tri c
end
mutual
theorem tlt_tr : ∀ {x y z : PV}, PV.tlt x y = true → PV.tlt y z = true → PV.tlt x z = true
  | x, y, z, h, k => by
    have r1 := rk_le h
    have r2 := rk_le k
    by_cases c : x.rank < z.rank
    · exact rk_lt c
    · have e1 : x.rank = y.rank := by omega
      have e2 : z.rank = x.rank := by omega
      cases x with
      | non => cases y <;> first | (simp [PV.rank] at e1; done) | (simp [PV.tlt, PV.rank] at h)
      | bl a =>
        cases y <;> first | (simp [PV.rank] at e1; done) | skip
        cases z <;> first | (simp [PV.rank] at e2; done) | skip
        simp_all [PV.tlt]
      | int a =>
        cases y <;> first | (simp [PV.rank] at e1; done) | skip
        cases z <;> first | (simp [PV.rank] at e2; done) | skip
        simp only [PV.tlt, decide_eq_true_eq] at h k ⊢; omega
      | str a =>
        cases y <;> first | (simp [PV.rank] at e1; done) | skip
        cases z <;> first | (simp [PV.rank] at e2; done) | skip
        exact ltTx_tr h k
      | tup a =>
        cases y <;> first | (simp [PV.rank] at e1; done) | skip
        cases z <;> first | (simp [PV.rank] at e2; done) | skip
        exact tlts_tr h k
      | loc a =>
        cases y <;> first | (simp [PV.rank] at e1; done) | skip
        cases z <;> first | (simp [PV.rank] at e2; done) | skip
        simp only [PV.tlt, decide_eq_true_eq] at h k ⊢; omega
      | fn a =>
        cases y <;> first | (simp [PV.rank] at e1; done) | skip
        cases z <;> first | (simp [PV.rank] at e2; done) | skip
        simp only [PV.tlt, decide_eq_true_eq] at h k ⊢; omega
theorem tlts_tr : ∀ {x y z : List PV}, PV.tlts x y = true → PV.tlts y z = true → PV.tlts x z = true
  | [], [], _, h, _ => by cases h
  | [], _ :: _, [], _, k => by cases k
  | [], _ :: _, _ :: _, _, _ => rfl
  | _ :: _, [], _, h, _ => by cases h
  | _ :: _, _ :: _, [], _, k => by cases k
  | x :: xs, y :: ys, z :: zs, h, k => by
    have h' : (if x = y then PV.tlts xs ys else PV.tlt x y) = true := h
    have k' : (if y = z then PV.tlts ys zs else PV.tlt y z) = true := k
    show (if x = z then PV.tlts xs zs else PV.tlt x z) = true
    by_cases c : x = y
    · subst c
      rw [if_pos rfl] at h'
      by_cases d : x = z
      · rw [if_pos d] at k' ⊢
        exact tlts_tr h' k'
      · rw [if_neg d] at k' ⊢
        exact k'
    · rw [if_neg c] at h'
      by_cases d : y = z
      · subst d
        rw [if_neg c]; exact h'
      · rw [if_neg d] at k'
        have t := tlt_tr h' k'
        by_cases e : x = z
        · subst e
          rw [tlt_irr] at t; cases t
        · rw [if_neg e]; exact t
end
theorem tlt_swo : Swo PV.tlt := by
  have asym : ∀ x y, PV.tlt x y = true → PV.tlt y x = false := fun x y h => by
    cases c : PV.tlt y x with
    | false => rfl
    | true => have := tlt_tr h c; rw [tlt_irr] at this; cases this
  refine ⟨asym, fun x y z h k => ?_⟩
  cases c : PV.tlt z x with
  | false => rfl
  | true =>
    by_cases e : x = y
    · subst e; rw [c] at k; cases k
    · rcases tlt_tri e with a | a
      · have := tlt_tr c a; rw [this] at k; cases k
      · rw [a] at h; cases h
mutual
/-- where < answers, it is that -/
theorem tlt_of : ∀ {x y : PV} {r : Bool}, PV.lt x y = some r → PV.tlt x y = r
  | .int a, y, r, h => by cases y <;> first | (injection h) | cases h
  | .str a, y, r, h => by cases y <;> first | (injection h) | cases h
  | .tup a, y, r, h => by
    cases y with
    | tup b => exact tlts_of h
    | _ => cases h
  | .non, y, r, h => by cases y <;> cases h
  | .bl _, y, r, h => by cases y <;> cases h
  | .loc _, y, r, h => by cases y <;> cases h
  | .fn _, y, r, h => by cases y <;> cases h
theorem tlts_of : ∀ {x y : List PV} {r : Bool}, PV.lts x y = some r → PV.tlts x y = r
  | [], [], r, h => by injection h
  | [], _ :: _, r, h => by injection h
  | _ :: _, [], r, h => by injection h
  | x :: xs, y :: ys, r, h => by
    have h' : (if x = y then PV.lts xs ys else PV.lt x y) = some r := h
    show (if x = y then PV.tlts xs ys else PV.tlt x y) = r
    split
    · rename_i c; rw [if_pos c] at h'; exact tlts_of h'
    · rename_i c; rw [if_neg c] at h'; exact tlt_of h'
end
theorem insPV_perm (x : PV) : ∀ l, (insPV x l).Perm (x :: l)
  | [] => .refl _
  | y :: r => by
    unfold insPV
    split
    · exact .refl _
    · exact (List.Perm.cons y (insPV_perm x r)).trans (.swap x y r)
theorem sortPV_perm : ∀ l, (sortPV l).Perm l
  | [] => .refl _
  | x :: r => (insPV_perm x (sortPV r)).trans (.cons x (sortPV_perm r))
theorem insPV_sorted (x : PV) : ∀ {l}, Srtd PV.tlt l → Srtd PV.tlt (insPV x l)
  | [], _ => by unfold insPV; exact srtd_one x
  | y :: r, h => by
    unfold insPV
    have h' := List.pairwise_cons.mp h
    split
    · rename_i c
      refine List.pairwise_cons.mpr ⟨fun z hz => ?_, h⟩
      rcases List.mem_cons.mp hz with e | e
      · rw [e]; exact tlt_swo.asym _ _ c
      · exact tlt_swo.tr _ _ _ (tlt_swo.asym _ _ c) (h'.1 z e)
    · rename_i c
      refine List.pairwise_cons.mpr ⟨fun z hz => ?_, insPV_sorted x h'.2⟩
      rcases List.mem_cons.mp ((insPV_perm x r).subset hz) with e | e
      · rw [e]; simpa using c
      · exact h'.1 z e
theorem sortPV_sorted : ∀ l, Srtd PV.tlt (sortPV l)
  | [] => .nil
  | x :: r => insPV_sorted x (sortPV_sorted r)
/-- there is one sorted list -/
theorem srtd_is : ∀ {l m : List PV}, l.Perm m → Srtd PV.tlt l → Srtd PV.tlt m → l = m
  | [], m, p, _, _ => (List.nil_perm.mp p).symm
  | a :: l, m, p, h1, h2 => by
    cases m with
    | nil => exact absurd (List.perm_nil.mp p) (by simp)
    | cons b m =>
      have ha : a ∈ b :: m := p.subset List.mem_cons_self
      have hb : b ∈ a :: l := p.symm.subset List.mem_cons_self
      have h1' := List.pairwise_cons.mp h1
      have h2' := List.pairwise_cons.mp h2
      have e : a = b := by
        rcases List.mem_cons.mp ha with z | z
        · exact z
        · rcases List.mem_cons.mp hb with y | y
          · exact y.symm
          · by_cases d : a = b
            · exact d
            · rcases tlt_tri d with t | t
              · rw [h2'.1 a z] at t; cases t
              · rw [h1'.1 b y] at t; cases t
      subst e
      rw [srtd_is (List.Perm.cons_inv p) h1'.2 h2'.2]
end Kv

set_option Elab.async false
set_option linter.all false
set_option maxRecDepth 100000
namespace Kv
open PySem L2 PySem.SeqAt PyProof.Rows SrtO PySem.W
mutual
theorem reads_keep {h h' : Heap} (kp : ∀ b o, h.get? b = some o → o.cls = .type "tuple" → h'.get? b = some o) : ∀ {p : PV} {v : Value} {as : List Addr}, p.plain = true → Reads h v (toD p) as → Reads h' v (toD p) as
  | .non, v, as, _, r => by cases r; exact .none
  | .int i, v, as, _, r => by cases r; exact .int _ _
  | .str s, v, as, _, r => by cases r; exact .str _ _
  | .tup xs, v, as, hp, r => by
    have r' : Reads h v (.tuple (toDs xs)) as := r
    have hp' : PV.plains xs = true := hp
    cases r' with
    | tuple h1 h2 h3 h4 => exact .tuple (kp _ _ h1 h2) h2 h3 (readss_keep kp hp' h4)
  | .bl _, _, _, hp, _ => by cases hp
  | .loc _, _, _, hp, _ => by cases hp
  | .fn _, _, _, hp, _ => by cases hp
theorem readss_keep {h h' : Heap} (kp : ∀ b o, h.get? b = some o → o.cls = .type "tuple" → h'.get? b = some o) : ∀ {ps : List PV} {vs : List Value} {as : List Addr}, PV.plains ps = true → ReadsAll h vs (toDs ps) as → ReadsAll h' vs (toDs ps) as
  | [], vs, as, _, r => by
    have r' : ReadsAll h vs [] as := r
    cases r'; exact .nil
  | p :: ps, vs, as, hp, r => by
    have r' : ReadsAll h vs (toD p :: toDs ps) as := r
    have hp' : (p.plain && PV.plains ps) = true := hp
    rw [Bool.and_eq_true] at hp'
    cases r' with
    | cons r1 r2 => exact .cons (reads_keep kp hp'.1 r1) (readss_keep kp hp'.2 r2)
end
mutual
theorem reads_fn {h : Heap} : ∀ {p q : PV} {v : Value} {as bs : List Addr}, p.plain = true → q.plain = true → Reads h v (toD p) as → Reads h v (toD q) bs → p = q
  | .non, q, v, as, bs, _, hq, r, r2 => by
    cases r
    cases q with
    | non => rfl
    | int j => exact absurd (show Reads h .none (.int j) bs from r2) (fun z => nomatch z)
    | str t => exact absurd (show Reads h .none (.str (toStr t)) bs from r2) (fun z => nomatch z)
    | tup ys => exact absurd (show Reads h .none (.tuple (toDs ys)) bs from r2) (fun z => nomatch z)
    | bl _ => cases hq
    | loc _ => cases hq
    | fn _ => cases hq
  | .int i, q, v, as, bs, _, hq, r, r2 => by
    have r' : Reads h v (.int i) as := r
    cases r'
    cases q with
    | int j =>
      have r2' : Reads h (.int i _) (.int j) bs := r2
      cases r2'; rfl
    | non => exact absurd (show Reads h (.int i _) .none bs from r2) (fun z => nomatch z)
    | str t => exact absurd (show Reads h (.int i _) (.str (toStr t)) bs from r2) (fun z => nomatch z)
    | tup ys => exact absurd (show Reads h (.int i _) (.tuple (toDs ys)) bs from r2) (fun z => nomatch z)
    | bl _ => cases hq
    | loc _ => cases hq
    | fn _ => cases hq
  | .str s, q, v, as, bs, _, hq, r, r2 => by
    have r' : Reads h v (.str (toStr s)) as := r
    generalize e : toStr s = t at r'
    cases r'
    cases q with
    | str s2 =>
      have r2' : Reads h (.str t _) (.str (toStr s2)) bs := r2
      generalize e2 : toStr s2 = t2 at r2'
      cases r2'
      rw [toStr_inj.mp (e.trans e2.symm)]
    | non => exact absurd (show Reads h (.str t _) .none bs from r2) (fun z => nomatch z)
    | int j => exact absurd (show Reads h (.str t _) (.int j) bs from r2) (fun z => nomatch z)
    | tup ys => exact absurd (show Reads h (.str t _) (.tuple (toDs ys)) bs from r2) (fun z => nomatch z)
    | bl _ => cases hq
    | loc _ => cases hq
    | fn _ => cases hq
  | .tup xs, q, v, as, bs, hp, hq, r, r2 => by
    have hp' : PV.plains xs = true := hp
    have r' : Reads h v (.tuple (toDs xs)) as := r
    cases r' with
    | tuple h1 h2 h3 h4 =>
      cases q with
      | tup ys =>
        have hq' : PV.plains ys = true := hq
        have r2' : Reads h _ (.tuple (toDs ys)) bs := r2
        cases r2' with
        | tuple k1 k2 k3 k4 =>
          rw [h1] at k1
          cases k1
          rw [h3] at k3
          cases k3
          rw [readss_fn hp' hq' h4 k4]
      | non => exact absurd (show Reads h (.ref _) .none bs from r2) (fun z => nomatch z)
      | int j => exact absurd (show Reads h (.ref _) (.int j) bs from r2) (fun z => nomatch z)
      | str s2 => exact absurd (show Reads h (.ref _) (.str (toStr s2)) bs from r2) (fun z => nomatch z)
      | bl _ => cases hq
      | loc _ => cases hq
      | fn _ => cases hq
  | .bl _, _, _, _, _, hp, _, _, _ => by cases hp
  | .loc _, _, _, _, _, hp, _, _, _ => by cases hp
  | .fn _, _, _, _, _, hp, _, _, _ => by cases hp
theorem readss_fn {h : Heap} : ∀ {ps qs : List PV} {vs : List Value} {as bs : List Addr}, PV.plains ps = true → PV.plains qs = true → ReadsAll h vs (toDs ps) as → ReadsAll h vs (toDs qs) bs → ps = qs
  | [], [], _, _, _, _, _, _, _ => rfl
  | [], q :: qs, vs, as, bs, _, _, r, r2 => by
    have r' : ReadsAll h vs [] as := r
    have r2' : ReadsAll h vs (toD q :: toDs qs) bs := r2
    cases r'; cases r2'
  | p :: ps, [], vs, as, bs, _, _, r, r2 => by
    have r' : ReadsAll h vs (toD p :: toDs ps) as := r
    have r2' : ReadsAll h vs [] bs := r2
    cases r2'; cases r'
  | p :: ps, q :: qs, vs, as, bs, hp, hq, r, r2 => by
    have r' : ReadsAll h vs (toD p :: toDs ps) as := r
    have r2' : ReadsAll h vs (toD q :: toDs qs) bs := r2
    have hp' : (p.plain && PV.plains ps) = true := hp
    have hq' : (q.plain && PV.plains qs) = true := hq
    rw [Bool.and_eq_true] at hp' hq'
    cases r' with
    | cons a1 a2 =>
      cases r2' with
      | cons b1 b2 => rw [reads_fn hp'.1 hq'.1 a1 b1, readss_fn hp'.2 hq'.2 a2 b2]
end
/-- what a value in the list is -/
noncomputable def keyPV (vs : List Value) (ps : List PV) (v : Value) : PV := by
  classical exact if h : ∃ p, (v, p) ∈ vs.zip ps then h.choose else .non
theorem readss_mem {h : Heap} : ∀ {ps : List PV} {vs : List Value} {as : List Addr} {v : Value} {p : PV}, PV.plains ps = true → ReadsAll h vs (toDs ps) as → (v, p) ∈ vs.zip ps → p.plain = true ∧ ∃ bs, Reads h v (toD p) bs
  | [], vs, as, v, p, _, _, m => by simp at m
  | q :: ps, vs, as, v, p, hp, r, m => by
    have r' : ReadsAll h vs (toD q :: toDs ps) as := r
    have hp' : (q.plain && PV.plains ps) = true := hp
    rw [Bool.and_eq_true] at hp'
    cases r' with
    | cons r1 r2 =>
      rw [List.zip_cons_cons] at m
      rcases List.mem_cons.mp m with e | m
      · cases e; exact ⟨hp'.1, _, r1⟩
      · exact readss_mem hp'.2 r2 m
theorem readss_len {h : Heap} {ps : List PV} {vs : List Value} {as : List Addr} (r : ReadsAll h vs (toDs ps) as) : vs.length = ps.length := by
  have := ReadsAll.length _ _ _ r
  rw [toDs_len] at this; exact this
section
variable {h : Heap} {vs : List Value} {ps : List PV} {as : List Addr}
theorem key_is (hp : PV.plains ps = true) (r : ReadsAll h vs (toDs ps) as) {v : Value} {p : PV} (m : (v, p) ∈ vs.zip ps) : keyPV vs ps v = p := by
  unfold keyPV
  have ex : ∃ p, (v, p) ∈ vs.zip ps := ⟨p, m⟩
  rw [dif_pos ex]
  obtain ⟨h1, _, h2⟩ := readss_mem hp r ex.choose_spec
  obtain ⟨h3, _, h4⟩ := readss_mem hp r m
  exact reads_fn h1 h3 h2 h4
theorem key_map (hp : PV.plains ps = true) (r : ReadsAll h vs (toDs ps) as) : vs.map (keyPV vs ps) = ps := by
  have l := readss_len r
  refine List.ext_getElem (by rw [List.length_map]; exact l) fun i h1 h2 => ?_
  rw [List.getElem_map]
  refine key_is hp r ?_
  have h3 : i < (vs.zip ps).length := by rw [List.length_zip]; rw [List.length_map] at h1; omega
  have := List.getElem_mem h3
  rwa [List.getElem_zip] at this
theorem key_mem (hp : PV.plains ps = true) (r : ReadsAll h vs (toDs ps) as) {v : Value} (m : v ∈ vs) : keyPV vs ps v ∈ ps ∧ (keyPV vs ps v).plain = true ∧ ∃ bs, Reads h v (toD (keyPV vs ps v)) bs := by
  obtain ⟨i, hi, e⟩ := List.getElem_of_mem m
  have l := readss_len r
  have h3 : i < (vs.zip ps).length := by rw [List.length_zip]; omega
  have m2 : (v, ps[i]'(by omega)) ∈ vs.zip ps := by
    have := List.getElem_mem h3
    rwa [List.getElem_zip, e] at this
  rw [key_is hp r m2]
  exact ⟨List.getElem_mem _, readss_mem hp r m2⟩
end
/-- the place that decides -/
theorem kat_data {prog : Program} {w : World} {A : Around} {s : Shared} {b fin : Bool} {Q : Bool → Shared → Prop} : ∀ {xs ys : List PV} {us ws : List Value} {as bs : List Addr} {i : Nat} {r : Bool}, PV.plains xs = true → PV.plains ys = true → ReadsAll s.heap us (toDs xs) as → ReadsAll s.heap ws (toDs ys) bs →
    PV.lts xs ys = some r → fin = decide (xs.length < ys.length) → (b = true → i = 0 → (PV.tup xs).head = (PV.tup ys).head ∧ ((PV.tup xs).head = 1 ∨ (PV.tup xs).head = 2)) → A.units + min (PyData.depthAll (toDs xs)) (PyData.depthAll (toDs ys)) < cLine → Q r s →
    KatLex prog w A b fin Q (us.zip ws) i s
  | [], ys, us, ws, as, bs, i, r, _, _, ra, rb, e, hf, _, _, hq => by
    have ra' : ReadsAll s.heap us [] as := ra
    cases ra'
    rw [List.zip_nil_left]
    refine kat_nil ?_
    rw [hf]
    cases ys with
    | nil => cases e; exact hq
    | cons _ _ => cases e; exact hq
  | x :: xs, [], us, ws, as, bs, i, r, _, _, ra, rb, e, hf, _, _, hq => by
    have rb' : ReadsAll s.heap ws [] bs := rb
    cases rb'
    rw [List.zip_nil_right]
    refine kat_nil ?_
    rw [hf]
    cases e; exact hq
  | x :: xs, y :: ys, us, ws, as, bs, i, r, hx, hy, ra, rb, e, hf, hb, hu, hq => by
    have ra' : ReadsAll s.heap us (toD x :: toDs xs) as := ra
    have rb' : ReadsAll s.heap ws (toD y :: toDs ys) bs := rb
    have hx' : (x.plain && PV.plains xs) = true := hx
    have hy' : (y.plain && PV.plains ys) = true := hy
    rw [Bool.and_eq_true] at hx' hy'
    have e' : (if x = y then PV.lts xs ys else PV.lt x y) = some r := e
    have hu' : A.units + min (max (toD x).depth (PyData.depthAll (toDs xs))) (max (toD y).depth (PyData.depthAll (toDs ys))) < cLine := hu
    cases ra' with
    | cons r1 r2 =>
      cases rb' with
      | cons s1 s2 =>
        rw [List.zip_cons_cons]
        refine kat_cons ?_
        have q := PySem.SeqAt.eqAt_reads (toD x) (toD y) A s _ _ _ _ r1 s1 (lay_of hx'.1) (lay_of hy'.1) (PySem.SeqAt.room_head hu')
        rw [eqv_of hx'.1 hy'.1] at q
        refine q prog w _ _ ?_
        refine kat_go (fun c => kat_yes ?_) (fun c => kat_no ?_)
        · have c' := of_decide_eq_true c
          rw [if_pos c'] at e'
          refine kat_data hx'.2 hy'.2 r2 s2 e' (by rw [hf]; simp) (fun _ z => absurd z (Nat.succ_ne_zero _)) (PySem.SeqAt.room_tail hu') hq
        · have c' := of_decide_eq_false c
          rw [if_neg c'] at e'
          have lt := rc_lt x y r A s _ _ _ _ hx'.1 hy'.1 r1 s1 e' (PySem.SeqAt.room_head hu')
          cases hbi : (b && i == 0) with
          | false => exact kat_one _ _ (lt prog w _ _ hq)
          | true =>
            rw [Bool.and_eq_true] at hbi
            obtain ⟨k1, k2⟩ := hb hbi.1 (by simpa using hbi.2)
            rcases k2 with k2 | k2
            · cases x <;> first | (simp [PV.head] at k2; done) | skip
              cases y <;> first | (simp [PV.head] at k1; done) | skip
              cases r1; cases s1
              cases e'
              exact oneLt_int hq
            · cases x <;> first | (simp [PV.head] at k2; done) | skip
              cases y <;> first | (simp [PV.head] at k1; done) | skip
              rename_i p1 p2
              have r1' : Reads s.heap _ (.str (toStr p1)) _ := r1
              have s1' : Reads s.heap _ (.str (toStr p2)) _ := s1
              cases r1'; cases s1'
              cases e'
              refine oneLt_str ?_
              have ee : decide ((toStr p1).cps.toList < (toStr p2).cps.toList) = ltTx p1 p2 := by
                show decide _ = decide (p1 < p2)
                exact decide_eq_decide.mpr (by simp [toStr])
              rw [ee]; exact hq
end Kv

set_option Elab.async false
set_option linter.all false
set_option maxRecDepth 100000
namespace Kv
open PySem L2 PySem.SeqAt PyProof.Rows SrtO PySem.W
def HasT (h : Heap) (c : Nat) (f : Value) : Prop := (c = 1 ∧ ∃ i t, f = .int i t) ∨ (c = 2 ∧ ∃ x t, f = .str x t) ∨ (c = 3 ∧ ∃ a o, f = .ref a ∧ h.get? a = some o ∧ o.cls = .type "tuple")
def headT (c : Nat) : Value := if c = 1 then .type "int" else if c = 2 then .type "str" else .type "tuple"
theorem heads_of {h : Heap} {c : Nat} (hc : c ≠ 0) : ∀ {ps : List PV} {vs : List Value} {as : List Addr}, PV.plains ps = true → ReadsAll h vs (toDs ps) as → (∀ p ∈ ps, p.head = c) → ∃ fs, KatTups h vs fs ∧ fs.length = vs.length ∧ ∀ f ∈ fs, HasT h c f
  | [], vs, as, _, r, _ => by
    have r' : ReadsAll h vs [] as := r
    cases r'; exact ⟨[], .nil, rfl, fun f m => nomatch m⟩
  | p :: ps, vs, as, hp, r, hh => by
    have r' : ReadsAll h vs (toD p :: toDs ps) as := r
    have hp' : (p.plain && PV.plains ps) = true := hp
    rw [Bool.and_eq_true] at hp'
    have h0 := hh p List.mem_cons_self
    cases r' with
    | cons r1 r2 =>
      obtain ⟨fs, k1, k2, k3⟩ := heads_of hc hp'.2 r2 fun q m => hh q (List.mem_cons_of_mem _ m)
      cases p with
      | tup xs =>
        have r1' : Reads h _ (.tuple (toDs xs)) _ := r1
        cases r1' with
        | tuple g1 g2 g3 g4 =>
          rename_i a o us n
          cases xs with
          | nil => exact absurd h0.symm hc
          | cons x xs =>
            have g4' : ReadsAll h us.toList (toD x :: toDs xs) _ := g4
            generalize e : us.toList = ul at g4'
            cases g4' with
            | cons q1 q2 =>
              rename_i f ul a1 a2
              have hf : us[0]? = some f := by rw [← Array.getElem?_toList, e]; rfl
              refine ⟨f :: fs, KatTups.cons g1 g2 g3 hf k1, by rw [List.length_cons, List.length_cons, k2], fun z m => ?_⟩
              rcases List.mem_cons.mp m with e2 | m
              · subst e2
                cases x with
                | int i =>
                  have q1' : Reads h _ (.int i) _ := q1
                  cases q1'; exact .inl ⟨h0.symm, _, _, rfl⟩
                | str t =>
                  have q1' : Reads h _ (.str (toStr t)) _ := q1
                  generalize toStr t = tt at q1'
                  cases q1'; exact .inr (.inl ⟨h0.symm, _, _, rfl⟩)
                | tup ys =>
                  have q1' : Reads h _ (.tuple (toDs ys)) _ := q1
                  cases q1' with
                  | tuple w1 w2 w3 w4 => exact .inr (.inr ⟨h0.symm, _, _, rfl, w1, w2⟩)
                | non => exact absurd h0.symm hc
                | bl _ => exact absurd h0.symm hc
                | loc _ => exact absurd h0.symm hc
                | fn _ => exact absurd h0.symm hc
              · exact k3 z m
      | non => exact absurd h0.symm hc
      | int _ => exact absurd h0.symm hc
      | str _ => exact absurd h0.symm hc
      | bl _ => exact absurd h0.symm hc
      | loc _ => exact absurd h0.symm hc
      | fn _ => exact absurd h0.symm hc
theorem sortable_inv {ps : List PV} (h : sortable ps = true) : ps.length ≤ sizeL ∧ PV.plains ps = true ∧ PV.depths ps ≤ 100 ∧ (∃ c, ∀ p ∈ ps, p.head ≠ 0 ∧ p.head = c) ∧ ∀ x ∈ ps, ∀ y ∈ ps, ∃ r, PV.lt x y = some r := by
  unfold sortable at h
  simp only [Bool.and_eq_true, decide_eq_true_eq, List.all_eq_true, bne_iff_ne, ne_eq, beq_iff_eq] at h
  obtain ⟨⟨⟨⟨h1, h2⟩, h3⟩, h4⟩, h5⟩ := h
  exact ⟨h1, h2, h3, ⟨_, fun p m => h4 p m⟩, fun x mx y my => Option.isSome_iff_exists.mp (h5 x mx y my)⟩
theorem depth_mem : ∀ {ps : List PV} {p : PV}, p ∈ ps → p.depth ≤ PV.depths ps
  | [], p, m => nomatch m
  | q :: ps, p, m => by
    show _ ≤ max q.depth (PV.depths ps)
    rcases List.mem_cons.mp m with e | m
    · rw [e]; exact Nat.le_max_left _ _
    · exact Nat.le_trans (depth_mem m) (Nat.le_max_right _ _)
section
variable {prog : Program} {w : World} {A : Around} {E : Value → Shared → Prop} {s : Shared}
theorem data_sortable {a : Addr} {vs : List Value} {ps : List PV} {as : List Addr} (h2 : 2 ≤ vs.length) (r : ReadsAll s.heap vs (toDs ps) as) (hs : sortable ps = true) (ha : ∀ o, s.heap.get? a = some o → o.cls ≠ .type "tuple") (hu : A.units + 110 < cLine) :
    SortableO prog w A s a vs fun v u => PV.tlt (keyPV vs ps v) (keyPV vs ps u) := by
  obtain ⟨z1, z2, z3, ⟨c, z4⟩, z5⟩ := sortable_inv hs
  intro h' keep
  have kp : ∀ b o, s.heap.get? b = some o → o.cls = .type "tuple" → h'.get? b = some o := fun b o e ec => keep b o (fun z => by subst z; exact ha o e ec) e
  have r' := readss_keep kp z2 r
  have ln := readss_len r
  have hc0 : c ≠ 0 := by
    cases ps with
    | nil => rw [List.length_nil] at ln; omega
    | cons p ps => exact fun z => (z4 p List.mem_cons_self).1 ((z4 p List.mem_cons_self).2.trans z)
  obtain ⟨fs, k1, k2, k3⟩ := heads_of hc0 z2 r' fun p m => (z4 p m).2
  refine ⟨tuples' (headT c != .type "tuple"), fun Q E hq => ?_, fun p q hp hq => ?_⟩
  · refine kat_kind (T := headT c) k1 (by omega) (fun f m => ?_) ?_ hq
    · rcases k3 f m with ⟨rfl, i, t, rfl⟩ | ⟨rfl, x, t, rfl⟩ | ⟨rfl, b, o, rfl, g1, g2⟩
      · exact Looks.now
      · exact Looks.now
      · have g : Looks (model prog w) h' (typeOf (.ref b)) o.cls := (Looks.ld g1).andThen .now
        rw [g2] at g
        exact g
    · unfold headT
      split
      · decide
      · split <;> decide
  · obtain ⟨m1, p1, b1, rd1⟩ := key_mem z2 r' hp
    obtain ⟨m2, p2, b2, rd2⟩ := key_mem z2 r' hq
    obtain ⟨b, e⟩ := z5 _ m1 _ m2
    have d1 := Nat.le_trans (depth_mem m1) z3
    have c1 := z4 _ m1
    have c2 := z4 _ m2
    generalize hk1 : keyPV vs ps p.1 = kp1 at *
    generalize hk2 : keyPV vs ps q.1 = kp2 at *
    show wpAny (model prog w) A (keyLt' (tuples' (headT c != .type "tuple")) p.1 q.1) (fun r s' => s' = { s with heap := h' } ∧ r = PV.tlt (keyPV vs ps p.1) (keyPV vs ps q.1)) (fun _ _ => False) { s with heap := h' }
    rw [hk1, hk2, tlt_of e]
    cases kp1 with
    | tup xs =>
      cases kp2 with
      | tup ys =>
        have rd1' : Reads h' p.1 (.tuple (toDs xs)) b1 := rd1
        have rd2' : Reads h' q.1 (.tuple (toDs ys)) b2 := rd2
        generalize p.1 = v1 at rd1' ⊢
        generalize q.1 = v2 at rd2' ⊢
        cases rd1' with
        | tuple g1 g2 g3 g4 =>
          cases rd2' with
          | tuple l1 l2 l3 l4 =>
            refine kat_lt (s := { s with heap := h' }) g1 g3 l1 l3 ?_
            have e1 := ReadsAll.length _ _ _ g4
            have e2 := ReadsAll.length _ _ _ l4
            rw [toDs_len] at e1 e2
            have p1' : PV.plains xs = true := p1
            have p2' : PV.plains ys = true := p2
            have e' : PV.lts xs ys = some b := e
            refine kat_data (s := { s with heap := h' }) p1' p2' g4 l4 e' ?_ (fun hb _ => ?_) ?_ ⟨rfl, rfl⟩
            · rw [← Array.length_toList, ← Array.length_toList, e1, e2]
            · refine ⟨c1.2.trans c2.2.symm, ?_⟩
              rw [c1.2]
              unfold headT at hb
              split at hb
              · rename_i z; exact .inl z
              · split at hb
                · rename_i z; exact .inr z
                · exact absurd hb (by decide)
            · have d1' : PV.depths xs + 1 ≤ 100 := d1
              rw [deps_of, deps_of]
              omega
      | _ => cases e
    | _ => cases kp2 <;> first | (exact absurd rfl c1.1) | cases e
/-- sorted(l) -/
theorem sorted_data {l : Addr} {vs : List Value} {ps : List PV} {as : List Addr} {Q : Value → Shared → Prop} (hl : s.heap.IsList l vs.toArray) (r : ReadsAll s.heap vs (toDs ps) as) (hs : sortable ps = true) (hu : A.units + 150 < cLine)
    (h : ∀ out : List Value, out.Perm vs → out.map (keyPV vs ps) = sortPV ps → Q (.ref (s.heap.objs.size + 1)) { s with heap := sortedAll s.heap vs out.toArray }) : wpAny (model prog w) A (call (.builtin "sorted") [.ref l]) Q E s := by
  obtain ⟨z1, z2, z3, _, _⟩ := sortable_inv hs
  have ln := readss_len r
  refine sorted_ord (ltv := fun v u => PV.tlt (keyPV vs ps v) (keyPV vs ps u)) ⟨fun x y => tlt_swo.asym _ _, fun x y z => tlt_swo.tr _ _ _⟩ hl (by rw [ln]; exact z1) (fun h2 h₁ a ea kk => ?_) fun out o1 o2 => h out o2.perm ?_
  · have r1 := readss_keep (h' := h₁) (fun b o e _ => (kk b o e).2) z2 r
    refine data_sortable (s := { s with heap := h₁ }) h2 r1 hs (fun o e => ?_) ?_
    · have e' : some o = some (seqObj "list" vs.toArray 0) := e.symm.trans ea
      cases e'
      intro z
      exact absurd (Value.type.inj z) (by decide)
    · show A.units + 1 + 1 + 110 < cLine
      omega
  · refine srtd_is ?_ (srtd_map (f := keyPV vs ps) o1) (sortPV_sorted ps)
    have p1 := o2.perm.map (keyPV vs ps)
    rw [key_map z2 r] at p1
    exact p1.trans (sortPV_perm ps).symm
end
end Kv

set_option Elab.async false
set_option linter.all false
set_option maxRecDepth 100000
namespace Kv
open PySem L2 PySem.Spec PySem.SeqAt PyProof.Rows SrtO PySem.W
variable {Z : Kx}
/-! new things, several at once -/
theorem lays {X : Cx} {pins : List (Addr × PySem.Obj)} {σ : L2.St} {H H' : Hp} {s : Shared} {h' : Heap} {tk : Nat} (I : Inv X pins σ H s) (kp : ∀ b u, s.heap.get? b = some u → h'.get? b = some u) (gr : ∀ b u, H b = some u → H' b = some u)
    (nw : ∀ b u, H b = none → H' b = some u → s.heap.objs.size ≤ b ∧ ObjOk X.prog X.w H' h' b u) : Inv X pins σ H' { s with heap := h', toks := tk } := by
  have fr : ∀ b o, s.heap.get? b = some o → H b = none → H' b = none := fun b o e n => by
    cases c : H' b with
    | none => rfl
    | some u => exact absurd (Heap.lt_size e) (Nat.not_lt.mpr (nw b u n c).1)
  refine I.call' (ch := []) rfl ⟨fun b o q _ _ _ => kp b o q, fun b o q _ _ _ => ⟨o.slots, kp b o q⟩, fun b o q n _ => fr b o q n, fun b o q _ => ⟨o, kp b o q⟩, fun b xs q => gr b _ q, fun b o u q => gr b _ q, fun b ps q => ⟨#[], by rw [gr b _ q, Array.append_empty]⟩⟩ (fun b u q => ?_) I.bare fun b m => nomatch m
  cases c : H b with
  | none => exact (nw b u c q).2
  | some v =>
    have e := gr b v c
    rw [q] at e
    cases e
    exact (I.hok b u c).stay (fun d x _ y => kp d x y) (fun d y => gr d _ y) fun d xs y => gr d _ y
def putL : Hp → List (Addr × HO) → Hp
  | H, [] => H
  | H, p :: r => upd (putL H r) p.1 p.2
theorem putL_off {H : Hp} {b : Addr} : ∀ {l : List (Addr × HO)}, b ∉ l.map (·.1) → putL H l b = H b
  | [], _ => rfl
  | p :: r, h => by
    rw [List.map_cons, List.mem_cons, not_or] at h
    show upd (putL H r) p.1 p.2 b = H b
    rw [upd_ne h.1, putL_off h.2]
theorem putL_at {H : Hp} {b : Addr} {u : HO} : ∀ {l : List (Addr × HO)}, (l.map (·.1)).Nodup → (b, u) ∈ l → putL H l b = some u
  | [], _, m => nomatch m
  | p :: r, nd, m => by
    rw [List.map_cons, List.nodup_cons] at nd
    show upd (putL H r) p.1 p.2 b = some u
    rcases List.mem_cons.mp m with e | m
    · subst e; exact upd_same
    · have : b ∈ r.map (·.1) := List.mem_map.mpr ⟨_, m, rfl⟩
      rw [upd_ne fun e : b = p.1 => nd.1 (by rw [← e]; exact this), putL_at nd.2 m]
theorem putL_in {H : Hp} {b : Addr} {u : HO} (hn : H b = none) : ∀ {l : List (Addr × HO)}, putL H l b = some u → (b, u) ∈ l
  | [], h => by
    have h' : H b = some u := h
    rw [hn] at h'; cases h'
  | p :: r, h => by
    have h' : upd (putL H r) p.1 p.2 b = some u := h
    by_cases c : b = p.1
    · rw [c, upd_same] at h'
      cases h'
      rw [c]; exact List.mem_cons_self
    · rw [upd_ne c] at h'
      exact List.mem_cons_of_mem _ (putL_in hn h')
/-! what the sorted list holds -/
theorem dpall_map {K : PySem.W.Frag} {H : Hp} {al : List Addr} (hK : K = Z.K) {ps : List PV} {ws : List V} (hp : PV.plains ps = true) (h : RepVs Z H al ps ws) : DpAll K H ws (toDs ps) := by
  subst hK; exact dps_of hp h
theorem out_rep {H : Hp} {al : List Addr} {ps : List PV} {ws : List V} {its : List Value} (hp : PV.plains ps = true) {as : List Addr} {h : Heap} (r : ReadsAll h its (toDs ps) as) (rep : RepVs Z H al ps ws) (rv : Vals ws its) : ∀ {out : List Value}, (∀ v ∈ out, v ∈ its) → ∃ ys, Vals ys out ∧ RepVs Z H al (out.map (keyPV its ps)) ys
  | [], _ => ⟨[], .nil, rfl⟩
  | v :: out, hm => by
    obtain ⟨ys, h1, h2⟩ := out_rep hp r rep rv (out := out) fun u m => hm u (List.mem_cons_of_mem _ m)
    obtain ⟨i, hi, e⟩ := List.getElem_of_mem (hm v List.mem_cons_self)
    have l := readss_len r
    have li : i < ps.length := by omega
    obtain ⟨w, g1, g2⟩ := rep.get (List.getElem?_eq_getElem li)
    obtain ⟨u, g3, g4⟩ := rv.get g1
    rw [List.getElem?_eq_getElem hi] at g3
    cases g3
    rw [e] at g4
    have h3 : i < (its.zip ps).length := by rw [List.length_zip]; omega
    have m2 : (v, ps[i]) ∈ its.zip ps := by
      have := List.getElem_mem h3
      rwa [List.getElem_zip, e] at this
    refine ⟨w :: ys, .cons g4 h1, w, ys, rfl, ?_, h2⟩
    rw [key_is hp r m2]; exact g2
section
variable {X : Cx}
/-- sorted(l), l a list of data that may be sorted -/
def rSortD (Z : Kx) (al : List Addr) : List V → Hp → VK → Prop := fun vs H Q => ∃ (a : Addr) (ws : List V) (ps : List PV), vs = [.ref a] ∧ SqL Z.K H a ws ∧ RepVs Z H al ps ws ∧ sortable ps = true ∧ ∀ ys p, RepVs Z H al (sortPV ps) ys → H p = none → Q (.ref p) (upd H p (.lst ys))
theorem cr_sortD {al : List Addr} (hK : X.K = Z.K) (hu : X.A.units + 150 < cLine) : CallR X (.builtin "sorted") (rSortD Z al) := by
  intro pins s σ H vs us Q I r ⟨a, ws, ps, ex, hs, rep, so, q⟩
  subst ex
  rw [Vals.ref1 r]
  obtain ⟨its, rv, hl, hz⟩ := I.list (by rw [hK]; exact hs)
  obtain ⟨z1, z2, z3, _, _⟩ := sortable_inv so
  obtain ⟨as, rd⟩ := Dp.readsAll I (toDs ps) ws its (dpall_map hK z2 rep) rv
  refine sorted_data (ps := ps) hl.isList rd so hu fun out o1 o2 => ?_
  obtain ⟨ys, y1, y2⟩ := out_rep z2 rd rep rv (out := out) fun v m => o1.mem_iff.mp m
  rw [o2] at y2
  obtain ⟨ep, he⟩ := sortedAll_at s.heap its out.toArray
  have ln : ys.length ≤ sizeLine := by
    rw [y1.length, o1.length_eq, ← rv.length]; exact hz
  exact ⟨.ref _, upd H (s.heap.objs.size + 1) (.lst ys), I.laid (t' := s.toks) (fun _ _ => sortedAll_old) (Nat.le_succ _) ⟨ln, out, ep, y1, he⟩, rfl, q ys _ y2 (I.hok.fresh (Nat.le_succ _))⟩
/-- sorted(e.items()) -/
def tSit (Z : Kx) (te : TE) : TE := fun σ H Q => te σ H fun x H1 => ∃ (d : Addr) (hk : List (Key × V)) (kvs : List (PV × PV)) (l : List Addr), x = .ref d ∧ H1 d = some (.dK hk) ∧ RepK Z H1 l kvs hk ∧ sortable (kvs.map fun p => .tup [p.1, p.2]) = true ∧
  ∀ H' ys p, Same H1 H' → H1 p = none → H' p = some (.lst ys) → RepVs Z H' l (sortPV (kvs.map fun p => .tup [p.1, p.2])) ys → Q (.ref p) H'
theorem kdx_reads {H : Hp} {l : List Addr} {h' : Heap} (hK : X.K = Z.K) {pins : List (Addr × PySem.Obj)} {σ : L2.St} {s : Shared} (I : Inv X pins σ H s) (kp : ∀ b o, s.heap.get? b = some o → h'.get? b = some o) :
    ∀ {kvs : List (PV × PV)} {hk : List (Key × V)} {vs : List (Key × Value)} {as : List Addr}, RepK Z H l kvs hk → KV hk vs → PV.plains (kvs.map fun p => .tup [p.1, p.2]) = true → as.length = vs.length →
    (∀ (j : Nat) (a : Addr), as[j]? = some a → ∃ key k x, vs[j]? = some (k, x) ∧ keyIs k key = true ∧ h'.get? a = some { cls := .type "tuple", data := .seq #[key, x] }) → ∃ bs, ReadsAll h' (as.map Value.ref) (toDs (kvs.map fun p => .tup [p.1, p.2])) bs
  | [], _, vs, as, r, kv, _, ln, g => by
    cases r
    cases kv
    have : as = [] := List.length_eq_zero_iff.mp ln
    subst this
    exact ⟨_, .nil⟩
  | p :: kvs, _, vs, as, ⟨k, v, vr, e, r1, r2, r3⟩, kv, hp, ln, g => by
    subst e
    cases kv with
    | cons c1 c2 =>
      rename_i q vs
      cases as with
      | nil => cases ln
      | cons a as =>
        have hp' : ((p.1.plain && (p.2.plain && true)) && PV.plains (kvs.map fun p => .tup [p.1, p.2])) = true := hp
        simp only [Bool.and_eq_true, and_true] at hp'
        obtain ⟨⟨hp1, hp2⟩, hp3⟩ := hp'
        obtain ⟨key, k', x, g1, g2, g3⟩ := g 0 a rfl
        cases g1
        obtain ⟨e1, e2⟩ := c1
        have e1' : k = k' := e1
        subst e1'
        have d1 := dp_of hp1 r1
        have d2 := dp_of hp2 r2
        rw [← hK] at d1 d2
        obtain ⟨a1, w1⟩ := Dp.reads I (toD p.1) (kV k) key d1 (relV_key g2)
        obtain ⟨a2, w2⟩ := Dp.reads I (toD p.2) v x d2 e2
        obtain ⟨a3, w3⟩ := kdx_reads hK I kp r3 c2 hp3 (Nat.succ.inj ln) (fun j b hj => by
          obtain ⟨ky, kk, xx, t1, t2, t3⟩ := g (j + 1) b hj
          exact ⟨ky, kk, xx, t1, t2, t3⟩)
        refine ⟨_, .cons (.tuple (xs := [toD p.1, toD p.2]) g3 rfl rfl (.cons (reads_keep (fun b o e _ => kp b o e) hp1 w1) (.cons (reads_keep (fun b o e _ => kp b o e) hp2 w2) .nil))) w3⟩
/-- the pairs, as they are tracked -/
theorem pair_list {H : Hp} {l : List Addr} {h' : Heap} : ∀ {kvs : List (PV × PV)} {hk : List (Key × V)} {vs : List (Key × Value)} {as : List Addr}, RepK Z H l kvs hk → KV hk vs → as.length = vs.length →
    (∀ (j : Nat) (a : Addr), as[j]? = some a → ∃ key k x, vs[j]? = some (k, x) ∧ keyIs k key = true ∧ h'.get? a = some { cls := .type "tuple", data := .seq #[key, x] }) →
    ∃ L : List (Addr × HO), L.map (·.1) = as ∧ (∀ b u, (b, u) ∈ L → ∃ k x w1 w2, u = .frz { cls := .type "tuple", data := .seq #[k, x] } (.tup [w1, w2]) ∧ h'.get? b = some { cls := .type "tuple", data := .seq #[k, x] } ∧ Vals [w1, w2] [k, x]) ∧
      ∀ H', (∀ b u, (b, u) ∈ L → H' b = some u) → Same H H' → RepVs Z H' l (kvs.map fun p => .tup [p.1, p.2]) (as.map V.ref)
  | [], _, vs, as, r, kv, ln, g => by
    cases r
    cases kv
    have : as = [] := List.length_eq_zero_iff.mp ln
    subst this
    exact ⟨[], rfl, fun b u m => (nomatch m), fun H' _ _ => rfl⟩
  | p :: kvs, _, vs, as, ⟨k, v, vr, e, r1, r2, r3⟩, kv, ln, g => by
    subst e
    cases kv with
    | cons c1 c2 =>
      rename_i q vs
      cases as with
      | nil => cases ln
      | cons a as =>
        obtain ⟨key, k', x, g1, g2, g3⟩ := g 0 a rfl
        cases g1
        obtain ⟨e1, e2⟩ := c1
        have e1' : k = k' := e1
        subst e1'
        obtain ⟨L, l1, l2, l3⟩ := pair_list r3 c2 (Nat.succ.inj ln) (fun j b hj => by
          obtain ⟨ky, kk, xx, t1, t2, t3⟩ := g (j + 1) b hj
          exact ⟨ky, kk, xx, t1, t2, t3⟩)
        refine ⟨(a, .frz { cls := .type "tuple", data := .seq #[key, x] } (.tup [kV k, v])) :: L, by rw [List.map_cons, l1], fun b u m => ?_, fun H' hm sm => ?_⟩
        · rcases List.mem_cons.mp m with e | m
          · cases e
            exact ⟨key, x, kV k, v, rfl, g3, .cons (relV_key g2) (.cons e2 .nil)⟩
          · exact l2 b u m
        · refine ⟨.ref a, as.map V.ref, rfl, ⟨a, [kV k, v], rfl, .inl ⟨_, hm _ _ List.mem_cons_self, rfl⟩, kV k, [v], rfl, r1.same sm, v, [], rfl, r2.same sm, rfl⟩, l3 H' (fun b u m => hm b u (List.mem_cons_of_mem _ m)) sm⟩
theorem refs_vals : ∀ as : List Addr, Vals (as.map V.ref) (as.map Value.ref)
  | [] => .nil
  | _ :: as => .cons rfl (refs_vals as)
theorem pe_sit {e : Expr} {te : TE} {p apos cpos pos : Pos} (hc : X.calm = true) (hK : X.K = Z.K) (hu : X.A.units + 200 < cLine) (he : PE X e te) (hg : Gl X "sorted") (hm : X.mg "sorted" = none)
    (hbase : attributeBase e "items" X.env (eval e X.env) = eval e X.env) (hline : (apos.endLine == cpos.line) = true)
    (hs : starEach [.Call (.Attribute e "items" apos) [] [] cpos] X.env = [(false, eval (.Call (.Attribute e "items" apos) [] [] cpos) X.env)]) :
    PE X (.Call (.Name "sorted" p) [.Call (.Attribute e "items" apos) [] [] cpos] [] pos) (tSit Z te) := by
  refine ⟨fun pins s σ H Q I hq => ?_⟩
  refine Call_ (ld_blt I hg hm KvS.boot_srt (PyProof.Rows.callWith_builtin1 (PyProof.Rows.args_cons ?_ (by rw [hs]; rfl)) (by rw [hs]; rfl) rfl))
  refine wpAny_Call_method (T := "dict") (id := "dict.items") hbase rfl hline F.plainAttrs_dict F.slot_dict_items F.type_dict_items (thn (he.run pins s σ H _ I hq) fun u s1 ⟨x, H1, I1, rx, d, hk, kvs, l, ex, hd, rep, so, q⟩ => ?_)
  subst ex
  obtain rfl : u = Value.ref d := rx
  obtain ⟨hz, hs0, vs, kv, hdo⟩ := I1.hok d _ hd
  obtain ⟨ep, hat⟩ := hdo.dictAt
  have lk : hk.length = vs.length := Paired.length kv
  obtain ⟨z1, z2, z3, _, _⟩ := sortable_inv so
  refine ⟨hdo.typeIs, hdo.mapOf.noDict, ?_⟩
  show wpAny _ _ (callWith cpos (.builtin "dict.items") [.ref d] [] []) _ X.xe s1
  refine method_meetsIn F.slot_dict_items F.entry_dict_items rfl (PySem.evalArgs_none ⟨rfl, hdo.typeIs, F.args_dict_items_1 _, _, meets_dict_items (mixKind X.prog X.w) d hs0, ⟨vs, hdo⟩, ?_⟩)
  refine PyProof.Rows.args_nil ?_
  refine Calls.call_function_entry kind_sorted plain_sorted entry_sorted (args_sorted1 _) ?_
  unfold Builtin.«sorted»
  refine wpAny_bind (m := checkCount "sorted" 1 1 _) (wpAny_pure (wpAny_bind ?_))
  have lv : vs.length ≤ sizeLine := by rw [← lk]; exact hz
  refine kdx_collect (knd := mixKind X.prog X.w) (kvs := vs) (ep := ep) (A := X.A.in1) (I1.ok.hd hc) ⟨_, Heap.get?_push_size _ rfl, rfl, rfl⟩ (hat.push _) lv fun h' tk as kp ln hG => ?_
  have kp1 : ∀ b o, s1.heap.get? b = some o → h'.get? b = some o := fun b o e => kp b o (Heap.get?_push_of_some _ e)
  obtain ⟨bs, rd⟩ := kdx_reads (Z := Z) hK I1 kp1 rep kv z2 ln hG.pairs
  refine wpAny_bind (wpAny_newList ?_ (by rw [List.length_map, ln]; exact lv))
  have g : (h'.push (seqObj "list" (as.map Value.ref).toArray 0)).get? h'.objs.size = some (seqObj "list" (as.map Value.ref).toArray 0) := Heap.get?_push_size _ rfl
  refine wpAny_bind (wpAny_holding (wpAny_call_entry slot_list_sort ⟨_, g, rfl⟩ entry_list_sort (list_sort_ord (ltv := fun v u => PV.tlt (keyPV (as.map Value.ref) (kvs.map fun p => .tup [p.1, p.2]) v) (keyPV (as.map Value.ref) (kvs.map fun p => .tup [p.1, p.2]) u)) ⟨fun x y => tlt_swo.asym _ _, fun x y z => tlt_swo.tr _ _ _⟩ g (by rw [List.length_map, ln]; exact lv) (fun h2 => ?_) fun out o1 o2 => ⟨_, rfl, ?_⟩) (args_list_sort _)))
  · refine data_sortable (s := { s1 with heap := h'.push (seqObj "list" (as.map Value.ref).toArray 0), toks := tk }) h2 (readss_keep (fun b o e _ => Heap.get?_push_of_some _ e) z2 rd) so (fun o e => ?_) ?_
    · have e' : some o = some (seqObj "list" (as.map Value.ref).toArray 0) := e.symm.trans g
      cases e'
      intro z
      exact absurd (Value.type.inj z) (by decide)
    · show X.A.units + 1 + 1 + 110 < cLine
      omega
  · refine wpAny_pure ⟨_, rfl, ?_⟩
    obtain ⟨L, l1, l2, l3⟩ := pair_list rep kv ln hG.pairs
    have above : ∀ a ∈ as, s1.heap.objs.size < a := fun a m => by
      have this : (s1.heap.push _).objs.size < a := hG.above a m
      rw [Heap.size_push] at this
      exact Nat.lt_of_succ_lt this
    have below : ∀ a ∈ as, a < h'.objs.size := fun a m => hG.there m
    have nd : (L.map (·.1)).Nodup := by rw [l1]; exact List.Pairwise.imp (fun {a b} (h : a < b) => Nat.ne_of_lt h) hG.rise
    have newA : ∀ a ∈ as, H1 a = none := fun a m => I1.hok.fresh (Nat.le_of_lt (above a m))
    have sz : s1.heap.objs.size ≤ h'.objs.size := Nat.le_of_lt (Heap.lt_size (kp _ _ (Heap.get?_push_size _ rfl)))
    have newS : H1 h'.objs.size = none := I1.hok.fresh sz
    have offS : h'.objs.size ∉ L.map (·.1) := by
      rw [l1]; exact fun m => Nat.lt_irrefl _ (below _ m)
    have sm0 : Same H1 (putL H1 L) := fun b u e => by
      rw [putL_off (fun m => by rw [l1] at m; rw [newA b m] at e; cases e)]; exact e
    have rep0 := l3 (putL H1 L) (fun b u m => putL_at nd m) sm0
    obtain ⟨ys, y1, y2⟩ := out_rep z2 rd rep0 (refs_vals as) (out := out) fun v m => o2.perm.mem_iff.mp m
    have eo : out.map (keyPV (as.map Value.ref) (kvs.map fun p => .tup [p.1, p.2])) = sortPV (kvs.map fun p => .tup [p.1, p.2]) := by
      refine srtd_is ?_ (srtd_map (f := keyPV (as.map Value.ref) (kvs.map fun p => .tup [p.1, p.2])) o1) (sortPV_sorted _)
      have p1 := o2.perm.map (keyPV (as.map Value.ref) (kvs.map fun p => .tup [p.1, p.2]))
      rw [key_map z2 rd] at p1
      exact p1.trans (sortPV_perm _).symm
    rw [eo] at y2
    have putS : putL H1 L h'.objs.size = none := by rw [putL_off offS]; exact newS
    have sm1 : Same (putL H1 L) (upd (putL H1 L) h'.objs.size (.lst ys)) := same_new putS _
    obtain ⟨c, hcc⟩ := sortedHeap_at (vs := as.map Value.ref) (out := out.toArray) g
    have keep2 : ∀ b o, h'.get? b = some o → (sortedHeap (h'.push (seqObj "list" (as.map Value.ref).toArray 0)) h'.objs.size (as.map Value.ref) out.toArray).get? b = some o := fun b o e => by
      have lt := Heap.lt_size e
      exact (sortedHeap_old (Nat.ne_of_lt lt) (by rw [Heap.size_push]; exact Nat.lt_succ_of_lt lt)).trans (Heap.get?_push_of_some _ e)
    have ly : ys.length ≤ sizeLine := by rw [y1.length, o2.perm.length_eq, List.length_map, ln]; exact lv
    refine ⟨.ref h'.objs.size, upd (putL H1 L) h'.objs.size (.lst ys), lays (s := s1) (tk := tk) I1 (fun b u e => keep2 b u (kp1 b u e)) (fun b u e => sm1 b u (sm0 b u e)) (fun b u e1 e2 => ?_), rfl, q _ ys _ (fun b u e => sm1 b u (sm0 b u e)) newS upd_same (y2.same sm1)⟩
    by_cases eb : b = h'.objs.size
    · subst eb
      rw [upd_same] at e2
      cases e2
      exact ⟨sz, ly, out, c, y1, hcc⟩
    · rw [upd_ne eb] at e2
      have m := putL_in e1 e2
      obtain ⟨k, x, w1, w2, eu, g3, g4⟩ := l2 b u m
      have mb : b ∈ as := by rw [← l1]; exact List.mem_map.mpr ⟨_, m, rfl⟩
      subst eu
      exact ⟨Nat.le_of_lt (above b mb), keep2 b _ g3, by show 2 ≤ sizeLine; decide, [k, x], g4, ⟨_, keep2 b _ g3, rfl, 0, rfl⟩⟩
end
end Kv

set_option Elab.async false
set_option linter.all false
set_option maxRecDepth 100000
/-! Comparisons, indexes, slices, truth. -/
namespace Kv
open PySem L2 PySem.Spec PyProof.Rows
variable {Z : Kx}

section
variable {H : Hp} {al : List Addr}
theorem asTx_rep : ∀ {xs : List PV} {vs : List V} {ts : List Tx}, RepVs Z H al xs vs → asTx xs = some ts → vs = ts.map fun t => V.str (toStr t)
  | [], _, _, h, e => by cases h; cases e; rfl
  | x :: xs, _, ts, ⟨v, vr, ev, h1, h2⟩, e => by
    subst ev
    cases x with
    | str s =>
      cases q : asTx xs with
      | none => simp only [asTx, q] at e; cases e
      | some tr =>
        simp only [asTx, q] at e
        cases e
        cases h1
        rw [asTx_rep h2 q]; rfl
    | _ => simp only [asTx] at e; cases e
theorem asInts_rep : ∀ {xs : List PV} {vs : List V} {ts : List Int}, RepVs Z H al xs vs → asInts xs = some ts → vs = ts.map V.int
  | [], _, _, h, e => by cases h; cases e; rfl
  | x :: xs, _, ts, ⟨v, vr, ev, h1, h2⟩, e => by
    subst ev
    cases x with
    | int s =>
      cases q : asInts xs with
      | none => simp only [asInts, q] at e; cases e
      | some tr =>
        simp only [asInts, q] at e
        cases e
        cases h1
        rw [asInts_rep h2 q]; rfl
    | _ => simp only [asInts] at e; cases e
theorem asBools_rep : ∀ {xs : List PV} {vs : List V} {ts : List Bool}, RepVs Z H al xs vs → asBools xs = some ts → vs = ts.map V.bl
  | [], _, _, h, e => by cases h; cases e; rfl
  | x :: xs, _, ts, ⟨v, vr, ev, h1, h2⟩, e => by
    subst ev
    cases x with
    | bl s =>
      cases q : asBools xs with
      | none => simp only [asBools, q] at e; cases e
      | some tr =>
        simp only [asBools, q] at e
        cases e
        cases h1
        rw [asBools_rep h2 q]; rfl
    | _ => simp only [asBools] at e; cases e
end
theorem inV_str (c : Tx) : ∀ ts : List Tx, inV (.str (toStr c)) (ts.map fun t => V.str (toStr t)) = ts.contains c
  | [] => rfl
  | t :: ts => by
    show (eqV (.str (toStr t)) (.str (toStr c)) || inV (.str (toStr c)) (ts.map fun t => V.str (toStr t))) = _
    rw [inV_str c ts, List.contains_cons]
    show ((toStr t == toStr c) || _) = _
    rw [dec_str]
    congr 1
    by_cases h : t = c
    · subst h; simp
    · rw [decide_eq_false h]; exact (beq_eq_false_iff_ne.mpr fun e => h e.symm).symm
theorem inV_int (c : Int) : ∀ ts : List Int, inV (.int c) (ts.map V.int) = ts.contains c
  | [] => rfl
  | t :: ts => by
    show (eqV (.int t) (.int c) || inV (.int c) (ts.map V.int)) = _
    rw [inV_int c ts, List.contains_cons]
    show ((t == c) || _) = _
    congr 1
    by_cases h : t = c
    · subst h; rfl
    · rw [beq_eq_false_iff_ne.mpr h]; exact (beq_eq_false_iff_ne.mpr fun e => h e.symm).symm

section
variable {X : Cx} {H : Hp} {al : List Addr}
/-- in of a dict -/
theorem op_inD (hu : X.A.units + 1 < cLine) : OpR X (compareOp .In) (fun x y H Q => ∃ a o, y = .ref a ∧ DGet H a x o ∧ Q (.bl o.isSome) H) := by
  intro pins s σ H x y v u Q I rx ry ⟨a, o, e, g, q⟩
  subst e
  obtain rfl : u = Value.ref a := ry
  exact d_in hu I g rx fun s4 I4 => ⟨.bl o.isSome, H, I4, rfl, q⟩
theorem op_notInD (hu : X.A.units + 1 < cLine) : OpR X (compareOp .NotIn) (fun x y H Q => ∃ a o, y = .ref a ∧ DGet H a x o ∧ Q (.bl (!o.isSome)) H) := by
  intro pins s σ H x y v u Q I rx ry ⟨a, o, e, g, q⟩
  subst e
  obtain rfl : u = Value.ref a := ry
  exact d_notIn hu I g rx fun s4 I4 => ⟨.bl (!o.isSome), H, I4, rfl, q⟩
/-- the key that a value is -/
theorem key_of_rep {k : PV} {v : V} (h : RepV Z H al k v) (ik : k.isKey = true) : ∃ key, v = kV key ∧ ∀ {k' : PV} {key' : Key}, RepV Z H al k' (kV key') → (key' = key ↔ k' = k) := by
  cases k with
  | int i =>
    cases h
    refine ⟨.inl i, rfl, fun {k' key'} h' => ?_⟩
    cases k' with
    | int j =>
      have e : kV key' = .int j := h'
      cases key' with
      | inl m =>
        have e' : V.int m = V.int j := e
        injection e' with e'
        subst e'
        constructor
        · intro h; cases h; rfl
        · intro h; cases h; rfl
      | inr m => cases e
    | str s =>
      have e : kV key' = .str (toStr s) := h'
      cases key' with
      | inl m => cases e
      | inr m => constructor <;> (intro h; cases h)
    | tup _ =>
      obtain ⟨a, _, e, _⟩ := h'
      cases key' <;> cases e
    | loc _ =>
      obtain ⟨a, _, e⟩ := h'
      cases key' <;> cases e
    | non => have e : kV key' = .non := h'; cases key' <;> cases e
    | bl b => have e : kV key' = .bl b := h'; cases key' <;> cases e
    | fn f => have e : kV key' = .ref (Z.fa f) := h'; cases key' <;> cases e
  | str s =>
    cases h
    refine ⟨.inr (toStr s), rfl, fun {k' key'} h' => ?_⟩
    cases k' with
    | str t =>
      have e : kV key' = .str (toStr t) := h'
      cases key' with
      | inr m =>
        have e' : V.str m = V.str (toStr t) := e
        injection e' with e'
        subst e'
        constructor
        · intro h
          injection h with h
          rw [toStr_inj.mp h]
        · intro h; cases h; rfl
      | inl m => cases e
    | int j =>
      have e : kV key' = .int j := h'
      cases key' with
      | inr m => cases e
      | inl m => constructor <;> (intro h; cases h)
    | tup _ =>
      obtain ⟨a, _, e, _⟩ := h'
      cases key' <;> cases e
    | loc _ =>
      obtain ⟨a, _, e⟩ := h'
      cases key' <;> cases e
    | non => have e : kV key' = .non := h'; cases key' <;> cases e
    | bl b => have e : kV key' = .bl b := h'; cases key' <;> cases e
    | fn f => have e : kV key' = .ref (Z.fa f) := h'; cases key' <;> cases e
  | _ => cases ik
theorem dlook_rep {k : PV} {key : Key} (hk : ∀ {k' : PV} {key' : Key}, RepV Z H al k' (kV key') → (key' = key ↔ k' = k)) : ∀ {kvs : List (PV × PV)} {hs : List (Key × V)}, RepK Z H al kvs hs →
    match dlook kvs k with
    | some p => ∃ v, valV hs key = some v ∧ RepV Z H al p v
    | none => valV hs key = none
  | [], _, h => by cases h; rfl
  | p :: kvs, _, ⟨q, v, hr, e, h1, h2, h3⟩ => by
    subst e
    have ih := dlook_rep hk h3
    have step : dlook (p :: kvs) k = if p.1 = k then some p.2 else dlook kvs k := by
      unfold dlook
      rw [List.find?_cons]
      by_cases c : p.1 = k
      · simp [c]
      · simp [c]
    rw [step]
    by_cases c : p.1 = k
    · rw [if_pos c, valV_pos ((hk h1).mpr c)]
      exact ⟨v, rfl, h2⟩
    · rw [if_neg c, valV_neg (fun z => c ((hk h1).mp z))]
      exact ih
theorem repK_put {H : Hp} {al : List Addr} {k : PV} {key : Key} {p : PV} {v : V} (hk : ∀ {k' : PV} {key' : Key}, RepV Z H al k' (kV key') → (key' = key ↔ k' = k)) (rk : RepV Z H al k (kV key)) (rv : RepV Z H al p v) : ∀ {kvs : List (PV × PV)} {hs : List (Key × V)}, RepK Z H al kvs hs → RepK Z H al (dput kvs k p) (putK hs key v) := by
  have any : ∀ {kvs : List (PV × PV)} {hs : List (Key × V)}, RepK Z H al kvs hs → (kvs.any fun q => decide (q.1 = k)) = hs.any fun q => decide (q.1 = key) := by
    intro kvs
    induction kvs with
    | nil => intro hs h; cases h; rfl
    | cons q r ih =>
      rintro hs ⟨k', w, hr, e, h1, h2, h3⟩
      subst e
      rw [List.any_cons, List.any_cons, ih h3]
      congr 1
      by_cases c : q.1 = k
      · rw [decide_eq_true c, decide_eq_true ((hk h1).mpr c)]
      · rw [decide_eq_false c, decide_eq_false (fun z => c ((hk h1).mp z))]
  have mp : ∀ {kvs : List (PV × PV)} {hs : List (Key × V)}, RepK Z H al kvs hs → RepK Z H al (kvs.map fun q => if q.1 = k then (q.1, p) else q) (hs.map fun q => if q.1 = key then (q.1, v) else q) := by
    intro kvs
    induction kvs with
    | nil => intro hs h; cases h; rfl
    | cons q r ih =>
      rintro hs ⟨k', w, hr, e, h1, h2, h3⟩
      subst e
      rw [List.map_cons, List.map_cons]
      by_cases c : q.1 = k
      · rw [if_pos c, if_pos ((hk h1).mpr c)]
        exact ⟨k', v, _, rfl, h1, rv, ih h3⟩
      · rw [if_neg c, if_neg (fun z => c ((hk h1).mp z))]
        exact ⟨k', w, _, rfl, h1, h2, ih h3⟩
  have ap : ∀ {kvs : List (PV × PV)} {hs : List (Key × V)}, RepK Z H al kvs hs → RepK Z H al (kvs ++ [(k, p)]) (hs ++ [(key, v)]) := by
    intro kvs
    induction kvs with
    | nil => intro hs h; cases h; exact ⟨key, v, [], rfl, rk, rv, rfl⟩
    | cons q r ih =>
      rintro hs ⟨k', w, hr, e, h1, h2, h3⟩
      subst e
      exact ⟨k', w, _, rfl, h1, h2, ih h3⟩
  intro kvs hs h
  unfold dput putK
  rw [any h]
  split
  · exact mp h
  · exact ap h
/-- a dict, own or locked -/
theorem dic_get {kvs : List (PV × PV)} {a : Addr} {k : PV} {v : V} (h : RepO Z H al (.dic kvs) a ∨ RepO Z H al (.fdic kvs) a) (hk : RepV Z H al k v) (ik : k.isKey = true) :
    match dlook kvs k with
    | some p => ∃ w, DGet H a v (some w) ∧ RepV Z H al p w
    | none => DGet H a v none := by
  obtain ⟨hs, rd, hr⟩ : ∃ hs, Rd H a (.dK hs) ∧ RepK Z H al kvs hs := by
    rcases h with ⟨hs, h1, h2⟩ | ⟨hs, o, h1, h2⟩
    · exact ⟨hs, .inl h1, h2⟩
    · exact ⟨hs, .inr ⟨o, h1⟩, h2⟩
  obtain ⟨key, rfl, hkey⟩ := key_of_rep hk ik
  have q := dlook_rep hkey hr
  split
  · rename_i p e
    rw [e] at q
    obtain ⟨w, q1, q2⟩ := q
    exact ⟨w, .inl ⟨hs, key, rd, rfl, q1.symm⟩, q2⟩
  · rename_i e
    rw [e] at q
    exact .inl ⟨hs, key, rd, rfl, q.symm⟩

theorem eq_ok (hK : X.K = Z.K) (hu : X.A.units + 200 < cLine) {c d : SV} {x y : V} {Q : VK} {r : Bool} {f : Bool → Bool} {op : CmpOp} (hf : (op = .Eq ∧ f = id) ∨ (op = .NotEq ∧ f = (!·))) (e : eqSV c d = some r) (hc : RepC Z H al c x) (hd : RepC Z H al d y) (q : Q (.bl (f r)) H) : rAny X (compareOp op) x y H Q := by
  have data : ∀ {dx dy : PyData}, Dp Z.K H x dx → Dp Z.K H y dy → dx.canLay0 = true → dy.canLay0 = true → dx.depth ≤ 150 → PyData.eqv dx dy = r → rAny X (compareOp op) x y H Q := by
    intro dx dy h1 h2 h3 h4 h5 h6
    rcases hf with ⟨rfl, rfl⟩ | ⟨rfl, rfl⟩
    · exact .of (op_eqW (n := 150) (by omega)) ⟨dx, dy, by rw [hK]; exact h1, by rw [hK]; exact h2, h3, h4, h5, by rw [h6]; exact q⟩
    · exact .of (op_neW (n := 150) (by omega)) ⟨dx, dy, by rw [hK]; exact h1, by rw [hK]; exact h2, h3, h4, h5, by rw [h6]; exact q⟩
  unfold eqSV at e
  split at e
  · cases e; cases hc; cases hd
    rename_i a b
    have de : decide (V.bl a = V.bl b) = decide (a = b) := by
      by_cases h : a = b
      · subst h; simp
      · rw [decide_eq_false h, decide_eq_false fun z => h (V.bl.inj z)]
    rcases hf with ⟨rfl, rfl⟩ | ⟨rfl, rfl⟩
    · exact .of op_eq ⟨rfl, by rw [de]; exact q⟩
    · exact .of op_ne ⟨rfl, by rw [de]; exact q⟩
  · split at e
    · rename_i h
      cases e
      simp only [Bool.and_eq_true, decide_eq_true_eq] at h
      obtain ⟨⟨⟨h1, h2⟩, h3⟩, h4⟩ := h
      exact data (dp_of h1 hc) (dp_of h2 hd) (lay_of h1) (lay_of h2) (by rw [dep_of]; exact h3) (eqv_of h1 h2)
    · cases e
  · split at e
    · rename_i h
      cases e
      simp only [Bool.and_eq_true, decide_eq_true_eq] at h
      obtain ⟨⟨⟨h1, h2⟩, h3⟩, h4⟩ := h
      obtain ⟨a, rfl, vs, g1, g2⟩ := hc
      obtain ⟨b, rfl, ws, g3, g4⟩ := hd
      refine data (dx := .list (toDs _)) (dy := .list (toDs _)) (.lst (.of g1) (dps_of h1 g2)) (.lst (.of g3) (dps_of h2 g4)) (lays_of h1) (lays_of h2) ?_ (eqvs_of h1 h2)
      show PyData.depthAll _ + 1 ≤ 150
      rw [deps_of]; omega
    · cases e
  · split at e
    · rename_i h
      cases e
      simp only [Bool.and_eq_true, decide_eq_true_eq] at h
      obtain ⟨⟨⟨h1, h2⟩, h3⟩, h4⟩ := h
      obtain ⟨a, rfl, vs, g1, g2⟩ := hc
      obtain ⟨b, rfl, ws, g3, g4⟩ := hd
      refine data (dx := .list (toDs _)) (dy := .list (toDs _)) (.lst g1.seq (dps_of h1 g2)) (.lst (.of g3) (dps_of h2 g4)) (lays_of h1) (lays_of h2) ?_ (eqvs_of h1 h2)
      show PyData.depthAll _ + 1 ≤ 150
      rw [deps_of]; omega
    · cases e
  · cases e

theorem shp {k : PV} (h : k.plain = true) (hd : k.depth ≤ 60) : SeqAt.shaped (toD k) = true := by
  show ((toD k).canLay0 && decide ((toD k).depth ≤ 64)) = true
  rw [lay_of h, dep_of, decide_eq_true (by omega)]; rfl
theorem shpL {xs : List PV} (h : PV.plains xs = true) (hd : PV.depths xs ≤ 60) : SeqAt.shaped (.list (toDs xs)) = true := by
  show (PyData.canLayAll0 (toDs xs) && decide (PyData.depthAll (toDs xs) + 1 ≤ 64)) = true
  rw [lays_of h, deps_of, decide_eq_true (by omega)]; rfl
theorem any_of {k : PV} (h : k.plain = true) : ∀ {xs : List PV}, PV.plains xs = true → ((toDs xs).any fun z => PyData.eqv z (toD k)) = decide (k ∈ xs)
  | [], _ => by simp [toDs]
  | x :: xs, p => by
    have p' : (x.plain && PV.plains xs) = true := p
    rw [Bool.and_eq_true] at p'
    show (PyData.eqv (toD x) (toD k) || (toDs xs).any fun z => PyData.eqv z (toD k)) = _
    rw [any_of h p'.2, eqv_of p'.1 h]
    by_cases c : x = k
    · subst c; simp
    · rw [decide_eq_false c]
      by_cases c2 : k ∈ xs
      · simp [c2]
      · have : ¬ k ∈ x :: xs := by
          intro m
          rcases List.mem_cons.mp m with e | e
          · exact c e.symm
          · exact c2 e
        simp [c2, this]
def rInT (K : PySem.W.Frag) (neg : Bool) : R2 := fun x y H Q => ∃ d ds, Dp K H x d ∧ Dp K H y (.tuple ds) ∧ SeqAt.shaped d = true ∧ SeqAt.shaped (.list ds) = true ∧ Q (.bl (if neg then !ds.any (fun z => PyData.eqv z d) else ds.any fun z => PyData.eqv z d)) H
theorem op_inT (hu : X.A.units + 65 < cLine) : OpR X (compareOp .In) (rInT X.K false) := by
  intro pins s σ H x y v u Q I rx ry h
  obtain ⟨d, ds, hd, he, sd, se, q⟩ := h
  obtain ⟨as, r1⟩ := Dp.reads I d x v hd rx
  obtain ⟨bs, r2⟩ := Dp.reads I (.tuple ds) y u he ry
  exact SeqAt.in_tuple_reads r2 r1 (SeqAt.canLay_of_shaped se) (SeqAt.canLay_of_shaped sd) (room_in_shaped sd hu) ⟨.bl _, H, I, rfl, q⟩
theorem op_notInT (hu : X.A.units + 65 < cLine) : OpR X (compareOp .NotIn) (rInT X.K true) := by
  intro pins s σ H x y v u Q I rx ry h
  obtain ⟨d, ds, hd, he, sd, se, q⟩ := h
  obtain ⟨as, r1⟩ := Dp.reads I d x v hd rx
  obtain ⟨bs, r2⟩ := Dp.reads I (.tuple ds) y u he ry
  exact SeqAt.notIn_tuple_reads r2 r1 (SeqAt.canLay_of_shaped se) (SeqAt.canLay_of_shaped sd) (room_in_shaped sd hu) ⟨.bl _, H, I, rfl, q⟩
theorem in_ok (hK : X.K = Z.K) (hu : X.A.units + 200 < cLine) {c d : SV} {x y : V} {Q : VK} {r : Bool} {neg : Bool} (e : inop c d = some r) (hc : RepC Z H al c x) (hd : RepC Z H al d y) (q : Q (.bl (if neg then !r else r)) H) : rAny X (compareOp (if neg then .NotIn else .In)) x y H Q := by
  have flatS : ∀ ts : List Tx, (ts.map fun t => V.str (toStr t)).all flatV = true := fun ts => by simp [flatV]
  have flatI : ∀ ts : List Int, (ts.map V.int).all flatV = true := fun ts => by simp [flatV]
  have seqIn : ∀ {p : Addr} {vs : List V}, y = .ref p → (SqL Z.K H p vs ∨ SqT Z.K H p vs) → flatV x = true → vs.all flatV = true → inV x vs = r → rAny X (compareOp (if neg then .NotIn else .In)) x y H Q := by
    intro p vs e1 e2 e3 e4 e5
    subst e5
    cases neg with
    | false => exact .of op_in_seq ⟨p, vs, e1, by rw [hK]; exact e2, e3, e4, q⟩
    | true => exact .of op_notIn_seq ⟨p, vs, e1, by rw [hK]; exact e2, e3, e4, q⟩
  have dicIn : ∀ {k : PV} {kvs : List (PV × PV)} {p : Addr}, y = .ref p → (RepO Z H al (.dic kvs) p ∨ RepO Z H al (.fdic kvs) p) → RepV Z H al k x → k.isKey = true → (dlook kvs k).isSome = r → rAny X (compareOp (if neg then .NotIn else .In)) x y H Q := by
    intro k kvs p e1 e2 e3 e4 e5
    have g := dic_get e2 e3 e4
    subst e5
    have key : ∃ o : Option V, DGet H p x o ∧ o.isSome = (dlook kvs k).isSome := by
      cases h : dlook kvs k with
      | none => rw [h] at g; exact ⟨none, g, rfl⟩
      | some z => rw [h] at g; obtain ⟨w, g1, _⟩ := g; exact ⟨some w, g1, rfl⟩
    obtain ⟨o, g1, g2⟩ := key
    rw [← g2] at q
    cases neg with
    | false => exact .of (op_inD (by omega)) ⟨p, o, e1, g1, q⟩
    | true => exact .of (op_notInD (by omega)) ⟨p, o, e1, g1, q⟩
  unfold inop at e
  split at e
  · split at e
    · rename_i ts h
      cases e
      obtain ⟨a, rfl, vs, g1, g2⟩ := hd
      cases hc
      have := asTx_rep g2 h
      subst this
      exact seqIn rfl (.inl (.of g1)) rfl (flatS _) (inV_str _ _)
    · cases e
  · split at e
    · rename_i ts h
      cases e
      obtain ⟨a, rfl, vs, g1, g2⟩ := hd
      cases hc
      have := asInts_rep g2 h
      subst this
      exact seqIn rfl (.inl (.of g1)) rfl (flatI _) (inV_int _ _)
    · cases e
  · split at e
    · rename_i ts h
      cases e
      obtain ⟨a, vs, rfl, g1, g2⟩ := hd
      cases hc
      have := asTx_rep g2 h
      subst this
      exact seqIn rfl (.inr g1.t) rfl (flatS _) (inV_str _ _)
    · cases e
  · split at e
    · rename_i h
      cases e
      simp only [Bool.and_eq_true, decide_eq_true_eq] at h
      obtain ⟨⟨⟨h1, h2⟩, h3⟩, h4⟩ := h
      obtain ⟨a, rfl, vs, g1, g2⟩ := hd
      have dx := dp_of h1 hc
      have dl : Dp Z.K H (.ref a) (.list (toDs _)) := .lst (.of g1) (dps_of h2 g2)
      rw [← any_of h1 h2] at q
      cases neg with
      | false => exact .of (L2.op_inD (by omega)) ⟨_, _, by rw [hK]; exact dx, by rw [hK]; exact dl, shp h1 h3, shpL h2 h4, q⟩
      | true => exact .of (L2.op_notInD (by omega)) ⟨_, _, by rw [hK]; exact dx, by rw [hK]; exact dl, shp h1 h3, shpL h2 h4, q⟩
    · cases e
  · split at e
    · rename_i h
      cases e
      simp only [Bool.and_eq_true, decide_eq_true_eq] at h
      obtain ⟨⟨⟨h1, h2⟩, h3⟩, h4⟩ := h
      obtain ⟨a, vs, rfl, g1, g2⟩ := hd
      have dx := dp_of h1 hc
      have dl : Dp Z.K H (.ref a) (.tuple (toDs _)) := .tup g1.t (dps_of h2 g2)
      rw [← any_of h1 h2] at q
      cases neg with
      | false => exact .of (op_inT (by omega)) ⟨_, _, by rw [hK]; exact dx, by rw [hK]; exact dl, shp h1 h3, shpL h2 h4, q⟩
      | true => exact .of (op_notInT (by omega)) ⟨_, _, by rw [hK]; exact dx, by rw [hK]; exact dl, shp h1 h3, shpL h2 h4, q⟩
    · cases e
  · split at e
    · rename_i h
      cases e
      obtain ⟨a, rfl, g⟩ := hd
      exact dicIn rfl (.inl g) hc h rfl
    · cases e
  · split at e
    · rename_i h
      cases e
      obtain ⟨a, rfl, g⟩ := hd
      exact dicIn rfl (.inr g) hc h rfl
    · cases e
  · cases e
    cases hc
    cases hd
    rename_i c s
    have de : decide (c ∈ (toStr s).cps.toList) = s.contains c := by
      show decide (c ∈ s.toArray.toList) = _
      simp
    cases neg with
    | false => exact .of op_in_sign ⟨c, toStr s, rfl, rfl, by rw [de]; exact q⟩
    | true => exact .of op_notIn_sign ⟨c, toStr s, rfl, rfl, by rw [de]; exact q⟩
  · cases e

theorem cmp_ok (hK : X.K = Z.K) (hu : X.A.units + 200 < cLine) {c d : SV} {x y : V} {Q : VK} {r : Bool} {op : CmpOp} (e : cmpall op c d = some r) (hc : RepC Z H al c x) (hd : RepC Z H al d y) (q : Q (.bl r) H) : rAny X (compareOp op) x y H Q := by
  have nonE : ∀ {c : SV} {x : V}, RepC Z H al c x → decide (x = V.non) = decide (c = .pv .non) := by
    intro c x h
    cases c with
    | own o => obtain ⟨a, rfl, _⟩ := h; simp
    | pv p =>
      cases p with
      | tup _ => obtain ⟨a, _, rfl, _⟩ := h; simp
      | loc _ => obtain ⟨a, _, rfl⟩ := h; simp
      | non => have h' : x = .non := h; subst h'; simp
      | bl b => have h' : x = .bl b := h; subst h'; simp
      | int b => have h' : x = .int b := h; subst h'; simp
      | str b => have h' : x = .str (toStr b) := h; subst h'; simp
      | fn b => have h' : x = .ref (Z.fa b) := h; subst h'; simp
  have ii : ∀ {a b : Int} {g : Int → Int → V}, OpR X (compareOp op) (rI0 g) → RepC Z H al (.pv (.int a)) x → RepC Z H al (.pv (.int b)) y → g a b = .bl r → rAny X (compareOp op) x y H Q := by
    intro a b g o h1 h2 h3
    cases h1; cases h2
    exact .of o ⟨a, b, rfl, rfl, by rw [h3]; exact q⟩
  unfold cmpall at e
  split at e
  · exact in_ok (neg := false) hK hu e hc hd q
  · cases h : inop c d with
    | none => rw [h] at e; cases e
    | some r0 =>
      rw [h] at e
      cases e
      exact in_ok (neg := true) hK hu h hc hd q
  · cases e
    cases hd
    exact .of op_isN ⟨rfl, by rw [nonE hc]; exact q⟩
  · cases e
    cases hd
    exact .of op_notN ⟨rfl, by rw [nonE hc]; exact q⟩
  · unfold cmpop at e
    split at e
    · exact eq_ok (f := id) hK hu (.inl ⟨rfl, rfl⟩) e hc hd q
    · cases h : eqSV c d with
      | none => rw [h] at e; cases e
      | some r0 =>
        rw [h] at e
        cases e
        exact eq_ok (f := (!·)) hK hu (.inr ⟨rfl, rfl⟩) h hc hd q
    · cases e; exact ii op_lt hc hd rfl
    · cases e; exact ii op_le hc hd rfl
    · cases e; exact ii op_gt hc hd rfl
    · cases e; exact ii op_ge hc hd rfl
    · cases e
      cases hc; cases hd
      exact .of op_lt_str ⟨_, _, rfl, rfl, q⟩
    · cases e
      cases hc; cases hd
      exact .of op_le_str ⟨_, _, rfl, rfl, q⟩
    · cases e
      cases hc; cases hd
      exact .of op_gt_str ⟨_, _, rfl, rfl, q⟩
    · cases e
      cases hc; cases hd
      exact .of op_ge_str ⟨_, _, rfl, rfl, q⟩
    · split at e
      · rename_i h
        simp only [Bool.and_eq_true, decide_eq_true_eq] at h
        obtain ⟨⟨⟨h1, h2⟩, h3⟩, h4⟩ := h
        exact .of (op_ltW (n := 150) hK (by omega)) ⟨.tup _, .tup _, r, h1, h2, hc, hd, e, (by show PV.depths _ + 1 ≤ 150; omega), q⟩
      · cases e
    · cases e

/-! ### indexes -/
def ixAny (X : Cx) : R2 := fun x y H Q => ∃ r, IxR X r ∧ r x y H Q
theorem ix_any : IxR X (ixAny X) := fun value slice pins s σ H x y v u Q I rx ry ⟨r, h, q⟩ hs => h value slice pins s σ H x y v u Q I rx ry q hs
theorem ix_dict (hu : X.A.units + 1 < cLine) : IxR X (fun x y H Q => ∃ a v, x = .ref a ∧ DGet H a y (some v) ∧ Q v H) := by
  intro value slice pins s σ H x y v u Q I rx ry ⟨a, w, e, g, q⟩ hs
  subst e
  obtain rfl : v = Value.ref a := rx
  have q1 : wpAny (model X.prog X.w) X.A (getItem (.ref a) u) (EP X pins σ Q) X.xe s := d_getItem hu I g ry fun w' s3 I3 rw' => ⟨w, H, I3, rw', q⟩
  have hT := dict_typeIs I g
  unfold subscriptTail
  refine wpAny_bind ?_
  rw [getitemInPython_of_ne hT.not_modules]
  refine wpAny_bind (wpAny_specialOf hT PySem.F.slot_dict_getitem.lookup ?_)
  have fin : wpAny (model X.prog X.w) X.A (subscripted slice false (.ref a) u) (fun r s₃ => wpAny (model X.prog X.w) X.A (letTemporaryGo value (.ref a) r >>= fun _ => pure r) (EP X pins σ Q) X.xe s₃) X.xe s := by
    rw [hs]
    exact wpAny_operating (wpAny_mono q1 (fun r s₃ h₃ => wpAny_bind (wpAny_letTemporaryGo (wpAny_pure h₃))) fun _ _ x => x)
  first
    | exact wpAny_pure (wpAny_bind fin)
    | exact wpAny_bind (wpAny_pure (wpAny_bind fin))
    | exact wpAny_bind fin
theorem atOf_rep {xs : List PV} {vs : List V} {i : Int} {p : PV} (h : RepVs Z H al xs vs) (e : atOf xs i = some p) : ∃ v, atI vs i = some v ∧ RepV Z H al p v := by
  have eq : ∀ n, ixN n i = ixOf n i := fun _ => rfl
  unfold atOf at e
  unfold atI
  rw [eq, h.length]
  cases q : ixOf xs.length i with
  | none => rw [q] at e; cases e
  | some j =>
    rw [q] at e
    obtain ⟨v, e1, e2⟩ := h.get (i := j) (x := p) e
    exact ⟨v, e1, e2⟩
theorem index_ok (hw : X.w = Z.w) (hK : X.K = Z.K) (hu : X.A.units + 200 < cLine) {c d : SV} {x y : V} {Q : VK} {p : PV} (e : index c d = some p) (hc : RepC Z H al c x) (hd : RepC Z H al d y) (q : ∀ v, RepV Z H al p v → Q v H) : ixAny X x y H Q := by
  have dicI : ∀ {k : PV} {kvs : List (PV × PV)} {a : Addr}, x = .ref a → (RepO Z H al (.dic kvs) a ∨ RepO Z H al (.fdic kvs) a) → RepV Z H al k y → k.isKey = true → dlook kvs k = some p → ixAny X x y H Q := by
    intro k kvs a e1 e2 e3 e4 e5
    have g := dic_get e2 e3 e4
    rw [e5] at g
    obtain ⟨w, g1, g2⟩ := g
    exact ⟨_, ix_dict (by omega), a, w, e1, g1, q w g2⟩
  unfold index at e
  split at e
  · obtain ⟨a, rfl, vs, g1, g2⟩ := hc
    cases hd
    obtain ⟨v, e1, e2⟩ := atOf_rep g2 e
    exact ⟨_, ix_list, a, vs, _, v, rfl, rfl, by rw [hK]; exact .of g1, e1, q v e2⟩
  · obtain ⟨a, rfl, vs, g1, g2⟩ := hc
    cases hd
    obtain ⟨v, e1, e2⟩ := atOf_rep g2 e
    exact ⟨_, ix_list, a, vs, _, v, rfl, rfl, by rw [hK]; exact g1.seq, e1, q v e2⟩
  · obtain ⟨a, vs, rfl, g1, g2⟩ := hc
    cases hd
    obtain ⟨v, e1, e2⟩ := atOf_rep g2 e
    exact ⟨_, ix_tup, a, vs, _, v, rfl, rfl, by rw [hK]; exact g1.t, e1, q v e2⟩
  · split at e
    · rename_i h
      cases hc
      cases hd
      rename_i s i
      cases g : atOf s i with
      | none => rw [g] at e; cases e
      | some c =>
        rw [g] at e
        cases e
        refine ⟨_, ix_str, toStr s, i, c, rfl, rfl, by rw [length_str]; exact h, ?_, q _ rfl⟩
        show atI s.toArray.toList i = some c
        have eq : ∀ n, ixN n i = ixOf n i := fun _ => rfl
        unfold atOf at g
        unfold atI
        rw [eq]
        simpa using g
    · cases e
  · split at e
    · rename_i h
      obtain ⟨a, rfl, g⟩ := hc
      exact dicI rfl (.inl g) hd h e
    · cases e
  · split at e
    · rename_i h
      obtain ⟨a, rfl, g⟩ := hc
      exact dicI rfl (.inr g) hd h e
    · cases e
  · obtain ⟨a, rfl, g⟩ := hc
    cases hd
    obtain ⟨v, kd, rv⟩ := g _ _ e
    exact ⟨_, ix_kdict, a, _, v, rfl, rfl, by rw [hK, hw]; exact kd, q v (RepV.ext (F := fun _ => True) (fun _ _ h => by cases h) (List.nil_prefix) rv)⟩
  · cases e

/-! ### slices -/
def slAny (X : Cx) : V → Option Int → Option Int → Hp → VK → Prop := fun x lo hi H Q => ∃ r, SlR X r ∧ r x lo hi H Q
theorem sl_any : SlR X (slAny X) := fun pins s σ H x v vl vu lo hi sl Q I rx hs pl pu ⟨r, h, q⟩ => h pins s σ H x v vl vu lo hi sl Q I rx hs pl pu q
theorem slice_ok (hK : X.K = Z.K) {c res : SV} {x : V} {lo hi : Option Int} {Q : VK} (e : slice c lo hi = some res) (hc : RepC Z H al c x) (q : Gives Z H al res Q) : slAny X x lo hi H Q := by
  have eqs : ∀ n d o, HT.sIx n d o = sbnd n d o := fun n d o => by cases o <;> rfl
  have lists : ∀ {xs : List PV} {a : Addr} {vs : List V}, x = .ref a → SqL Z.K H a vs → RepVs Z H al xs vs → res = .own (.lst (cut xs lo hi)) → slAny X x lo hi H Q := by
    intro xs a vs e1 e2 e3 e4
    subst e4
    exact ⟨_, sl_list, a, vs, e1, by rw [hK]; exact e2, fun p hp => q p _ (same_new hp _) hp ⟨_, upd_same, (e3.same (same_new hp _)).cut lo hi⟩ rfl⟩
  unfold slice at e
  split at e
  · cases e
    obtain ⟨a, rfl, vs, g1, g2⟩ := hc
    exact lists rfl (.of g1) g2 rfl
  · cases e
    obtain ⟨a, rfl, vs, g1, g2⟩ := hc
    exact lists rfl g1.seq g2 rfl
  · cases e
    obtain ⟨a, vs, rfl, g1, g2⟩ := hc
    refine ⟨_, KvT.sl_tupD, a, vs, rfl, by rw [hK]; exact g1.t, fun w1 w2 => ?_, fun p u hp hu => ?_⟩
    · refine q _ _ (.refl _) ⟨a, vs, rfl, g1, ?_⟩
      have z := g2.cut lo hi
      have ez : cutV vs lo hi = vs := by
        unfold cutV
        rw [w1, w2, List.drop_zero, Nat.sub_zero, List.take_length]
      rw [ez] at z
      exact z
    · exact q _ _ (same_new hp _) ⟨p, _, rfl, .new hu, (g2.same (same_new hp _)).cut lo hi⟩
  · split at e
    · rename_i h
      cases e
      cases hc
      refine ⟨_, sl_str, _, rfl, by rw [length_str]; exact h, q _ _ (.refl _) ?_⟩
      rename_i s
      show V.str (cutS (toStr s) lo hi) = V.str (toStr (cut s lo hi))
      unfold cutS cut
      rw [length_str, eqs, eqs]
      rfl
    · cases e
  · cases e

/-! ### truth -/
theorem truth_ok {c : SV} {x : V} {b : Bool} (e : truth c = some b) (hc : RepC Z H al c x) : TruV Z.K x H b := by
  unfold truth at e
  split at e
  · cases e; cases hc; rfl
  · cases e; cases hc; rfl
  · cases e; cases hc; rfl
  · split at e
    · rename_i h
      cases e
      cases hc
      refine ⟨by rw [length_str]; exact h, ?_⟩
      rw [length_str]
      rename_i s
      cases s with
      | nil => rfl
      | cons a r => simp; omega
    · cases e
  · cases e
    obtain ⟨a, rfl, vs, g1, g2⟩ := hc
    refine .inl ⟨vs, .of g1, ?_⟩
    have := g2.length
    rename_i xs
    cases vs <;> cases xs <;> simp_all
  · cases e
end
end Kv

set_option Elab.async false
set_option linter.all false
set_option maxRecDepth 100000
/-! The readings: what the hand layer asks, by the run of Kv. -/
namespace Kv
open PySem L2 PySem.Spec PyProof.Rows

/-- an exception's class and own dict -/
def ExR (Z : Kx) (H : Hp) (al : List Addr) (x : Ex) (cls : Value) (d : Option Addr) : Prop :=
  cls = .ref (Z.ca x.cls) ∧ (x.fs ≠ [] → ∃ dx hf, d = some dx ∧ H dx = some (.xd hf) ∧ RepF Z H al x.fs hf)

section
variable (Z : Kx) (W : WX)
def oG {α : Type} (s : Kv.St) (σ : L2.St) (H : Hp) (al : List Addr) (K : α → Kv.St → Hp → List Addr → Prop) : Out α → Prop
  | .ok a s' => ∀ H' al', Step Z s σ H al s' σ H' al' → K a s' H' al'
  | .exc x s' => ∀ cls d H' al', Step Z s σ H al s' σ H' al' → ExR Z H' al' x cls d → W cls d σ H'
  | .bad => False
/-- what is wanted of an operand -/
def kE (s : Kv.St) (σ : L2.St) (H : Hp) (al : List Addr) (Q : VK) : Opd → Kv.St → Hp → List Addr → Prop :=
  fun o s' H' al' => ∀ v, RepP Z H' al' s' σ o v → New al s σ H o v → Q v H'
def kL (s : Kv.St) (σ : L2.St) (H : Hp) (al : List Addr) (Q : List V → Hp → Prop) : List Opd → Kv.St → Hp → List Addr → Prop :=
  fun os s' H' al' => ∀ vs, Reps Z H' al' s' σ os vs → News al s σ H os vs → (temps os vs).Nodup → Q vs H'
def kT (Q : Bool → Hp → Prop) : Bool → Kv.St → Hp → List Addr → Prop := fun b _ H' _ => Q b H'
def kO (Q : Option Int → Hp → Prop) : Option Int → Kv.St → Hp → List Addr → Prop := fun b _ H' _ => Q b H'
def tE (m : M Opd) : TE := fun σ H Q => ∃ s al, SR Z H al s σ ∧ oG Z W s σ H al (kE Z s σ H al Q) (m s)
def tT (m : M Bool) : TT := fun σ H Q => ∃ s al, SR Z H al s σ ∧ oG Z W s σ H al (kT Q) (m s)
def tL (m : M (List Opd)) : TA := fun σ H Q => ∃ s al, SR Z H al s σ ∧ oG Z W s σ H al (kL Z s σ H al Q) (m s)
def tO (m : M (Option Int)) : TO := fun σ H Q => ∃ s al, SR Z H al s σ ∧ oG Z W s σ H al (kO Q) (m s)
end
variable {Z : Kx} {W : WX}

theorem _root_.L2.PE.imp {X : Cx} {e : Expr} {t t' : TE} (h : PE X e t) (i : ∀ σ H Q, t' σ H Q → t σ H Q) : PE X e t' := ⟨fun pins s σ H Q I q => h.run pins s σ H Q I (i σ H Q q)⟩
theorem _root_.L2.PT.imp {X : Cx} {e : Expr} {t t' : TT} (h : PT X e t) (i : ∀ σ H Q, t' σ H Q → t σ H Q) : PT X e t' := ⟨fun pins s σ H Q I q => h.run pins s σ H Q I (i σ H Q q)⟩
theorem _root_.L2.PW.imp {X : Cx} {e : Expr} {t t' : TT} (h : PW X e t) (i : ∀ σ H Q, t' σ H Q → t σ H Q) : PW X e t' := ⟨fun w pins s σ H Q I q => h.run w pins s σ H Q I (i σ H Q q)⟩
theorem _root_.L2.PA.imp {X : Cx} {e : List Expr} {t t' : TA} (h : PA X e t) (i : ∀ σ H Q, t' σ H Q → t σ H Q) : PA X e t' := ⟨fun p pins s σ H Q I q => h.run p pins s σ H Q I (i σ H Q q)⟩
theorem _root_.L2.PS.imp {X : Cx} {e : Stmt} {t t' : TS} (h : PS X e t) (i : ∀ D σ H, t' D σ H → t D σ H) : PS X e t' := ⟨fun pins s σ H Q I q => h.run pins s σ H Q I (i Q σ H q)⟩
theorem _root_.L2.PSs.imp {X : Cx} {e : List Stmt} {t t' : TS} (h : PSs X e t) (i : ∀ D σ H, t' D σ H → t D σ H) : PSs X e t' := ⟨fun pins s σ H Q I q => h.run pins s σ H Q I (i Q σ H q)⟩

section
variable {α β : Type} {s s1 : Kv.St} {σ : L2.St} {H H1 : Hp} {al al1 : List Addr} {K : α → Kv.St → Hp → List Addr → Prop} {K' : β → Kv.St → Hp → List Addr → Prop}
/-- the first part of what is done -/
theorem oG.bind {m : M β} {g : β → M α} (st : Step Z s σ H al s1 σ H1 al1) (h : oG Z W s σ H al K ((m >>= g) s1))
    (k : ∀ a s2, m s1 = .ok a s2 → oG Z W s σ H al K (g a s2) → ∀ H2 al2, Step Z s1 σ H1 al1 s2 σ H2 al2 → K' a s2 H2 al2) : oG Z W s1 σ H1 al1 K' (m s1) := by
  cases q : m s1 with
  | ok a s2 => rw [bind_ok q] at h; exact k a s2 q h
  | exc x s2 => rw [bind_exc q] at h; exact fun cls d H' al' st' r => h cls d H' al' (st.trans st') r
  | bad => rw [bind_bad q] at h; exact h.elim
/-- a part that raises nothing and that the heap does not see -/
theorem oG.prim {m : M β} {g : β → M α} {s1 : Kv.St} (h : oG Z W s σ H al K ((m >>= g) s1)) (no : ∀ x s2, m s1 ≠ .exc x s2) : ∃ a s2, m s1 = .ok a s2 ∧ oG Z W s σ H al K (g a s2) := by
  cases q : m s1 with
  | ok a s2 => rw [bind_ok q] at h; exact ⟨a, s2, rfl, h⟩
  | exc x s2 => exact absurd q (no x s2)
  | bad => rw [bind_bad q] at h; exact h.elim
theorem oG.ofo {o : Option α} {s1 : Kv.St} (h : oG Z W s σ H al K (M.ofo o s1)) : ∃ a, o = some a ∧ oG Z W s σ H al K (.ok a s1) := by
  cases o with
  | none => exact h.elim
  | some a => exact ⟨a, rfl, h⟩
theorem oG.ofoB {o : Option β} {g : β → M α} {s1 : Kv.St} (h : oG Z W s σ H al K ((M.ofo o >>= g) s1)) : ∃ a, o = some a ∧ oG Z W s σ H al K (g a s1) := by
  cases o with
  | none => exact h.elim
  | some a => exact ⟨a, rfl, h⟩
end
theorem cont1_inv {x : Opd} {s : Kv.St} : (∃ c, cont1 x s = .ok c s ∧ cont x s = some c) ∨ cont1 x s = .bad := by
  unfold cont1
  cases cont x s with
  | none => exact .inr rfl
  | some c => exact .inl ⟨c, rfl, rfl⟩
theorem cont2_inv {x y : Opd} {s : Kv.St} : (∃ c d, cont2 x y s = .ok (c, d) s ∧ cont x s = some c ∧ cont y s = some d) ∨ cont2 x y s = .bad := by
  unfold cont2
  cases cont x s with
  | none => exact .inr rfl
  | some c =>
    cases cont y s with
    | none => exact .inr rfl
    | some d => exact .inl ⟨c, d, rfl, rfl, rfl⟩
section
variable {α : Type} {s s1 : Kv.St} {σ : L2.St} {H : Hp} {al : List Addr} {K : α → Kv.St → Hp → List Addr → Prop}
theorem oG.cont1 {x : Opd} {g : SV → M α} (h : oG Z W s σ H al K ((Kv.cont1 x >>= g) s1)) : ∃ c, cont x s1 = some c ∧ oG Z W s σ H al K (g c s1) := by
  rcases cont1_inv (x := x) (s := s1) with ⟨c, e, e'⟩ | e
  · rw [bind_ok e] at h; exact ⟨c, e', h⟩
  · rw [bind_bad e] at h; exact h.elim
theorem oG.cont2 {x y : Opd} {g : SV × SV → M α} (h : oG Z W s σ H al K ((Kv.cont2 x y >>= g) s1)) : ∃ c d, cont x s1 = some c ∧ cont y s1 = some d ∧ oG Z W s σ H al K (g (c, d) s1) := by
  rcases cont2_inv (x := x) (y := y) (s := s1) with ⟨c, d, e, e1, e2⟩ | e
  · rw [bind_ok e] at h; exact ⟨c, d, e1, e2, h⟩
  · rw [bind_bad e] at h; exact h.elim
theorem oG.conts {os : List Opd} {g : List SV → M α} (h : oG Z W s σ H al K ((Kv.conts os >>= g) s1)) : ∃ cs, os.mapM (cont · s1) = some cs ∧ oG Z W s σ H al K (g cs s1) := by
  cases q : Kv.conts os s1 with
  | ok cs s2 =>
    rw [bind_ok q] at h
    obtain ⟨rfl, e⟩ := conts_eq q
    exact ⟨cs, e, h⟩
  | exc x s2 => unfold Kv.conts at q; split at q <;> cases q
  | bad => rw [bind_bad q] at h; exact h.elim
theorem box_no {o : Opd} {s : Kv.St} : ∀ x s2, box o s ≠ .exc x s2 := by
  intro x s2 e
  cases o with
  | val v => cases v <;> cases e
  | slot i =>
    unfold box at e
    simp only at e
    split at e <;> cases e
  | tab _ => cases e
theorem boxs_no : ∀ {os : List Opd} {s : Kv.St}, ∀ x s2, boxs os s ≠ .exc x s2
  | [], s, x, s2, e => by cases e
  | o :: os, s, x, s2, e => by
    have e' : (box o >>= fun p => boxs os >>= fun ps => pure (p :: ps)) s = .exc x s2 := e
    cases q : box o s with
    | ok p s1 =>
      rw [bind_ok q] at e'
      cases q2 : boxs os s1 with
      | ok ps s3 => rw [bind_ok q2] at e'; cases e'
      | exc y s3 => exact boxs_no y s3 q2
      | bad => rw [bind_bad q2] at e'; cases e'
    | exc y s1 => exact box_no y s1 q
    | bad => rw [bind_bad q] at e'; cases e'
end

/-- new things are laid -/
theorem grow_step {s0 s : Kv.St} {σ0 σ : L2.St} {H0 H H' : Hp} {al0 al : List Addr} (st : Step Z s0 σ0 H0 al0 s σ H al) (g : Same H H') : Step Z s0 σ0 H0 al0 s σ H' al :=
  ⟨st.pre, st.sr.heap (F := Ft al s σ) (same_ext g) fun a h => by obtain ⟨u, e⟩ := h.tracked st.sr; rw [e]; exact g a u e, fun a o h q => g a o (st.ext a o h q), st.new⟩
/-- a new value is delivered -/
theorem gives_of {s0 s : Kv.St} {σ : L2.St} {H0 H : Hp} {al0 al : List Addr} {res : SV} {Q : VK} (st : Step Z s0 σ H0 al0 s σ H al) (h : oG Z W s0 σ H0 al0 (kE Z s0 σ H0 al0 Q) (.ok (.val res) s)) : Gives Z H al res Q := by
  cases res with
  | pv p => exact fun v H' g r => h H' al (grow_step st g) v r trivial
  | own o =>
    refine fun a H' g hn r t => h H' al (grow_step st g) (.ref a) ⟨a, rfl, r, t, fun z => ?_⟩ ?_
    · obtain ⟨u, e⟩ := z.tracked st.sr
      rw [hn] at e; cases e
    · exact (st.ext.none hn).elim .inr .inl
theorem deliver {s0 s : Kv.St} {σ : L2.St} {H0 H : Hp} {al0 al : List Addr} {p : PV} {Q : VK} (st : Step Z s0 σ H0 al0 s σ H al) (h : oG Z W s0 σ H0 al0 (kE Z s0 σ H0 al0 Q) (.ok (.val (.pv p)) s)) {v : V} (r : RepV Z H al p v) : Q v H :=
  h H al st v r trivial

structure XOk (Z : Kx) (W : WX) (X : Cx) : Prop where
  hK : X.K = Z.K
  calm : X.calm = true
  hu : X.A.units + 200 < cLine
  nd : X.N.Nodup
  tk : Takes X W
  hw : X.w = Z.w

section
variable {X : Cx} {N : Kv.Env}

theorem n_const {e : Expr} {v : V} {p : PV} (h : PE X e (tC v)) (r : ∀ H al, RepV Z H al p v) : PE X e (tE Z W (ev N (.c p))) := by
  refine h.imp fun σ H Q ⟨s, al, sr, q⟩ => ?_
  exact deliver (.refl sr) q (r H al)
theorem n_var {x : Str} {pos : Pos} {i : Nat} (hN : X.N[i]? = some x) (hv : Vis X.env.scope x) (hd : (x == ("__debug__" : Str)) = false) (hc : (x == ("__classdict__" : Str)) = false) : PE X (.Name x pos) (tE Z W (ev N (.var i))) := by
  refine PE.imp (pe_var (i := i) hN hv hd hc) fun σ H Q ⟨s, al, sr, q⟩ => ?_
  unfold ev at q
  split at q
  · rename_i p g
    obtain ⟨u, h1, h2⟩ := sr.sg i _ (get_some g)
    exact ⟨u, h1, deliver (.refl sr) q h2⟩
  · rename_i o g
    obtain ⟨u, h1, h2⟩ := sr.sg i _ (get_some g)
    exact ⟨u, h1, q H al (.refl sr) u h1 trivial⟩
  · exact q.elim

theorem n_tab {x : Nat} {nm : Str} {u : Value} {v : V} {o : SV} {pos : Pos} (hg : Gl X nm) (hm : X.mg nm = some u) (hv : RelV v u) (ht : N.tabs[x]? = some o) (r : RepTab Z o v) (hd : (nm == ("__debug__" : Str)) = false) : PE X (.Name nm pos) (tE Z W (ev N (.tab x))) := by
  refine PE.imp (pe_glob (v := v) hg hm hv hd) fun σ H Q ⟨s, al, sr, q⟩ => ?_
  unfold ev at q
  rw [ht] at q
  cases o with
  | own o =>
    have q' : oG Z W s σ H al (kE Z s σ H al Q) (Out.ok (.tab o) s) := q
    exact q' H al (.refl sr) v r trivial
  | pv p =>
    have q' : oG Z W s σ H al (kE Z s σ H al Q) (Out.ok (.val (.pv p)) s) := q
    exact deliver (.refl sr) q' r.val
/-- two parts, then a rule -/
theorem n_two {e : Expr} {ta tb : TE} {r : R2} {a b : E} {g : SV × SV → M Opd} (h : PE X e (tOp r (tE Z W (ev N a)) (tE Z W (ev N b))))
    (k : ∀ {s0 s : Kv.St} {σ : L2.St} {H0 H : Hp} {al0 al : List Addr} {x y : V} {c d : SV} {Q : VK}, Step Z s0 σ H0 al0 s σ H al → RepC Z H al c x → RepC Z H al d y →
      oG Z W s0 σ H0 al0 (kE Z s0 σ H0 al0 Q) (g (c, d) s) → r x y H Q) : PE X e (tE Z W (do let x ← ev N a; let y ← ev N b; let c ← Kv.cont2 x y; g c)) := by
  refine h.imp fun σ H Q ⟨s, al, sr, q⟩ => ⟨s, al, sr, oG.bind (.refl sr) q fun o1 s1 e1 q1 H1 al1 st1 v1 r1 n1 => ⟨s1, al1, st1.sr, oG.bind st1 q1 fun o2 s2 e2 q2 H2 al2 st2 v2 r2 n2 => ?_⟩⟩
  obtain ⟨c, d, ec, ed, q3⟩ := oG.cont2 q2
  exact k (st1.trans st2) (cont_rep st2.sr (r1.step st2) ec) (cont_rep st2.sr r2 ed) q3
theorem n_bin (ok : XOk Z W X) {ea eb : Expr} {op : Operator} {a b : E} {pos : Pos} (ha : PE X ea (tE Z W (ev N a))) (hb : PE X eb (tE Z W (ev N b))) : PE X (.BinOp ea op eb pos) (tE Z W (ev N (.bin op a b))) := by
  unfold ev
  refine n_two (ta := tE Z W (ev N a)) (tb := tE Z W (ev N b)) (g := fun c => M.ofo ((binop op c.1 c.2).map .val)) (pe_op (op_any _) ha hb) fun st hc hd q => ?_
  obtain ⟨o, e, q⟩ := oG.ofo q
  obtain ⟨res, e', rfl⟩ := Option.map_eq_some_iff.mp e
  exact binop_ok ok.hK e' hc hd (gives_of st q)
theorem n_cmp (ok : XOk Z W X) {ea eb : Expr} {op : CmpOp} {a b : E} {pos : Pos} (hm : behindInMarks op eb = false) (ha : PE X ea (tE Z W (ev N a))) (hb : PE X eb (tE Z W (ev N b))) : PE X (.Compare ea [op] [eb] pos) (tE Z W (ev N (.cmp op a b))) := by
  unfold ev
  refine n_two (ta := tE Z W (ev N a)) (tb := tE Z W (ev N b)) (g := fun c => M.ofo ((cmpall op c.1 c.2).map fun r => .val (.pv (.bl r)))) (pe_cmpR (op_any _) ha hb hm) fun st hc hd q => ?_
  obtain ⟨o, e, q⟩ := oG.ofo q
  obtain ⟨res, e', rfl⟩ := Option.map_eq_some_iff.mp e
  exact cmp_ok ok.hK ok.hu e' hc hd (deliver st q rfl)
theorem n_idx (ok : XOk Z W X) {ea eb : Expr} {a b : E} {pos : Pos} (hs : PlainIx eb) (ha : PE X ea (tE Z W (ev N a))) (hb : PE X eb (tE Z W (ev N b))) : PE X (.Subscript ea eb pos) (tE Z W (ev N (.idx a b))) := by
  unfold ev
  refine n_two (ta := tE Z W (ev N a)) (tb := tE Z W (ev N b)) (g := fun c => M.ofo ((index c.1 c.2).map fun p => .val (.pv p))) (pe_ix ix_any ha hb hs) fun st hc hd q => ?_
  obtain ⟨o, e, q⟩ := oG.ofo q
  obtain ⟨res, e', rfl⟩ := Option.map_eq_some_iff.mp e
  exact index_ok ok.hw ok.hK ok.hu e' hc hd fun v r => deliver st q r
theorem n_neg {ea : Expr} {a : E} {pos : Pos} (ha : PE X ea (tE Z W (ev N a))) : PE X (.UnaryOp .USub ea pos) (tE Z W (ev N (.neg a))) := by
  unfold ev
  refine PE.imp (pe_un un_neg ha) fun σ H Q ⟨s, al, sr, q⟩ => ⟨s, al, sr, oG.bind (.refl sr) q fun o1 s1 e1 q1 H1 al1 st1 v1 r1 n1 => ?_⟩
  cases o1 with
  | val w =>
    cases w with
    | pv p =>
      cases p with
      | int i => exact ⟨i, r1, deliver st1 q1 rfl⟩
      | _ => exact q1.elim
    | own _ => exact q1.elim
  | slot _ => exact q1.elim
  | tab _ => exact q1.elim

/-! ### lists of parts -/
theorem n_nil : PA X [] (tL Z W (evs N [])) := by
  refine PA.imp pa_nil fun σ H Q ⟨s, al, sr, q⟩ => ?_
  have q' : oG Z W s σ H al (kL Z s σ H al Q) (Out.ok [] s) := q
  exact q' H al (.refl sr) [] rfl trivial List.nodup_nil
theorem temps_cons {o : Opd} {os : List Opd} {v : V} {vs : List V} : temps (o :: os) (v :: vs) = if IsTemp o = true then v :: temps os vs else temps os vs := rfl
theorem temps_new {s : Kv.St} {σ : L2.St} {H : Hp} {al : List Addr} {a : Addr} (n : ¬ Ft al s σ a) (t : H a ≠ none) : ∀ {os : List Opd} {vs : List V}, News al s σ H os vs → V.ref a ∉ temps os vs
  | [], vs, _, z => by cases vs <;> cases z
  | o :: os, [], _, z => by cases z
  | o :: os, v :: vs, ⟨h1, h2⟩, z => by
    rw [temps_cons] at z
    split at z
    · rename_i it
      cases z with
      | head =>
        cases o with
        | val w =>
          cases w with
          | pv p => cases it
          | own ob =>
            have h1' : Ft al s σ a ∨ H a = none := h1
            exact h1'.elim n t
        | slot i => cases it
        | tab ob => cases it
      | tail _ y => exact temps_new n t h2 y
    · exact temps_new n t h2 z
theorem New.back {s s1 : Kv.St} {σ : L2.St} {H H1 : Hp} {al al1 : List Addr} (st : Step Z s σ H al s1 σ H1 al1) {o : Opd} {v : V} (h : New al1 s1 σ H1 o v) : New al s σ H o v := by
  cases o with
  | val w =>
    cases w with
    | pv p => trivial
    | own ob =>
      cases v with
      | ref a =>
        have h' : Ft al1 s1 σ a ∨ H1 a = none := h
        show Ft al s σ a ∨ H a = none
        rcases h' with z | z
        · exact st.new a z
        · exact (st.ext.none z).elim .inr .inl
      | _ => trivial
  | slot i => trivial
  | tab ob => trivial
theorem News.back {s s1 : Kv.St} {σ : L2.St} {H H1 : Hp} {al al1 : List Addr} (st : Step Z s σ H al s1 σ H1 al1) : ∀ {os : List Opd} {vs : List V}, News al1 s1 σ H1 os vs → News al s σ H os vs
  | [], _, _ => by cases ‹List V› <;> trivial
  | _ :: _, [], _ => trivial
  | _ :: _, _ :: _, ⟨h1, h2⟩ => ⟨h1.back st, News.back st h2⟩
theorem n_cons {e : Expr} {es : List Expr} {a : E} {as : List E} (ha : PE X e (tE Z W (ev N a))) (hr : PA X es (tL Z W (evs N as))) (hs : starEach (e :: es) X.env = (false, eval e X.env) :: starEach es X.env) : PA X (e :: es) (tL Z W (evs N (a :: as))) := by
  refine PA.imp (pa_cons ha hr hs) fun σ H Q ⟨s, al, sr, q⟩ => ⟨s, al, sr, ?_⟩
  have q' : oG Z W s σ H al (kL Z s σ H al Q) ((ev N a >>= fun o => evs N as >>= fun os => pure (o :: os)) s) := q
  refine oG.bind (.refl sr) q' fun o1 s1 e1 q1 H1 al1 st1 v1 r1 n1 => ⟨s1, al1, st1.sr, oG.bind st1 q1 fun os s2 e2 q2 H2 al2 st2 vs r2 n2 nd => ?_⟩
  have q3 : oG Z W s σ H al (kL Z s σ H al Q) (Out.ok (o1 :: os) s2) := q2
  refine q3 H2 al2 (st1.trans st2) (v1 :: vs) ⟨v1, vs, rfl, r1.step st2, r2⟩ ⟨n1, n2.back st1⟩ ?_
  rw [temps_cons]
  split
  · rename_i it
    refine List.nodup_cons.mpr ⟨?_, nd⟩
    cases o1 with
    | val w =>
      cases w with
      | pv p => cases it
      | own ob =>
        obtain ⟨b, rfl, g1, g2, g3⟩ := r1
        obtain ⟨u, hu⟩ := g1.tracked g2
        exact temps_new g3 (by rw [hu]; simp) n2
    | slot i => cases it
    | tab ob => cases it
  · exact nd
end
end Kv

set_option Elab.async false
set_option linter.all false
set_option maxRecDepth 100000
/-! Displays, tests, slices. -/
namespace Kv
open PySem L2 PySem.Spec PyProof.Rows
variable {Z : Kx} {W : WX}
section
variable {X : Cx} {N : Kv.Env}
theorem evs_len : ∀ {es : List E} {s s' : Kv.St} {os : List Opd}, evs N es s = .ok os s' → os.length = es.length
  | [], s, s', os, h => by
    have h' : Out.ok ([] : List Opd) s = .ok os s' := h
    injection h' with h1 h2
    subst h1; rfl
  | e :: es, s, s', os, h => by
    have h' : (ev N e >>= fun o => evs N es >>= fun os => pure (o :: os)) s = .ok os s' := h
    obtain ⟨o, s1, _, h2⟩ := bind_inv h'
    obtain ⟨os', s2, h3, h4⟩ := bind_inv h2
    have h5 : Out.ok (o :: os') s2 = .ok os s' := h4
    injection h5 with h6 h7
    subst h6
    rw [List.length_cons, List.length_cons, evs_len h3]
theorem small_line {n : Nat} (h : n ≤ 1000) : n ≤ sizeLine := Nat.le_of_lt (small1000 h)

theorem n_tup {es : List Expr} {as : List E} {k : Nat} {pos : Pos} (hl : as.length ≤ 1000) (h : PA X es (tL Z W (evs N as))) : PE X (.Tuple es k pos) (tE Z W (ev N (.tup as))) := by
  refine PE.imp (KvT.pe_tupD h) fun σ H Q ⟨s, al, sr, q⟩ => ⟨s, al, sr, ?_⟩
  have q' : oG Z W s σ H al (kE Z s σ H al Q) ((evs N as >>= fun os => boxs os >>= fun ps => pure (.val (.pv (.tup ps)))) s) := q
  refine oG.bind (.refl sr) q' fun os s1 e1 q1 H1 al1 st1 vs r1 n1 nd => ?_
  obtain ⟨ps, s2, e2, q2⟩ := oG.prim q1 boxs_no
  obtain ⟨al2, st2, r2, _, _, n2⟩ := boxs_step st1 r1 n1 nd e2
  refine ⟨by rw [r2.length, n2, evs_len e1]; exact small_line hl, fun p u hp hu => ?_⟩
  have st3 := (alloc_step (u := u) st2 hp).1
  exact deliver st3 q2 ⟨p, vs, rfl, .new hu, r2.same (same_new hp _)⟩
theorem n_lst {es : List Expr} {as : List E} {pos : Pos} (hl : as.length ≤ 1000) (h : PA X es (tL Z W (evs N as))) : PE X (.List es pos) (tE Z W (ev N (.lst as))) := by
  refine PE.imp (pe_lst h) fun σ H Q ⟨s, al, sr, q⟩ => ⟨s, al, sr, ?_⟩
  have q' : oG Z W s σ H al (kE Z s σ H al Q) ((evs N as >>= fun os => boxs os >>= fun ps => pure (.val (.own (.lst ps)))) s) := q
  refine oG.bind (.refl sr) q' fun os s1 e1 q1 H1 al1 st1 vs r1 n1 nd => ?_
  obtain ⟨ps, s2, e2, q2⟩ := oG.prim q1 boxs_no
  obtain ⟨al2, st2, r2, _, _, n2⟩ := boxs_step st1 r1 n1 nd e2
  refine ⟨by rw [r2.length, n2, evs_len e1]; exact small_line hl, fun p hp => ?_⟩
  exact gives_of st2 q2 p _ (same_new hp _) hp ⟨vs, upd_same, r2.same (same_new hp _)⟩ rfl
theorem n_dic {pos : Pos} : PE X (.Dict [] [] pos) (tE Z W (ev N (.dic [] []))) := by
  refine PE.imp pe_dnewK fun σ H Q ⟨s, al, sr, q⟩ p hp => ?_
  exact gives_of (.refl sr) (res := .own (.dic [])) q p _ (same_new hp _) hp ⟨[], upd_same, rfl⟩ rfl
def trs (Z : Kx) (W : WX) (N : Kv.Env) : List Tx → List E → List (TE × TE)
  | k :: ks, a :: as => (tC (V.str (toStr k)), tE Z W (ev N a)) :: trs Z W N ks as
  | _, _ => []
theorem evs_assoc {α : Type} {a : E} {as : List E} {g : List Opd → M α} {s : Kv.St} : (evs N (a :: as) >>= g) s = (ev N a >>= fun o => evs N as >>= fun os => g (o :: os)) s := by
  show M.bind (M.bind (ev N a) fun o => M.bind (evs N as) fun os => M.pure (o :: os)) g s = M.bind (ev N a) (fun o => M.bind (evs N as) fun os => g (o :: os)) s
  unfold M.bind
  cases ev N a s with
  | ok o s1 => simp only; cases evs N as s1 <;> rfl
  | exc x s1 => rfl
  | bad => rfl
theorem temps_nd {s1 : Kv.St} {σ : L2.St} {H1 : Hp} {al1 : List Addr} {o : Opd} {v : V} {os : List Opd} {vs : List V} (r : RepP Z H1 al1 s1 σ o v) (n : News al1 s1 σ H1 os vs) (nd : (temps os vs).Nodup) : (temps (o :: os) (v :: vs)).Nodup := by
  rw [temps_cons]
  split
  · rename_i it
    refine List.nodup_cons.mpr ⟨?_, nd⟩
    cases o with
    | val w =>
      cases w with
      | pv p => cases it
      | own ob =>
        obtain ⟨b, rfl, g1, g2, g3⟩ := r
        obtain ⟨u, hu⟩ := g1.tracked g2
        exact temps_new g3 (by rw [hu]; simp) n
    | slot i => cases it
    | tab ob => cases it
  · exact nd
theorem disp_pairs {s0 : Kv.St} {σ : L2.St} {H0 : Hp} {al0 : List Addr} {K : Opd → Kv.St → Hp → List Addr → Prop} : ∀ {as : List E} {ks : List Tx} {g : List Opd → M Opd} {R : List (V × V) → Hp → Prop} {s1 : Kv.St} {H1 : Hp} {al1 : List Addr}, ks.length = as.length → Step Z s0 σ H0 al0 s1 σ H1 al1 → oG Z W s0 σ H0 al0 K ((evs N as >>= g) s1) →
    (∀ os s2 H2 al2 vs, Step Z s1 σ H1 al1 s2 σ H2 al2 → Reps Z H2 al2 s2 σ os vs → News al1 s1 σ H1 os vs → (temps os vs).Nodup → os.length = as.length → oG Z W s0 σ H0 al0 K (g os s2) → R (List.zipWith (fun k v => (V.str (toStr k), v)) ks vs) H2) → tPairs (trs Z W N ks as) σ H1 R
  | [], [], g, R, s1, H1, al1, _, st, q, k => k [] s1 H1 al1 [] (.refl st.sr) rfl trivial List.nodup_nil rfl q
  | [], _ :: _, _, _, _, _, _, h, _, _, _ => by cases h
  | _ :: _, [], _, _, _, _, _, h, _, _, _ => by cases h
  | a :: as, t :: ks, g, R, s1, H1, al1, h, st, q, k => by
    rw [evs_assoc] at q
    refine ⟨s1, al1, st.sr, oG.bind st q fun o1 s2 e1 q1 H2 al2 st2 v1 r1 n1 => ?_⟩
    refine disp_pairs (g := fun os => g (o1 :: os)) (by simpa using h) (st.trans st2) q1 fun os s3 H3 al3 vs st3 rs ns nd ln q3 => ?_
    exact k (o1 :: os) s3 H3 al3 (v1 :: vs) (st2.trans st3) ⟨v1, vs, rfl, r1.step st3, rs⟩ ⟨n1, ns.back st2⟩ (temps_nd r1 ns nd) (by rw [List.length_cons, List.length_cons, ln]) q3
theorem merge_new : ∀ {more acc : List (Key × V)}, (acc.map (·.1) ++ more.map (·.1)).Nodup → mergeK acc more = acc ++ more
  | [], acc, _ => by simp [mergeK]
  | p :: more, acc, h => by
    have hn : valV acc p.1 = none := by
      unfold valV
      rw [Option.map_eq_none_iff, List.find?_eq_none]
      intro q hq e
      have e' : q.1 = p.1 := of_decide_eq_true e
      have h2 := (List.nodup_append.mp h).2.2 q.1 (List.mem_map.mpr ⟨q, hq, rfl⟩) p.1 (by simp)
      exact h2 e'
    show mergeK (putK acc p.1 p.2) more = _
    rw [putK_new _ hn, merge_new (by simpa using h)]
    simp
theorem repK_zip {H : Hp} {al : List Addr} : ∀ {ks : List Tx} {ps : List PV} {vs : List V}, RepVs Z H al ps vs → RepK Z H al (dmk ks ps) (List.zipWith (fun k v => ((Sum.inr (toStr k) : Key), v)) ks vs)
  | [], _, _, _ => by unfold dmk; rw [List.zip_nil_left, List.zipWith_nil_left]; rfl
  | k :: ks, [], vs, h => by cases h; rfl
  | k :: ks, p :: ps, _, ⟨v, vr, e, h1, h2⟩ => by
    subst e
    exact ⟨Sum.inr (toStr k), v, _, rfl, rfl, h1, repK_zip h2⟩
theorem zip_fst : ∀ {ks : List Tx} {vs : List V}, ks.length = vs.length → (List.zipWith (fun k v => ((Sum.inr (toStr k) : Key), v)) ks vs).map (·.1) = ks.map fun k => Sum.inr (toStr k)
  | [], vs, h => by cases vs <;> rfl
  | k :: ks, [], h => by cases h
  | k :: ks, v :: vs, h => by
    rw [List.zipWith_cons_cons, List.map_cons, List.map_cons, zip_fst (by simpa using h)]
theorem zip_kv : ∀ {ks : List Tx} {vs : List V}, List.zipWith (fun k v => (V.str (toStr k), v)) ks vs = (List.zipWith (fun k v => ((Sum.inr (toStr k) : Key), v)) ks vs).map fun kv => (kV kv.1, kv.2)
  | [], vs => by rw [List.zipWith_nil_left, List.zipWith_nil_left]; rfl
  | k :: ks, [] => rfl
  | k :: ks, v :: vs => by
    rw [List.zipWith_cons_cons, List.zipWith_cons_cons, List.map_cons, zip_kv]; rfl
theorem n_disp {keys : List (Option Expr)} {es : List Expr} {ks : List Tx} {as : List E} {pos : Pos} (h : PPs X pos keys es (trs Z W N ks as)) (hall : keys.all (·.isSome) = true) (hl : keys.length = es.length) (h0 : keys ≠ []) (h15 : keys.length ≤ 15) (hk : ks.length = as.length) (hk15 : ks.length ≤ 15) :
    PE X (.Dict keys es pos) (tE Z W (ev N (.dic ks as))) := by
  refine PE.imp (pe_disp h hall hl h0 h15) fun σ H Q ⟨s, al, sr, q⟩ p hp => ?_
  have q' : oG Z W s σ H al (kE Z s σ H al Q) ((evs N as >>= fun os => boxs os >>= fun ps => if ks.Nodup ∧ ks.length = ps.length then pure (.val (.own (.dic (dmk ks ps)))) else M.bad) s) := q
  obtain ⟨st0, nf, _⟩ := alloc_step (u := .dK []) (Step.refl sr) hp
  refine disp_pairs hk st0 q' fun os s2 H2 al2 vs st2 rs ns nd ln q2 => ?_
  obtain ⟨ps, s3, e3, q3⟩ := oG.prim q2 boxs_no
  obtain ⟨al3, st3, r3, p3, _, n3⟩ := boxs_step st2 rs ns nd e3
  split at q3
  · rename_i hc
    have hp2 : H2 p = some (.dK []) := st2.ext p _ upd_same (.inl nf)
    have nf3 : ¬ Ft al3 s3 σ p := fun z => by
      rcases st3.new p z with z | z
      · exact nf z
      · rw [upd_same] at z; cases z
    have lv : ks.length = vs.length := by rw [r3.length]; exact hc.2
    have mg : mergeK [] (List.zipWith (fun k v => ((Sum.inr (toStr k) : Key), v)) ks vs) = List.zipWith (fun k v => ((Sum.inr (toStr k) : Key), v)) ks vs := by
      have := merge_new (acc := []) (more := List.zipWith (fun k v => ((Sum.inr (toStr k) : Key), v)) ks vs) (by
        rw [zip_fst lv, List.map_nil, List.nil_append]
        refine List.Pairwise.map _ (fun a b hab e => hab ?_) hc.1
        exact toStr_inj.mp (Sum.inr.inj e))
      rwa [List.nil_append] at this
    refine ⟨hp2, _, zip_kv, by rw [List.length_zipWith]; omega, ?_⟩
    rw [mg]
    have mu : Mut (H2 p) := by rw [hp2]; trivial
    have ex : Ext (fun b => b = p) H2 (upd H2 p (.dK (List.zipWith (fun k v => ((Sum.inr (toStr k) : Key), v)) ks vs))) := fun b o hb c => by
      by_cases e : b = p
      · subst e
        rw [hb] at mu
        rcases c with c | c
        · exact absurd rfl c
        · exact absurd mu c
      · rw [upd_ne e]; exact hb
    have st4 : Step Z s σ H al s3 σ (upd H2 p (.dK (List.zipWith (fun k v => ((Sum.inr (toStr k) : Key), v)) ks vs))) al3 :=
      ⟨st3.pre, st3.sr.heap ex fun a ha => upd_ne fun e => nf3 (e ▸ ha), fun a o ha c => by
        have hne : a ≠ p := fun e => by rw [e, hp] at ha; cases ha
        rw [upd_ne hne]
        exact (st0.trans st3).ext a o ha c, (st0.trans st3).new⟩
    exact q3 _ al3 st4 (.ref p) ⟨p, rfl, ⟨_, upd_same, RepK.ext ex (List.prefix_refl _) (repK_zip r3)⟩, rfl, nf3⟩ (.inr hp)
  · exact q3.elim

/-! ### tests -/
theorem n_test (ok : XOk Z W X) {e : Expr} {a : E} (he : ∀ whole, isTrue e X.env whole = (do let v ← whole; standAt e.pos; holding [v] (truthy v))) (h : PE X e (tE Z W (ev N a))) : PT X e (tT Z W (evT N (.e a))) := by
  refine PT.imp (pt_truth h he) fun σ H Q ⟨s, al, sr, q⟩ => ⟨s, al, sr, ?_⟩
  have q' : oG Z W s σ H al (kT Q) ((ev N a >>= fun o => cont1 o >>= fun c => M.ofo (truth c)) s) := q
  refine oG.bind (.refl sr) q' fun o s1 e1 q1 H1 al1 st1 v r1 n1 => ?_
  obtain ⟨c, ec, q2⟩ := oG.cont1 q1
  obtain ⟨b, eb, q3⟩ := oG.ofo q2
  exact ⟨b, by rw [ok.hK]; exact truth_ok eb (cont_rep st1.sr r1 ec), q3 H1 al1 st1⟩
theorem n_tnot {e : Expr} {b : B} {pos : Pos} (h : PT X e (tT Z W (evT N b))) : PT X (.UnaryOp .Not e pos) (tT Z W (evT N (.not b))) := by
  refine PT.imp (pt_not h) fun σ H Q ⟨s, al, sr, q⟩ => ⟨s, al, sr, ?_⟩
  have q' : oG Z W s σ H al (kT Q) ((evT N b >>= fun r => pure !r) s) := q
  exact oG.bind (.refl sr) q' fun r s1 e1 q1 H1 al1 st1 => q1 H1 al1 st1
theorem n_and1 {e : Expr} {b : B} {pos : Pos} (h : PT X e (tT Z W (evT N b))) : PW X (.BoolOp .And [e] pos) (tT Z W (evAnd N [b])) := by
  refine PW.imp (pw_and1 h) fun σ H Q ⟨s, al, sr, q⟩ => ⟨s, al, sr, ?_⟩
  have q' : oG Z W s σ H al (kT Q) ((evT N b >>= fun r => if r then evAnd N [] else pure false) s) := q
  refine oG.bind (.refl sr) q' fun r s1 e1 q1 H1 al1 st1 => ?_
  cases r with
  | true => exact q1 H1 al1 st1
  | false => exact q1 H1 al1 st1
theorem n_andc {e e2 : Expr} {es : List Expr} {b : B} {bs : List B} {pos : Pos} (h : PT X e (tT Z W (evT N b))) (hr : PW X (.BoolOp .And (e2 :: es) pos) (tT Z W (evAnd N bs))) : PW X (.BoolOp .And (e :: e2 :: es) pos) (tT Z W (evAnd N (b :: bs))) := by
  refine PW.imp (pw_and h hr) fun σ H Q ⟨s, al, sr, q⟩ => ⟨s, al, sr, ?_⟩
  have q' : oG Z W s σ H al (kT Q) ((evT N b >>= fun r => if r then evAnd N bs else pure false) s) := q
  refine oG.bind (.refl sr) q' fun r s1 e1 q1 H1 al1 st1 => ?_
  cases r with
  | true =>
    simp only [kT, if_true]
    refine ⟨s1, al1, st1.sr, ?_⟩
    have q2 : oG Z W s σ H al (kT Q) (evAnd N bs s1) := q1
    cases hq : evAnd N bs s1 with
    | ok r2 s2 => rw [hq] at q2; exact fun H2 al2 st2 => q2 H2 al2 (st1.trans st2)
    | exc x s2 => rw [hq] at q2; exact fun cls d H2 al2 st2 rx => q2 cls d H2 al2 (st1.trans st2) rx
    | bad => rw [hq] at q2; exact q2
  | false =>
    simp only [kT, if_false, Bool.false_eq_true]
    exact (q1 H1 al1 st1)
theorem n_or1 {e : Expr} {b : B} {pos : Pos} (h : PT X e (tT Z W (evT N b))) : PW X (.BoolOp .Or [e] pos) (tT Z W (evOr N [b])) := by
  refine PW.imp (pw_or1 h) fun σ H Q ⟨s, al, sr, q⟩ => ⟨s, al, sr, ?_⟩
  have q' : oG Z W s σ H al (kT Q) ((evT N b >>= fun r => if r then pure true else evOr N []) s) := q
  refine oG.bind (.refl sr) q' fun r s1 e1 q1 H1 al1 st1 => ?_
  cases r with
  | true => exact q1 H1 al1 st1
  | false => exact q1 H1 al1 st1
theorem n_orc {e e2 : Expr} {es : List Expr} {b : B} {bs : List B} {pos : Pos} (h : PT X e (tT Z W (evT N b))) (hr : PW X (.BoolOp .Or (e2 :: es) pos) (tT Z W (evOr N bs))) : PW X (.BoolOp .Or (e :: e2 :: es) pos) (tT Z W (evOr N (b :: bs))) := by
  refine PW.imp (pw_or h hr) fun σ H Q ⟨s, al, sr, q⟩ => ⟨s, al, sr, ?_⟩
  have q' : oG Z W s σ H al (kT Q) ((evT N b >>= fun r => if r then pure true else evOr N bs) s) := q
  refine oG.bind (.refl sr) q' fun r s1 e1 q1 H1 al1 st1 => ?_
  cases r with
  | false =>
    simp only [kT, if_false, Bool.false_eq_true]
    refine ⟨s1, al1, st1.sr, ?_⟩
    have q2 : oG Z W s σ H al (kT Q) (evOr N bs s1) := q1
    cases hq : evOr N bs s1 with
    | ok r2 s2 => rw [hq] at q2; exact fun H2 al2 st2 => q2 H2 al2 (st1.trans st2)
    | exc x s2 => rw [hq] at q2; exact fun cls d H2 al2 st2 rx => q2 cls d H2 al2 (st1.trans st2) rx
    | bad => rw [hq] at q2; exact q2
  | true =>
    simp only [kT, if_true]
    exact (q1 H1 al1 st1)
/-- the rest of a run, seen from a later state -/
theorem oG.later {α : Type} {s s1 : Kv.St} {σ : L2.St} {H H1 : Hp} {al al1 : List Addr} {K K' : α → Kv.St → Hp → List Addr → Prop} {o : Out α} (st : Step Z s σ H al s1 σ H1 al1) (h : oG Z W s σ H al K o)
    (k : ∀ a s2 H2 al2, o = .ok a s2 → Step Z s1 σ H1 al1 s2 σ H2 al2 → K a s2 H2 al2 → K' a s2 H2 al2) : oG Z W s1 σ H1 al1 K' o := by
  cases o with
  | ok a s2 => exact fun H2 al2 st2 => k a s2 H2 al2 rfl st2 (h H2 al2 (st.trans st2))
  | exc x s2 => exact fun cls d H2 al2 st2 rx => h cls d H2 al2 (st.trans st2) rx
  | bad => exact h
theorem kE.later {s s1 : Kv.St} {σ : L2.St} {H H1 : Hp} {al al1 : List Addr} {Q : VK} (st : Step Z s σ H al s1 σ H1 al1) {o : Opd} {s2 : Kv.St} {H2 : Hp} {al2 : List Addr} (h : kE Z s σ H al Q o s2 H2 al2) : kE Z s1 σ H1 al1 Q o s2 H2 al2 :=
  fun v r n => h v r (n.back st)

/-! ### values that are truths -/
theorem isBl_inv {o : Opd} {s : Kv.St} : (∃ b, o = .val (.pv (.bl b)) ∧ isBl o s = .ok b s) ∨ isBl o s = .bad := by
  cases o with
  | val w =>
    cases w with
    | pv p =>
      cases p with
      | bl b => exact .inl ⟨b, rfl, rfl⟩
      | _ => exact .inr rfl
    | own _ => exact .inr rfl
  | slot _ => exact .inr rfl
  | tab _ => exact .inr rfl
theorem oG.isBl {α : Type} {s s1 : Kv.St} {σ : L2.St} {H : Hp} {al : List Addr} {K : α → Kv.St → Hp → List Addr → Prop} {o : Opd} {g : Bool → M α} (h : oG Z W s σ H al K ((Kv.isBl o >>= g) s1)) : ∃ b, o = .val (.pv (.bl b)) ∧ oG Z W s σ H al K (g b s1) := by
  rcases isBl_inv (o := o) (s := s1) with ⟨b, e, e'⟩ | e
  · rw [bind_ok e'] at h; exact ⟨b, e, h⟩
  · rw [bind_bad e] at h; exact h.elim
theorem oG.isInt {α : Type} {s s1 : Kv.St} {σ : L2.St} {H : Hp} {al : List Addr} {K : α → Kv.St → Hp → List Addr → Prop} {o : Opd} {g : Int → M α} (h : oG Z W s σ H al K ((Kv.isInt o >>= g) s1)) : ∃ b, o = .val (.pv (.int b)) ∧ oG Z W s σ H al K (g b s1) := by
  cases o with
  | val w =>
    cases w with
    | pv p =>
      cases p with
      | int b => exact ⟨b, rfl, h⟩
      | _ => exact h.elim
    | own _ => exact h.elim
  | slot _ => exact h.elim
  | tab _ => exact h.elim
theorem n_not {e : Expr} {a : E} {pos : Pos} (h : PE X e (tE Z W (ev N a))) : PE X (.UnaryOp .Not e pos) (tE Z W (ev N (.not a))) := by
  refine PE.imp (pe_not h) fun σ H Q ⟨s, al, sr, q⟩ => ⟨s, al, sr, ?_⟩
  have q' : oG Z W s σ H al (kE Z s σ H al Q) ((ev N a >>= fun o => isBl o >>= fun b => pure (.val (.pv (.bl !b)))) s) := q
  refine oG.bind (.refl sr) q' fun o s1 e1 q1 H1 al1 st1 v r1 n1 => ?_
  obtain ⟨b, rfl, q2⟩ := oG.isBl q1
  exact ⟨b, r1, deliver st1 q2 rfl⟩
theorem n_vand1 {e : Expr} {a : E} {pos : Pos} (h : PE X e (tE Z W (ev N a))) : PE X (.BoolOp .And [e] pos) (tE Z W (evAndV N [a])) := pe_one h
theorem n_vor1 {e : Expr} {a : E} {pos : Pos} (h : PE X e (tE Z W (ev N a))) : PE X (.BoolOp .Or [e] pos) (tE Z W (evOrV N [a])) := pe_one h
theorem n_vandc {e e2 : Expr} {es : List Expr} {a a2 : E} {as : List E} {pos : Pos} (h : PE X e (tE Z W (ev N a))) (hr : PE X (.BoolOp .And (e2 :: es) pos) (tE Z W (evAndV N (a2 :: as)))) : PE X (.BoolOp .And (e :: e2 :: es) pos) (tE Z W (evAndV N (a :: a2 :: as))) := by
  refine PE.imp (pe_and h hr) fun σ H Q ⟨s, al, sr, q⟩ => ⟨s, al, sr, ?_⟩
  have q' : oG Z W s σ H al (kE Z s σ H al Q) ((ev N a >>= fun x => isBl x >>= fun b => if b then evAndV N (a2 :: as) else pure (.val (.pv (.bl false)))) s) := q
  refine oG.bind (.refl sr) q' fun o s1 e1 q1 H1 al1 st1 v r1 n1 => ?_
  obtain ⟨b, rfl, q2⟩ := oG.isBl q1
  refine ⟨b, r1, ?_⟩
  cases b with
  | true =>
    simp only [kT, if_true]
    exact ⟨s1, al1, st1.sr, oG.later st1 q2 fun _ _ _ _ _ _ k => k.later st1⟩
  | false =>
    simp only [kT, if_false, Bool.false_eq_true]
    exact (deliver st1 q2 rfl)
theorem n_vorc {e e2 : Expr} {es : List Expr} {a a2 : E} {as : List E} {pos : Pos} (h : PE X e (tE Z W (ev N a))) (hr : PE X (.BoolOp .Or (e2 :: es) pos) (tE Z W (evOrV N (a2 :: as)))) : PE X (.BoolOp .Or (e :: e2 :: es) pos) (tE Z W (evOrV N (a :: a2 :: as))) := by
  refine PE.imp (pe_or h hr) fun σ H Q ⟨s, al, sr, q⟩ => ⟨s, al, sr, ?_⟩
  have q' : oG Z W s σ H al (kE Z s σ H al Q) ((ev N a >>= fun x => isBl x >>= fun b => if b then pure (.val (.pv (.bl true))) else evOrV N (a2 :: as)) s) := q
  refine oG.bind (.refl sr) q' fun o s1 e1 q1 H1 al1 st1 v r1 n1 => ?_
  obtain ⟨b, rfl, q2⟩ := oG.isBl q1
  refine ⟨b, r1, ?_⟩
  cases b with
  | true =>
    simp only [kT, if_true]
    exact (deliver st1 q2 rfl)
  | false =>
    simp only [kT, if_false, Bool.false_eq_true]
    exact ⟨s1, al1, st1.sr, oG.later st1 q2 fun _ _ _ _ _ _ k => k.later st1⟩
theorem n_ite {ec ea eb : Expr} {c : B} {a b : E} {pos : Pos} (hc : PT X ec (tT Z W (evT N c))) (ha : PE X ea (tE Z W (ev N a))) (hb : PE X eb (tE Z W (ev N b))) : PE X (.IfExp ec ea eb pos) (tE Z W (ev N (.ite c a b))) := by
  refine PE.imp (pe_ifExp hc ha hb) fun σ H Q ⟨s, al, sr, q⟩ => ⟨s, al, sr, ?_⟩
  have q' : oG Z W s σ H al (kE Z s σ H al Q) ((evT N c >>= fun r => if r then ev N a else ev N b) s) := q
  refine oG.bind (.refl sr) q' fun r s1 e1 q1 H1 al1 st1 => ?_
  cases r with
  | true =>
    simp only [kT, if_true]
    exact ⟨s1, al1, st1.sr, oG.later st1 q1 fun _ _ _ _ _ _ k => k.later st1⟩
  | false =>
    simp only [kT, if_false, Bool.false_eq_true]
    exact ⟨s1, al1, st1.sr, oG.later st1 q1 fun _ _ _ _ _ _ k => k.later st1⟩

/-! ### slices -/
theorem n_bnd0 : PO X none (tO Z W (evB N [])) := ⟨fun pins s σ H Q I ⟨s', al, sr, q⟩ => (po_none (X := X)).run pins s σ H Q I (q H al (.refl sr))⟩
theorem n_bnd1 {e : Expr} {a : E} {as : List E} (h : PE X e (tE Z W (ev N a))) : PO X (some e) (tO Z W (evB N (a :: as))) := by
  refine ⟨fun pins s0 σ0 H0 Q0 I hq => (po_some h).run pins s0 σ0 H0 Q0 I ?_⟩
  obtain ⟨s, al, sr, q⟩ := hq
  refine ⟨s, al, sr, ?_⟩
  have q' : oG Z W s σ0 H0 al (kO Q0) ((ev N a >>= fun o => isInt o >>= fun i => pure (some i)) s) := q
  refine oG.bind (.refl sr) q' fun o s1 e1 q1 H1 al1 st1 v r1 n1 => ?_
  obtain ⟨i, rfl, q2⟩ := oG.isInt q1
  exact ⟨i, r1, q2 H1 al1 st1⟩
theorem n_sl (ok : XOk Z W X) {e : Expr} {lo hi : Option Expr} {a : E} {l h : List E} {pos p2 : Pos} (ha : PE X e (tE Z W (ev N a))) (hl : PO X lo (tO Z W (evB N l))) (hh : PO X hi (tO Z W (evB N h))) : PE X (.Subscript e (.Slice lo hi none p2) pos) (tE Z W (ev N (.sl a l h))) := by
  refine PE.imp (pe_slice sl_any ha hl hh) fun σ H Q ⟨s, al, sr, q⟩ => ⟨s, al, sr, ?_⟩
  have q' : oG Z W s σ H al (kE Z s σ H al Q) ((ev N a >>= fun x => evB N l >>= fun lv => evB N h >>= fun hv => cont1 x >>= fun c => M.ofo ((slice c lv hv).map .val)) s) := q
  refine oG.bind (.refl sr) q' fun o s1 e1 q1 H1 al1 st1 v r1 n1 => ⟨s1, al1, st1.sr, oG.bind st1 q1 fun lv s2 e2 q2 H2 al2 st2 => ⟨s2, al2, st2.sr, oG.bind (st1.trans st2) q2 fun hv s3 e3 q3 H3 al3 st3 => ?_⟩⟩
  obtain ⟨c, ec, q4⟩ := oG.cont1 q3
  obtain ⟨o4, e4, q5⟩ := oG.ofo q4
  obtain ⟨res, e5, rfl⟩ := Option.map_eq_some_iff.mp e4
  exact slice_ok ok.hK e5 (cont_rep st3.sr ((r1.step st2).step st3) ec) (gives_of ((st1.trans st2).trans st3) q5)
end
end Kv

set_option Elab.async false
set_option linter.all false
set_option maxRecDepth 100000
/-! dict(t), t a tuple of pairs. -/
namespace Kv
open PySem L2 PySem.Spec PyProof.Rows
section
variable {X : Cx} {pins : List (Addr × PySem.Obj)} {σ : L2.St} {H : Hp} {s : Shared}
theorem plain_seq {a : Addr} {xs : List V} (I : Inv X pins σ H s) (h : SqD X.K H a xs) : ∃ its : List Value, Vals xs its ∧ PlainSeq "tuple" s.heap a its.toArray ∧ xs.length ≤ sizeLine := by
  rcases h with ⟨o, h, hd⟩ | ⟨o, its, n, h1, h2, h3, h4, h5, h6⟩
  · obtain ⟨e, z, its, r, o', e', c, n, d⟩ := I.hok a _ h
    rw [e] at e'
    cases e'
    exact ⟨its, r, ⟨o, n, e, c, hd, d⟩, z⟩
  · refine ⟨its.toList, h6, ⟨o, n, I.kIn a o h1, h2, h3, by simpa using h4⟩, ?_⟩
    exact Nat.le_trans (Nat.le_of_eq h6.length) (by rw [Array.length_toList]; exact h5)
/-- the pairs, with the values of their keys -/
theorem pairs_at (I : Inv X pins σ H s) : ∀ {ps : List Addr} {kvs : List (Key × V)}, Paired (fun p kv => SqT X.K H p [kV kv.1, kv.2]) ps kvs →
    ∃ (prs : List (Key × Value)) (vs : List (Value × Value)), KV kvs prs ∧ prs.length = ps.length ∧ vs.length = ps.length ∧ ∀ (j : Nat) (k v : Value), vs[j]? = some (k, v) → ∃ (b : Addr) (key : Key), ps[j]? = some b ∧ prs[j]? = some (key, v) ∧ s.heap.IsTuple b #[k, v] ∧ keyIs key k = true
  | _, _, .nil => ⟨[], [], .nil, rfl, rfl, fun j k v e => by simp at e⟩
  | _, _, .cons (a := p) (b := kv) h t => by
    obtain ⟨prs, vs, r, l1, l2, g⟩ := pairs_at I t
    obtain ⟨its, rv, ⟨o, ho, hc, n, hd⟩, _⟩ := I.tuple h
    obtain ⟨u, y, ei, ru, ry⟩ := vals2 rv
    subst ei
    refine ⟨(kv.1, y) :: prs, (u, y) :: vs, .cons ⟨rfl, ry⟩ r, by rw [List.length_cons, List.length_cons, l1], by rw [List.length_cons, List.length_cons, l2], fun j k v e => ?_⟩
    cases j with
    | zero =>
      have e' : (u, y) = (k, v) := Option.some.inj e
      cases e'
      exact ⟨p, kv.1, rfl, rfl, ⟨o, ho, hc, n, hd⟩, kV_is (P := X.prog) (w := X.w) ru⟩
    | succ j =>
      obtain ⟨b, key, e1, e2, e3⟩ := g j k v (by simpa using e)
      exact ⟨b, key, by simpa using e1, by simpa using e2, e3⟩
theorem call_dictT (hcalm : X.calm = true) : CallR X (.type "dict") (fun xs H Q => ∃ (a : Addr) (ps : List Addr) (kvs : List (Key × V)), xs = [.ref a] ∧ SqD X.K H a (ps.map V.ref) ∧ Paired (fun p kv => SqT X.K H p [kV kv.1, kv.2]) ps kvs ∧
    ∀ p, H p = none → Q (.ref p) (upd H p (.dK (mergeK [] kvs)))) := by
  intro pins s σ H xs us Q I r ⟨a, ps, kvs, ex, hq, hp, q⟩
  subst ex
  rw [Vals.ref1 r]
  obtain ⟨its, rv, pl, hz⟩ := plain_seq I hq
  have ei := refs_at rv
  subst ei
  rw [List.length_map] at hz
  obtain ⟨prs, vs, rel, l1, l2, g⟩ := pairs_at I hp
  have ok : PlainSeq "tuple" s.heap a (ps.map Value.ref).toArray ∧ PairItems s.heap (ps.map Value.ref).toArray (fun j => ps.getD j 0) vs := by
    refine ⟨pl, by rw [List.size_toArray, List.length_map, l2], fun j k v e => ?_⟩
    obtain ⟨b, key, e1, e2, e3, e4⟩ := g j k v e
    have eb : ps.getD j 0 = b := by rw [List.getD_eq_getElem?_getD, e1]; rfl
    refine ⟨?_, .inl (by show s.heap.IsTuple (ps.getD j 0) #[k, v]; rw [eb]; exact e3)⟩
    show (ps.map Value.ref).toArray[j]? = some (.ref (ps.getD j 0))
    rw [List.getElem?_toArray, List.getElem?_map, e1, eb]; rfl
  refine PySem.call_dict_pairs (knd := mixKind X.prog X.w) (kvs := prs) (PairArg.tuple a (ps.map Value.ref).toArray (fun j => ps.getD j 0) vs) (I.ok.hd hcalm) ok ⟨by rw [l1, l2], fun i k v e => ?_⟩ (by rw [l2]; exact hz) fun h' tk hd' kp => ?_
  · obtain ⟨b, key, e1, e2, e3, e4⟩ := g i k v e
    exact ⟨key, e2, e4⟩
  · have hm : (s.heap.objs.size == sysModules) = false := beq_eq_false_iff_ne.mpr (Nat.ne_of_gt I.big)
    have ln : (mergeK [] kvs).length ≤ sizeLine := by
      have h1 := length_mergeK kvs []
      have h2 := rel.length
      rw [List.length_nil, Nat.zero_add] at h1
      omega
    exact ⟨.ref s.heap.objs.size, upd H s.heap.objs.size (.dK (mergeK [] kvs)), I.laid (t' := tk) (fun b o e => kp b o (fun m => nomatch m) e) (Nat.le_refl _) (show ObjOk X.prog X.w _ _ _ (.dK (mergeK [] kvs)) from ⟨ln, hm, merged [] prs, KV.merge rel .nil, hd'⟩), rfl, q _ (I.hok.fresh (Nat.le_refl _))⟩
end
end Kv

set_option Elab.async false
set_option linter.all false
set_option maxRecDepth 100000
/-! Built-in functions and methods. -/
namespace Kv
open PySem L2 PySem.Spec PyProof.Rows
variable {Z : Kx} {W : WX}

theorem perm_eq {α : Type} {le : α → α → Prop} (as : ∀ a b, le a b → le b a → a = b) : ∀ {l1 l2 : List α}, l1.Perm l2 → l1.Pairwise le → l2.Pairwise le → l1 = l2
  | [], l2, p, _, _ => (List.nil_perm.mp p).symm
  | a :: l1, l2, p, h1, h2 => by
    cases l2 with
    | nil => exact absurd (List.perm_nil.mp p) (by simp)
    | cons b l2 =>
      have ha : a ∈ b :: l2 := p.subset List.mem_cons_self
      have hb : b ∈ a :: l1 := p.symm.subset List.mem_cons_self
      rw [List.pairwise_cons] at h1 h2
      have e : a = b := by
        rcases List.mem_cons.mp ha with z | z
        · exact z
        · rcases List.mem_cons.mp hb with y | y
          · exact y.symm
          · exact as a b (h1.1 b y) (h2.1 a z)
      subst e
      rw [perm_eq as (List.Perm.cons_inv p) h1.2 h2.2]
def leTx (a b : Tx) : Prop := ¬ b < a
theorem leTx_as (a b : Tx) (h : leTx a b) (h' : leTx b a) : a = b := List.le_antisymm (show a ≤ b from h) (show b ≤ a from h')
theorem leTx_trans {a b c : Tx} (h : leTx a b) (h' : leTx b c) : leTx a c := List.le_trans (show a ≤ b from h) (show b ≤ c from h')
theorem insTx_perm (x : Tx) : ∀ l, (insTx x l).Perm (x :: l)
  | [] => .refl _
  | y :: r => by
    unfold insTx
    split
    · exact .refl _
    · exact (List.Perm.cons y (insTx_perm x r)).trans (.swap x y r)
theorem sortTx_perm : ∀ l, (sortTx l).Perm l
  | [] => .refl _
  | x :: r => (insTx_perm x (sortTx r)).trans (.cons x (sortTx_perm r))
theorem insTx_sorted (x : Tx) : ∀ {l}, l.Pairwise leTx → (insTx x l).Pairwise leTx
  | [], _ => by simp [insTx]
  | y :: r, h => by
    unfold insTx
    rw [List.pairwise_cons] at h
    split
    · rename_i c
      refine List.pairwise_cons.mpr ⟨fun z hz => ?_, List.pairwise_cons.mpr h⟩
      have xy : leTx x y := List.lt_asymm c
      rcases List.mem_cons.mp hz with e | e
      · rw [e]; exact xy
      · exact leTx_trans xy (h.1 z e)
    · rename_i c
      refine List.pairwise_cons.mpr ⟨fun z hz => ?_, insTx_sorted x h.2⟩
      rcases List.mem_cons.mp ((insTx_perm x r).subset hz) with e | e
      · rw [e]; exact c
      · exact h.1 z e
theorem sortTx_sorted : ∀ l, (sortTx l).Pairwise leTx
  | [] => .nil
  | x :: r => insTx_sorted x (sortTx_sorted r)
theorem risingS_pw : ∀ (p : Str) (l : List Str), risingS p l = true → (p :: l).Pairwise fun a b => leTx a.cps.toList b.cps.toList
  | p, [], _ => by simp
  | p, x :: r, h => by
    have h' : (!ltCps x.cps.toList p.cps.toList && risingS x r) = true := h
    rw [Bool.and_eq_true, ltCps_eq] at h'
    have ih := risingS_pw x r h'.2
    have px : leTx p.cps.toList x.cps.toList := by simpa [leTx] using h'.1
    refine List.pairwise_cons.mpr ⟨fun z hz => ?_, ih⟩
    rcases List.mem_cons.mp hz with e | e
    · rw [e]; exact px
    · exact leTx_trans px ((List.pairwise_cons.mp ih).1 z e)
theorem toStr_back (s : Str) : toStr s.cps.toList = s := by cases s; simp [toStr]
theorem sorted_is {ys : List Str} {ts : List Tx} (p : ys.Perm (ts.map toStr)) (h : sortedS ys = true) : ys = (sortTx ts).map toStr := by
  have h1 : (ys.map fun s => s.cps.toList).Pairwise leTx := by
    rw [List.pairwise_map]
    cases ys with
    | nil => exact .nil
    | cons x r => exact risingS_pw x r h
  have p1 : (ys.map fun s => s.cps.toList).Perm (sortTx ts) := by
    have q := p.map fun s => s.cps.toList
    rw [List.map_map] at q
    have e : (fun s : Str => s.cps.toList) ∘ toStr = id := by funext t; simp [toStr]
    rw [e, List.map_id] at q
    exact q.trans (sortTx_perm ts).symm
  have e := perm_eq leTx_as p1 h1 (sortTx_sorted ts)
  rw [← e, List.map_map]
  have e2 : toStr ∘ (fun s : Str => s.cps.toList) = id := by funext t; exact toStr_back t
  rw [e2, List.map_id]

theorem joinTx_str (sep : Tx) : ∀ ts : List Tx, Str.join (toStr sep) (ts.map toStr) = toStr (joinTx sep ts)
  | [] => rfl
  | [x] => rfl
  | x :: y :: r => by
    show toStr x ++ toStr sep ++ Str.join (toStr sep) ((y :: r).map toStr) = _
    rw [joinTx_str sep (y :: r), append_str, append_str]
    rfl

section
variable {X : Cx} {H : Hp} {al : List Addr}
def callAny (X : Cx) (f : Value) : List V → Hp → VK → Prop := fun xs H Q => ∃ r, CallR X f r ∧ r xs H Q
theorem call_any {f : Value} : CallR X f (callAny X f) := fun pins s σ H xs us Q I rr ⟨r, h, q⟩ => h pins s σ H xs us Q I rr q
theorem RepCs.one {c : SV} {vs : List V} (h : RepCs Z H al [c] vs) : ∃ v, vs = [v] ∧ RepC Z H al c v := by
  obtain ⟨v, vr, e, h1, h2⟩ := h
  cases h2
  exact ⟨v, e, h1⟩
theorem RepCs.two {c d : SV} {vs : List V} (h : RepCs Z H al [c, d] vs) : ∃ v w, vs = [v, w] ∧ RepC Z H al c v ∧ RepC Z H al d w := by
  obtain ⟨v, vr, e, h1, h2⟩ := h
  obtain ⟨w, rfl, h3⟩ := RepCs.one h2
  exact ⟨v, w, e, h1, h3⟩

/-- the value that a built-in's name stands for -/
def Bi.val : Bi → Option (Str × Value)
  | .len => some ("len", .builtin "len")
  | .tuple => some ("tuple", .type "tuple")
  | .list => some ("list", .type "list")
  | .str => some ("str", .type "str")
  | .int => some ("int", .type "int")
  | .abs => some ("abs", .builtin "abs")
  | .sum => some ("sum", .builtin "sum")
  | .all => some ("all", .builtin "all")
  | .any => some ("any", .builtin "any")
  | .sorted => some ("sorted", .builtin "sorted")
  | .min2 => some ("min", .builtin "min")
  | .max2 => some ("max", .builtin "max")
  | .dict => some ("dict", .type "dict")

theorem pairs_rep (H : Hp) (al : List Addr) : ∀ {xs : List PV} {vs : List V} {kvs : List (PV × PV)}, RepVs Z H al xs vs → asPairs xs = some kvs →
    ∃ (ps : List Addr) (hk : List (Key × V)), vs = ps.map V.ref ∧ Paired (fun p kv => SqT Z.K H p [kV kv.1, kv.2]) ps hk ∧ Paired (fun (q : PV × PV) (kv : Key × V) => q.1.isKey = true ∧ RepV Z H al q.1 (kV kv.1) ∧ RepV Z H al q.2 kv.2) kvs hk
  | [], _, kvs, h, e => by
    cases h; cases e
    exact ⟨[], [], rfl, .nil, .nil⟩
  | x :: xs, _, kvs, ⟨w, wr, ew, h1, h2⟩, e => by
    subst ew
    unfold asPairs at e
    split at e
    · rename_i heq; cases heq
    · rename_i k v r heq
      injection heq with e1 e2
      subst e1 e2
      split at e
      · rename_i hk
        obtain ⟨kv0, e3, rfl⟩ := Option.map_eq_some_iff.mp e
        obtain ⟨ps, hs, i1, i2, i3⟩ := pairs_rep H al h2 e3
        obtain ⟨a, ws, rfl, g1, w1, wr1, rfl, g2, w2, wr2, rfl, g3, g4⟩ := h1
        cases g4
        obtain ⟨key, rfl, _⟩ := key_of_rep g2 hk
        exact ⟨a :: ps, (key, w2) :: hs, by rw [i1]; rfl, .cons g1.t i2, .cons ⟨hk, g2, g3⟩ i3⟩
      · cases e
    · cases e
theorem fold_rep {H : Hp} {al : List Addr} : ∀ {kvs : List (PV × PV)} {hk : List (Key × V)} {acc : List (PV × PV)} {ac : List (Key × V)}, Paired (fun (q : PV × PV) (kv : Key × V) => q.1.isKey = true ∧ RepV Z H al q.1 (kV kv.1) ∧ RepV Z H al q.2 kv.2) kvs hk → RepK Z H al acc ac →
    RepK Z H al (kvs.foldl (fun acc p => dput acc p.1 p.2) acc) (mergeK ac hk)
  | [], _, acc, ac, h, r => by cases h; exact r
  | q :: kvs, _, acc, ac, h, r => by
    cases h with
    | cons h1 h2 =>
      rename_i kv hk
      obtain ⟨i1, i2, i3⟩ := h1
      obtain ⟨key, e, hkey⟩ := key_of_rep i2 i1
      have e' : kv.1 = key := kV_inj e
      subst e'
      show RepK Z H al (kvs.foldl (fun acc p => dput acc p.1 p.2) (dput acc q.1 q.2)) (mergeK (putK ac kv.1 kv.2) hk)
      exact fold_rep h2 (repK_put hkey i2 i3 r)
theorem bi_ok (hK : X.K = Z.K) (hc : X.calm = true) (hu : X.A.units + 200 < cLine) {b : Bi} {f : Str × Value} (hf : b.val = some f) {cs : List SV} {vs : List V} {res : SV} {Q : VK} (e : biFn b cs = some res) (h : RepCs Z H al cs vs) (q : Gives Z H al res Q) : callAny X f.2 vs H Q := by
  have newL : ∀ {xs : List PV} {ws : List V} {p : Addr}, RepVs Z H al xs ws → H p = none → res = .own (.lst xs) → Q (.ref p) (upd H p (.lst ws)) := by
    intro xs ws p h1 hp e1
    subst e1
    exact q p _ (same_new hp _) hp ⟨ws, upd_same, h1.same (same_new hp _)⟩ rfl
  have lenS : ∀ {a : Addr} {ws : List V} {n : Nat}, (SqL Z.K H a ws ∨ SqT Z.K H a ws) → ws.length = n → res = .pv (.int n) → vs = [.ref a] → callAny X (.builtin "len") vs H Q := by
    intro a ws n h1 h2 h3 h4
    subst h3 h4
    refine ⟨_, call_len, .ref a, n, rfl, ?_, q _ _ (.refl _) rfl⟩
    rcases h1 with h1 | h1
    · exact .inl ⟨ws, by rw [hK]; exact h1, h2.symm⟩
    · exact .inr ⟨ws, by rw [hK]; exact h1, h2.symm⟩
  have strsOf : ∀ {ts : List Tx}, ∃ ps : List PV, (sortTx ts).map PV.str = ps ∧ RepVs Z H al ps (((sortTx ts).map toStr).map V.str) := by
    intro ts
    refine ⟨_, rfl, ?_⟩
    generalize sortTx ts = l
    induction l with
    | nil => exact rfl
    | cons t r ih => exact ⟨_, _, rfl, rfl, ih⟩
  unfold biFn at e
  split at e
  · cases hf; cases e
    obtain ⟨v, rfl, a, rfl, ws, h1, h2⟩ := RepCs.one h
    exact lenS (.inl (.of h1)) h2.length rfl rfl
  · cases hf; cases e
    obtain ⟨v, rfl, a, rfl, ws, h1, h2⟩ := RepCs.one h
    exact lenS (.inl h1.seq) h2.length rfl rfl
  · cases hf; cases e
    obtain ⟨v, rfl, a, ws, rfl, h1, h2⟩ := RepCs.one h
    exact lenS (.inr h1.t) h2.length rfl rfl
  · split at e
    · rename_i hz
      cases hf; cases e
      obtain ⟨v, rfl, h1⟩ := RepCs.one h
      cases h1
      exact ⟨_, call_len, _, _, rfl, ⟨by rw [length_str]; exact hz, length_str.symm⟩, q _ _ (.refl _) rfl⟩
    · cases e
  · cases hf; cases e
    obtain ⟨v, rfl, a, rfl, hk, h1, h2⟩ := RepCs.one h
    refine ⟨_, call_lenD, a, hk, rfl, h1, q _ _ (.refl _) ?_⟩
    have ln : ∀ {kvs : List (PV × PV)} {hk : List (Key × V)}, RepK Z H al kvs hk → hk.length = kvs.length := by
      intro kvs
      induction kvs with
      | nil => intro hk h; cases h; rfl
      | cons p r ih =>
        rintro hk ⟨k, v, vr, e, _, _, h⟩
        subst e
        rw [List.length_cons, List.length_cons, ih h]
    show V.int _ = V.int _
    rw [ln h2]
  · cases hf; cases e
    obtain ⟨v, rfl, a, rfl, ws, h1, h2⟩ := RepCs.one h
    exact ⟨_, KvT.call_tupleD, a, ws, rfl, .inl ⟨by rw [hK]; exact .of h1, fun p u hp hu => q _ _ (same_new hp _) ⟨p, ws, rfl, .new hu, h2.same (same_new hp _)⟩⟩⟩
  · cases hf; cases e
    obtain ⟨v, rfl, a, ws, rfl, h1, h2⟩ := RepCs.one h
    exact ⟨_, KvT.call_tupleD, a, ws, rfl, .inr ⟨by rw [hK]; exact h1.t, q _ _ (.refl _) ⟨a, ws, rfl, h1, h2⟩⟩⟩
  · cases hf; cases e
    obtain ⟨v, rfl, a, rfl, ws, h1, h2⟩ := RepCs.one h
    exact ⟨_, call_list_of, a, ws, rfl, .inl (by rw [hK]; exact .of h1), fun p hp => newL h2 hp rfl⟩
  · cases hf; cases e
    obtain ⟨v, rfl, a, rfl, ws, h1, h2⟩ := RepCs.one h
    exact ⟨_, call_list_of, a, ws, rfl, .inl (by rw [hK]; exact h1.seq), fun p hp => newL h2 hp rfl⟩
  · cases hf; cases e
    obtain ⟨v, rfl, a, ws, rfl, h1, h2⟩ := RepCs.one h
    exact ⟨_, call_list_of, a, ws, rfl, .inr (by rw [hK]; exact h1.t), fun p hp => newL h2 hp rfl⟩
  · split at e
    · rename_i hz
      cases hf; cases e
      obtain ⟨v, rfl, h1⟩ := RepCs.one h
      cases h1
      refine ⟨_, call_str_int, _, rfl, hz, q _ _ (.refl _) ?_⟩
      show V.str _ = V.str (toStr _)
      rw [intTx, toStr_back]
    · cases e
  · cases hf; cases e
    obtain ⟨v, rfl, h1⟩ := RepCs.one h
    cases h1
    exact ⟨_, SkE.call_str_str, _, rfl, q _ _ (.refl _) rfl⟩
  · cases hf; cases e
    obtain ⟨v, rfl, h1⟩ := RepCs.one h
    cases h1
    exact ⟨_, call_int1, .inl ⟨_, rfl, q _ _ (.refl _) rfl⟩⟩
  · cases hf; cases e
    obtain ⟨v, rfl, h1⟩ := RepCs.one h
    cases h1
    exact ⟨_, call_int1, .inr ⟨_, rfl, q _ _ (.refl _) rfl⟩⟩
  · cases hf
    obtain ⟨n, e1, rfl⟩ := Option.map_eq_some_iff.mp e
    obtain ⟨v, rfl, h1⟩ := RepCs.one h
    cases h1
    unfold txInt at e1
    split at e1
    · rename_i hz
      exact ⟨_, call_int_str, _, n, rfl, e1, by rw [length_str]; exact hz, q _ _ (.refl _) rfl⟩
    · cases e1
  · cases hf; cases e
    obtain ⟨v, rfl, h1⟩ := RepCs.one h
    cases h1
    exact ⟨_, call_abs, _, rfl, q _ _ (.refl _) rfl⟩
  · cases hf
    obtain ⟨ns, e1, rfl⟩ := Option.map_eq_some_iff.mp e
    obtain ⟨v, rfl, a, rfl, ws, h1, h2⟩ := RepCs.one h
    have e2 := asInts_rep h2 e1
    subst e2
    exact ⟨_, cr_sum hc, a, ns, rfl, by rw [hK]; exact .of h1, q _ _ (.refl _) rfl⟩
  · cases hf
    obtain ⟨ns, e1, rfl⟩ := Option.map_eq_some_iff.mp e
    obtain ⟨v, rfl, a, rfl, ws, h1, h2⟩ := RepCs.one h
    have e2 := asInts_rep h2 e1
    subst e2
    exact ⟨_, cr_sum hc, a, ns, rfl, by rw [hK]; exact h1.seq, q _ _ (.refl _) rfl⟩
  · cases hf
    obtain ⟨ns, e1, rfl⟩ := Option.map_eq_some_iff.mp e
    obtain ⟨v, rfl, a, rfl, ws, h1, h2⟩ := RepCs.one h
    have e2 := asBools_rep h2 e1
    subst e2
    exact ⟨_, cr_all hc, a, ns, rfl, by rw [hK]; exact .of h1, q _ _ (.refl _) rfl⟩
  · cases hf
    obtain ⟨ns, e1, rfl⟩ := Option.map_eq_some_iff.mp e
    obtain ⟨v, rfl, a, rfl, ws, h1, h2⟩ := RepCs.one h
    have e2 := asBools_rep h2 e1
    subst e2
    exact ⟨_, cr_any hc, a, ns, rfl, by rw [hK]; exact .of h1, q _ _ (.refl _) rfl⟩
  · split at e
    · rename_i hz
      cases hf
      obtain ⟨ts, e1, rfl⟩ := Option.map_eq_some_iff.mp e
      obtain ⟨v, rfl, a, rfl, hk, h1, h2⟩ := RepCs.one h
      have key : ∀ {kvs : List (PV × PV)} {hk : List (Key × V)} {ts : List Tx}, RepK Z H al kvs hk → asTx (kvs.map (·.1)) = some ts → hk.map (·.1) = (ts.map toStr).map Sum.inr ∧ ts.length = kvs.length := by
        intro kvs
        induction kvs with
        | nil => intro hk ts h e; cases h; cases e; exact ⟨rfl, rfl⟩
        | cons p r ih =>
          rintro hk ts ⟨k, v, vr, e, hk1, _, h⟩ e'
          subst e
          obtain ⟨p1, p2⟩ := p
          cases p1 with
          | str s =>
            have e'' : (asTx (r.map (·.1))).map (s :: ·) = some ts := e'
            obtain ⟨tr, e3, rfl⟩ := Option.map_eq_some_iff.mp e''
            obtain ⟨i1, i2⟩ := ih h e3
            refine ⟨?_, by rw [List.length_cons, List.length_cons, i2]⟩
            have hk2 : kV k = V.str (toStr s) := hk1
            cases k with
            | inl m => cases hk2
            | inr m =>
              have hk3 : V.str m = V.str (toStr s) := hk2
              injection hk3 with hk3
              subst hk3
              rw [List.map_cons, i1]; rfl
          | _ => cases e'
      obtain ⟨k1, k2⟩ := key h2 e1
      obtain ⟨ps, e2, r2⟩ := strsOf (ts := ts)
      refine ⟨_, KvS.call_sortedDA hc, a, hk, ts.map toStr, rfl, .inl h1, k1, by rw [List.length_map, k2]; exact hz, fun ys p hp hs hn => ?_⟩
      rw [sorted_is hp hs]
      exact newL r2 hn (by rw [← e2])
    · cases e
  · split at e
    · rename_i hz
      split at e
      · rename_i ts e1
        cases hf; cases e
        obtain ⟨v, rfl, a, rfl, ws, h1, h2⟩ := RepCs.one h
        have e2 := asTx_rep h2 e1
        subst e2
        obtain ⟨ps, e3, r2⟩ := strsOf (ts := ts)
        refine ⟨_, KvS.call_sortedLA, a, ts.map toStr, rfl, by rw [hK, List.map_map]; exact .of h1, fun ys p hp hs hn => ?_⟩
        rw [sorted_is hp hs]
        exact newL r2 hn (by rw [← e3])
      · split at e
        · rename_i hso
          cases hf; cases e
          obtain ⟨v, rfl, a, rfl, ws, h1, h2⟩ := RepCs.one h
          exact ⟨_, cr_sortD hK (by omega), a, ws, _, rfl, .of h1, h2, hso, fun ys p hr hn => newL hr hn rfl⟩
        · cases e
    · cases e
  · cases hf; cases e
    obtain ⟨v, rfl, a, rfl, hk, h1, h2⟩ := RepCs.one h
    refine ⟨_, call_dictD, a, hk, rfl, .inl h1, fun p hp => ?_⟩
    exact q p _ (same_new hp _) hp ⟨_, upd_same, RepK.ext (F := fun _ => True) (same_ext (same_new hp _)) (List.prefix_refl _) h2⟩ rfl
  · cases hf
    obtain ⟨kvs, e1, rfl⟩ := Option.map_eq_some_iff.mp e
    obtain ⟨v, rfl, a, rfl, ws, h1, h2⟩ := RepCs.one h
    obtain ⟨ps0, e2, rfl⟩ := Option.map_eq_some_iff.mp e1
    obtain ⟨ps, hk, rfl, i2, i3⟩ := pairs_rep H al h2 e2
    refine ⟨_, call_dictP hc, a, ps, hk, rfl, by rw [hK]; exact .of h1, by rw [hK]; exact i2, fun p hp => ?_⟩
    exact q p _ (same_new hp _) hp ⟨_, upd_same, RepK.ext (F := fun _ => True) (same_ext (same_new hp _)) (List.prefix_refl _) (fold_rep (acc := []) (ac := []) i3 rfl)⟩ rfl
  · cases hf
    obtain ⟨kvs, e1, rfl⟩ := Option.map_eq_some_iff.mp e
    obtain ⟨v, rfl, a, ws, rfl, h1, h2⟩ := RepCs.one h
    obtain ⟨ps0, e2, rfl⟩ := Option.map_eq_some_iff.mp e1
    obtain ⟨ps, hk, rfl, i2, i3⟩ := pairs_rep H al h2 e2
    refine ⟨_, call_dictT hc, a, ps, hk, rfl, by rw [hK]; exact h1, by rw [hK]; exact i2, fun p hp => ?_⟩
    exact q p _ (same_new hp _) hp ⟨_, upd_same, RepK.ext (F := fun _ => True) (same_ext (same_new hp _)) (List.prefix_refl _) (fold_rep (acc := []) (ac := []) i3 rfl)⟩ rfl
  · cases hf; cases e
    obtain ⟨v, w, rfl, h1, h2⟩ := RepCs.two h
    cases h1; cases h2
    exact ⟨_, call_min2 hc, _, _, rfl, q _ _ (.refl _) rfl⟩
  · cases hf; cases e
    obtain ⟨v, w, rfl, h1, h2⟩ := RepCs.two h
    cases h1; cases h2
    exact ⟨_, call_max2 hc, _, _, rfl, q _ _ (.refl _) rfl⟩
  all_goals (first | cases hf | cases e)
end
end Kv

set_option Elab.async false
set_option linter.all false
set_option maxRecDepth 100000
/-! What changes an object. -/
namespace Kv
open PySem L2 PySem.Spec PyProof.Rows
variable {Z : Kx} {W : WX}

section
variable {s0 s s' : Kv.St} {σ0 σ : L2.St} {H0 H : Hp} {al0 al : List Addr}
theorem ext_upd {a : Addr} {u : HO} : Ext (fun b => b = a) H (upd H a u) ∨ True := .inr trivial
/-- the object at a turns -/
theorem ext_at {a : Addr} {u : HO} {F : Addr → Prop} (fa : F a) (mu : Mut (H a)) : Ext F H (upd H a u) := fun b o h q => by
  by_cases e : b = a
  · subst e
    rw [h] at mu
    rcases q with q | q
    · exact absurd fa q
    · exact absurd mu q
  · rw [upd_ne e]; exact h
theorem set_get {α : Type} {l : List α} {n m : Nat} {x y : α} (h : (l.set n x)[m]? = some y) : (m = n ∧ y = x) ∨ (m ≠ n ∧ l[m]? = some y) := by
  by_cases e : n = m
  · subst e
    by_cases c : n < l.length
    · rw [List.getElem?_set_self c] at h
      exact .inl ⟨rfl, (Option.some.inj h).symm⟩
    · rw [List.getElem?_eq_none (by simpa using c)] at h; cases h
  · rw [List.getElem?_set_ne e] at h
    exact .inr ⟨fun z => e z.symm, h⟩
theorem SR.loc (r : SR Z H al s σ) {n : Nat} {ob ob' : Kv.Obj} {a : Addr} {u : HO} (hn : s.mu[n]? = some ob) (t : ob.tr = true) (ha : al[n]? = some a) (mu : Mut (H a)) (new : RepO Z (upd H a u) al ob' a) (t' : ob'.tr = true) :
    SR Z (upd H a u) al { s with mu := s.mu.set n ob' } σ ∧ ∀ b, Ft al { s with mu := s.mu.set n ob' } σ b → Ft al s σ b := by
  have at0 : LocAt al s n a := ⟨ob, hn, t, ha⟩
  have loc : ∀ {m : Nat} {b : Addr}, LocAt al { s with mu := s.mu.set n ob' } m b → LocAt al s m b := fun {m b} ⟨o, h1, h2, h3⟩ => by
    rcases set_get h1 with ⟨e, e'⟩ | ⟨e, h⟩
    · subst e
      rw [ha] at h3
      cases h3
      exact at0
    · exact ⟨o, h, h2, h3⟩
  have ex : Ext (fun b => b = a) H (upd H a u) := ext_at rfl mu
  refine ⟨⟨r.len, by simpa using r.aln, fun m o b h1 h2 => ?_, fun i v h => ?_, r.tr, fun m k b h1 h2 => r.nd m k b (loc h1) (loc h2), fun i m b h1 h2 => r.off i m b h1 (loc h2), r.inj⟩, fun b h => h.elim (fun ⟨m, q⟩ => .inl ⟨m, loc q⟩) .inr⟩
  · rcases set_get h1 with ⟨e, e'⟩ | ⟨e, h⟩
    · subst e e'
      rw [ha] at h2
      cases h2
      exact new
    · refine (r.mu m o b h h2).at' ex (List.prefix_refl _) fun to => upd_ne fun z => e ?_
      exact r.nd m n b ⟨o, h, to, h2⟩ (z ▸ at0)
  · obtain ⟨w, h1, h2⟩ := r.sg i v h
    refine ⟨w, h1, ?_⟩
    cases v with
    | pv p => exact RepV.ext ex (List.prefix_refl _) h2
    | own o =>
      obtain ⟨b, e, q⟩ := h2
      subst e
      refine ⟨b, rfl, q.at' ex (List.prefix_refl _) fun _ => upd_ne fun z => ?_⟩
      exact r.off i n b ⟨o, h, h1⟩ (z ▸ at0)
theorem SR.own (r : SR Z H al s σ) {i : Nat} {ob ob' : Kv.Obj} {a : Addr} {u : HO} (hi : s.sg[i]? = some (some (.own ob))) (ha : σ[i]? = some (some (.ref a))) (mu : Mut (H a)) (new : RepO Z (upd H a u) al ob' a) (t' : ob'.tr = true) :
    SR Z (upd H a u) al (s.put i (some (.own ob'))) σ ∧ ∀ b, Ft al (s.put i (some (.own ob'))) σ b → Ft al s σ b := by
  have own0 : OwnAt s σ i a := ⟨ob, hi, ha⟩
  have r1 := r.drop i
  have fr : ¬ Ft al (s.put i none) σ a := by
    rintro (⟨n, z⟩ | ⟨j, z⟩)
    · exact r.off i n a own0 z
    · have z' := z.drop
      exact z'.2 (r.inj j i a z'.1 own0)
  have r2 : SR Z (upd H a u) al (s.put i none) σ := r1.heap (F := fun b => b = a) (ext_at rfl mu) fun b hb => upd_ne fun e => fr (e ▸ hb)
  have r3 := r2.put (i := i) (v := .own ob') (u := .ref a) ha ⟨a, rfl, new⟩ fun o b e1 e2 => by
    cases e1; cases e2
    refine ⟨t', fun z => fr ?_⟩
    have e0 : (s.put i none).put i none = s.put i none := by simp [St.put]
    rw [e0] at z; exact z
  have eq : (s.put i none).put i (some (.own ob')) = s.put i (some (.own ob')) := by simp [St.put]
  rw [eq] at r3
  refine ⟨r3, fun b h => ?_⟩
  rcases h with h | ⟨j, o, h1, h2⟩
  · exact .inl h
  · have h1' : (s.sg.set i (some (SV.own ob')))[j]? = some (some (SV.own o)) := h1
    rcases set_get h1' with ⟨e, _⟩ | ⟨_, h⟩
    · subst e
      rw [ha] at h2
      cases h2
      exact .inr ⟨j, own0⟩
    · exact .inr ⟨j, o, h, h2⟩
/-- a receiver's object turns -/
theorem wback_step (st : Step Z s0 σ0 H0 al0 s σ H al) {x : Opd} {v : V} (h : RepP Z H al s σ x v) {ob ob' : Kv.Obj} {a : Addr} {u : HO} (e : wback x ob' s = .ok () s') (c : cont x s = some (.own ob)) (t : ob.tr = true) (ha : v = .ref a) (mu : Mut (H a))
    (new : RepO Z (upd H a u) al ob' a) (t' : ob'.tr = true) : Step Z s0 σ0 H0 al0 s' σ (upd H a u) al := by
  have locs : ∀ {n : Nat}, s.mu[n]? = some ob → al[n]? = some a → s' = { s with mu := s.mu.set n ob' } → Step Z s0 σ0 H0 al0 s' σ (upd H a u) al := by
    intro n h1 h2 h3
    subst h3
    obtain ⟨r1, f1⟩ := st.sr.loc (ob' := ob') h1 t h2 mu new t'
    have fa : Ft al s σ a := .inl ⟨n, ob, h1, t, h2⟩
    exact st.trans ⟨List.prefix_refl _, r1, ext_at fa mu, fun b hb => .inl (f1 b hb)⟩
  cases x with
  | val w =>
    cases w with
    | pv p =>
      cases p with
      | loc n =>
        obtain ⟨b, h1, h2⟩ := h
        rw [ha] at h2
        cases h2
        simp only [wback] at e
        split at e
        · injection e with _ e2
          have c' : (s.mu[n]?).map SV.own = some (.own ob) := c
          obtain ⟨o, e3, e4⟩ := Option.map_eq_some_iff.mp c'
          cases e4
          exact locs e3 h1 e2.symm
        · cases e
      | _ => cases e
    | own o => cases e
  | slot i =>
    have h' : σ[i]? = some (some v) := h
    rw [ha] at h'
    cases g : s.get i with
    | none => simp only [wback, g] at e; cases e
    | some w =>
      obtain ⟨y, h1, h2⟩ := st.sr.sg i w (get_some g)
      rw [h'] at h1
      obtain rfl : V.ref a = y := Option.some.inj (Option.some.inj h1)
      cases w with
      | own o =>
        simp only [wback, g] at e
        injection e with _ e2
        simp only [cont, g] at c
        cases c
        obtain ⟨r1, f1⟩ := st.sr.own (ob' := ob') (get_some g) h' mu new t'
        have fa : Ft al s σ a := .inr ⟨i, ob, get_some g, h'⟩
        subst e2
        exact st.trans ⟨List.prefix_refl _, r1, ext_at fa mu, fun b hb => .inl (f1 b hb)⟩
      | pv p =>
        cases p with
        | loc n =>
          obtain ⟨b, h3, h4⟩ := h2
          cases h4
          simp only [wback, g] at e
          split at e
          · injection e with _ e2
            simp only [cont, g] at c
            obtain ⟨o, e3, e4⟩ := Option.map_eq_some_iff.mp c
            cases e4
            exact locs e3 h3 e2.symm
          · cases e
        | _ => simp only [wback, g] at e; cases e
  | tab o => cases e
end

/-! ### methods of lists -/
section
variable {X : Cx} {N : Kv.Env}
def mtAny (X : Cx) (id : String) : V → List V → Hp → VK → Prop := fun x xs H Q => ∃ r, MtR X id r ∧ r x xs H Q
theorem mt_any {id : String} : MtR X id (mtAny X id) := fun pins s σ H x xs v us Q I rx rs ⟨r, h, q⟩ => h pins s σ H x xs v us Q I rx rs q
theorem oG.wback {α : Type} {s s1 : Kv.St} {σ : L2.St} {H : Hp} {al : List Addr} {K : α → Kv.St → Hp → List Addr → Prop} {x : Opd} {o : Kv.Obj} {g : Unit → M α} (h : oG Z W s σ H al K ((Kv.wback x o >>= g) s1)) : ∃ s2, Kv.wback x o s1 = .ok () s2 ∧ oG Z W s σ H al K (g () s2) := by
  obtain ⟨a, s2, e, q⟩ := oG.prim h fun y s2 e => by
    cases x with
    | val w =>
      cases w with
      | pv p =>
        cases p with
        | loc n => simp only [Kv.wback] at e; split at e <;> cases e
        | _ => cases e
      | own o => cases e
    | slot i =>
      simp only [Kv.wback] at e
      split at e
      · split at e <;> cases e
      · cases e
      · cases e
    | tab o => cases e
  exact ⟨s2, e, q⟩
theorem isLst_inv {c : SV} (h : isLst c = true) : ∃ xs, c = .own (.lst xs) := by
  cases c with
  | pv p => cases h
  | own o =>
    cases o with
    | lst xs => exact ⟨xs, rfl⟩
    | _ => cases h
theorem bm_parts {a : E} {m : Bm} {as : List E} {s : Kv.St} {σ : L2.St} {H : Hp} {al : List Addr} {Q : VK} {R : V → Hp → Prop} (q : oG Z W s σ H al (kE Z s σ H al Q) (ev N (.bm m a as) s))
    (k : ∀ x s1 H1 al1 v, Step Z s σ H al s1 σ H1 al1 → RepP Z H1 al1 s1 σ x v → (∃ xs, cont x s1 = some (.own (.lst xs))) → oG Z W s σ H al (kE Z s σ H al Q) ((evs N as >>= fun os => mutate m x os) s1) → R v H1) :
    oG Z W s σ H al (kE Z s σ H al R) (ev N a s) := by
  have q' : oG Z W s σ H al (kE Z s σ H al Q) ((ev N a >>= fun x => cont1 x >>= fun c => if isLst c then (evs N as >>= fun os => mutate m x os) else M.bad) s) := q
  have sr : ∀ {s1 H1 al1}, Step Z s σ H al s1 σ H1 al1 → True := fun _ => trivial
  cases hq : ev N a s with
  | ok x s1 =>
    rw [bind_ok hq] at q'
    intro H1 al1 st1 v r1 n1
    obtain ⟨c, ec, q2⟩ := oG.cont1 q'
    split at q2
    · rename_i il
      obtain ⟨xs, rfl⟩ := isLst_inv il
      exact k x s1 H1 al1 v st1 r1 ⟨xs, ec⟩ q2
    · exact q2.elim
  | exc x s1 => rw [bind_exc hq] at q'; exact q'
  | bad => rw [bind_bad hq] at q'; exact q'
theorem tyV_lst {H : Hp} {al : List Addr} {xs : List PV} {v : V} {K : PySem.W.Frag} (h : RepC Z H al (.own (.lst xs)) v) : tyV K "list" v H := by
  obtain ⟨a, rfl, vs, h1, h2⟩ := h
  exact .inl ⟨rfl, _, .of h1⟩
/-- the end of a method that changes a list -/
theorem mut_fin {m : Bm} {s s3 : Kv.St} {σ : L2.St} {H H3 : Hp} {al al3 : List Addr} {Q : VK} {x : Opd} {v : V} {cs : List SV} (st : Step Z s σ H al s3 σ H3 al3) (r : RepP Z H3 al3 s3 σ x v)
    (q : oG Z W s σ H al (kE Z s σ H al Q) ((cont1 x >>= fun c => match c with
      | .own ob => (match bmf m ob cs with
        | some (ob', p) => wback x ob' >>= fun _ => pure (.val (.pv p))
        | none => M.bad)
      | _ => M.bad) s3)) :
    ∃ ob ob' p, bmf m ob cs = some (ob', p) ∧ RepC Z H3 al3 (.own ob) v ∧ (∀ a u w, v = .ref a → ob.tr = true → Mut (H3 a) → RepO Z (upd H3 a u) al3 ob' a → ob'.tr = true → RepV Z (upd H3 a u) al3 p w → Q w (upd H3 a u)) := by
  obtain ⟨c, ec, q1⟩ := oG.cont1 q
  cases c with
  | pv p => exact q1.elim
  | own ob =>
    cases hb : bmf m ob cs with
    | none => simp only [hb] at q1; exact q1.elim
    | some r0 =>
      obtain ⟨ob', p⟩ := r0
      simp only [hb] at q1
      obtain ⟨s4, e4, q2⟩ := oG.wback q1
      refine ⟨ob, ob', p, hb, cont_rep st.sr r ec, fun a u w hv t mu new t' rw_ => ?_⟩
      have st4 := wback_step (u := u) st r e4 ec t hv mu new t'
      exact deliver st4 q2 rw_
theorem bmf_append {ob : Kv.Obj} {cs : List SV} {r : Kv.Obj × PV} (h : bmf .append ob cs = some r) : ∃ xs p, ob = .lst xs ∧ cs = [.pv p] ∧ xs.length < sizeL ∧ r = (.lst (xs ++ [p]), .non) := by
  unfold bmf at h
  split at h
  · split at h
    · rename_i hz
      injection h with h
      exact ⟨_, _, rfl, rfl, hz, h.symm⟩
    · cases h
  · contradiction
  · contradiction
  · contradiction
  · contradiction
  · cases h
theorem bmf_insert {ob : Kv.Obj} {cs : List SV} {r : Kv.Obj × PV} (h : bmf .insert ob cs = some r) : ∃ xs i p, ob = .lst xs ∧ cs = [.pv (.int i), .pv p] ∧ xs.length < sizeL ∧ 0 ≤ i ∧ i < 2 ^ 62 ∧ r = (.lst (xs.take i.toNat ++ [p] ++ xs.drop i.toNat), .non) := by
  unfold bmf at h
  split at h
  · contradiction
  · contradiction
  · split at h
    · rename_i hz
      injection h with h
      exact ⟨_, _, _, rfl, rfl, hz.1, hz.2.1, hz.2.2, h.symm⟩
    · cases h
  · contradiction
  · contradiction
  · cases h
theorem bmf_extend {ob : Kv.Obj} {cs : List SV} {r : Kv.Obj × PV} (h : bmf .extend ob cs = some r) : ∃ xs ys, ob = .lst xs ∧ cs = [.own (.lst ys)] ∧ xs.length + ys.length ≤ sizeL ∧ r = (.lst (xs ++ ys), .non) := by
  unfold bmf at h
  split at h
  · contradiction
  · split at h
    · rename_i hz
      injection h with h
      exact ⟨_, _, rfl, rfl, hz, h.symm⟩
    · cases h
  · contradiction
  · contradiction
  · contradiction
  · cases h
theorem bmf_pop {ob : Kv.Obj} {cs : List SV} {r : Kv.Obj × PV} (h : bmf .pop ob cs = some r) : ∃ xs y, ob = .lst xs ∧ cs = [] ∧ xs[xs.length - 1]? = some y ∧ r = (.lst xs.dropLast, y) := by
  unfold bmf at h
  split at h
  · contradiction
  · contradiction
  · contradiction
  · split at h
    · rename_i y hy
      injection h with h
      exact ⟨_, _, rfl, rfl, hy, h.symm⟩
    · cases h
  · contradiction
  · cases h
theorem bmf_popAt {ob : Kv.Obj} {cs : List SV} {r : Kv.Obj × PV} (h : bmf .popAt ob cs = some r) : ∃ xs i j y, ob = .lst xs ∧ cs = [.pv (.int i)] ∧ -(2 ^ 62) ≤ i ∧ i < 2 ^ 62 ∧ ixOf xs.length i = some j ∧ xs[j]? = some y ∧ r = (.lst (xs.eraseIdx j), y) := by
  unfold bmf at h
  split at h
  · contradiction
  · contradiction
  · contradiction
  · contradiction
  · split at h
    · rename_i hz
      obtain ⟨j, e1, e2⟩ := Option.bind_eq_some_iff.mp h
      obtain ⟨y, e3, e4⟩ := Option.map_eq_some_iff.mp e2
      exact ⟨_, _, j, y, rfl, rfl, hz.1, hz.2, e1, e3, e4.symm⟩
    · cases h
  · cases h
theorem n_append (ok : XOk Z W X) {eo e : Expr} {apos cpos : Pos} {a b : E} (ho : PE X eo (tE Z W (ev N a))) (he : PA X [e] (tL Z W (evs N [b])))
    (hbase : attributeBase eo "append" X.env (eval eo X.env) = eval eo X.env) (hline : (apos.endLine == cpos.line) = true) (hs : starEach [e] X.env = [(false, eval e X.env)]) :
    PE X (.Call (.Attribute eo "append" apos) [e] [] cpos) (tE Z W (ev N (.bm .append a [b]))) := by
  refine PE.imp (pe_bm PySem.F.plainAttrs_list PySem.F.slot_list_append PySem.F.type_list_append mt_append ho he hbase (by rw [hs]; rfl) hline (by rw [hs]; rfl) rfl) fun σ H Q ⟨s, al, sr, q⟩ => ⟨s, al, sr, ?_⟩
  refine bm_parts q fun x s1 H1 al1 v st1 r1 ⟨xs0, ec0⟩ q1 => ⟨by have := tyV_lst (K := X.K) (cont_rep st1.sr r1 ec0); exact this, s1, al1, st1.sr, ?_⟩
  refine oG.bind st1 q1 fun os s2 e2 q2 H2 al2 st2 vs r2 n2 nd => ?_
  have q3 : oG Z W s σ H al (kE Z s σ H al Q) (((boxs os >>= fun ps => pure (ps.map SV.pv)) >>= fun cs => cont1 x >>= fun c => match c with
    | .own ob => (match bmf .append ob cs with
      | some (ob', p) => wback x ob' >>= fun _ => pure (.val (.pv p))
      | none => M.bad)
    | _ => M.bad) s2) := q2
  cases hb : boxs os s2 with
  | exc y s3 => exact absurd hb (boxs_no y s3)
  | bad => rw [bind_bad (m := boxs os >>= _) (by rw [bind_bad hb])] at q3; exact q3.elim
  | ok ps s3 =>
    rw [bind_ok (m := boxs os >>= _) (a := ps.map SV.pv) (s' := s3) (by rw [bind_ok hb]; rfl)] at q3
    obtain ⟨al3, st3, r3, p3, _, n3⟩ := boxs_step st2 r2 n2 nd hb
    obtain ⟨ob, ob', p, e4, rc, k⟩ := mut_fin (st1.trans st3) (r1.step st3) q3
    have l1 : ps.length = 1 := by rw [n3, evs_len e2]; rfl
    obtain ⟨xs, p1, rfl, e5, hz, e6⟩ := bmf_append e4
    injection e6 with e6 e7
    subst e6 e7
    match ps, l1 with
    | [p0], _ =>
      injection e5 with e5 _
      injection e5 with e5
      subst e5
      obtain ⟨w, wr, ew, h1, h2⟩ := r3
      cases h2
      obtain ⟨a0, rfl, ws, g1, g2⟩ := rc
      refine ⟨a0, ws, w, rfl, ew, g1, by rw [g2.length]; exact hz, ?_⟩
      have mu : Mut (H2 a0) := by rw [g1]; trivial
      have ex : Ext (fun b => b = a0) H2 (upd H2 a0 (.lst (ws ++ [w]))) := ext_at rfl mu
      exact k a0 _ .non rfl rfl mu ⟨_, upd_same, RepVs.ext ex (List.prefix_refl _) (g2.append ⟨w, [], rfl, h1, rfl⟩)⟩ rfl rfl
theorem n_insert (ok : XOk Z W X) {eo e e2 : Expr} {apos cpos : Pos} {a b b2 : E} (ho : PE X eo (tE Z W (ev N a))) (he : PA X [e, e2] (tL Z W (evs N [b, b2])))
    (hbase : attributeBase eo "insert" X.env (eval eo X.env) = eval eo X.env) (hline : (apos.endLine == cpos.line) = true) (hs : starEach [e, e2] X.env = [(false, eval e X.env), (false, eval e2 X.env)]) (hs2 : starEach [e2] X.env = [(false, eval e2 X.env)]) :
    PE X (.Call (.Attribute eo "insert" apos) [e, e2] [] cpos) (tE Z W (ev N (.bm .insert a [b, b2]))) := by
  refine PE.imp (pe_bm PySem.F.plainAttrs_list PySem.F.slot_list_insert PySem.F.type_list_insert mt_insert ho he hbase (by rw [hs]; rfl) hline (by rw [hs, hs2]) (by rw [hs2]; rfl)) fun σ H Q ⟨s, al, sr, q⟩ => ⟨s, al, sr, ?_⟩
  refine bm_parts q fun x s1 H1 al1 v st1 r1 ⟨xs0, ec0⟩ q1 => ⟨by have := tyV_lst (K := X.K) (cont_rep st1.sr r1 ec0); exact this, s1, al1, st1.sr, ?_⟩
  refine oG.bind st1 q1 fun os s2 e2 q2 H2 al2 st2 vs r2 n2 nd => ?_
  have q3 : oG Z W s σ H al (kE Z s σ H al Q) (((boxs os >>= fun ps => pure (ps.map SV.pv)) >>= fun cs => cont1 x >>= fun c => match c with
    | .own ob => (match bmf .insert ob cs with
      | some (ob', p) => wback x ob' >>= fun _ => pure (.val (.pv p))
      | none => M.bad)
    | _ => M.bad) s2) := q2
  cases hb : boxs os s2 with
  | exc y s3 => exact absurd hb (boxs_no y s3)
  | bad => rw [bind_bad (m := boxs os >>= _) (by rw [bind_bad hb])] at q3; exact q3.elim
  | ok ps s3 =>
    rw [bind_ok (m := boxs os >>= _) (a := ps.map SV.pv) (s' := s3) (by rw [bind_ok hb]; rfl)] at q3
    obtain ⟨al3, st3, r3, p3, _, n3⟩ := boxs_step st2 r2 n2 nd hb
    obtain ⟨ob, ob', p, e4, rc, k⟩ := mut_fin (st1.trans st3) (r1.step st3) q3
    have l1 : ps.length = 2 := by rw [n3, evs_len e2]; rfl
    obtain ⟨xs, i, p1, rfl, e5, hz, hi0, hi1, e6⟩ := bmf_insert e4
    injection e6 with e6 e7
    subst e6 e7
    match ps, l1 with
    | [p0, p00], _ =>
      have e5' : [SV.pv p0, SV.pv p00] = [.pv (.int i), .pv p1] := e5
      injection e5' with e5 e6
      injection e5 with e5
      injection e6 with e6 _
      injection e6 with e6
      subst e5 e6
      obtain ⟨w, wr, ew, h1, w2, wr2, ew2, h2, h3⟩ := r3
      cases h3
      subst ew2
      cases h1
      obtain ⟨a0, rfl, ws, g1, g2⟩ := rc
      have z62 : (2 : Int) ^ 62 = 4611686018427387904 := by decide
      have z63 : (2 : Int) ^ 63 = 9223372036854775808 := by decide
      refine ⟨a0, ws, i, w2, rfl, ew, g1, by rw [g2.length]; exact hz, hi0, by omega, ?_⟩
      have mu : Mut (H2 a0) := by rw [g1]; trivial
      have ex : Ext (fun b => b = a0) H2 (upd H2 a0 (.lst (ws.take i.toNat ++ [w2] ++ ws.drop i.toNat))) := ext_at rfl mu
      exact k a0 _ .non rfl rfl mu ⟨_, upd_same, RepVs.ext ex (List.prefix_refl _) (((g2.take _).append (show RepVs Z H2 al3 [p00] [w2] from ⟨w2, [], rfl, h2, rfl⟩)).append (g2.drop _))⟩ rfl rfl
/-- methods that look: names, ids -/
def Me.nm : Me → Option (String × String × Str)
  | .index => some ("list", "list.index", "index")
  | .split => some ("str", "str.split", "split")
  | .startswith => some ("str", "str.startswith", "startswith")
theorem find_data {p : PV} (hp : p.plain = true) : ∀ {xs : List PV} {j : Nat}, PV.plains xs = true → xs.findIdx? (fun x => decide (x = p)) = some j → (∃ z, (toDs xs)[j]? = some z ∧ PyData.eqv z (toD p) = true) ∧ ∀ (m : Nat) (z' : PyData), m < j → (toDs xs)[m]? = some z' → PyData.eqv z' (toD p) = false
  | [], j, _, h => by cases h
  | x :: xs, j, hx, h => by
    have hx' : (x.plain && PV.plains xs) = true := hx
    rw [Bool.and_eq_true] at hx'
    rw [List.findIdx?_cons] at h
    by_cases c : x = p
    · rw [decide_eq_true c, if_pos rfl] at h
      cases h
      refine ⟨⟨toD x, rfl, by rw [eqv_of hx'.1 hp]; exact decide_eq_true c⟩, fun m z' hm => absurd hm (Nat.not_lt_zero _)⟩
    · rw [decide_eq_false c, if_neg (by decide)] at h
      obtain ⟨i, hi, rfl⟩ := Option.map_eq_some_iff.mp h
      obtain ⟨⟨z, h1, h2⟩, h3⟩ := find_data hp hx'.2 hi
      refine ⟨⟨z, h1, h2⟩, fun m z' hm e => ?_⟩
      cases m with
      | zero =>
        have e' : some (toD x) = some z' := e
        cases e'
        rw [eqv_of hx'.1 hp]; exact decide_eq_false c
      | succ m => exact h3 m z' (by omega) e
theorem me_ok (hK : X.K = Z.K) (hu : X.A.units + 200 < cLine) {H : Hp} {al : List Addr} {m : Me} {T id : String} {x : Str} (hm : m.nm = some (T, id, x)) {c : SV} {cs : List SV} {v : V} {vs : List V} {res : SV} {Q : VK} (e : meFn m c cs = some res) (hc : RepC Z H al c v) (h : RepCs Z H al cs vs) (q : Gives Z H al res Q) : mtAny X id v vs H Q := by
  unfold meFn at e
  split at e
  · cases hm
    split at e
    · rename_i hz
      obtain ⟨j, e1, rfl⟩ := Option.map_eq_some_iff.mp e
      simp only [Bool.and_eq_true, decide_eq_true_eq] at hz
      obtain ⟨⟨⟨h1, h2⟩, h3⟩, h4⟩ := hz
      obtain ⟨w, rfl, hw⟩ := RepCs.one h
      obtain ⟨a, rfl, ws, g1, g2⟩ := hc
      obtain ⟨⟨z, d1, d2⟩, d3⟩ := find_data h1 h2 e1
      have dl : Dp Z.K H (.ref a) (.list (toDs _)) := .lst (.of g1) (dps_of h2 g2)
      exact ⟨_, mt_indexD (by omega), a, w, _, _, j, z, rfl, rfl, by rw [hK]; exact dl, by rw [hK]; exact dp_of h1 hw, shpL h2 h4, shp h1 h3, d1, d2, d3, q _ _ (.refl _) rfl⟩
    · cases e
  · cases hm
    split at e
    · rename_i a c0 b0 hz
      cases e
      obtain ⟨w, rfl, hw⟩ := RepCs.one h
      cases hw
      cases hc
      refine ⟨_, mt_split, toStr a, toStr (c0 :: b0), rfl, rfl, ?_, by rw [length_str]; exact hz, fun p hp => ?_⟩
      · rw [length_str]; rfl
      · have e2 : RepVs Z H al ((splitTx a (c0 :: b0)).map PV.str) ((Txt.split (toStr a) (toStr (c0 :: b0))).map V.str) := by
          show RepVs Z H al (((Txt.split (toStr a) (toStr (c0 :: b0))).map fun s => s.cps.toList).map PV.str) _
          generalize Txt.split (toStr a) (toStr (c0 :: b0)) = l
          induction l with
          | nil => exact rfl
          | cons s r ih => exact ⟨.str s, r.map V.str, rfl, by show V.str s = V.str (toStr s.cps.toList); rw [toStr_back], ih⟩
        exact q p _ (same_new hp _) hp ⟨_, upd_same, e2.same (same_new hp _)⟩ rfl
    · cases e
  · cases hm; cases e
    obtain ⟨w, rfl, hw⟩ := RepCs.one h
    cases hw
    cases hc
    exact ⟨_, mt_startswith, _, _, rfl, rfl, q _ _ (.refl _) rfl⟩
  · cases e
theorem meTy_rep {H : Hp} {al : List Addr} {m : Me} {T id : String} {x : Str} (hm : m.nm = some (T, id, x)) {c : SV} {v : V} {K : PySem.W.Frag} (h : meTy m c = true) (r : RepC Z H al c v) : tyV K T v H := by
  unfold meTy at h
  split at h
  · cases hm; exact tyV_lst r
  · cases hm; cases r; exact rfl
  · cases hm; cases r; exact rfl
  · cases h
theorem me_facts {m : Me} {T id : String} {x : Str} (hm : m.nm = some (T, id, x)) : PlainAttrs T ∧ Slot T x id ∧ typeOf (.builtin id) = pure (.type "method_descriptor") := by
  cases m with
  | index => cases hm; exact ⟨PySem.F.plainAttrs_list, PySem.F.slot_list_index, PySem.F.type_list_index⟩
  | split => cases hm; exact ⟨PySem.F.plainAttrs_str, PySem.F.slot_str_split, PySem.F.type_str_split⟩
  | startswith => cases hm; exact ⟨PySem.F.plainAttrs_str, PySem.F.slot_str_startswith, PySem.F.type_str_startswith⟩
theorem n_me1 (ok : XOk Z W X) {eo e : Expr} {apos cpos : Pos} {a b : E} {m : Me} {T id : String} {x : Str} (hm : m.nm = some (T, id, x)) (ho : PE X eo (tE Z W (ev N a))) (he : PA X [e] (tL Z W (evs N [b])))
    (hbase : attributeBase eo x X.env (eval eo X.env) = eval eo X.env) (hline : (apos.endLine == cpos.line) = true) (hs : starEach [e] X.env = [(false, eval e X.env)]) :
    PE X (.Call (.Attribute eo x apos) [e] [] cpos) (tE Z W (ev N (.me m a [b]))) := by
  obtain ⟨f1, f2, f3⟩ := me_facts hm
  refine PE.imp (pe_bm f1 f2 f3 mt_any ho he hbase (by rw [hs]; rfl) hline (by rw [hs]; rfl) rfl) fun σ H Q ⟨s, al, sr, q⟩ => ⟨s, al, sr, ?_⟩
  have q' : oG Z W s σ H al (kE Z s σ H al Q) ((ev N a >>= fun x => cont1 x >>= fun c => if meTy m c then (evs N [b] >>= fun os => cont1 x >>= fun c => conts os >>= fun cs => M.ofo ((meFn m c cs).map .val)) else M.bad) s) := q
  refine oG.bind (.refl sr) q' fun x s1 e1 q1 H1 al1 st1 v r1 n1 => ?_
  obtain ⟨c, ec, q2⟩ := oG.cont1 q1
  split at q2
  · rename_i ht
    refine ⟨by have := meTy_rep (K := X.K) hm ht (cont_rep st1.sr r1 ec); exact this, s1, al1, st1.sr, ?_⟩
    refine oG.bind st1 q2 fun os s2 e2 q3 H2 al2 st2 vs r2 n2 nd => ?_
    obtain ⟨c2, ec2, q4⟩ := oG.cont1 q3
    obtain ⟨cs, ecs, q5⟩ := oG.conts q4
    obtain ⟨o, e4, q6⟩ := oG.ofo q5
    obtain ⟨res, e5, rfl⟩ := Option.map_eq_some_iff.mp e4
    exact me_ok ok.hK ok.hu hm e5 (cont_rep st2.sr (r1.step st2) ec2) (conts_rep st2.sr r2 ecs) (gives_of (st1.trans st2) q6)
  · exact q2.elim
theorem n_extend (ok : XOk Z W X) {eo e : Expr} {apos cpos : Pos} {a b : E} (ho : PE X eo (tE Z W (ev N a))) (he : PA X [e] (tL Z W (evs N [b])))
    (hbase : attributeBase eo "extend" X.env (eval eo X.env) = eval eo X.env) (hline : (apos.endLine == cpos.line) = true) (hs : starEach [e] X.env = [(false, eval e X.env)]) :
    PE X (.Call (.Attribute eo "extend" apos) [e] [] cpos) (tE Z W (ev N (.bm .extend a [b]))) := by
  refine PE.imp (pe_bm PySem.F.plainAttrs_list PySem.F.slot_list_extend PySem.F.type_list_extend mt_extend ho he hbase (by rw [hs]; rfl) hline (by rw [hs]; rfl) rfl) fun σ H Q ⟨s, al, sr, q⟩ => ⟨s, al, sr, ?_⟩
  refine bm_parts q fun x s1 H1 al1 v st1 r1 ⟨xs0, ec0⟩ q1 => ⟨by have := tyV_lst (K := X.K) (cont_rep st1.sr r1 ec0); exact this, s1, al1, st1.sr, ?_⟩
  refine oG.bind st1 q1 fun os s2 e2 q2 H2 al2 st2 vs r2 n2 nd => ?_
  have q3 : oG Z W s σ H al (kE Z s σ H al Q) ((conts os >>= fun cs => cont1 x >>= fun c => match c with
    | .own ob => (match bmf .extend ob cs with
      | some (ob', p) => wback x ob' >>= fun _ => pure (.val (.pv p))
      | none => M.bad)
    | _ => M.bad) s2) := q2
  obtain ⟨cs, ecs, q4⟩ := oG.conts q3
  obtain ⟨ob, ob', p, e4, rc, k⟩ := mut_fin (st1.trans st2) (r1.step st2) q4
  obtain ⟨xs, ys, rfl, rfl, hz, e6⟩ := bmf_extend e4
  injection e6 with e6 e7
  subst e6 e7
  obtain ⟨w, rfl, b0, rfl, zs, g3, g4⟩ := RepCs.one (conts_rep st2.sr r2 ecs)
  obtain ⟨a0, rfl, ws, g1, g2⟩ := rc
  refine ⟨a0, b0, ws, zs, rfl, rfl, g1, g3, by rw [g2.length, g4.length]; exact hz, ?_⟩
  have mu : Mut (H2 a0) := by rw [g1]; trivial
  have ex : Ext (fun b => b = a0) H2 (upd H2 a0 (.lst (ws ++ zs))) := ext_at rfl mu
  exact k a0 _ .non rfl rfl mu ⟨_, upd_same, RepVs.ext ex (List.prefix_refl _) (g2.append g4)⟩ rfl rfl
theorem erase_rep {H : Hp} {al : List Addr} : ∀ {xs : List PV} {vs : List V} (i : Nat), RepVs Z H al xs vs → RepVs Z H al (xs.eraseIdx i) (vs.eraseIdx i)
  | [], _, _, h => by cases h; exact rfl
  | _ :: _, _, 0, ⟨_, _, e, _, h⟩ => by subst e; exact h
  | _ :: _, _, i + 1, ⟨v, _, e, h1, h⟩ => by subst e; exact ⟨v, _, rfl, h1, erase_rep i h⟩
theorem ixOf_seq {n : Nat} {i : Int} {j : Nat} (h : ixOf n i = some j) : seqIndex? i n = some j := (ixN_seq h).1
theorem n_popAt (ok : XOk Z W X) {eo e : Expr} {apos cpos : Pos} {a b : E} (ho : PE X eo (tE Z W (ev N a))) (he : PA X [e] (tL Z W (evs N [b])))
    (hbase : attributeBase eo "pop" X.env (eval eo X.env) = eval eo X.env) (hline : (apos.endLine == cpos.line) = true) (hs : starEach [e] X.env = [(false, eval e X.env)]) :
    PE X (.Call (.Attribute eo "pop" apos) [e] [] cpos) (tE Z W (ev N (.bm .popAt a [b]))) := by
  refine PE.imp (pe_bm PySem.F.plainAttrs_list PySem.F.slot_list_pop PySem.F.type_list_pop mt_popAt ho he hbase (by rw [hs]; rfl) hline (by rw [hs]; rfl) rfl) fun σ H Q ⟨s, al, sr, q⟩ => ⟨s, al, sr, ?_⟩
  refine bm_parts q fun x s1 H1 al1 v st1 r1 ⟨xs0, ec0⟩ q1 => ⟨by have := tyV_lst (K := X.K) (cont_rep st1.sr r1 ec0); exact this, s1, al1, st1.sr, ?_⟩
  refine oG.bind st1 q1 fun os s2 e2 q2 H2 al2 st2 vs r2 n2 nd => ?_
  have q3 : oG Z W s σ H al (kE Z s σ H al Q) ((conts os >>= fun cs => cont1 x >>= fun c => match c with
    | .own ob => (match bmf .popAt ob cs with
      | some (ob', p) => wback x ob' >>= fun _ => pure (.val (.pv p))
      | none => M.bad)
    | _ => M.bad) s2) := q2
  obtain ⟨cs, ecs, q4⟩ := oG.conts q3
  obtain ⟨ob, ob', p, e4, rc, k⟩ := mut_fin (st1.trans st2) (r1.step st2) q4
  obtain ⟨xs, i, j, y, rfl, rfl, z1, z2, hj, hy, e6⟩ := bmf_popAt e4
  injection e6 with e6 e7
  subst e6 e7
  obtain ⟨w, rfl, rw0⟩ := RepCs.one (conts_rep st2.sr r2 ecs)
  cases rw0
  obtain ⟨a0, rfl, ws, g1, g2⟩ := rc
  obtain ⟨w, hw, rw_⟩ := g2.get hy
  have mu : Mut (H2 a0) := by rw [g1]; trivial
  have ex : Ext (fun b => b = a0) H2 (upd H2 a0 (.lst (ws.eraseIdx j))) := ext_at rfl mu
  have b62 : (2 : Int) ^ 62 = 4611686018427387904 := by decide
  have b63 : (2 : Int) ^ 63 = 9223372036854775808 := by decide
  refine ⟨a0, ws, i, j, w, rfl, rfl, g1, by omega, by omega, by rw [g2.length]; exact ixOf_seq hj, hw, ?_⟩
  exact k a0 _ w rfl rfl mu ⟨_, upd_same, RepVs.ext ex (List.prefix_refl _) (erase_rep j g2)⟩ rfl (RepV.ext ex (List.prefix_refl _) rw_)
theorem n_pop (ok : XOk Z W X) {eo : Expr} {apos cpos : Pos} {a : E} (ho : PE X eo (tE Z W (ev N a)))
    (hbase : attributeBase eo "pop" X.env (eval eo X.env) = eval eo X.env) (hline : (apos.endLine == cpos.line) = true) :
    PE X (.Call (.Attribute eo "pop" apos) [] [] cpos) (tE Z W (ev N (.bm .pop a []))) := by
  refine PE.imp (pe_bm0 PySem.F.plainAttrs_list PySem.F.slot_list_pop PySem.F.type_list_pop mt_pop ho hbase hline) fun σ H Q ⟨s, al, sr, q⟩ => ⟨s, al, sr, ?_⟩
  refine bm_parts q fun x s1 H1 al1 v st1 r1 ⟨xs0, ec0⟩ q1 => ⟨by have := tyV_lst (K := X.K) (cont_rep st1.sr r1 ec0); exact this, ?_⟩
  have q3 : oG Z W s σ H al (kE Z s σ H al Q) ((cont1 x >>= fun c => match c with
    | .own ob => (match bmf .pop ob [] with
      | some (ob', p) => wback x ob' >>= fun _ => pure (.val (.pv p))
      | none => M.bad)
    | _ => M.bad) s1) := q1
  obtain ⟨ob, ob', p, e4, rc, k⟩ := mut_fin st1 r1 q3
  obtain ⟨xs, y, rfl, _, hy, e6⟩ := bmf_pop e4
  injection e6 with e6 e7
  subst e6 e7
  obtain ⟨a0, rfl, ws, g1, g2⟩ := rc
  obtain ⟨w, hw, rw_⟩ := g2.get hy
  have mu : Mut (H1 a0) := by rw [g1]; trivial
  have ex : Ext (fun b => b = a0) H1 (upd H1 a0 (.lst ws.dropLast)) := ext_at rfl mu
  refine ⟨a0, ws, w, rfl, rfl, g1, by rw [g2.length]; exact hw, ?_⟩
  refine k a0 _ w rfl rfl mu ⟨_, upd_same, RepVs.ext ex (List.prefix_refl _) ?_⟩ rfl (RepV.ext ex (List.prefix_refl _) rw_)
  rw [List.dropLast_eq_take, List.dropLast_eq_take, g2.length]
  exact g2.take _
end
end Kv

set_option Elab.async false
set_option linter.all false
set_option maxRecDepth 100000
/-! Arguments handed over and given back. -/
namespace Kv
open PySem L2 PySem.Spec PyProof.Rows
variable {Z : Kx} {W : WX}

/-- what is handed over -/
structure Passed (Z : Kx) (H : Hp) (al : List Addr) (s : Kv.St) (σ : L2.St) (al2 : List Addr) (s2 : Kv.St) (os : List Opd) (args : List (SV × Option Nat)) (vs : List V) : Prop where
  pre : al <+: al2
  sr : SR Z H al2 s2 σ
  len : args.length = vs.length
  rep : ∀ (j : Nat) sv oi v, args[j]? = some (sv, oi) → vs[j]? = some v → RepS Z H al2 sv v
  tr : ∀ (j : Nat) o oi, args[j]? = some (.own o, oi) → o.tr = true
  f1 : ∀ b, Ft al2 s2 σ b → Ft al s σ b
  f2 : ∀ (j : Nat) o oi b, args[j]? = some (.own o, oi) → vs[j]? = some (.ref b) → Ft al s σ b ∨ V.ref b ∈ temps os vs
  dis : ∀ (j : Nat) o oi b, args[j]? = some (.own o, oi) → vs[j]? = some (.ref b) → ¬ Ft al2 s2 σ b
  inj : ∀ (j j' : Nat) o o' oi oi' b, args[j]? = some (.own o, oi) → vs[j]? = some (.ref b) → args[j']? = some (.own o', oi') → vs[j']? = some (.ref b) → j = j'
  tak : ∀ (j : Nat) sv i, args[j]? = some (sv, some i) → (∃ v, vs[j]? = some v ∧ σ[i]? = some (some v)) ∧ s2.get i = none ∧ (∃ o, s.sg[i]? = some (some (.own o)))
  slen : s2.sg.length = s.sg.length
  oth : ∀ (i : Nat) v, s2.sg[i]? = some (some v) → ∃ w, s.sg[i]? = some (some w)

theorem put_get_ne {s : Kv.St} {i j : Nat} {v : Option SV} (h : i ≠ j) : (s.put i v).sg[j]? = s.sg[j]? := List.getElem?_set_ne h
theorem temps_ref (Z : Kx) {s : Kv.St} {σ : L2.St} {H : Hp} {al : List Addr} {b : Addr} : ∀ {os : List Opd} {vs : List V}, Reps Z H al s σ os vs → V.ref b ∈ temps os vs → ¬ Ft al s σ b ∧ ∃ u, H b = some u
  | [], _, h, z => by cases h; cases z
  | o :: os, _, ⟨v, vr, e, h1, h2⟩, z => by
    subst e
    rw [temps_cons] at z
    split at z
    · rename_i t
      rcases List.mem_cons.mp z with e | e
      · cases o with
        | val w =>
          cases w with
          | pv p => cases t
          | own ob =>
            obtain ⟨a, rfl, g1, g2, g3⟩ := h1
            cases e
            exact ⟨g3, g1.tracked g2⟩
        | slot i => cases t
        | tab ob => cases t
      · exact temps_ref Z h2 e
    · exact temps_ref Z h2 z
theorem not_temp_non {s : Kv.St} {σ : L2.St} {H : Hp} {al : List Addr} : ∀ {os : List Opd} {vs : List V}, Reps Z H al s σ os vs → V.non ∉ temps os vs
  | [], _, h, z => by cases h; cases z
  | o :: os, _, ⟨v, vr, e, h1, h2⟩, z => by
    subst e
    rw [temps_cons] at z
    split at z
    · rename_i t
      rcases List.mem_cons.mp z with e | e
      · cases o with
        | val w =>
          cases w with
          | pv p => cases t
          | own ob => obtain ⟨a, rfl, _⟩ := h1; cases e
        | slot i => cases t
        | tab ob => cases t
      · exact not_temp_non h2 e
    · exact not_temp_non h2 z
theorem ref_of_own {H : Hp} {al : List Addr} {o : Kv.Obj} {v : V} (h : RepS Z H al (.own o) v) : ∃ a, v = .ref a ∧ RepO Z H al o a := h

/-- the head of the arguments, ahead of the rest -/
theorem Passed.cons {H : Hp} {al al1 al2 : List Addr} {s s1 s2 : Kv.St} {σ : L2.St} {o : Opd} {os : List Opd} {args : List (SV × Option Nat)} {v : V} {vs : List V} {sv : SV} {oi : Option Nat}
    (p : Passed Z H al1 s1 σ al2 s2 os args vs) (rs : Reps Z H al1 s1 σ os vs) (pre : al <+: al1) (f : ∀ b, Ft al1 s1 σ b → Ft al s σ b) (sl : s1.sg.length = s.sg.length) (ot : ∀ (i : Nat) w, s1.sg[i]? = some (some w) → ∃ w', s.sg[i]? = some (some w'))
    (ow : ∀ (i : Nat) ob, s1.sg[i]? = some (some (.own ob)) → ∃ ob', s.sg[i]? = some (some (.own ob')))
    (rep : RepS Z H al1 sv v) (tr : ∀ ob, sv = .own ob → ob.tr = true)
    (hd : ∀ ob b, sv = .own ob → v = .ref b → (Ft al s σ b ∨ (IsTemp o = true)) ∧ ¬ Ft al1 s1 σ b ∧ V.ref b ∉ temps os vs)
    (tk : ∀ i, oi = some i → σ[i]? = some (some v) ∧ s1.get i = none ∧ ∃ ob, s.sg[i]? = some (some (.own ob))) : Passed Z H al s σ al2 s2 (o :: os) ((sv, oi) :: args) (v :: vs) := by
  have tm : ∀ {x : V}, x ∈ temps os vs → x ∈ temps (o :: os) (v :: vs) := fun {x} h => by
    rw [temps_cons]; split
    · exact List.mem_cons_of_mem _ h
    · exact h
  refine ⟨pre.trans p.pre, p.sr, by simp [p.len], fun j sv' oi' v' h1 h2 => ?_, fun j ob oi' h1 => ?_, fun b hb => f b (p.f1 b hb), fun j ob oi' b h1 h2 => ?_, fun j ob oi' b h1 h2 => ?_, fun j j' ob ob' oi1 oi2 b h1 h2 h3 h4 => ?_, fun j sv' i h1 => ?_, p.slen.trans sl, fun i w h => ?_⟩
  · cases j with
    | zero =>
      cases h1; cases h2
      have ex : Ext (fun _ => True) H H := .refl _ _
      cases sv with
      | pv q => exact RepV.ext ex p.pre rep
      | own ob => obtain ⟨a, e, g⟩ := rep; exact ⟨a, e, g.at ex p.pre rfl⟩
    | succ j => exact p.rep j sv' oi' v' h1 h2
  · cases j with
    | zero => cases h1; exact tr _ rfl
    | succ j => exact p.tr j ob oi' h1
  · cases j with
    | zero =>
      cases h1; cases h2
      rcases (hd _ _ rfl rfl).1 with z | z
      · exact .inl z
      · refine .inr ?_
        rw [temps_cons, if_pos z]
        exact List.mem_cons_self
    | succ j => exact (p.f2 j ob oi' b h1 h2).elim (fun z => .inl (f b z)) fun z => .inr (tm z)
  · cases j with
    | zero =>
      cases h1; cases h2
      exact fun z => (hd _ _ rfl rfl).2.1 (p.f1 b z)
    | succ j => exact p.dis j ob oi' b h1 h2
  · cases j with
    | zero =>
      cases h1; cases h2
      cases j' with
      | zero => rfl
      | succ j' =>
        have z := hd _ _ rfl rfl
        rcases p.f2 j' ob' oi2 b h3 h4 with y | y
        · exact absurd y z.2.1
        · exact absurd y z.2.2
    | succ j =>
      cases j' with
      | zero =>
        cases h3; cases h4
        have z := hd _ _ rfl rfl
        rcases p.f2 j ob oi1 b h1 h2 with y | y
        · exact absurd y z.2.1
        · exact absurd y z.2.2
      | succ j' => exact congrArg (· + 1) (p.inj j j' ob ob' oi1 oi2 b h1 h2 h3 h4)
  · cases j with
    | zero =>
      cases h1
      obtain ⟨g1, g2, g3⟩ := tk i rfl
      refine ⟨⟨v, rfl, g1⟩, ?_, g3⟩
      cases q : s2.get i with
      | none => rfl
      | some w =>
        obtain ⟨w', hw⟩ := p.oth i w (get_some q)
        rw [some_get hw] at g2; cases g2
    | succ j =>
      obtain ⟨g1, g2, ob, g3⟩ := p.tak j sv' i h1
      exact ⟨g1, g2, ow i ob g3⟩
  · obtain ⟨w', hw⟩ := p.oth i w h
    exact ot i w' hw

theorem pass_cons_val {v : SV} {os : List Opd} {ks : List Bool} {s s2 : Kv.St} {args : List (SV × Option Nat)} (e : pass (.val v :: os) ks s = .ok args s2) : ∃ r, pass os ks.tail s = .ok r s2 ∧ args = (v, none) :: r := by
  have e' : (pass os ks.tail >>= fun r => pure ((v, none) :: r)) s = .ok args s2 := e
  obtain ⟨r, s1, h1, h2⟩ := bind_inv e'
  have h3 : Out.ok ((v, (none : Option Nat)) :: r) s1 = .ok args s2 := h2
  injection h3 with h4 h5
  subst h5
  exact ⟨r, h1, h4.symm⟩
theorem pass_ok {s0 : Kv.St} {σ0 σ : L2.St} {H0 H : Hp} {al0 : List Addr} : ∀ {os : List Opd} {ks : List Bool} {vs : List V} {s s2 : Kv.St} {al : List Addr} {args : List (SV × Option Nat)}, Step Z s0 σ0 H0 al0 s σ H al → Reps Z H al s σ os vs → News al0 s0 σ0 H0 os vs → (temps os vs).Nodup →
    pass os ks s = .ok args s2 → ∃ al2, Step Z s0 σ0 H0 al0 s2 σ H al2 ∧ Passed Z H al s σ al2 s2 os args vs
  | [], ks, vs, s, s2, al, args, st, h, _, _, e => by
    cases h
    have e' : Out.ok ([] : List (SV × Option Nat)) s = .ok args s2 := e
    injection e' with e1 e2
    subst e1 e2
    exact ⟨al, st, List.prefix_refl _, st.sr, rfl, by simp, by simp, fun _ z => z, by simp, by simp, by simp, by simp, rfl, fun _ w z => ⟨w, z⟩⟩
  | o :: os, ks, _, s, s2, al, args, st, ⟨v, vr, ev, h1, h2⟩, nw, nd, e => by
    subst ev
    have nd2 : (temps os vr).Nodup := by
      rw [temps_cons] at nd
      split at nd
      · exact (List.nodup_cons.mp nd).2
      · exact nd
    -- the head is a shared value at the state s1
    have shared : ∀ {s1 : Kv.St} {al1 : List Addr} {p : PV} {r : List (SV × Option Nat)}, Step Z s0 σ0 H0 al0 s1 σ H al1 → Reps Z H al1 s1 σ os vr → al <+: al1 → (∀ b, Ft al1 s1 σ b → Ft al s σ b) → s1.sg.length = s.sg.length → (∀ (i : Nat) w, s1.sg[i]? = some (some w) → ∃ w', s.sg[i]? = some (some w')) →
        (∀ (i : Nat) ob, s1.sg[i]? = some (some (.own ob)) → ∃ ob', s.sg[i]? = some (some (.own ob'))) →
        RepV Z H al1 p v → pass os ks.tail s1 = .ok r s2 → args = (.pv p, none) :: r → ∃ al2, Step Z s0 σ0 H0 al0 s2 σ H al2 ∧ Passed Z H al s σ al2 s2 (o :: os) args (v :: vr) := by
      intro s1 al1 p r st1 rs pre f sl ot ow rp er ea
      obtain ⟨al2, st2, ps⟩ := pass_ok st1 rs nw.2 nd2 er
      subst ea
      exact ⟨al2, st2, ps.cons rs pre f sl ot ow rp (fun _ z => nomatch z) (fun _ _ z => nomatch z) (fun _ z => nomatch z)⟩
    cases o with
    | tab ob => cases e
    | val w =>
      obtain ⟨r, er, ea⟩ := pass_cons_val e
      cases w with
      | pv p => exact shared st h2 (List.prefix_refl _) (fun _ z => z) rfl (fun _ w z => ⟨w, z⟩) (fun _ w z => ⟨w, z⟩) h1 er ea
      | own ob =>
        obtain ⟨a, rfl, g1, g2, g3⟩ := h1
        obtain ⟨al2, st2, ps⟩ := pass_ok st h2 nw.2 nd2 er
        subst ea
        refine ⟨al2, st2, ps.cons h2 (List.prefix_refl _) (fun _ z => z) rfl (fun _ w z => ⟨w, z⟩) (fun _ w z => ⟨w, z⟩) ⟨a, rfl, g1⟩ (fun _ z => by cases z; exact g2) (fun _ b z z' => ?_) (fun _ z => nomatch z)⟩
        cases z'
        refine ⟨.inr rfl, g3, ?_⟩
        have nd' : (V.ref a :: temps os vr).Nodup := nd
        exact (List.nodup_cons.mp nd').1
    | slot i =>
      have hi : σ[i]? = some (some v) := h1
      have e' : (match s.get i with
        | some (.own o) => if ks.headD false then (do let r ← pass os ks.tail; pure ((SV.own o, some i) :: r) : M _) (s.put i none)
          else (do let p ← box (.slot i); let r ← pass os ks.tail; pure ((SV.pv p, none) :: r) : M _) s
        | some (.pv p) => (do let r ← pass os ks.tail; pure ((SV.pv p, none) :: r) : M _) s
        | none => .bad) = .ok args s2 := e
      cases g : s.get i with
      | none => rw [g] at e'; cases e'
      | some w =>
        rw [g] at e'
        obtain ⟨u, hu, ru⟩ := st.sr.sg i w (get_some g)
        rw [hi] at hu
        obtain rfl : v = u := Option.some.inj (Option.some.inj hu)
        cases w with
        | pv p =>
          obtain ⟨r, s1, er, e2⟩ := bind_inv (m := pass os ks.tail) e'
          have e3 : Out.ok ((SV.pv p, (none : Option Nat)) :: r) s1 = .ok args s2 := e2
          injection e3 with e4 e5
          subst e5
          exact shared st h2 (List.prefix_refl _) (fun _ z => z) rfl (fun _ w z => ⟨w, z⟩) (fun _ w z => ⟨w, z⟩) ru er e4.symm
        | own ob =>
          obtain ⟨a, rfl, g1⟩ := ru
          have own : OwnAt s σ i a := ⟨ob, get_some g, hi⟩
          have g2 := st.sr.tr i ob (get_some g)
          cases hk : ks.headD false with
          | true =>
            simp only [hk, if_true] at e'
            obtain ⟨r, s1, er, e2⟩ := bind_inv (m := pass os ks.tail) e'
            have e3 : Out.ok ((SV.own ob, some i) :: r) s1 = .ok args s2 := e2
            injection e3 with e4 e5
            subst e5 e4
            have r1 := st.sr.drop i
            have fd : ∀ b, Ft al (s.put i none) σ b → Ft al s σ b := fun b z => z.drop
            have st1 : Step Z s0 σ0 H0 al0 (s.put i none) σ H al := ⟨st.pre, r1, st.ext, fun b z => st.new b (fd b z)⟩
            have rs1 : Reps Z H al (s.put i none) σ os vr := Reps.relay (v0 := .non) (List.prefix_refl _) (fun b z => .inl (fd b z)) (not_temp_non h2) h2
            have fr : ¬ Ft al (s.put i none) σ a := by
              rintro (⟨n, z⟩ | ⟨j, z⟩)
              · exact st.sr.off i n a own z
              · have z' := z.drop
                exact z'.2 (st.sr.inj j i a z'.1 own)
            obtain ⟨al2, st2, ps⟩ := pass_ok st1 rs1 nw.2 nd2 er
            have back : ∀ (j : Nat) w, (s.put i none).sg[j]? = some (some w) → s.sg[j]? = some (some w) := fun j w z => by
              by_cases c : i = j
              · subst c
                have z' : (s.sg.set i none)[i]? = some (some w) := z
                rw [List.getElem?_set_self (lt_of_get (get_some g))] at z'
                cases z'
              · rw [put_get_ne c] at z; exact z
            refine ⟨al2, st2, ps.cons rs1 (List.prefix_refl _) fd (by simp [St.put]) (fun j w z => ⟨w, back j w z⟩) (fun j w z => ⟨w, back j _ z⟩) ⟨a, rfl, g1⟩ (fun _ z => by cases z; exact g2) (fun _ b z z' => ?_) (fun j z => ?_)⟩
            · cases z'
              refine ⟨.inl (.inr ⟨i, own⟩), fr, fun z => ?_⟩
              exact (temps_ref Z h2 z).1 (.inr ⟨i, own⟩)
            · cases z
              refine ⟨hi, ?_, ob, get_some g⟩
              unfold St.get St.put
              rw [List.getElem?_set_self (lt_of_get (get_some g))]
              rfl
          | false =>
            simp only [hk, Bool.false_eq_true, if_false] at e'
            obtain ⟨p, s1, eb, e2⟩ := bind_inv (m := box (.slot i)) e'
            obtain ⟨r, s3, er, e3⟩ := bind_inv (m := pass os ks.tail) e2
            have e4 : Out.ok ((SV.pv p, (none : Option Nat)) :: r) s3 = .ok args s2 := e3
            injection e4 with e5 e6
            subst e6
            obtain ⟨al1, st1, rp, pre, sl, f1⟩ := box_step (o := .slot i) (v := .ref a) st hi trivial eb
            have f1' : ∀ b, Ft al1 s1 σ b → Ft al s σ b := fun b z => (f1 b z).elim id fun y => nomatch y.1
            have rs1 : Reps Z H al1 s1 σ os vr := Reps.relay (v0 := .non) pre (fun b z => .inl (f1' b z)) (not_temp_non h2) h2
            have es1 : s1.sg = s.sg.set i (some (.pv (.loc s.mu.length))) := by
              simp only [box, g] at eb
              injection eb with _ eb
              rw [← eb]
            refine shared st1 rs1 pre f1' sl (fun j w z => ?_) (fun j w z => ?_) rp er e5.symm
            · rw [es1] at z
              rcases set_get z with ⟨c, _⟩ | ⟨_, z⟩
              · subst c; exact ⟨_, get_some g⟩
              · exact ⟨w, z⟩
            · rw [es1] at z
              rcases set_get z with ⟨c, y⟩ | ⟨_, z⟩
              · cases y
              · exact ⟨w, z⟩
end Kv

set_option Elab.async false
set_option linter.all false
set_option maxRecDepth 100000
/-! Calls of the program's defs. -/
namespace Kv
open PySem L2 PySem.Spec PyProof.Rows
variable {Z : Kx} {W : WX}

theorem giveBack_len : ∀ {args : List (SV × Option Nat)} {ps sg sg' : List (Option SV)}, giveBack args ps sg = some sg' → sg'.length = sg.length
  | [], _, _, _, e => by cases e; rfl
  | (_, none) :: r, ps, sg, sg', e => giveBack_len (args := r) (ps := ps.tail) e
  | (_, some i) :: r, ps, sg, sg', e => by
    have e' : (match ps.headD none with | some v => giveBack r ps.tail (sg.set i (some v)) | none => none) = some sg' := e
    split at e'
    · rw [giveBack_len e']; simp
    · cases e'
theorem giveBack_get : ∀ {args : List (SV × Option Nat)} {ps sg sg' : List (Option SV)}, giveBack args ps sg = some sg' → ∀ {i : Nat} {v : SV}, sg'[i]? = some (some v) →
    (sg[i]? = some (some v) ∧ ∀ (j : Nat) (sv : SV), args[j]? ≠ some (sv, some i)) ∨ ∃ (j : Nat) (sv : SV), args[j]? = some (sv, some i) ∧ ps[j]? = some (some v)
  | [], _, _, _, e, i, v, h => by cases e; exact .inl ⟨h, fun j sv z => by cases z⟩
  | (_, none) :: r, ps, sg, sg', e, i, v, h => by
    rcases giveBack_get (args := r) (ps := ps.tail) e h with ⟨h1, h2⟩ | ⟨j, sv, h1, h2⟩
    · refine .inl ⟨h1, fun j sv z => ?_⟩
      cases j with
      | zero => cases z
      | succ j => exact h2 j sv z
    · refine .inr ⟨j + 1, sv, h1, ?_⟩
      cases ps with
      | nil => cases h2
      | cons p ps => exact h2
  | (sv0, some i0) :: r, ps, sg, sg', e, i, v, h => by
    have e' : (match ps.headD none with | some v => giveBack r ps.tail (sg.set i0 (some v)) | none => none) = some sg' := e
    split at e'
    · rename_i v0 hp
      have hp0 : ps[0]? = some (some v0) := by
        cases ps with
        | nil => cases hp
        | cons p ps => exact congrArg some hp
      rcases giveBack_get e' h with ⟨h1, h2⟩ | ⟨j, sv, h1, h2⟩
      · rcases set_get h1 with ⟨c, y⟩ | ⟨c, h3⟩
        · subst c
          cases y
          exact .inr ⟨0, sv0, rfl, hp0⟩
        · refine .inl ⟨h3, fun j sv z => ?_⟩
          cases j with
          | zero => cases z; exact c rfl
          | succ j => exact h2 j sv z
      · refine .inr ⟨j + 1, sv, h1, ?_⟩
        cases ps with
        | nil => cases h2
        | cons p ps => exact h2
    · cases e'

/-- the promise of a def -/
def kF (Z : Kx) (args : List SV) (mu : List Kv.Obj) (vs : List V) (H : Hp) (al : List Addr) (Q : VK) : SV → Kv.St → Hp → List Addr → Prop :=
  fun v s' H' al' => ∀ u, RepP Z H' al' s' (vs.map some) (.val v) u → New al ⟨args.map some, mu⟩ (vs.map some) H (.val v) u → Q u H'
def spF (Z : Kx) (cl : Cl) (np : Nat) (f : Nat) : Sp := fun vs H Q E => ∃ args mu al, SR Z H al ⟨args.map some, mu⟩ (vs.map some) ∧ vs.length = np ∧ args.length = np ∧
  oG Z (fun c d _ H' => E c d H') ⟨args.map some, mu⟩ (vs.map some) H al (kF Z args mu vs H al Q) (cl f args mu)

section
variable {s s2 : Kv.St} {σ : L2.St} {H : Hp} {al al2 : List Addr} {os : List Opd} {args : List (SV × Option Nat)} {vs : List V}
theorem args_get {j : Nat} {v : SV} (h : ((args.map (·.1)).map some)[j]? = some (some v)) : ∃ oi, args[j]? = some (v, oi) := by
  rw [List.map_map, List.getElem?_map] at h
  cases q : args[j]? with
  | none => rw [q] at h; cases h
  | some p =>
    rw [q] at h
    obtain ⟨a, b⟩ := p
    have h' : some (some a) = some (some v) := h
    injection h' with h'
    injection h' with h'
    subst h'
    exact ⟨b, rfl⟩
theorem vs_get {j : Nat} {v : V} (h : (vs.map some)[j]? = some (some v)) : vs[j]? = some v := by
  rw [List.getElem?_map] at h
  cases q : vs[j]? with
  | none => rw [q] at h; cases h
  | some p => rw [q] at h; injection h with h
theorem get_vs {j : Nat} {v : V} (h : vs[j]? = some v) : (vs.map some)[j]? = some (some v) := by
  rw [List.getElem?_map, h]; rfl
/-- the callee's first state -/
theorem Passed.callee (p : Passed Z H al s σ al2 s2 os args vs) : SR Z H al2 ⟨(args.map (·.1)).map some, s2.mu⟩ (vs.map some) := by
  refine ⟨by simp [p.len], p.sr.aln, p.sr.mu, fun j v h => ?_, fun j o h => ?_, p.sr.nd, fun j n b h1 h2 => ?_, fun j j' b h1 h2 => ?_⟩
  · obtain ⟨oi, e⟩ := args_get h
    have lj : j < vs.length := by rw [← p.len]; exact lt_of_get e
    exact ⟨vs[j], get_vs (List.getElem?_eq_getElem lj), p.rep j v oi _ e (List.getElem?_eq_getElem lj)⟩
  · obtain ⟨oi, e⟩ := args_get h
    exact p.tr j o oi e
  · obtain ⟨o, g1, g2⟩ := h1
    obtain ⟨oi, e⟩ := args_get g1
    exact p.dis j o oi b e (vs_get g2) (.inl ⟨n, h2⟩)
  · obtain ⟨o, g1, g2⟩ := h1
    obtain ⟨o', g3, g4⟩ := h2
    obtain ⟨oi, e⟩ := args_get g1
    obtain ⟨oi', e'⟩ := args_get g3
    exact p.inj j j' o o' oi oi' b e (vs_get g2) e' (vs_get g4)
theorem Passed.ft (p : Passed Z H al s σ al2 s2 os args vs) {b : Addr} (h : Ft al2 ⟨(args.map (·.1)).map some, s2.mu⟩ (vs.map some) b) : Ft al s σ b ∨ V.ref b ∈ temps os vs := by
  rcases h with h | ⟨j, o, h1, h2⟩
  · exact .inl (p.f1 b (.inl h))
  · obtain ⟨oi, e⟩ := args_get h1
    exact p.f2 j o oi b e (vs_get h2)
theorem Passed.apart (p : Passed Z H al s σ al2 s2 os args vs) {i : Nat} {b : Addr} (h : OwnAt s2 σ i b) : ¬ Ft al2 ⟨(args.map (·.1)).map some, s2.mu⟩ (vs.map some) b := by
  rintro (⟨n, z⟩ | ⟨j, o, h1, h2⟩)
  · exact p.sr.off i n b h z
  · obtain ⟨oi, e⟩ := args_get h1
    exact p.dis j o oi b e (vs_get h2) (.inr ⟨i, h⟩)
theorem news_temp {s0 : Kv.St} {H0 : Hp} {al0 : List Addr} {b : Addr} : ∀ {os : List Opd} {vs : List V}, News al0 s0 σ H0 os vs → V.ref b ∈ temps os vs → Ft al0 s0 σ b ∨ H0 b = none
  | [], vs, _, z => by cases vs <;> cases z
  | o :: os, [], _, z => by cases z
  | o :: os, v :: vs, ⟨h1, h2⟩, z => by
    rw [temps_cons] at z
    split at z
    · rename_i t
      rcases List.mem_cons.mp z with e | e
      · cases o with
        | val w =>
          cases w with
          | pv p => cases t
          | own ob => subst e; exact h1
        | slot i => cases t
        | tab ob => cases t
      · exact news_temp h2 e
    · exact news_temp h2 z

/-- behind the call -/
theorem Passed.back {s0 s3 : Kv.St} {H0 H3 : Hp} {al0 al3 : List Addr} {sg : List (Option SV)} (st : Step Z s0 σ H0 al0 s σ H al) (st2 : Step Z s0 σ H0 al0 s2 σ H al2) (p : Passed Z H al s σ al2 s2 os args vs) (nw : News al0 s0 σ H0 os vs)
    (c : Step Z ⟨(args.map (·.1)).map some, s2.mu⟩ (vs.map some) H al2 s3 (vs.map some) H3 al3) (g : giveBack args s3.sg s2.sg = some sg) :
    Step Z s0 σ H0 al0 ⟨sg, s3.mu⟩ σ H3 al3 ∧ (∀ b, Ft al3 ⟨sg, s3.mu⟩ σ b → Ft al3 s3 (vs.map some) b ∨ ∃ i, OwnAt s2 σ i b) := by
  have calFt : ∀ b, Ft al2 ⟨(args.map (·.1)).map some, s2.mu⟩ (vs.map some) b → Ft al0 s0 σ b ∨ H0 b = none := fun b h => by
    rcases p.ft h with z | z
    · exact st.new b z
    · exact news_temp nw z
  -- the owner of an address behind the call
  have own : ∀ {i : Nat} {b : Addr}, OwnAt ⟨sg, s3.mu⟩ σ i b → (OwnAt s2 σ i b ∧ ∀ (j : Nat) (sv : SV), args[j]? ≠ some (sv, some i)) ∨ ∃ (j : Nat) (sv : SV), args[j]? = some (sv, some i) ∧ OwnAt s3 (vs.map some) j b := by
    rintro i b ⟨o, h1, h2⟩
    rcases giveBack_get g h1 with ⟨h3, h4⟩ | ⟨j, sv, h3, h4⟩
    · exact .inl ⟨⟨o, h3, h2⟩, h4⟩
    · obtain ⟨⟨v, e1, e2⟩, _⟩ := p.tak j sv i h3
      rw [h2] at e2
      obtain rfl : V.ref b = v := Option.some.inj (Option.some.inj e2)
      exact .inr ⟨j, sv, h3, o, h4, get_vs e1⟩
  have ftx : ∀ b, Ft al3 ⟨sg, s3.mu⟩ σ b → Ft al3 s3 (vs.map some) b ∨ ∃ i, OwnAt s2 σ i b := fun b h => by
    rcases h with h | ⟨i, h⟩
    · exact .inl (.inl h)
    · rcases own h with ⟨z, _⟩ | ⟨j, _, _, z⟩
      · exact .inr ⟨i, z⟩
      · exact .inl (.inr ⟨j, z⟩)
  -- what a slot of the caller's owns stands
  have keep : ∀ {i : Nat} {b : Addr}, OwnAt s2 σ i b → H3 b = H b ∧ ¬ Ft al3 s3 (vs.map some) b := fun {i b} h => by
    obtain ⟨u, e⟩ := Ft.tracked p.sr (.inr ⟨i, h⟩)
    refine ⟨by rw [e]; exact c.ext b u e (.inl (p.apart h)), fun z => ?_⟩
    rcases c.new b z with y | y
    · exact p.apart h y
    · rw [e] at y; cases y
  have sl : sg.length = s2.sg.length := giveBack_len g
  refine ⟨⟨st2.pre.trans c.pre, ⟨?_, c.sr.aln, c.sr.mu, fun i v h => ?_, fun i o h => ?_, c.sr.nd, fun i n b h1 h2 => ?_, fun i i' b h1 h2 => ?_⟩, fun b o h q => ?_, fun b h => ?_⟩, ftx⟩
  · rw [sl]; exact p.sr.len
  · rcases giveBack_get g h with ⟨h3, _⟩ | ⟨j, sv, h3, h4⟩
    · obtain ⟨u, e1, e2⟩ := p.sr.sg i v h3
      refine ⟨u, e1, ?_⟩
      cases v with
      | pv q => exact RepV.ext c.ext c.pre e2
      | own o =>
        obtain ⟨b, e3, e4⟩ := e2
        subst e3
        exact ⟨b, rfl, e4.at' c.ext c.pre fun _ => (keep ⟨o, h3, e1⟩).1⟩
    · obtain ⟨⟨u, e1, e2⟩, _⟩ := p.tak j sv i h3
      obtain ⟨u', e3, e4⟩ := c.sr.sg j v h4
      rw [get_vs e1] at e3
      obtain rfl : u = u' := Option.some.inj (Option.some.inj e3)
      exact ⟨u, e2, e4⟩
  · rcases giveBack_get g h with ⟨h3, _⟩ | ⟨j, sv, h3, h4⟩
    · exact p.sr.tr i o h3
    · exact c.sr.tr j o h4
  · rcases own h1 with ⟨z, _⟩ | ⟨j, _, _, z⟩
    · exact (keep z).2 (.inl ⟨n, h2⟩)
    · exact c.sr.off j n b z h2
  · rcases own h1 with ⟨z, y⟩ | ⟨j, sv, y, z⟩
    · rcases own h2 with ⟨z', y'⟩ | ⟨j', sv', y', z'⟩
      · exact p.sr.inj i i' b z z'
      · exact absurd (.inr ⟨j', z'⟩) (keep z).2
    · rcases own h2 with ⟨z', y'⟩ | ⟨j', sv', y', z'⟩
      · exact absurd (.inr ⟨j, z⟩) (keep z').2
      · obtain rfl := c.sr.inj j j' b z z'
        rw [y] at y'
        cases y'
        rfl
  · have h1 := st.ext b o h q
    refine c.ext b o h1 ?_
    rcases q with q | q
    · refine .inl fun z => ?_
      rcases calFt b z with y | y
      · exact q y
      · rw [h] at y; cases y
    · exact .inr q
  · rcases ftx b h with z | ⟨i, z⟩
    · rcases c.new b z with y | y
      · exact calFt b y
      · exact (st.ext.none y).elim .inr .inl
    · exact st2.new b (.inr ⟨i, z⟩)
end

section
variable {X : Cx} {N : Kv.Env}
theorem pass_no : ∀ {os : List Opd} {ks : List Bool} {s : Kv.St}, ∀ x s2, pass os ks s ≠ .exc x s2
  | [], ks, s, x, s2, e => by cases e
  | .tab _ :: os, ks, s, x, s2, e => by cases e
  | .val v :: os, ks, s, x, s2, e => by
    have e' : (pass os ks.tail >>= fun r => pure ((v, none) :: r)) s = .exc x s2 := e
    cases q : pass os ks.tail s with
    | ok r s1 => rw [bind_ok q] at e'; cases e'
    | exc y s1 => exact pass_no y s1 q
    | bad => rw [bind_bad q] at e'; cases e'
  | .slot i :: os, ks, s, x, s2, e => by
    have e' : (match s.get i with
      | some (.own o) => if ks.headD false then (do let r ← pass os ks.tail; pure ((SV.own o, some i) :: r) : M _) (s.put i none)
        else (do let p ← box (.slot i); let r ← pass os ks.tail; pure ((SV.pv p, none) :: r) : M _) s
      | some (.pv p) => (do let r ← pass os ks.tail; pure ((SV.pv p, none) :: r) : M _) s
      | none => .bad) = .exc x s2 := e
    split at e'
    · split at e'
      · cases q : pass os ks.tail (s.put i none) with
        | ok r s1 => rw [bind_ok q] at e'; cases e'
        | exc y s1 => exact pass_no y s1 q
        | bad => rw [bind_bad q] at e'; cases e'
      · cases qb : box (.slot i) s with
        | ok p s0 =>
          rw [bind_ok qb] at e'
          cases q : pass os ks.tail s0 with
          | ok r s1 => rw [bind_ok q] at e'; cases e'
          | exc y s1 => exact pass_no y s1 q
          | bad => rw [bind_bad q] at e'; cases e'
        | exc y s0 => exact box_no y s0 qb
        | bad => rw [bind_bad qb] at e'; cases e'
    · cases q : pass os ks.tail s with
      | ok r s1 => rw [bind_ok q] at e'; cases e'
      | exc y s1 => exact pass_no y s1 q
      | bad => rw [bind_bad q] at e'; cases e'
    · cases e'
/-- what a call asks, by the run -/
theorem call_reads {fns : List Fn} {cl : Cl} {f : Nat} {fn : Fn} (hf : fns[f]? = some fn) {os : List Opd} {s s1 : Kv.St} {σ : L2.St} {H H1 : Hp} {al al1 : List Addr} {vs : List V} {Q : VK}
    (st : Step Z s σ H al s1 σ H1 al1) (r : Reps Z H1 al1 s1 σ os vs) (nw : News al s σ H os vs) (nd : (temps os vs).Nodup) (q : oG Z W s σ H al (kE Z s σ H al Q) (callF fns cl f os s1)) :
    spF Z cl fn.np f vs H1 Q (fun c d H' => W c d σ H') := by
  unfold callF at q
  rw [hf] at q
  simp only at q
  split at q
  · rename_i hl
    obtain ⟨args, s2, ep, q1⟩ := oG.prim q pass_no
    obtain ⟨al2, st2, p⟩ := pass_ok st r nw nd ep
    have lv : vs.length = fn.np := by
      rw [← hl]
      clear q q1 p nd nw ep
      induction os generalizing vs with
      | nil => cases r; rfl
      | cons o os ih =>
        obtain ⟨v, vr, e, _, h⟩ := r
        subst e
        rw [List.length_cons, List.length_cons]
        exact congrArg (· + 1) (by
          have : ∀ {os : List Opd} {vs : List V}, Reps Z H1 al1 s1 σ os vs → vs.length = os.length := by
            intro os
            induction os with
            | nil => intro vs h; cases h; rfl
            | cons o os ih => rintro vs ⟨v, vr, e, _, h⟩; subst e; rw [List.length_cons, List.length_cons, ih h]
          exact this h)
    refine ⟨args.map (·.1), s2.mu, al2, p.callee, lv, by rw [List.length_map, p.len]; exact lv, ?_⟩
    have q2 : oG Z W s σ H al (kE Z s σ H al Q) (callEnd args s2 (cl f (args.map (·.1)) s2.mu)) := q1
    cases hc : cl f (args.map (·.1)) s2.mu with
    | ok v s3 =>
      rw [hc] at q2
      unfold callEnd at q2
      simp only at q2
      split at q2
      · rename_i sg hg
        intro H3 al3 c u ru nu
        obtain ⟨st4, f4⟩ := p.back st st2 nw c hg
        refine q2 H3 al3 st4 u ?_ ?_
        · cases v with
          | pv pp => exact ru
          | own o =>
            obtain ⟨a, e, g1, g2, g3⟩ := ru
            subst e
            refine ⟨a, rfl, g1, g2, fun z => ?_⟩
            rcases f4 a z with y | ⟨i, y⟩
            · exact g3 y
            · have nu' : Ft al2 ⟨(args.map (·.1)).map some, s2.mu⟩ (vs.map some) a ∨ H1 a = none := nu
              rcases nu' with w | w
              · exact p.apart y w
              · obtain ⟨u, e⟩ := Ft.tracked p.sr (.inr ⟨i, y⟩)
                rw [w] at e; cases e
        · cases v with
          | pv pp => trivial
          | own o =>
            obtain ⟨a, e, g1, g2, g3⟩ := ru
            subst e
            have nu' : Ft al2 ⟨(args.map (·.1)).map some, s2.mu⟩ (vs.map some) a ∨ H1 a = none := nu
            show Ft al s σ a ∨ H a = none
            rcases nu' with w | w
            · rcases p.ft w with y | y
              · exact st.new a y
              · exact news_temp nw y
            · exact (st.ext.none w).elim .inr .inl
      · exact q2.elim
    | exc x s3 =>
      rw [hc] at q2
      unfold callEnd at q2
      simp only at q2
      split at q2
      · rename_i sg hg
        intro cls d H3 al3 c rx
        exact q2 cls d H3 al3 (p.back st st2 nw c hg).1 rx
      · exact q2.elim
    | bad => rw [hc] at q2; exact q2.elim
  · exact q.elim
theorem n_call (ok : XOk Z W X) {f k : Nat} {fn : Fn} {fd : FuncData} {ps : List Str} (hf : N.fns[f]? = some fn) (F : FnOk X.prog X.w X.K X.mg X.base (L2.CX X.prog X.w) k (Z.fa f) fd ps (spF Z N.cl fn.np f)) (hr : Room k X.A) {x : Str} (hg : Gl X x) (hm : X.mg x = some (.ref (Z.fa f)))
    (hk : PySem.W.keepIn X.K (.ref (Z.fa f)) = true) (hb : Binds X.K fd ps []) {e : Expr} {es : List Expr} {as : List E} {p pos : Pos} (ha : PA X (e :: es) (tL Z W (evs N as))) (hdb : (x == ("__debug__" : Str)) = false)
    (he : starEach (e :: es) X.env = (false, eval e X.env) :: starEach es X.env) (hpl : (backTo pos (starEach es X.env)).any (·.1) = false) : PE X (.Call (.Name x p) (e :: es) [] pos) (tE Z W (ev N (.call f as))) := by
  refine PE.imp (pe_callS F hr hg hm hk hb (fun σ => passAt ok.tk σ) ha hdb he hpl) fun σ H Q ⟨s, al, sr, q⟩ => ⟨s, al, sr, ?_⟩
  have q' : oG Z W s σ H al (kE Z s σ H al Q) ((evs N as >>= fun os => callF N.fns N.cl f os) s) := q
  exact oG.bind (.refl sr) q' fun os s1 e1 q1 H1 al1 st1 vs r1 n1 nd => call_reads hf st1 r1 n1 nd q1

/-- a call without arguments -/
theorem n_call0 (ok : XOk Z W X) {f k : Nat} {fn : Fn} {fd : FuncData} {ps : List Str} (hf : N.fns[f]? = some fn) (F : FnOk X.prog X.w X.K X.mg X.base (L2.CX X.prog X.w) k (Z.fa f) fd ps (spF Z N.cl fn.np f)) (hr : Room k X.A) {x : Str} (hg : Gl X x) (hm : X.mg x = some (.ref (Z.fa f)))
    (hk : PySem.W.keepIn X.K (.ref (Z.fa f)) = true) (hb : Binds X.K fd ps []) {p pos : Pos} (hdb : (x == ("__debug__" : Str)) = false) : PE X (.Call (.Name x p) [] [] pos) (tE Z W (ev N (.call f []))) := by
  have base : PE X (.Call (.Name x p) [] [] pos) (tCallS (spF Z N.cl fn.np f) (WE W) tNil) := by
    refine ⟨fun pins s σ H Q I h => ?_⟩
    refine wpAny_Call_Name_kw (ld_glob I hg hm ?_ hdb)
    exact PySem.W.callWith_K0 I.kIn hk (run_fnS (us := []) F hr hb (passAt ok.tk σ) I .nil h)
  refine PE.imp base fun σ H Q ⟨s, al, sr, q⟩ => ?_
  have q' : oG Z W s σ H al (kE Z s σ H al Q) ((evs N [] >>= fun os => callF N.fns N.cl f os) s) := q
  have st : Step Z s σ H al s σ H al := .refl sr
  exact call_reads (os := []) hf st (vs := []) rfl trivial (by exact List.nodup_nil) q'

/-! ### built-in functions -/
theorem n_bi (ok : XOk Z W X) {b : Bi} {f : Str × Value} (hf : b.val = some f) {x : Str} (hx : x = f.1) (hg : Gl X x) (hm : X.mg x = none) {e : Expr} {es : List Expr} {as : List E} {p pos : Pos} (ha : PA X (e :: es) (tL Z W (evs N as)))
    (he : starEach (e :: es) X.env = (false, eval e X.env) :: starEach es X.env) (hpl : (backTo pos (starEach es X.env)).any (·.1) = false) : PE X (.Call (.Name x p) (e :: es) [] pos) (tE Z W (ev N (.bi b as))) := by
  have red : ∀ σ H Q, tE Z W (ev N (.bi b as)) σ H Q → tCB (callAny X f.2) (tL Z W (evs N as)) σ H Q := fun σ H Q ⟨s, al, sr, q⟩ => ⟨s, al, sr, by
    have q' : oG Z W s σ H al (kE Z s σ H al Q) ((evs N as >>= fun os => conts os >>= fun cs => M.ofo ((biFn b cs).map .val)) s) := q
    refine oG.bind (.refl sr) q' fun os s1 e1 q1 H1 al1 st1 vs r1 n1 nd => ?_
    obtain ⟨cs, ecs, q2⟩ := oG.conts q1
    obtain ⟨o, e2, q3⟩ := oG.ofo q2
    obtain ⟨res, e3, rfl⟩ := Option.map_eq_some_iff.mp e2
    exact bi_ok ok.hK ok.calm ok.hu hf e3 (conts_rep st1.sr r1 ecs) (gives_of st1 q3)⟩
  subst hx
  cases b <;> cases hf
  · exact PE.imp (pe_callB call_any hg hm PySem.boot_len ha (by decide) (by decide) he hpl) red
  · exact PE.imp (pe_callTy call_any hg hm (by decide +kernel) ha (by decide) (by decide) he hpl) red
  · exact PE.imp (pe_callTy call_any hg hm (by decide +kernel) ha (by decide) (by decide) he hpl) red
  · exact PE.imp (pe_callTy call_any hg hm (by decide +kernel) ha (by decide) (by decide) he hpl) red
  · exact PE.imp (pe_callTy call_any hg hm (by decide +kernel) ha (by decide) (by decide) he hpl) red
  all_goals first
    | exact PE.imp (pe_callB call_any hg hm (by decide +kernel) ha (by decide) (by decide) he hpl) red
    | exact PE.imp (pe_callTy call_any hg hm (by decide +kernel) ha (by decide) (by decide) he hpl) red
end
end Kv

set_option Elab.async false
set_option linter.all false
set_option maxRecDepth 100000
/-! Instances: fields, methods, making. -/
namespace Kv
open PySem L2 PySem.Spec PyProof.Rows
variable {Z : Kx} {W : WX}

theorem insOf_inv {c : Nat} {k : SV} {fs : List (Tx × PV)} (h : insOf c k = some fs) : k = .own (.ins c fs) := by
  unfold insOf at h
  split at h
  · split at h
    · rename_i e
      cases h
      rw [e]
    · cases h
  · cases h
section
variable {H : Hp} {al : List Addr}
theorem look_fld {f : Tx} : ∀ {fs : List (Tx × PV)} {hf : List (Str × V)}, RepF Z H al fs hf → (∀ p, flook fs f = some p → ∃ v, hf.lookup (toStr f) = some v ∧ RepV Z H al p v) ∧ (flook fs f = none → hf.lookup (toStr f) = none)
  | [], _, h => by
    cases h
    exact ⟨fun p e => (by cases e), fun _ => rfl⟩
  | q :: r, _, ⟨v, vr, e, h1, h2⟩ => by
    subst e
    by_cases c : q.1 = f
    · have e1 : flook (q :: r) f = some q.2 := by
        unfold flook
        rw [List.find?_cons_of_pos (by simpa using c)]; rfl
      have e2 : List.lookup (toStr f) ((toStr q.1, v) :: vr) = some v := by
        rw [List.lookup_cons, c, beq_self_eq_true]
      refine ⟨fun p e => ?_, fun e => ?_⟩
      · rw [e1] at e
        cases e
        exact ⟨v, e2, h1⟩
      · rw [e1] at e; cases e
    · have e1 : flook (q :: r) f = flook r f := by
        unfold flook
        rw [List.find?_cons_of_neg (by simpa using c)]
      have e2 : List.lookup (toStr f) ((toStr q.1, v) :: vr) = List.lookup (toStr f) vr := by
        rw [List.lookup_cons, beq_eq_false_iff_ne.mpr fun z => c (toStr_inj.mp z).symm]
      rw [e1, e2]
      exact look_fld h2
theorem put_fld {f : Tx} {p : PV} {v : V} (hp : RepV Z H al p v) : ∀ {fs : List (Tx × PV)} {hf : List (Str × V)}, RepF Z H al fs hf → RepF Z H al (fput fs f p) (putF (toStr f) v hf)
  | [], _, h => by
    cases h
    exact ⟨v, [], rfl, hp, rfl⟩
  | q :: r, _, ⟨w, wr, e, h1, h2⟩ => by
    subst e
    unfold fput putF
    by_cases c : q.1 = f
    · rw [if_pos c, if_pos (by rw [c])]
      exact ⟨v, wr, rfl, hp, h2⟩
    · rw [if_neg c, if_neg fun z => c (toStr_inj.mp z)]
      exact ⟨w, _, rfl, h1, put_fld hp h2⟩
theorem fld_len : ∀ {fs : List (Tx × PV)} {hf : List (Str × V)}, RepF Z H al fs hf → hf.length = fs.length
  | [], _, h => by cases h; rfl
  | q :: r, _, ⟨w, wr, e, h1, h2⟩ => by
    subst e
    rw [List.length_cons, List.length_cons, fld_len h2]
end

/-! ### the hand layer's rules, for any way out -/
section
variable {prog : Program} {w : World} {A : Around} {env : PySem.Env} {E : Value → Shared → Prop} {s : Shared}
theorem meth_late {o : Expr} {name : Str} {apos pos : Pos} {args : List Expr} {Q : Value → Shared → Prop}
    (hbase : attributeBase o name env (eval o env) = eval o env)
    (hform : methodCallForm (args.length + ([] : List Keyword).length) (backTo pos (starEach args env)) (backToKw pos (keywordEach [] env)) = true)
    (hline : (apos.endLine == pos.line) = true)
    (h : wpAny (model prog w) A (eval o env) (fun ov s₁ => wpAny (model prog w) A (getMethod ov name (do return (← importBound o env).getD true)) (fun fx s₂ => wpAny (model prog w) A (callWith pos fx.1 fx.2 (backTo pos (starEach args env)) []) Q E s₂) E s₁) E s) :
    wpAny (model prog w) A (eval (.Call (.Attribute o name apos) args [] pos) env) Q E s := by
  rw [arm_eval_Call, hbase]
  refine wpAny_bind (wpAny_mono h (fun ov s₁ h₁ => wpAny_bind (wpAny_standAt ?_)) fun _ _ e => e)
  have hpos : methodCallPos true o env apos pos = pure pos := by unfold methodCallPos; simp [hline]
  unfold methodCall
  rw [hform]
  refine wpAny_bind (wpAny_holding (wpAny_mono h₁ (fun fx s₂ h₂ => ?_) fun _ _ x => x))
  exact wpAny_bind (wpAny_of_eq hpos h₂)
end
section
variable {X : Cx} {k : Nat} {f C : Addr} {fd : FuncData} {ps : List Str} {sp : Sp} {E : L2.St → XK} {x m : Str} {p pos apos : Pos} {e o : Expr} {es : List Expr} {ta : TE} {t : TA}
theorem pe_mthS (he : PE X o ta) (c : Cls X.K C) (hm : Meth X.K C m f) (F : FnOk X.prog X.w X.K X.mg X.base (L2.CX X.prog X.w) k f fd ps sp) (hr : Room k X.A) (hb : Binds X.K fd ps []) (hx : ∀ σ, PassesAt (L2.CX X.prog X.w) X σ (E σ)) (ha : PA X (e :: es) t)
    (hbase : attributeBase o m X.env (eval o X.env) = eval o X.env)
    (hform : methodCallForm ((e :: es).length + ([] : List Keyword).length) (backTo pos (starEach (e :: es) X.env)) (backToKw pos (keywordEach [] X.env)) = true)
    (hline : (apos.endLine == pos.line) = true)
    (hst : starEach (e :: es) X.env = (false, eval e X.env) :: starEach es X.env) (hpl : (backTo pos (starEach es X.env)).any (·.1) = false) :
    PE X (.Call (.Attribute o m apos) (e :: es) [] pos) (fun σ H Q => ta σ H fun x H1 => ∃ a dx fs, x = .ref a ∧ H1 a = some (.ins C dx fs) ∧ fs.lookup m = none ∧ t σ H1 fun vs H2 => sp (x :: vs) H2 Q (E σ)) := by
  refine ⟨fun pins s σ H Q I h => ?_⟩
  refine meth_late hbase hform hline (thn (he.run pins s σ H _ I h) fun u s1 ⟨x, H1, I1, rx, a, dx, fs, ex, ea, l, q⟩ => ?_)
  subst ex
  obtain rfl : u = Value.ref a := rx
  refine getmeth_ok I1 ea c hm l ?_
  refine PySem.W.callWith_K (first := [.ref a]) (h₀ := X.base) I.ok.mod.kin hm.kp (thn (ha.run pos pins s1 σ H1 _ I1 q) fun us s2 ⟨vs, H2, I2, r, q2⟩ => ⟨I2.kIn, ?_⟩) hst hpl
  exact run_fnS (us := .ref a :: us) (vs := .ref a :: vs) F hr hb (hx σ) I2 (.cons rfl r) q2
theorem pe_mthS0 (he : PE X o ta) (c : Cls X.K C) (hm : Meth X.K C m f) (F : FnOk X.prog X.w X.K X.mg X.base (L2.CX X.prog X.w) k f fd ps sp) (hr : Room k X.A) (hb : Binds X.K fd ps []) (hx : ∀ σ, PassesAt (L2.CX X.prog X.w) X σ (E σ))
    (hbase : attributeBase o m X.env (eval o X.env) = eval o X.env) (hline : (apos.endLine == pos.line) = true) :
    PE X (.Call (.Attribute o m apos) [] [] pos) (fun σ H Q => ta σ H fun x H1 => ∃ a dx fs, x = .ref a ∧ H1 a = some (.ins C dx fs) ∧ fs.lookup m = none ∧ sp [x] H1 Q (E σ)) := by
  refine ⟨fun pins s σ H Q I h => ?_⟩
  refine meth_late hbase rfl hline (thn (he.run pins s σ H _ I h) fun u s1 ⟨x, H1, I1, rx, a, dx, fs, ex, ea, l, q⟩ => ?_)
  subst ex
  obtain rfl : u = Value.ref a := rx
  refine getmeth_ok I1 ea c hm l ?_
  exact PySem.W.callWith_K0 (first := [.ref a]) I1.kIn hm.kp (run_fnS (us := [.ref a]) (vs := [.ref a]) F hr hb (hx σ) I1 (.cons rfl .nil) q)
theorem run_mkS {pins : List (Addr × PySem.Obj)} {σ : L2.St} {H : Hp} {s : Shared} {Q : VK} {us : List Value} {vs : List V} (M : Mk X.K C f) (F : FnOk X.prog X.w X.K X.mg X.base (L2.CX X.prog X.w) k f fd ps sp) (hr : Room (k + 1) X.A) (hb : Binds X.K fd ps [])
    (hx : PassesAt (L2.CX X.prog X.w) X σ (E σ)) (I : Inv X pins σ H s) (r : Vals vs us)
    (h : ∀ x dx, H x = none → H dx = none → dx ≠ x → sp (.ref x :: vs) (upd (upd H dx (.own x)) x (.ins C dx [])) (fun v H2 => v = .non ∧ Q (.ref x) H2) (E σ)) :
    wpAny (model X.prog X.w) X.A (call (.ref C) us) (EP X pins σ Q) X.xe s := by
  have hq := h (s.heap.objs.size + 1) s.heap.objs.size (I.hok.fresh (Nat.le_succ _)) (I.hok.fresh (Nat.le_refl _)) (Nat.ne_of_lt (Nat.lt_succ_self _))
  have I2 := Inv.made (C := C) I
  have r2 : Vals (V.ref (s.heap.objs.size + 1) :: vs) (Value.ref (s.heap.objs.size + 1) :: us) := .cons rfl r
  have hl : (Value.ref (s.heap.objs.size + 1) :: us).length = ps.length := by
    have e := r2.length
    rw [F.len _ _ _ _ hq] at e
    exact e.symm
  have b := hb _ (Value.ref (s.heap.objs.size + 1) :: us) I2.kIn (by rw [List.append_nil]; exact hl)
  rw [List.append_nil] at b
  refine wpAny_call (make_map (f := f) I.kIn M.makes M.init (beq_iff_eq.mp M.fn) (codeAny_mono (F.run _ X.stack _ _ ⟨Value.ref (s.heap.objs.size + 1) :: us, []⟩ (Value.ref (s.heap.objs.size + 1) :: us) _ _ (E σ) (hr.make C us [])
    (I2.env0.make C us []) b r2 hq) fun r s' hq' => ?_))
  cases r with
  | error e => exact hx pins _ _ e s' I2 hq'
  | ok fl =>
    cases fl with
    | ret u =>
      obtain ⟨v, H', I3, rv, ev, q3⟩ := I2.after hq'
      subst ev
      exact ⟨rv, ⟨V.ref (s.heap.objs.size + 1), H', I3, rfl, q3⟩⟩
    | next => exact False.elim hq'
    | brk => exact False.elim hq'
    | cont => exact False.elim hq'
theorem pe_mkS' (M : Mk X.K C f) (F : FnOk X.prog X.w X.K X.mg X.base (L2.CX X.prog X.w) k f fd ps sp) (hr : Room (k + 1) X.A) (hg : Gl X x) (hm : X.mg x = some (.ref C)) (hb : Binds X.K fd ps []) (hx : ∀ σ, PassesAt (L2.CX X.prog X.w) X σ (E σ)) (ha : PA X (e :: es) t)
    (hdb : (x == ("__debug__" : Str)) = false) (he : starEach (e :: es) X.env = (false, eval e X.env) :: starEach es X.env) (hpl : (backTo pos (starEach es X.env)).any (·.1) = false) :
    PE X (.Call (.Name x p) (e :: es) [] pos) (fun σ H Q => t σ H fun vs H1 => ∀ x dx, H1 x = none → H1 dx = none → dx ≠ x → sp (.ref x :: vs) (upd (upd H1 dx (.own x)) x (.ins C dx [])) (fun v H2 => v = .non ∧ Q (.ref x) H2) (E σ)) := by
  refine ⟨fun pins s σ H Q I h => ?_⟩
  refine wpAny_Call_Name_kw (ld_glob I hg hm ?_ hdb)
  refine PySem.W.callWith_K (h₀ := X.base) I.ok.mod.kin M.kp (thn (ha.run pos pins s σ H _ I h) fun us s1 ⟨vs, H1, I1, r, q⟩ => ⟨I1.kIn, ?_⟩) he hpl
  exact run_mkS M F hr hb (hx σ) I1 r q
theorem pe_mkS0 (M : Mk X.K C f) (F : FnOk X.prog X.w X.K X.mg X.base (L2.CX X.prog X.w) k f fd ps sp) (hr : Room (k + 1) X.A) (hg : Gl X x) (hm : X.mg x = some (.ref C)) (hb : Binds X.K fd ps []) (hx : ∀ σ, PassesAt (L2.CX X.prog X.w) X σ (E σ)) (hdb : (x == ("__debug__" : Str)) = false) :
    PE X (.Call (.Name x p) [] [] pos) (fun σ H Q => ∀ x dx, H x = none → H dx = none → dx ≠ x → sp [.ref x] (upd (upd H dx (.own x)) x (.ins C dx [])) (fun v H2 => v = .non ∧ Q (.ref x) H2) (E σ)) := by
  refine ⟨fun pins s σ H Q I h => ?_⟩
  refine wpAny_Call_Name_kw (ld_glob I hg hm ?_ hdb)
  exact PySem.W.callWith_K0 I.kIn M.kp (run_mkS (us := []) M F hr hb (hx σ) I .nil h)
end

section
variable {X : Cx} {N : Kv.Env}
theorem n_fld (ok : XOk Z W X) {c : Nat} {f : Tx} {eo : Expr} {o : E} {pos : Pos} (ho : PE X eo (tE Z W (ev N o))) (hb : attributeBase eo (toStr f) X.env (eval eo X.env) = eval eo X.env) (cl : Cls X.K (Z.ca c)) (na : NoAttr X.K (Z.ca c) (toStr f)) :
    PE X (.Attribute eo (toStr f) pos) (tE Z W (ev N (.fld c o f))) := by
  refine PE.imp (pe_fld ho hb) fun σ H Q ⟨s, al, sr, q⟩ => ⟨s, al, sr, ?_⟩
  have q' : oG Z W s σ H al (kE Z s σ H al Q) ((ev N o >>= fun x => cont1 x >>= fun k => M.ofo (((insOf c k).bind fun fs => flook fs f).map fun p => .val (.pv p))) s) := by
    unfold ev at q; exact q
  refine oG.bind (.refl sr) q' fun x s1 e1 q1 H1 al1 st1 v r1 n1 => ?_
  obtain ⟨k, ek, q2⟩ := oG.cont1 q1
  obtain ⟨o', e2, q3⟩ := oG.ofo q2
  obtain ⟨p, e3, rfl⟩ := Option.map_eq_some_iff.mp e2
  obtain ⟨fs, e4, e5⟩ := Option.bind_eq_some_iff.mp e3
  obtain rfl := insOf_inv e4
  obtain ⟨a, rfl, dx, hf, h1, h2⟩ := cont_rep st1.sr r1 ek
  obtain ⟨w, e6, rw_⟩ := (look_fld (f := f) h2).1 p e5
  exact ⟨a, Z.ca c, dx, hf, w, rfl, h1, cl, na, e6, deliver st1 q3 rw_⟩
/-- the receiver ahead of the arguments: none of these is it -/
theorem head_nodup {s s1 : Kv.St} {σ : L2.St} {H H1 H2 : Hp} {al al1 : List Addr} {x : Opd} {v : V} {os : List Opd} {vs : List V} (r : RepP Z H1 al1 s1 σ x v) (n : News al1 s1 σ H1 os vs) (nd : (temps os vs).Nodup) : (temps (x :: os) (v :: vs)).Nodup := by
  rw [temps_cons]
  split
  · rename_i it
    refine List.nodup_cons.mpr ⟨?_, nd⟩
    cases x with
    | val w =>
      cases w with
      | pv p => cases it
      | own ob =>
        obtain ⟨b, rfl, g1, g2, g3⟩ := r
        obtain ⟨u, hu⟩ := g1.tracked g2
        exact temps_new g3 (by rw [hu]; simp) n
    | slot i => cases it
    | tab ob => cases it
  · exact nd
theorem n_meth (ok : XOk Z W X) {c f k : Nat} {m : Tx} {fn : Fn} {fd : FuncData} {ps : List Str} (hf : N.fns[f]? = some fn) (F : FnOk X.prog X.w X.K X.mg X.base (L2.CX X.prog X.w) k (Z.fa f) fd ps (spF Z N.cl fn.np f)) (hr : Room k X.A) (hb : Binds X.K fd ps [])
    (cl : Cls X.K (Z.ca c)) (hm : Meth X.K (Z.ca c) (toStr m) (Z.fa f)) {eo e : Expr} {es : List Expr} {o : E} {as : List E} {apos pos : Pos} (ho : PE X eo (tE Z W (ev N o))) (ha : PA X (e :: es) (tL Z W (evs N as)))
    (hbase : attributeBase eo (toStr m) X.env (eval eo X.env) = eval eo X.env)
    (hform : methodCallForm ((e :: es).length + ([] : List Keyword).length) (backTo pos (starEach (e :: es) X.env)) (backToKw pos (keywordEach [] X.env)) = true)
    (hline : (apos.endLine == pos.line) = true)
    (hst : starEach (e :: es) X.env = (false, eval e X.env) :: starEach es X.env) (hpl : (backTo pos (starEach es X.env)).any (·.1) = false) :
    PE X (.Call (.Attribute eo (toStr m) apos) (e :: es) [] pos) (tE Z W (ev N (.meth c m f o as))) := by
  refine PE.imp (pe_mthS ho cl hm F hr hb (fun σ => passAt ok.tk σ) ha hbase hform hline hst hpl) fun σ H Q ⟨s, al, sr, q⟩ => ⟨s, al, sr, ?_⟩
  have q' : oG Z W s σ H al (kE Z s σ H al Q) ((ev N o >>= fun x => cont1 x >>= fun k => M.ofo (insOf c k) >>= fun fs => if (flook fs m).isNone then (evs N as >>= fun os => callF N.fns N.cl f (x :: os)) else M.bad) s) := by
    unfold ev at q; exact q
  refine oG.bind (.refl sr) q' fun x s1 e1 q1 H1 al1 st1 v r1 n1 => ?_
  obtain ⟨k, ek, q2⟩ := oG.cont1 q1
  obtain ⟨fs, e2, q3⟩ := oG.ofoB q2
  obtain rfl := insOf_inv e2
  obtain ⟨a, ea, dx, hF, h1, h2⟩ := cont_rep st1.sr r1 ek
  split at q3
  · rename_i hn
    refine ⟨a, dx, hF, ea, h1, (look_fld h2).2 (by simpa using hn), s1, al1, st1.sr, ?_⟩
    refine oG.bind st1 q3 fun os s2 e3 q4 H2 al2 st2 vs r2 n2 nd => ?_
    exact call_reads hf (st1.trans st2) (os := x :: os) ⟨v, vs, rfl, r1.step st2, r2⟩ ⟨n1, n2.back st1⟩ (head_nodup (s := s) (H := H) (H2 := H) (al := al) r1 n2 nd) q4
  · exact q3.elim
theorem n_meth0 (ok : XOk Z W X) {c f k : Nat} {m : Tx} {fn : Fn} {fd : FuncData} {ps : List Str} (hf : N.fns[f]? = some fn) (F : FnOk X.prog X.w X.K X.mg X.base (L2.CX X.prog X.w) k (Z.fa f) fd ps (spF Z N.cl fn.np f)) (hr : Room k X.A) (hb : Binds X.K fd ps [])
    (cl : Cls X.K (Z.ca c)) (hm : Meth X.K (Z.ca c) (toStr m) (Z.fa f)) {eo : Expr} {o : E} {apos pos : Pos} (ho : PE X eo (tE Z W (ev N o)))
    (hbase : attributeBase eo (toStr m) X.env (eval eo X.env) = eval eo X.env) (hline : (apos.endLine == pos.line) = true) :
    PE X (.Call (.Attribute eo (toStr m) apos) [] [] pos) (tE Z W (ev N (.meth c m f o []))) := by
  refine PE.imp (pe_mthS0 ho cl hm F hr hb (fun σ => passAt ok.tk σ) hbase hline) fun σ H Q ⟨s, al, sr, q⟩ => ⟨s, al, sr, ?_⟩
  have q' : oG Z W s σ H al (kE Z s σ H al Q) ((ev N o >>= fun x => cont1 x >>= fun k => M.ofo (insOf c k) >>= fun fs => if (flook fs m).isNone then (evs N [] >>= fun os => callF N.fns N.cl f (x :: os)) else M.bad) s) := by
    unfold ev at q; exact q
  refine oG.bind (.refl sr) q' fun x s1 e1 q1 H1 al1 st1 v r1 n1 => ?_
  obtain ⟨k, ek, q2⟩ := oG.cont1 q1
  obtain ⟨fs, e2, q3⟩ := oG.ofoB q2
  obtain rfl := insOf_inv e2
  obtain ⟨a, ea, dx, hF, h1, h2⟩ := cont_rep st1.sr r1 ek
  split at q3
  · rename_i hn
    refine ⟨a, dx, hF, ea, h1, (look_fld h2).2 (by simpa using hn), ?_⟩
    have q4 : oG Z W s σ H al (kE Z s σ H al Q) (callF N.fns N.cl f [x] s1) := q3
    exact call_reads hf st1 (os := [x]) ⟨v, [], rfl, r1, rfl⟩ ⟨n1, trivial⟩ (head_nodup (os := []) (vs := []) (s := s) (H := H) (H2 := H) (al := al) r1 trivial List.nodup_nil) q4
  · exact q3.elim
/-- what the making of an instance asks, by the run -/
theorem make_reads {fns : List Fn} {cl : Cl} {c f : Nat} {fn : Fn} (hf : fns[f]? = some fn) {os : List Opd} {s s1 : Kv.St} {σ : L2.St} {H H1 : Hp} {al al1 : List Addr} {vs : List V} {Q : VK}
    (st : Step Z s σ H al s1 σ H1 al1) (r : Reps Z H1 al1 s1 σ os vs) (nw : News al s σ H os vs) (nd : (temps os vs).Nodup) {x dx : Addr} (hx : H1 x = none) (hdx : H1 dx = none) (ne : dx ≠ x)
    (q : oG Z W s σ H al (kE Z s σ H al Q) (makeF fns cl c f os s1)) :
    spF Z cl fn.np f (.ref x :: vs) (upd (upd H1 dx (.own x)) x (.ins (Z.ca c) dx [])) (fun v H2 => v = .non ∧ Q (.ref x) H2) (fun c d H' => W c d σ H') := by
  unfold makeF at q
  rw [hf] at q
  simp only at q
  split at q
  · rename_i hl
    have nfx : ¬ Ft al1 s1 σ x := fun z => by obtain ⟨w, e⟩ := z.tracked st.sr; rw [hx] at e; cases e
    have hx' : upd H1 dx (.own x) x = none := by rw [upd_ne fun z => ne z.symm]; exact hx
    have stx : Step Z s1 σ H1 al1 s1 σ (upd (upd H1 dx (.own x)) x (.ins (Z.ca c) dx [])) al1 := (alloc_step ((alloc_step (Step.refl st.sr) hdx).1) hx').1
    have st' := st.trans stx
    have rr : Reps Z (upd (upd H1 dx (.own x)) x (.ins (Z.ca c) dx [])) al1 s1 σ (.val (.own (.ins c [])) :: os) (.ref x :: vs) := ⟨.ref x, vs, rfl, ⟨x, rfl, ⟨dx, [], upd_same, rfl⟩, rfl, nfx⟩, r.step stx⟩
    have newx : Ft al s σ x ∨ H x = none := (st.ext.none hx).elim .inr .inl
    have nn : News al s σ H (.val (.own (.ins c [])) :: os) (.ref x :: vs) := ⟨newx, nw⟩
    have ndd : (temps (.val (.own (.ins c [])) :: os) (.ref x :: vs)).Nodup := by
      show (V.ref x :: temps os vs).Nodup
      refine List.nodup_cons.mpr ⟨fun z => ?_, nd⟩
      obtain ⟨_, u, hu⟩ := temps_ref Z r z
      rw [hx] at hu; cases hu
    obtain ⟨args, s2, ep, q1⟩ := oG.prim q pass_no
    obtain ⟨al2, st2, p⟩ := pass_ok st' rr nn ndd ep
    obtain ⟨rest, _, ea⟩ := pass_cons_val ep
    have a0 : args[0]? = some (.own (.ins c []), none) := by rw [ea]; rfl
    have lv : (V.ref x :: vs).length = fn.np := by
      rw [← hl, List.length_cons]
      have : ∀ {os : List Opd} {vs : List V}, Reps Z H1 al1 s1 σ os vs → vs.length = os.length := by
        intro os
        induction os with
        | nil => intro vs h; cases h; rfl
        | cons o os ih => rintro vs ⟨v, vr, e, _, h⟩; subst e; rw [List.length_cons, List.length_cons, ih h]
      rw [this r]
    refine ⟨args.map (·.1), s2.mu, al2, p.callee, lv, by rw [List.length_map, p.len]; exact lv, ?_⟩
    have q2 : oG Z W s σ H al (kE Z s σ H al Q) (makeEnd args s2 (cl f (args.map (·.1)) s2.mu)) := q1
    cases hc : cl f (args.map (·.1)) s2.mu with
    | ok v s3 =>
      rw [hc] at q2
      unfold makeEnd at q2
      split at q2
      · rename_i v' s3' heq
        cases heq
        split at q2
        · rename_i sg o tl hg es
          intro H3 al3 cc u ru nu
          refine ⟨ru, ?_⟩
          obtain ⟨st4, f4⟩ := p.back st' st2 nn cc hg
          have h0 : s3.sg[0]? = some (some (.own o)) := by rw [es]; rfl
          obtain ⟨u0, g1, g2⟩ := cc.sr.sg 0 _ h0
          have g1' : some (some (V.ref x)) = some (some u0) := g1
          obtain rfl : V.ref x = u0 := Option.some.inj (Option.some.inj g1')
          obtain ⟨b, eb, g3⟩ := g2
          cases eb
          have own0 : OwnAt s3 ((V.ref x :: vs).map some) 0 x := ⟨o, h0, rfl⟩
          refine q2 H3 al3 st4 (.ref x) ⟨x, rfl, g3, cc.sr.tr 0 o h0, ?_⟩ newx
          rintro (⟨n, z⟩ | ⟨i, o', z1, z2⟩)
          · exact cc.sr.off 0 n x own0 z
          · rcases giveBack_get hg z1 with ⟨y1, y2⟩ | ⟨j, sv, y1, y2⟩
            · exact p.dis 0 (.ins c []) none x a0 rfl (.inr ⟨i, o', y1, z2⟩)
            · obtain ⟨⟨v, e1, e2⟩, _⟩ := p.tak j sv i y1
              rw [z2] at e2
              obtain rfl : V.ref x = v := Option.some.inj (Option.some.inj e2)
              have hj : 0 = j := cc.sr.inj 0 j x own0 ⟨o', y2, get_vs e1⟩
              subst hj
              rw [a0] at y1
              cases y1
        · exact q2.elim
      · exact q2.elim
      · rename_i heq; cases heq
      · rename_i heq; cases heq
    | exc y s3 =>
      rw [hc] at q2
      unfold makeEnd at q2
      simp only at q2
      split at q2
      · rename_i sg hg
        intro cls d H3 al3 cc rx
        exact q2 cls d H3 al3 (p.back st' st2 nn cc hg).1 rx
      · exact q2.elim
    | bad => rw [hc] at q2; exact q2.elim
  · exact q.elim
theorem n_make (ok : XOk Z W X) {c f k : Nat} {fn : Fn} {fd : FuncData} {ps : List Str} (hf : N.fns[f]? = some fn) (F : FnOk X.prog X.w X.K X.mg X.base (L2.CX X.prog X.w) k (Z.fa f) fd ps (spF Z N.cl fn.np f)) (hr : Room (k + 1) X.A) (hb : Binds X.K fd ps []) (M : Mk X.K (Z.ca c) (Z.fa f)) {x : Str} (hg : Gl X x) (hm : X.mg x = some (.ref (Z.ca c)))
    {e : Expr} {es : List Expr} {as : List E} {p pos : Pos} (ha : PA X (e :: es) (tL Z W (evs N as))) (hdb : (x == ("__debug__" : Str)) = false)
    (he : starEach (e :: es) X.env = (false, eval e X.env) :: starEach es X.env) (hpl : (backTo pos (starEach es X.env)).any (·.1) = false) : PE X (.Call (.Name x p) (e :: es) [] pos) (tE Z W (ev N (.make c f as))) := by
  refine PE.imp (pe_mkS' M F hr hg hm hb (fun σ => passAt ok.tk σ) ha hdb he hpl) fun σ H Q ⟨s, al, sr, q⟩ => ⟨s, al, sr, ?_⟩
  have q' : oG Z W s σ H al (kE Z s σ H al Q) ((evs N as >>= fun os => makeF N.fns N.cl c f os) s) := by
    unfold ev at q; exact q
  exact oG.bind (.refl sr) q' fun os s1 e1 q1 H1 al1 st1 vs r1 n1 nd y dy hy hdy ne => make_reads hf st1 r1 n1 nd hy hdy ne q1
theorem n_make0 (ok : XOk Z W X) {c f k : Nat} {fn : Fn} {fd : FuncData} {ps : List Str} (hf : N.fns[f]? = some fn) (F : FnOk X.prog X.w X.K X.mg X.base (L2.CX X.prog X.w) k (Z.fa f) fd ps (spF Z N.cl fn.np f)) (hr : Room (k + 1) X.A) (hb : Binds X.K fd ps []) (M : Mk X.K (Z.ca c) (Z.fa f)) {x : Str} (hg : Gl X x) (hm : X.mg x = some (.ref (Z.ca c)))
    {p pos : Pos} (hdb : (x == ("__debug__" : Str)) = false) : PE X (.Call (.Name x p) [] [] pos) (tE Z W (ev N (.make c f []))) := by
  refine PE.imp (pe_mkS0 M F hr hg hm hb (fun σ => passAt ok.tk σ) hdb) fun σ H Q ⟨s, al, sr, q⟩ => ?_
  have q' : oG Z W s σ H al (kE Z s σ H al Q) ((evs N [] >>= fun os => makeF N.fns N.cl c f os) s) := by
    unfold ev at q; exact q
  have st : Step Z s σ H al s σ H al := .refl sr
  exact fun y dy hy hdy ne => make_reads (os := []) hf st (vs := []) rfl trivial List.nodup_nil hy hdy ne q'
end
end Kv

set_option Elab.async false
set_option linter.all false
set_option maxRecDepth 100000
/-! get, join, isinstance. -/
namespace Kv
open PySem L2 PySem.Spec PyProof.Rows
variable {Z : Kx} {W : WX}
section
variable {X : Cx} {N : Kv.Env}
theorem isDic_rep {H : Hp} {al : List Addr} {c : SV} {v : V} (h : isDic c = true) (r : RepC Z H al c v) : ∃ a, v = .ref a ∧ IsD H a := by
  cases c with
  | pv p => cases h
  | own o =>
    cases o with
    | dic kvs => obtain ⟨a, e, hk, g1, g2⟩ := r; exact ⟨a, e, .inl ⟨hk, .inl g1⟩⟩
    | fdic kvs => obtain ⟨a, e, hk, ob, g1, g2⟩ := r; exact ⟨a, e, .inl ⟨hk, .inr ⟨ob, g1⟩⟩⟩
    | _ => cases h
theorem dgetd_ok {H : Hp} {al : List Addr} {c d : SV} {p r : PV} {x y z : V} {Q : VK} (e : dgetd c d p = some r) (hc : RepC Z H al c x) (hd : RepC Z H al d y) (hz : RepV Z H al p z) (q : ∀ v, RepV Z H al r v → Q v H) : ∃ a o, x = .ref a ∧ DGet H a y o ∧ Q (o.getD z) H := by
  have key : ∀ {k : PV} {kvs : List (PV × PV)} {a : Addr}, x = .ref a → (RepO Z H al (.dic kvs) a ∨ RepO Z H al (.fdic kvs) a) → RepV Z H al k y → k.isKey = true → r = (dlook kvs k).getD p → ∃ a o, x = .ref a ∧ DGet H a y o ∧ Q (o.getD z) H := by
    intro k kvs a e1 e2 e3 e4 e5
    have g := dic_get e2 e3 e4
    subst e5
    cases h : dlook kvs k with
    | none => rw [h] at g q; exact ⟨a, none, e1, g, q z hz⟩
    | some w => rw [h] at g q; obtain ⟨w', g1, g2⟩ := g; exact ⟨a, some w', e1, g1, q w' g2⟩
  unfold dgetd at e
  split at e
  · split at e
    · rename_i h
      injection e with e
      obtain ⟨a, e1, g⟩ := hc
      exact key e1 (.inl g) hd h e.symm
    · cases e
  · split at e
    · rename_i h
      injection e with e
      obtain ⟨a, e1, g⟩ := hc
      exact key e1 (.inr g) hd h e.symm
    · cases e
  · cases e
theorem isPv_inv {o : Opd} {s : Kv.St} {p : PV} {s' : Kv.St} (h : isPv o s = .ok p s') : o = .val (.pv p) ∧ s' = s := by
  cases o with
  | val w =>
    cases w with
    | pv p' => have h' : Out.ok p' s = .ok p s' := h; injection h' with h1 h2; subst h1 h2; exact ⟨rfl, rfl⟩
    | own _ => cases h
  | slot _ => cases h
  | tab _ => cases h
theorem oG.isPv {α : Type} {s s1 : Kv.St} {σ : L2.St} {H : Hp} {al : List Addr} {K : α → Kv.St → Hp → List Addr → Prop} {o : Opd} {g : PV → M α} (h : oG Z W s σ H al K ((Kv.isPv o >>= g) s1)) : ∃ p, o = .val (.pv p) ∧ oG Z W s σ H al K (g p s1) := by
  cases o with
  | val w =>
    cases w with
    | pv p => exact ⟨p, rfl, h⟩
    | own _ => exact h.elim
  | slot _ => exact h.elim
  | tab _ => exact h.elim
theorem oG.isTx {α : Type} {s s1 : Kv.St} {σ : L2.St} {H : Hp} {al : List Addr} {K : α → Kv.St → Hp → List Addr → Prop} {o : Opd} {g : Tx → M α} (h : oG Z W s σ H al K ((Kv.isTx o >>= g) s1)) : ∃ t, o = .val (.pv (.str t)) ∧ oG Z W s σ H al K (g t s1) := by
  cases o with
  | val w =>
    cases w with
    | pv p =>
      cases p with
      | str b => exact ⟨b, rfl, h⟩
      | _ => exact h.elim
    | own _ => exact h.elim
  | slot _ => exact h.elim
  | tab _ => exact h.elim
theorem m2_of {o e f : Expr} {m : Str} {apos cpos : Pos} (hb : attributeBase o m X.env (eval o X.env) = eval o X.env) (hl : (apos.endLine == cpos.line) = true) (hs : starEach [e, f] X.env = [(false, eval e X.env), (false, eval f X.env)]) : M2 X o m apos e f cpos :=
  ⟨hb, by rw [hs]; rfl, hl, by rw [hs]; rfl⟩
theorem m1_of {o e : Expr} {m : Str} {apos cpos : Pos} (hb : attributeBase o m X.env (eval o X.env) = eval o X.env) (hl : (apos.endLine == cpos.line) = true) (hs : starEach [e] X.env = [(false, eval e X.env)]) : M1 X o m apos e cpos :=
  ⟨hb, by rw [hs]; rfl, hl, by rw [hs]; rfl⟩
theorem n_getd (ok : XOk Z W X) {eo ek ed : Expr} {apos cpos : Pos} {o k d : E} (ho : PE X eo (tE Z W (ev N o))) (hk : PE X ek (tE Z W (ev N k))) (hd : PE X ed (tE Z W (ev N d)))
    (hb : attributeBase eo "get" X.env (eval eo X.env) = eval eo X.env) (hl : (apos.endLine == cpos.line) = true) (hs : starEach [ek, ed] X.env = [(false, eval ek X.env), (false, eval ed X.env)]) :
    PE X (.Call (.Attribute eo "get" apos) [ek, ed] [] cpos) (tE Z W (ev N (.getd o k d))) := by
  refine PE.imp (pe_dget2 (by have := ok.hu; omega) ho hk hd (m2_of hb hl hs)) fun σ H Q ⟨s, al, sr, q⟩ => ⟨s, al, sr, ?_⟩
  have q' : oG Z W s σ H al (kE Z s σ H al Q) ((ev N o >>= fun x => cont1 x >>= fun c => if isDic c then (ev N k >>= fun y => ev N d >>= fun z => cont2 x y >>= fun c => Kv.isPv z >>= fun p => M.ofo ((dgetd c.1 c.2 p).map fun p => .val (.pv p))) else M.bad) s) := q
  refine oG.bind (.refl sr) q' fun x s1 e1 q1 H1 al1 st1 v1 r1 n1 => ?_
  obtain ⟨c, ec, q2⟩ := oG.cont1 q1
  split at q2
  · rename_i hd
    obtain ⟨a, ea, hD⟩ := isDic_rep hd (cont_rep st1.sr r1 ec)
    refine ⟨a, ea, hD, s1, al1, st1.sr, oG.bind st1 q2 fun y s2 e2 q3 H2 al2 st2 v2 r2 n2 => ⟨s2, al2, st2.sr, oG.bind (st1.trans st2) q3 fun z s3 e3 q4 H3 al3 st3 v3 r3 n3 => ?_⟩⟩
    obtain ⟨c1, d1, ec1, ed1, q5⟩ := oG.cont2 q4
    obtain ⟨p, rfl, q6⟩ := oG.isPv q5
    obtain ⟨o4, e4, q7⟩ := oG.ofo q6
    obtain ⟨res, e5, rfl⟩ := Option.map_eq_some_iff.mp e4
    have st := (st1.trans st2).trans st3
    obtain ⟨a', o', ea', g1, g2⟩ := dgetd_ok (Q := Q) e5 (cont_rep st3.sr ((r1.step st2).step st3) ec1) (cont_rep st3.sr (r2.step st3) ed1) r3 (fun v r => deliver st q7 r)
    rw [ea] at ea'
    cases ea'
    exact ⟨o', g1, g2⟩
  · exact q2.elim
theorem n_get1 (ok : XOk Z W X) {eo ek : Expr} {apos cpos : Pos} {o k : E} (ho : PE X eo (tE Z W (ev N o))) (hk : PE X ek (tE Z W (ev N k)))
    (hb : attributeBase eo "get" X.env (eval eo X.env) = eval eo X.env) (hl : (apos.endLine == cpos.line) = true) (hs : starEach [ek] X.env = [(false, eval ek X.env)]) :
    PE X (.Call (.Attribute eo "get" apos) [ek] [] cpos) (tE Z W (ev N (.get1 o k))) := by
  refine PE.imp (pe_dget1 (by have := ok.hu; omega) ho hk (m1_of hb hl hs)) fun σ H Q ⟨s, al, sr, q⟩ => ⟨s, al, sr, ?_⟩
  have q' : oG Z W s σ H al (kE Z s σ H al Q) ((ev N o >>= fun x => cont1 x >>= fun c => if isDic c then (ev N k >>= fun y => cont2 x y >>= fun c => M.ofo ((dgetd c.1 c.2 .non).map fun p => .val (.pv p))) else M.bad) s) := q
  refine oG.bind (.refl sr) q' fun x s1 e1 q1 H1 al1 st1 v1 r1 n1 => ?_
  obtain ⟨c, ec, q2⟩ := oG.cont1 q1
  split at q2
  · rename_i hd
    obtain ⟨a, ea, hD⟩ := isDic_rep hd (cont_rep st1.sr r1 ec)
    refine ⟨a, ea, hD, s1, al1, st1.sr, oG.bind st1 q2 fun y s2 e2 q3 H2 al2 st2 v2 r2 n2 => ?_⟩
    obtain ⟨c1, d1, ec1, ed1, q5⟩ := oG.cont2 q3
    obtain ⟨o4, e4, q7⟩ := oG.ofo q5
    obtain ⟨res, e5, rfl⟩ := Option.map_eq_some_iff.mp e4
    obtain ⟨a', o', ea', g1, g2⟩ := dgetd_ok (Q := Q) (z := .non) e5 (cont_rep st2.sr (r1.step st2) ec1) (cont_rep st2.sr r2 ed1) rfl (fun v r => deliver (st1.trans st2) q7 r)
    rw [ea] at ea'
    cases ea'
    exact ⟨o', g1, g2⟩
  · exact q2.elim
theorem n_join (ok : XOk Z W X) {eo e : Expr} {apos cpos : Pos} {a b : E} (ho : PE X eo (tE Z W (ev N a))) (he : PE X e (tE Z W (ev N b)))
    (hb : attributeBase eo "join" X.env (eval eo X.env) = eval eo X.env) (hl : (apos.endLine == cpos.line) = true) (hs : starEach [e] X.env = [(false, eval e X.env)]) :
    PE X (.Call (.Attribute eo "join" apos) [e] [] cpos) (tE Z W (ev N (.join a b))) := by
  refine PE.imp (pe_join ho he hs hb hl) fun σ H Q ⟨s, al, sr, q⟩ => ⟨s, al, sr, ?_⟩
  have q' : oG Z W s σ H al (kE Z s σ H al Q) ((ev N a >>= fun x => Kv.isTx x >>= fun sep => ev N b >>= fun y => cont1 y >>= fun c => M.ofo ((joinOf sep c).map fun p => .val (.pv p))) s) := q
  refine oG.bind (.refl sr) q' fun x s1 e1 q1 H1 al1 st1 v1 r1 n1 => ?_
  obtain ⟨sep, rfl, q2⟩ := oG.isTx q1
  refine ⟨⟨_, r1⟩, s1, al1, st1.sr, oG.bind st1 q2 fun y s2 e2 q3 H2 al2 st2 v2 r2 n2 => ?_⟩
  obtain ⟨c, ec, q4⟩ := oG.cont1 q3
  obtain ⟨o4, e4, q5⟩ := oG.ofo q4
  obtain ⟨res, e5, rfl⟩ := Option.map_eq_some_iff.mp e4
  unfold joinOf at e5
  split at e5
  · split at e5
    · rename_i ts ht
      split at e5
      · rename_i hz
        cases e5
        obtain ⟨p, rfl, ws, g1, g2⟩ := cont_rep st2.sr r2 ec
        have e6 := asTx_rep g2 ht
        subst e6
        refine ⟨toStr sep, p, ts.map toStr, r1, rfl, .inl (by rw [List.map_map]; exact .of g1), ?_, ?_⟩
        · rw [List.map_map, List.length_map, length_str]
          have : ((fun x : Str => x.length) ∘ toStr) = (fun x : Tx => x.length) := by funext x; exact length_str
          rw [this]; exact hz
        · rw [TL.join_eq, joinTx_str]
          exact deliver (st1.trans st2) q5 rfl
      · cases e5
    · cases e5
  · cases e5
def Ty.nm : Ty → String
  | .int => "int"
  | .str => "str"
  | .bool => "bool"
  | .tuple => "tuple"
  | .list => "list"
  | .dict => "dict"
theorem kit_sub : ∀ a b : Ty, kitB a.nm b.nm = some (a.sub b) := by
  intro a b
  cases a <;> cases b <;> decide +kernel
theorem tyX_tup {K : PySem.W.Frag} {H : Hp} {a : Addr} {vs : List V} (g : SqT K H a vs) : TyX K H (.ref a) (.type "tuple") := by
  rcases g with (g | ⟨o, g⟩) | ⟨o, its, n, g1, g2, _⟩
  · exact .base (.tup g)
  · exact .fTuple g
  · exact .kTuple g1 g2
theorem ty_rep {H : Hp} {al : List Addr} {c : SV} {v : V} {t : Ty} (h : c.ty = some t) (r : RepC Z H al c v) : TyX Z.K H v (.type t.nm) := by
  unfold SV.ty at h
  split at h
  · cases h; cases r; exact .base (.int _)
  · cases h; cases r; exact .base (.bl _)
  · cases h; cases r; exact .base (.str _)
  · cases h; obtain ⟨a, vs, rfl, g1, g2⟩ := r; exact tyX_tup g1.t
  · cases h; obtain ⟨a, rfl, vs, g1, g2⟩ := r; exact .base (.lst g1)
  · cases h; obtain ⟨a, rfl, vs, g1, g2⟩ := r; exact .base (.dK g1)
  · cases h
theorem boot_ty (t : Ty) : bootBuiltins (Str.ofString t.nm) = some (.type t.nm) := by cases t <;> decide +kernel
theorem n_isi (ok : XOk Z W X) {e : Expr} {a : E} {t : Ty} {p p2 pos : Pos} (he : PE X e (tE Z W (ev N a))) (hg : Gl X "isinstance") (hm : X.mg "isinstance" = none) (hg2 : Gl X (Str.ofString t.nm)) (hm2 : X.mg (Str.ofString t.nm) = none)
    (hs : starEach [e, .Name (Str.ofString t.nm) p2] X.env = [(false, eval e X.env), (false, eval (.Name (Str.ofString t.nm) p2) X.env)]) : PE X (.Call (.Name "isinstance" p) [e, .Name (Str.ofString t.nm) p2] [] pos) (tE Z W (ev N (.isi t a))) := by
  have s1 : starEach [.Name (Str.ofString t.nm) p2] X.env = [(false, eval (.Name (Str.ofString t.nm) p2) X.env)] := rfl
  have ht : PE X (.Name (Str.ofString t.nm) p2) (tC (.ty t.nm)) := by
    refine pe_bltn hg2 hm2 (boot_ty t) rfl ?_ ?_
    · cases t <;> decide
    · cases t <;> decide
  refine PE.imp (pe_callB call_isi hg hm PyProof.Rows.boot_isinstance (pa_cons he (pa_cons ht pa_nil) (by rw [hs, s1])) (by decide) (by decide) (by rw [hs, s1]) (by rw [s1]; rfl)) fun σ H Q ⟨s, al, sr, q⟩ => ⟨s, al, sr, ?_⟩
  have q' : oG Z W s σ H al (kE Z s σ H al Q) ((ev N a >>= fun x => cont1 x >>= fun c => M.ofo ((c.ty).map fun u => .val (.pv (.bl (u.sub t))))) s) := q
  refine oG.bind (.refl sr) q' fun x s1 e1 q1 H1 al1 st1 v1 r1 n1 => ?_
  obtain ⟨c, ec, q2⟩ := oG.cont1 q1
  obtain ⟨o4, e4, q3⟩ := oG.ofo q2
  obtain ⟨u, e5, rfl⟩ := Option.map_eq_some_iff.mp e4
  exact ⟨v1, .ty t.nm, .type u.nm, .type t.nm, u.sub t, rfl, .ty _, by rw [ok.hK]; exact ty_rep e5 (cont_rep st1.sr r1 ec), kit_ty (kit_sub u t), deliver st1 q3 rfl⟩
theorem kit_subs {K : PySem.W.Frag} {u : Ty} : ∀ ts : List Ty, PySem.W.kitAny K (.type u.nm) (ts.map fun t => .type t.nm) = some (ts.any fun t => u.sub t)
  | [] => rfl
  | t :: r => by
    rw [List.any_cons]
    refine kitAny_cons (kit_ty (kit_sub u t)) (fun h => ?_) (fun h => by rw [h]; rfl)
    rw [h, Bool.false_or]
    exact kit_subs r
theorem n_any {e : Expr} : PE X e (tE Z W (ev N .any)) := ⟨fun pins s σ H Q I ⟨s0, al, sr, q⟩ => q.elim⟩
theorem ty_pa (ok : XOk Z W X) {t : Ty} {p2 : Pos} (hg2 : Gl X (Str.ofString t.nm)) (hm2 : X.mg (Str.ofString t.nm) = none) : PE X (.Name (Str.ofString t.nm) p2) (tC (.ty t.nm)) := by
  refine pe_bltn hg2 hm2 (boot_ty t) rfl ?_ ?_
  · cases t <;> decide
  · cases t <;> decide
theorem n_isiT (ok : XOk Z W X) {e : Expr} {a : E} {t u : Ty} {k : Nat} {p p2 p3 tpos pos : Pos} (he : PE X e (tE Z W (ev N a))) (hg : Gl X "isinstance") (hm : X.mg "isinstance" = none) (hg2 : Gl X (Str.ofString t.nm)) (hm2 : X.mg (Str.ofString t.nm) = none) (hg3 : Gl X (Str.ofString u.nm)) (hm3 : X.mg (Str.ofString u.nm) = none)
    (hs : starEach [e, .Tuple [.Name (Str.ofString t.nm) p2, .Name (Str.ofString u.nm) p3] k tpos] X.env = [(false, eval e X.env), (false, eval (.Tuple [.Name (Str.ofString t.nm) p2, .Name (Str.ofString u.nm) p3] k tpos) X.env)]) : PE X (.Call (.Name "isinstance" p) [e, .Tuple [.Name (Str.ofString t.nm) p2, .Name (Str.ofString u.nm) p3] k tpos] [] pos) (tE Z W (ev N (.isiT [t, u] a))) := by
  have s1 : starEach [.Tuple [.Name (Str.ofString t.nm) p2, .Name (Str.ofString u.nm) p3] k tpos] X.env = [(false, eval (.Tuple [.Name (Str.ofString t.nm) p2, .Name (Str.ofString u.nm) p3] k tpos) X.env)] := rfl
  have ht := pe_tup (x1 := k) (pos := tpos) (pa_cons (ty_pa ok (p2 := p2) hg2 hm2) (pa_cons (ty_pa ok (p2 := p3) hg3 hm3) pa_nil rfl) rfl)
  refine PE.imp (pe_callB call_isiT hg hm PyProof.Rows.boot_isinstance (pa_cons he (pa_cons ht pa_nil) (by rw [hs, s1])) (by decide) (by decide) (by rw [hs, s1]) (by rw [s1]; rfl)) fun σ H Q ⟨s, al, sr, q⟩ => ⟨s, al, sr, ?_⟩
  have q' : oG Z W s σ H al (kE Z s σ H al Q) ((ev N a >>= fun x => cont1 x >>= fun c => M.ofo ((c.ty).map fun u' => .val (.pv (.bl ([t, u].any fun t' => u'.sub t'))))) s) := q
  refine oG.bind (.refl sr) q' fun x s1 e1 q1 H1 al1 st1 v1 r1 n1 => ?_
  obtain ⟨c, ec, q2⟩ := oG.cont1 q1
  obtain ⟨o4, e4, q3⟩ := oG.ofo q2
  obtain ⟨w, e5, rfl⟩ := Option.map_eq_some_iff.mp e4
  refine ⟨by show 2 ≤ sizeLine; decide, fun p0 hp => ?_⟩
  have st2 := (alloc_step (u := .tup [.ty t.nm, .ty u.nm]) st1 hp).1
  have st3 := (alloc_step (u := .tup [.ty t.nm, .ty u.nm]) (.refl st1.sr) hp).1
  refine ⟨v1, p0, [.ty t.nm, .ty u.nm], .type w.nm, [.type t.nm, .type u.nm], _, rfl, upd_same, .cons (.ty _) (.cons (.ty _) .nil), by rw [ok.hK]; exact ty_rep e5 (cont_rep st2.sr (r1.step st3) ec), kit_subs [t, u], deliver st2 q3 rfl⟩
/-! sorted(set(texts)) -/
theorem addTx_str {ks : List Tx} {t : Tx} : KvS.addK (ks.map toStr) (toStr t) = (addTx ks t).map toStr := by
  unfold KvS.addK addTx
  by_cases c : t ∈ ks
  · rw [if_pos c, if_pos (List.mem_map_of_mem c)]
  · rw [if_neg c, if_neg fun m => by
      obtain ⟨u, m2, e⟩ := List.mem_map.mp m
      exact c (toStr_inj.mp e ▸ m2)]
    rfl
theorem addTxs_str : ∀ {ts ks : List Tx}, (ts.map toStr).foldl KvS.addK (ks.map toStr) = (ts.foldl addTx ks).map toStr
  | [], _ => rfl
  | t :: r, ks => by
    rw [List.map_cons, List.foldl_cons, addTx_str, List.foldl_cons]
    exact addTxs_str
theorem n_sset (ok : XOk Z W X) {e : Expr} {a : E} {p p2 q0 pos : Pos} (he : PE X e (tE Z W (ev N a))) (hg : Gl X "sorted") (hm : X.mg "sorted" = none) (hg2 : Gl X "set") (hm2 : X.mg "set" = none)
    (hs : starEach [e] X.env = [(false, eval e X.env)]) : PE X (.Call (.Name "sorted" p) [.Call (.Name "set" p2) [e] [] q0] [] pos) (tE Z W (ev N (.sset a))) := by
  refine PE.imp (KvS.pe_sortedSet ok.calm hg hm hg2 hm2 he (by rw [hs]; rfl)) fun σ H Q ⟨s, al, sr, q⟩ => ⟨s, al, sr, ?_⟩
  have q' : oG Z W s σ H al (kE Z s σ H al Q) ((ev N a >>= fun x => cont1 x >>= fun c => M.ofo ((ssetOf c).map .val)) s) := q
  refine oG.bind (.refl sr) q' fun x s1 e1 q1 H1 al1 st1 v1 r1 n1 => ?_
  obtain ⟨c, ec, q2⟩ := oG.cont1 q1
  obtain ⟨o4, e4, q3⟩ := oG.ofo q2
  obtain ⟨w, e5, rfl⟩ := Option.map_eq_some_iff.mp e4
  unfold ssetOf at e5
  split at e5
  · split at e5
    · rename_i hz
      obtain ⟨ts, e6, rfl⟩ := Option.map_eq_some_iff.mp e5
      obtain ⟨l, rfl, ws, g1, g2⟩ := cont_rep st1.sr r1 ec
      have e7 := asTx_rep g2 e6
      subst e7
      refine ⟨l, ts.map toStr, rfl, by rw [ok.hK, List.map_map]; exact .of g1, ?_, fun ys p0 py sy hp => ?_⟩
      · have := g2.length
        rw [List.length_map] at this ⊢
        omega
      · have py2 : ys.Perm ((ts.foldl addTx []).map toStr) := by
          rw [← addTxs_str]; exact py
        rw [sorted_is py2 sy]
        have r2 : ∀ l : List Tx, RepVs Z H1 al1 (l.map PV.str) ((l.map toStr).map V.str) := by
          intro l
          induction l with
          | nil => exact rfl
          | cons t r ih => exact ⟨_, _, rfl, rfl, ih⟩
        exact gives_of st1 q3 p0 _ (same_new hp _) hp ⟨_, upd_same, (r2 _).same (same_new hp _)⟩ rfl
    · cases e5
  · cases e5
theorem n_sit (ok : XOk Z W X) {e : Expr} {a : E} {p apos cpos pos : Pos} (he : PE X e (tE Z W (ev N a))) (hg : Gl X "sorted") (hm : X.mg "sorted" = none)
    (hbase : attributeBase e "items" X.env (eval e X.env) = eval e X.env) (hline : (apos.endLine == cpos.line) = true)
    (hs : starEach [.Call (.Attribute e "items" apos) [] [] cpos] X.env = [(false, eval (.Call (.Attribute e "items" apos) [] [] cpos) X.env)]) :
    PE X (.Call (.Name "sorted" p) [.Call (.Attribute e "items" apos) [] [] cpos] [] pos) (tE Z W (ev N (.sit a))) := by
  refine PE.imp (pe_sit (Z := Z) ok.calm ok.hK ok.hu he hg hm hbase hline hs) fun σ H Q ⟨s, al, sr, q⟩ => ⟨s, al, sr, ?_⟩
  have q' : oG Z W s σ H al (kE Z s σ H al Q) ((ev N a >>= fun x => cont1 x >>= fun c => M.ofo ((sitOf c).map .val)) s) := q
  refine oG.bind (.refl sr) q' fun x s1 e1 q1 H1 al1 st1 v1 r1 n1 => ?_
  obtain ⟨c, ec, q2⟩ := oG.cont1 q1
  obtain ⟨o4, e4, q3⟩ := oG.ofo q2
  obtain ⟨w, e5, rfl⟩ := Option.map_eq_some_iff.mp e4
  unfold sitOf at e5
  split at e5
  · split at e5
    · rename_i kvs hso
      cases e5
      obtain ⟨d, rfl, hk, g1, g2⟩ := cont_rep st1.sr r1 ec
      exact ⟨d, hk, kvs, al1, rfl, g1, g2, hso, fun H' ys p0 sm hn hp hr => gives_of st1 q3 p0 H' sm hn ⟨ys, hp, hr⟩ rfl⟩
    · cases e5
  · cases e5
end
end Kv

set_option Elab.async false
set_option linter.all false
set_option maxRecDepth 100000
/-! What a for or a comprehension walks; targets. -/
namespace Kv
open PySem L2 PySem.Spec PyProof.Rows RZ
variable {Z : Kx} {W : WX}

/-- a target that takes a tuple apart -/
def T.isTup : T → Bool
  | .nm _ => false
  | .tup _ => true
/-- an item: where it is taken apart at once, its dict is not asked for -/
def RepX (Z : Kx) (H : Hp) (al : List Addr) : Bool → PV → V → Prop
  | true, .tup xs, v => ∃ a vs, v = .ref a ∧ SqT Z.K H a vs ∧ RepVs Z H al xs vs
  | _, p, v => RepV Z H al p v
theorem RepV.x {H : Hp} {al : List Addr} {p : PV} {v : V} (h : RepV Z H al p v) {tt : Bool} : RepX Z H al tt p v := by
  cases tt with
  | false => cases p <;> exact h
  | true =>
    cases p with
    | tup xs => obtain ⟨a, vs, e, h1, h2⟩ := h; exact ⟨a, vs, e, h1.t, h2⟩
    | _ => exact h
/-- an iterator that tells the items, while its sources stand -/
structure Walk (Z : Kx) (tt : Bool) (J : It) (cs : List SV) (vs : List V) (xs : List PV) : Prop where
  go : ∀ i H al, RepCs Z H al cs vs → i < xs.length → J.go i H
  yld : ∀ i H al x H', RepCs Z H al cs vs → i < xs.length → J.yld i H x H' → Same H H' ∧ ∃ p, xs[i]? = some p ∧ RepX Z H' al tt p x
  stop : ∀ i H al, RepCs Z H al cs vs → xs.length = i → J.stop i H
def kI (Z : Kx) (tt : Bool) (s : Kv.St) (σ : L2.St) (H : Hp) (al : List Addr) (R : It → Hp → Prop) : List Opd × List SV × List PV → Kv.St → Hp → List Addr → Prop :=
  fun t s' H' al' => ∀ vs J, Reps Z H' al' s' σ t.1 vs → t.1.mapM (cont · s') = some t.2.1 → Walk Z tt J t.2.1 vs t.2.2 → R J H'
/-- the source of a loop -/
def evI (N : Kv.Env) (ik : Ik) (es : List E) : M (List Opd × List SV × List PV) := do
  let os ← evs N es
  srcOf ik os
def tI (Z : Kx) (W : WX) (tt : Bool) (m : M (List Opd × List SV × List PV)) : TI := fun σ H R => ∃ s al, SR Z H al s σ ∧ oG Z W s σ H al (kI Z tt s σ H al R) (m s)

section
variable {X : Cx} {N : Kv.Env} {tt : Bool}
theorem walk_list {a : Addr} {c : SV} {xs : List PV} (h : c = .own (.lst xs) ∨ c = .own (.flst xs)) : Walk Z tt (Itl Z.K a) [c] [.ref a] xs := by
  have rd : ∀ {H al}, RepCs Z H al [c] [.ref a] → ∃ ws, SqL Z.K H a ws ∧ RepVs Z H al xs ws := by
    intro H al r
    obtain ⟨v, e, g⟩ := RepCs.one r
    cases e
    rcases h with rfl | rfl
    · obtain ⟨b, e, ws, g1, g2⟩ := g; cases e; exact ⟨ws, .of g1, g2⟩
    · obtain ⟨b, e, ws, g1, g2⟩ := g; cases e; exact ⟨ws, g1.seq, g2⟩
  refine ⟨fun i H al r hi => ?_, fun i H al x H' r li0 y => ?_, fun i H al r hi => ?_⟩
  · obtain ⟨ws, g1, g2⟩ := rd r
    have li : i < ws.length := by rw [g2.length]; exact hi
    exact ⟨ws, ws[i], g1, List.getElem?_eq_getElem li⟩
  · obtain ⟨e, y⟩ := y
    subst e
    obtain ⟨ws, g1, g2⟩ := rd r
    have e := y ws g1
    have li : i < xs.length := by rw [← g2.length]; exact lt_of_get e
    obtain ⟨w, e1, e2⟩ := g2.get (List.getElem?_eq_getElem li)
    rw [e] at e1
    cases e1
    exact ⟨.refl _, _, List.getElem?_eq_getElem li, e2.x⟩
  · obtain ⟨ws, g1, g2⟩ := rd r
    exact ⟨ws, g1, by rw [g2.length]; exact Nat.le_of_eq hi⟩
theorem walk_tup {a : Addr} {ws : List V} {xs : List PV} (K0 : ∀ {H al}, RepCs Z H al [.pv (.tup xs)] [.ref a] → ∃ ws, SqT Z.K H a ws ∧ RepVs Z H al xs ws) : Walk Z tt (Itt Z.K a) [.pv (.tup xs)] [.ref a] xs := by
  refine ⟨fun i H al r hi => ?_, fun i H al x H' r li0 y => ?_, fun i H al r hi => ?_⟩
  · obtain ⟨ws, g1, g2⟩ := K0 r
    have li : i < ws.length := by rw [g2.length]; exact hi
    exact ⟨ws, ws[i], g1, List.getElem?_eq_getElem li⟩
  · obtain ⟨e, y⟩ := y
    subst e
    obtain ⟨ws, g1, g2⟩ := K0 r
    have e := y ws g1
    have li : i < xs.length := by rw [← g2.length]; exact lt_of_get e
    obtain ⟨w, e1, e2⟩ := g2.get (List.getElem?_eq_getElem li)
    rw [e] at e1
    cases e1
    exact ⟨.refl _, _, List.getElem?_eq_getElem li, e2.x⟩
  · obtain ⟨ws, g1, g2⟩ := K0 r
    exact ⟨ws, g1, by rw [g2.length]; exact Nat.le_of_eq hi⟩
theorem walk_str {s : Tx} {cs : List SV} {vs : List V} : Walk Z tt (Its (toStr s)) cs vs (s.map fun c => .str [c]) := by
  refine ⟨fun i H al r hi => ?_, fun i H al x H' r li0 y => ?_, fun i H al r hi => ?_⟩
  · show i < s.toArray.size
    simpa using hi
  · obtain ⟨e, c, e1, e2⟩ := y
    subst e e2
    have e3 : s.toArray[i]? = some c := e1
    refine ⟨.refl _, .str [c], ?_, RepV.x (p := .str [c]) rfl⟩
    rw [List.getElem?_map]
    have : s[i]? = some c := by simpa using e3
    rw [this]; rfl
  · show s.toArray.size ≤ i
    rw [List.length_map] at hi
    simp only [List.size_toArray]
    exact Nat.le_of_eq hi
theorem walk_range {lo : Int} {n : Nat} {cs : List SV} {vs : List V} : Walk Z tt (Itr lo n) cs vs ((List.range n).map fun (i : Nat) => PV.int (lo + (i : Int))) := by
  refine ⟨fun i H al r hi => ?_, fun i H al x H' r li0 y => ?_, fun i H al r hi => ?_⟩
  · show i < n
    simpa using hi
  · obtain ⟨e, e1⟩ := y
    subst e e1
    refine ⟨.refl _, .int (lo + i), ?_, RepV.x (p := .int (lo + i)) rfl⟩
    rw [List.length_map, List.length_range] at li0
    rw [List.getElem?_map, List.getElem?_range li0]; rfl
  · show n ≤ i
    rw [List.length_map, List.length_range] at hi
    exact Nat.le_of_eq hi
theorem reps_one {H : Hp} {al : List Addr} {s : Kv.St} {σ : L2.St} {o : Opd} {v : V} (r : RepP Z H al s σ o v) : Reps Z H al s σ [o] [v] := ⟨v, [], rfl, r, rfl⟩
theorem mapM_one {s : Kv.St} {o : Opd} {c : SV} (h : cont o s = some c) : [o].mapM (cont · s) = some [c] := by rw [mapM_cons, h]; rfl
theorem i_it (ok : XOk Z W X) {tg e : Expr} {a : E} (he : PE X e (tE Z W (ev N a))) : PI X tg e (tI Z W tt (evI N .it [a])) := by
  refine ⟨fun pins s0 σ H R I ⟨s, al, sr, q⟩ => ?_⟩
  have q' : oG Z W s σ H al (kI Z tt s σ H al R) (((ev N a >>= fun o => (pure [o] : M _)) >>= fun os => conts os >>= fun cs => M.ofo (itemsOf .it cs) >>= fun xs => pure (os, cs, xs)) s) := q
  have fin : ∀ {o s1}, ev N a s = .ok o s1 → ∃ c xs, cont o s1 = some c ∧ itemsOf .it [c] = some xs ∧ oG Z W s σ H al (kI Z tt s σ H al R) (.ok ([o], [c], xs) s1) := by
    intro o s1 he
    rw [bind_ok (m := ev N a >>= _) (a := [o]) (s' := s1) (by rw [bind_ok he]; rfl)] at q'
    obtain ⟨cs, ecs, q2⟩ := oG.conts q'
    obtain ⟨xs, exs, q3⟩ := oG.ofoB q2
    rw [mapM_cons] at ecs
    cases hc : cont o s1 with
    | none => rw [hc] at ecs; cases ecs
    | some c =>
      rw [hc] at ecs
      cases ecs
      exact ⟨c, xs, rfl, exs, q3⟩
  have bad : ev N a s ≠ .bad := fun e => by rw [bind_bad (m := ev N a >>= _) (by rw [bind_bad e])] at q'; exact q'
  have exc : ∀ x s1, ev N a s = .exc x s1 → oG Z W s σ H al (kI Z tt s σ H al R) (.exc x s1) := fun x s1 e => by
    rw [bind_exc (m := ev N a >>= _) (by rw [bind_exc e])] at q'; exact q'
  cases hq : ev N a s with
  | bad => exact absurd hq bad
  | exc x s1 =>
    -- any rule does: nothing comes
    refine (pi_list he).run pins s0 σ H R I ⟨s, al, sr, ?_⟩
    rw [hq]
    exact exc x s1 hq
  | ok o s1 =>
    obtain ⟨c, xs, ec, exs, q3⟩ := fin hq
    unfold itemsOf at exs
    split at exs
    · cases exs
      rename_i e; cases e
      refine (pi_list he).run pins s0 σ H R I ⟨s, al, sr, ?_⟩
      rw [hq]
      intro H1 al1 st1 v r1 n1
      obtain ⟨b, rfl, ws, g1, g2⟩ := cont_rep st1.sr r1 ec
      refine ⟨b, rfl, ⟨ws, by rw [ok.hK]; exact .of g1⟩, ?_⟩
      rw [ok.hK]
      exact q3 H1 al1 st1 [.ref b] _ (reps_one r1) (mapM_one ec) (walk_list (.inl rfl))
    · cases exs
      rename_i e; cases e
      refine (pi_list he).run pins s0 σ H R I ⟨s, al, sr, ?_⟩
      rw [hq]
      intro H1 al1 st1 v r1 n1
      obtain ⟨b, rfl, ws, g1, g2⟩ := cont_rep st1.sr r1 ec
      refine ⟨b, rfl, ⟨ws, by rw [ok.hK]; exact g1.seq⟩, ?_⟩
      rw [ok.hK]
      exact q3 H1 al1 st1 [.ref b] _ (reps_one r1) (mapM_one ec) (walk_list (.inr rfl))
    · cases exs
      rename_i e; cases e
      refine (pi_tup he).run pins s0 σ H R I ⟨s, al, sr, ?_⟩
      rw [hq]
      intro H1 al1 st1 v r1 n1
      obtain ⟨b, ws, rfl, g1, g2⟩ := cont_rep st1.sr r1 ec
      refine ⟨b, rfl, ⟨ws, by rw [ok.hK]; exact g1.t⟩, ?_⟩
      rw [ok.hK]
      refine q3 H1 al1 st1 [.ref b] _ (reps_one r1) (mapM_one ec) (walk_tup (ws := ws) fun r => ?_)
      obtain ⟨v, e, b', ws', e', g3, g4⟩ := RepCs.one r
      cases e; cases e'
      exact ⟨ws', g3.t, g4⟩
    · cases exs
      rename_i e; cases e
      refine (pi_str he).run pins s0 σ H R I ⟨s, al, sr, ?_⟩
      rw [hq]
      intro H1 al1 st1 v r1 n1
      cases (cont_rep st1.sr r1 ec)
      exact ⟨_, rfl, q3 H1 al1 st1 _ _ (reps_one r1) (mapM_one ec) walk_str⟩
    all_goals (first | (rename_i e _; cases e) | (rename_i e; cases e) | cases exs)
theorem mapM_len {s : Kv.St} : ∀ {os : List Opd} {cs : List SV}, os.mapM (cont · s) = some cs → cs.length = os.length
  | [], cs, h => by
    have h' : some ([] : List SV) = some cs := h
    cases h'; rfl
  | o :: os, cs, h => by
    rw [mapM_cons] at h
    cases hc : cont o s with
    | none => rw [hc] at h; cases h
    | some c =>
      rw [hc] at h
      cases hr : os.mapM (cont · s) with
      | none => simp only [hr] at h; cases h
      | some cr =>
        simp only [hr] at h
        cases h
        rw [List.length_cons, List.length_cons, mapM_len hr]
theorem evI_parts {ik : Ik} {es : List E} {s : Kv.St} {σ : L2.St} {H : Hp} {al : List Addr} {R : It → Hp → Prop} {R' : List V → Hp → Prop} (q : oG Z W s σ H al (kI Z tt s σ H al R) (evI N ik es s))
    (k : ∀ os cs xs s1 H1 al1 vs, cs.length = es.length → Step Z s σ H al s1 σ H1 al1 → Reps Z H1 al1 s1 σ os vs → RepCs Z H1 al1 cs vs → itemsOf ik cs = some xs → (∀ J, Walk Z tt J cs vs xs → R J H1) → R' vs H1) : oG Z W s σ H al (kL Z s σ H al R') (evs N es s) := by
  have q' : oG Z W s σ H al (kI Z tt s σ H al R) ((evs N es >>= fun os => conts os >>= fun cs => M.ofo (itemsOf ik cs) >>= fun xs => pure (os, cs, xs)) s) := q
  cases hq : evs N es s with
  | bad => rw [bind_bad hq] at q'; exact q'
  | exc x s1 => rw [bind_exc hq] at q'; exact q'
  | ok os s1 =>
    rw [bind_ok hq] at q'
    obtain ⟨cs, ecs, q2⟩ := oG.conts q'
    obtain ⟨xs, exs, q3⟩ := oG.ofoB q2
    intro H1 al1 st1 vs r1 n1 nd
    exact k os cs xs s1 H1 al1 vs (by rw [mapM_len ecs, evs_len hq]) st1 r1 (conts_rep st1.sr r1 ecs) exs fun J w => q3 H1 al1 st1 vs J r1 ecs w
theorem items_range {cs : List SV} {xs : List PV} (h : itemsOf .range cs = some xs) : (∃ n : Int, cs = [.pv (.int n)] ∧ (-(2 ^ 62) ≤ n ∧ n < 2 ^ 62) ∧ xs = (List.range n.toNat).map fun (i : Nat) => PV.int (i : Int)) ∨
    ∃ a b : Int, cs = [.pv (.int a), .pv (.int b)] ∧ (-(2 ^ 62) ≤ a ∧ a < 2 ^ 62 ∧ -(2 ^ 62) ≤ b ∧ b < 2 ^ 62) ∧ xs = (List.range (b - a).toNat).map fun (i : Nat) => PV.int (a + (i : Int)) := by
  unfold itemsOf at h
  split at h
  any_goals contradiction
  · split at h
    · rename_i hb
      cases h
      exact .inl ⟨_, rfl, hb, rfl⟩
    · cases h
  · split at h
    · rename_i hb
      cases h
      exact .inr ⟨_, _, rfl, hb, rfl⟩
    · cases h
theorem i_range1 (ok : XOk Z W X) {tg e : Expr} {as : List E} {p pos : Pos} (hl : as.length = 1) (hg : Gl X "range") (hm : X.mg "range" = none) (ha : PA X [e] (tL Z W (evs N as))) (hs : starEach [e] X.env = [(false, eval e X.env)]) :
    PI X tg (.Call (.Name "range" p) [e] [] pos) (tI Z W tt (evI N .range as)) := by
  refine ⟨fun pins s0 σ H R I ⟨s, al, sr, q⟩ => (pi_range1 hg hm ha hs).run pins s0 σ H R I ⟨s, al, sr, ?_⟩⟩
  refine evI_parts q fun os cs xs s1 H1 al1 vs lc st1 r1 rc exs k => ?_
  rcases items_range exs with ⟨n, rfl, hb, rfl⟩ | ⟨a, b, rfl, _⟩
  · obtain ⟨v, rfl, g⟩ := RepCs.one rc
    cases g
    refine ⟨n, rfl, hb.1, hb.2, k _ ?_⟩
    have w := walk_range (Z := Z) (tt := tt) (lo := 0) (n := n.toNat) (cs := [.pv (.int n)]) (vs := [V.int n])
    simpa using w
  · rw [hl] at lc; cases lc
theorem i_range2 (ok : XOk Z W X) {tg e e2 : Expr} {as : List E} {p pos : Pos} (hl : as.length = 2) (hg : Gl X "range") (hm : X.mg "range" = none) (ha : PA X [e, e2] (tL Z W (evs N as))) (hs : starEach [e, e2] X.env = [(false, eval e X.env), (false, eval e2 X.env)]) (hs2 : starEach [e2] X.env = [(false, eval e2 X.env)]) :
    PI X tg (.Call (.Name "range" p) [e, e2] [] pos) (tI Z W tt (evI N .range as)) := by
  refine ⟨fun pins s0 σ H R I ⟨s, al, sr, q⟩ => (pi_range2 hg hm ha hs hs2).run pins s0 σ H R I ⟨s, al, sr, ?_⟩⟩
  refine evI_parts q fun os cs xs s1 H1 al1 vs lc st1 r1 rc exs k => ?_
  rcases items_range exs with ⟨n, rfl, _⟩ | ⟨a, b, rfl, hb, rfl⟩
  · rw [hl] at lc; cases lc
  · obtain ⟨v, w, rfl, g, g'⟩ := RepCs.two rc
    cases g; cases g'
    exact ⟨a, b, rfl, hb, k _ walk_range⟩
theorem items_zip {cs : List SV} {xs : List PV} (h : itemsOf .zip cs = some xs) : ∃ ys zs, xs = (ys.zip zs).map (fun p => PV.tup [p.1, p.2]) ∧ (cs = [.own (.lst ys), .own (.lst zs)] ∨ cs = [.pv (.tup ys), .pv (.tup zs)] ∨ ∃ s : Tx, s.all (fun c => decide (c < 128)) = true ∧ ys = s.map (fun c => PV.str [c]) ∧ cs = [.pv (.str s), .pv (.tup zs)]) := by
  unfold itemsOf at h
  split at h
  any_goals contradiction
  · cases h; exact ⟨_, _, rfl, .inl rfl⟩
  · cases h; exact ⟨_, _, rfl, .inr (.inl rfl)⟩
  · split at h
    · rename_i hs
      cases h; exact ⟨_, _, rfl, .inr (.inr ⟨_, hs, rfl, rfl⟩)⟩
    · cases h
theorem zip_get {ys zs : List PV} {i : Nat} (h : i < ((ys.zip zs).map fun p => PV.tup [p.1, p.2]).length) : ∃ y z, ys[i]? = some y ∧ zs[i]? = some z ∧ ((ys.zip zs).map fun p => PV.tup [p.1, p.2])[i]? = some (.tup [y, z]) := by
  rw [List.length_map, List.length_zip] at h
  have h1 : i < ys.length := by omega
  have h2 : i < zs.length := by omega
  refine ⟨ys[i], zs[i], List.getElem?_eq_getElem h1, List.getElem?_eq_getElem h2, ?_⟩
  have hz : (ys.zip zs)[i]? = some (ys[i], zs[i]) := List.getElem?_zip_eq_some.mpr ⟨List.getElem?_eq_getElem h1, List.getElem?_eq_getElem h2⟩
  rw [List.getElem?_map, hz]
  rfl
theorem walk_zip {a b : Addr} {cs : List SV} {ys zs : List PV} (rd : ∀ {H al}, RepCs Z H al cs [.ref a, .ref b] → ∃ ws us, SqL Z.K H a ws ∧ RepVs Z H al ys ws ∧ SqL Z.K H b us ∧ RepVs Z H al zs us) :
    Walk Z true (Itz Z.K a b) cs [.ref a, .ref b] ((ys.zip zs).map fun p => PV.tup [p.1, p.2]) := by
  refine ⟨fun i H al r hi => ?_, fun i H al x H' r li0 y => ?_, fun i H al r hi => ?_⟩
  · obtain ⟨ws, us, g1, g2, g3, g4⟩ := rd r
    obtain ⟨y, z, e1, e2, _⟩ := zip_get hi
    obtain ⟨w, e3, _⟩ := g2.get e1
    obtain ⟨u, e4, _⟩ := g4.get e2
    exact ⟨ws, us, w, u, g1, g3, e3, e4⟩
  · obtain ⟨T, w, u, e, hn, e2, h1, h2⟩ := y
    subst e e2
    obtain ⟨ws, us, g1, g2, g3, g4⟩ := rd r
    obtain ⟨y, z, e1, e2, e3⟩ := zip_get li0
    obtain ⟨w', e4, r4⟩ := g2.get e1
    obtain ⟨u', e5, r5⟩ := g4.get e2
    rw [h1 ws g1] at e4
    cases e4
    rw [h2 us g3] at e5
    cases e5
    refine ⟨same_new hn _, _, e3, T, [w, u], rfl, .of upd_same, ?_⟩
    exact ⟨w, _, rfl, r4.same (same_new hn _), u, _, rfl, r5.same (same_new hn _), rfl⟩
  · obtain ⟨ws, us, g1, g2, g3, g4⟩ := rd r
    rw [List.length_map, List.length_zip] at hi
    have l1 := g2.length
    have l2 := g4.length
    exact ⟨ws, us, g1, g3, by omega⟩
theorem walk_zipT {a b : Addr} {cs : List SV} {ys zs : List PV} (rd : ∀ {H al}, RepCs Z H al cs [.ref a, .ref b] → ∃ ws us, SqT Z.K H a ws ∧ RepVs Z H al ys ws ∧ SqT Z.K H b us ∧ RepVs Z H al zs us) :
    Walk Z true (ItzT Z.K a b) cs [.ref a, .ref b] ((ys.zip zs).map fun p => PV.tup [p.1, p.2]) := by
  refine ⟨fun i H al r hi => ?_, fun i H al x H' r li0 y => ?_, fun i H al r hi => ?_⟩
  · obtain ⟨ws, us, g1, g2, g3, g4⟩ := rd r
    obtain ⟨y, z, e1, e2, _⟩ := zip_get hi
    obtain ⟨w, e3, _⟩ := g2.get e1
    obtain ⟨u, e4, _⟩ := g4.get e2
    exact ⟨ws, us, w, u, g1, g3, e3, e4⟩
  · obtain ⟨T, w, u, e, hn, e2, h1, h2⟩ := y
    subst e e2
    obtain ⟨ws, us, g1, g2, g3, g4⟩ := rd r
    obtain ⟨y, z, e1, e2, e3⟩ := zip_get li0
    obtain ⟨w', e4, r4⟩ := g2.get e1
    obtain ⟨u', e5, r5⟩ := g4.get e2
    rw [h1 ws g1] at e4
    cases e4
    rw [h2 us g3] at e5
    cases e5
    refine ⟨same_new hn _, _, e3, T, [w, u], rfl, .of upd_same, ?_⟩
    exact ⟨w, _, rfl, r4.same (same_new hn _), u, _, rfl, r5.same (same_new hn _), rfl⟩
  · obtain ⟨ws, us, g1, g2, g3, g4⟩ := rd r
    rw [List.length_map, List.length_zip] at hi
    have l1 := g2.length
    have l2 := g4.length
    exact ⟨ws, us, g1, g3, by omega⟩
theorem walk_zipS {b : Addr} {s : Tx} {cs : List SV} {zs : List PV} {vs : List V} (rd : ∀ {H al}, RepCs Z H al cs vs → ∃ us, SqT Z.K H b us ∧ RepVs Z H al zs us) :
    Walk Z true (ItzS Z.K (toStr s) b) cs vs (((s.map fun c => PV.str [c]).zip zs).map fun p => PV.tup [p.1, p.2]) := by
  have cg : ∀ i : Nat, (toStr s).cps[i]? = s[i]? := fun i => by simp [toStr]
  have cz : (toStr s).cps.size = s.length := by simp [toStr]
  refine ⟨fun i H al r hi => ?_, fun i H al x H' r li0 y => ?_, fun i H al r hi => ?_⟩
  · obtain ⟨us, g3, g4⟩ := rd r
    obtain ⟨y, z, e1, e2, _⟩ := zip_get hi
    obtain ⟨u, e4, _⟩ := g4.get e2
    rw [List.getElem?_map] at e1
    obtain ⟨c, e5, _⟩ := Option.map_eq_some_iff.mp e1
    exact ⟨us, c, u, g3, by rw [cg]; exact e5, e4⟩
  · obtain ⟨T, c, u, e, hn, e2, h1, h2⟩ := y
    subst e e2
    obtain ⟨us, g3, g4⟩ := rd r
    obtain ⟨y, z, e1, e2, e3⟩ := zip_get li0
    rw [List.getElem?_map] at e1
    obtain ⟨c', e6, e7⟩ := Option.map_eq_some_iff.mp e1
    rw [cg, e6] at h1
    cases h1
    subst e7
    obtain ⟨u', e5, r5⟩ := g4.get e2
    rw [h2 us g3] at e5
    cases e5
    refine ⟨same_new hn _, _, e3, T, [.str ⟨#[c]⟩, u], rfl, .of upd_same, ?_⟩
    exact ⟨.str ⟨#[c]⟩, _, rfl, rfl, u, _, rfl, r5.same (same_new hn _), rfl⟩
  · obtain ⟨us, g3, g4⟩ := rd r
    have l2 := g4.length
    rw [List.length_map, List.length_zip, List.length_map] at hi
    exact ⟨us, g3, by rw [cz]; omega, by omega, by rw [cz]; omega⟩
theorem i_zip (ok : XOk Z W X) {e e2 : Expr} {elts : List Expr} {kk : Nat} {tpos : Pos} {as : List E} {p pos : Pos} (hg : Gl X "zip") (hm : X.mg "zip" = none) (ha : PA X [e, e2] (tL Z W (evs N as)))
    (hs : starEach [e, e2] X.env = (false, eval e X.env) :: starEach [e2] X.env) (hpl : (backTo pos (starEach [e2] X.env)).any (·.1) = false) :
    PI X (.Tuple elts kk tpos) (.Call (.Name "zip" p) [e, e2] [] pos) (tI Z W true (evI N .zip as)) := by
  refine ⟨fun pins s0 σ H R I ⟨s, al, sr, q⟩ => (pi_zipS hg hm ha hs hpl).run pins s0 σ H R I ⟨s, al, sr, ?_⟩⟩
  refine evI_parts q fun os cs xs s1 H1 al1 vs lc st1 r1 rc exs k => ?_
  obtain ⟨ys, zs, rfl, e | e | ⟨tx, ht, rfl, e⟩⟩ := items_zip exs
  · subst e
    obtain ⟨v, w, rfl, ⟨a, rfl, ws, g1, g2⟩, ⟨b, rfl, us, g3, g4⟩⟩ := RepCs.two rc
    refine .inl ⟨a, b, ws, us, rfl, .inl ⟨by rw [ok.hK]; exact .of g1, by rw [ok.hK]; exact .of g3, ?_⟩⟩
    rw [ok.hK]
    refine k _ (walk_zip fun r => ?_)
    obtain ⟨v, w, e, ⟨a', e1, ws', h1, h2⟩, ⟨b', e2, us', h3, h4⟩⟩ := RepCs.two r
    cases e; cases e1; cases e2
    exact ⟨ws', us', .of h1, h2, .of h3, h4⟩
  · subst e
    obtain ⟨v, w, rfl, ⟨a, ws, rfl, g1, g2⟩, ⟨b, us, rfl, g3, g4⟩⟩ := RepCs.two rc
    refine .inl ⟨a, b, ws, us, rfl, .inr ⟨by rw [ok.hK]; exact g1.t, by rw [ok.hK]; exact g3.t, ?_⟩⟩
    rw [ok.hK]
    refine k _ (walk_zipT fun r => ?_)
    obtain ⟨v, w, e, ⟨a', ws', e1, h1, h2⟩, ⟨b', us', e2, h3, h4⟩⟩ := RepCs.two r
    cases e; cases e1; cases e2
    exact ⟨ws', us', h1.t, h2, h3.t, h4⟩
  · subst e
    obtain ⟨v, w, rfl, g1, ⟨b, us, rfl, g3, g4⟩⟩ := RepCs.two rc
    cases g1
    refine .inr ⟨toStr tx, b, us, rfl, ?_, by rw [ok.hK]; exact g3.t, ?_⟩
    · rw [Array.all_eq_true']
      intro c hc
      exact List.all_eq_true.mp ht c (by simpa [toStr] using hc)
    rw [ok.hK]
    refine k _ (walk_zipS fun r => ?_)
    obtain ⟨v, w, e, _, ⟨b', us', e2, h3, h4⟩⟩ := RepCs.two r
    cases e; cases e2
    exact ⟨us', h3.t, h4⟩

theorem walk_enum {a : Addr} {xs : List PV} : Walk Z true (Ite Z.K a) [.own (.lst xs)] [.ref a] (xs.zipIdx.map fun p => PV.tup [.int p.2, p.1]) := by
  have rd : ∀ {H al}, RepCs Z H al [.own (.lst xs)] [.ref a] → ∃ ws, SqL Z.K H a ws ∧ RepVs Z H al xs ws := by
    intro H al r
    obtain ⟨v, e, g⟩ := RepCs.one r
    cases e
    obtain ⟨b, e, ws, g1, g2⟩ := g; cases e; exact ⟨ws, .of g1, g2⟩
  refine ⟨fun i H al r hi => ?_, fun i H al x H' r li0 y => ?_, fun i H al r hi => ?_⟩
  · obtain ⟨ws, g1, g2⟩ := rd r
    rw [List.length_map, List.length_zipIdx] at hi
    have li : i < ws.length := by rw [g2.length]; exact hi
    exact ⟨ws, ws[i], g1, List.getElem?_eq_getElem li⟩
  · obtain ⟨T, u, e, hn, e2, h1⟩ := y
    subst e e2
    obtain ⟨ws, g1, g2⟩ := rd r
    have e := h1 ws g1
    have li : i < xs.length := by rw [← g2.length]; exact lt_of_get e
    obtain ⟨w, e1, e2⟩ := g2.get (List.getElem?_eq_getElem li)
    rw [e] at e1
    cases e1
    refine ⟨same_new hn _, .tup [.int i, xs[i]], ?_, T, [.int (i : Nat), u], rfl, .of upd_same, ?_⟩
    · rw [List.getElem?_map, List.getElem?_zipIdx, List.getElem?_eq_getElem li, Nat.zero_add]; rfl
    · exact ⟨.int i, _, rfl, rfl, u, _, rfl, e2.same (same_new hn _), rfl⟩
  · obtain ⟨ws, g1, g2⟩ := rd r
    rw [List.length_map, List.length_zipIdx] at hi
    exact ⟨ws, g1, by rw [g2.length]; exact Nat.le_of_eq hi⟩
theorem walk_enumN {a : Addr} {xs : List PV} : Walk Z true (KvN.ItN Z.K a) [.pv (.tup xs)] [.ref a] (xs.zipIdx.map fun p => PV.tup [.int p.2, p.1]) := by
  have rd : ∀ {H al}, RepCs Z H al [.pv (.tup xs)] [.ref a] → ∃ ws, SqT Z.K H a ws ∧ RepVs Z H al xs ws := by
    intro H al r
    obtain ⟨v, e, b, ws, e2, g1, g2⟩ := RepCs.one r
    cases e; cases e2
    exact ⟨ws, g1.t, g2⟩
  refine ⟨fun i H al r hi => ?_, fun i H al x H' r li0 y => ?_, fun i H al r hi => ?_⟩
  · obtain ⟨ws, g1, g2⟩ := rd r
    rw [List.length_map, List.length_zipIdx] at hi
    have li : i < ws.length := by rw [g2.length]; exact hi
    exact ⟨ws, ws[i], g1, List.getElem?_eq_getElem li⟩
  · obtain ⟨T, u, e, hn, e2, h1⟩ := y
    subst e e2
    obtain ⟨ws, g1, g2⟩ := rd r
    have e := h1 ws g1
    have li : i < xs.length := by rw [← g2.length]; exact lt_of_get e
    obtain ⟨w, e1, e2⟩ := g2.get (List.getElem?_eq_getElem li)
    rw [e] at e1
    cases e1
    refine ⟨same_new hn _, .tup [.int i, xs[i]], ?_, T, [.int (i : Nat), u], rfl, .of upd_same, ?_⟩
    · rw [List.getElem?_map, List.getElem?_zipIdx, List.getElem?_eq_getElem li, Nat.zero_add]; rfl
    · exact ⟨.int i, _, rfl, rfl, u, _, rfl, e2.same (same_new hn _), rfl⟩
  · obtain ⟨ws, g1, g2⟩ := rd r
    rw [List.length_map, List.length_zipIdx] at hi
    exact ⟨ws, g1, by rw [g2.length]; exact hi⟩
theorem i_enum (ok : XOk Z W X) {e : Expr} {elts : List Expr} {kk : Nat} {tpos : Pos} {as : List E} {p pos : Pos} (hg : Gl X "enumerate") (hm : X.mg "enumerate" = none) (ha : PA X [e] (tL Z W (evs N as)))
    (hs : starEach [e] X.env = [(false, eval e X.env)]) :
    PI X (.Tuple elts kk tpos) (.Call (.Name "enumerate" p) [e] [] pos) (tI Z W true (evI N .enum as)) := by
  refine ⟨fun pins s0 σ H R I ⟨s, al, sr, q⟩ => (KvN.pi_enumN hg hm ha hs).run pins s0 σ H R I ⟨s, al, sr, ?_⟩⟩
  refine evI_parts q fun os cs xs s1 H1 al1 vs lc st1 r1 rc exs k => ?_
  unfold itemsOf at exs
  split at exs
  any_goals contradiction
  · cases exs
    obtain ⟨v, rfl, ⟨a, rfl, ws, g1, g2⟩⟩ := RepCs.one rc
    refine ⟨a, ws, rfl, .inl ⟨by rw [ok.hK]; exact .of g1, ?_⟩⟩
    rw [ok.hK]
    exact k _ walk_enum
  · cases exs
    obtain ⟨v, rfl, ⟨a, ws, rfl, g1, g2⟩⟩ := RepCs.one rc
    refine ⟨a, ws, rfl, .inr ⟨by rw [ok.hK]; exact g1.t, ?_⟩⟩
    rw [ok.hK]
    exact k _ walk_enumN

end

/-! ### targets -/
mutual
def gOf (K : PySem.W.Frag) : T → TG
  | .nm i => gName i
  | .tup ts => gTup K ts.length (gOfs K ts)
def gOfs (K : PySem.W.Frag) : List T → TGs
  | [] => gNil
  | t :: r => gCons (gOf K t) (gOfs K r)
end
section
variable {s : Kv.St} {σ : L2.St} {H : Hp} {al : List Addr}
/-- a slot gets a value -/
theorem SR.assign (r : SR Z H al s σ) {i : Nat} {v : SV} {x : V} (h : RepP Z H al s σ (.val v) x) :
    SR Z H al (s.put i (some v)) (σ.set i (some x)) ∧ ∀ b, Ft al (s.put i (some v)) (σ.set i (some x)) b → Ft al s σ b ∨ (IsTemp (.val v) = true ∧ x = .ref b) := by
  have own : ∀ {j : Nat} {b : Addr}, OwnAt (s.put i (some v)) (σ.set i (some x)) j b → (j = i ∧ (∃ o, v = .own o) ∧ x = .ref b) ∨ (j ≠ i ∧ OwnAt s σ j b) := by
    rintro j b ⟨o, h1, h2⟩
    have h1' : (s.sg.set i (some v))[j]? = some (some (SV.own o)) := h1
    rcases set_get h1' with ⟨e, e1⟩ | ⟨e, e1⟩
    · subst e
      injection e1 with e1
      rcases set_get h2 with ⟨_, e2⟩ | ⟨e2, _⟩
      · injection e2 with e2
        exact .inl ⟨rfl, ⟨o, e1.symm⟩, e2.symm⟩
      · exact absurd rfl e2
    · rcases set_get h2 with ⟨e2, _⟩ | ⟨_, e2⟩
      · exact absurd e2 e
      · exact .inr ⟨e, o, e1, e2⟩
  have new : ∀ {b : Addr}, (∃ o, v = .own o) → x = .ref b → ¬ Ft al s σ b := by
    rintro b ⟨o, rfl⟩ e
    obtain ⟨a, e1, _, _, g⟩ := h
    rw [e] at e1
    cases e1
    exact g
  refine ⟨⟨by simpa [St.put] using r.len, r.aln, r.mu, fun j w hj => ?_, fun j o hj => ?_, r.nd, fun j n b h1 h2 => ?_, fun j j' b h1 h2 => ?_⟩, fun b hb => ?_⟩
  · have hj' : (s.sg.set i (some v))[j]? = some (some w) := hj
    rcases set_get hj' with ⟨e, e1⟩ | ⟨e, e1⟩
    · subst e
      injection e1 with e1
      subst e1
      refine ⟨x, ?_, ?_⟩
      · have : j < σ.length := by rw [r.len]; simpa using lt_of_get hj'
        rw [List.getElem?_set_self this]
      · cases w with
        | pv p => exact h
        | own o => obtain ⟨a, e, g, _⟩ := h; exact ⟨a, e, g⟩
    · obtain ⟨u, e2, e3⟩ := r.sg j w e1
      exact ⟨u, by rw [List.getElem?_set_ne (fun z => e z.symm)]; exact e2, e3⟩
  · have hj' : (s.sg.set i (some v))[j]? = some (some (SV.own o)) := hj
    rcases set_get hj' with ⟨e, e1⟩ | ⟨e, e1⟩
    · injection e1 with e1
      subst e1
      obtain ⟨_, _, _, g, _⟩ := h
      exact g
    · exact r.tr j o e1
  · rcases own h1 with ⟨_, z, z'⟩ | ⟨_, z⟩
    · exact new z z' (.inl ⟨n, h2⟩)
    · exact r.off j n b z h2
  · rcases own h1 with ⟨e1, z1, y1⟩ | ⟨e1, z1⟩
    · rcases own h2 with ⟨e2, z2, y2⟩ | ⟨e2, z2⟩
      · exact e1.trans e2.symm
      · exact absurd (.inr ⟨j', z2⟩) (new z1 y1)
    · rcases own h2 with ⟨e2, z2, y2⟩ | ⟨e2, z2⟩
      · exact absurd (.inr ⟨j, z1⟩) (new z2 y2)
      · exact r.inj j j' b z1 z2
  · rcases hb with hb | ⟨j, hb⟩
    · exact .inl (.inl hb)
    · rcases own hb with ⟨_, ⟨o, rfl⟩, z⟩ | ⟨_, z⟩
      · exact .inr ⟨rfl, z⟩
      · exact .inl (.inr ⟨j, z⟩)
/-- what is bound -/
structure Bnd (Z : Kx) (H : Hp) (al : List Addr) (s : Kv.St) (σ : L2.St) (sl : List Nat) (v : SV) (x : V) (sg' : List (Option SV)) (σ' : L2.St) : Prop where
  sr : SR Z H al { s with sg := sg' } σ'
  ft : ∀ b, Ft al { s with sg := sg' } σ' b → Ft al s σ b ∨ (IsTemp (.val v) = true ∧ x = .ref b)
  ln : σ'.length = σ.length
  out : ∀ j, j ∉ sl → σ'[j]? = σ[j]? ∧ sg'[j]? = s.sg[j]?
mutual
theorem gOf_ok : ∀ {t : T} {v : SV} {sg' : List (Option SV)} {s : Kv.St} {σ : L2.St} {x : V} {R : L2.St → Hp → Prop}, SR Z H al s σ → RepP Z H al s σ (.val v) x → bindT t v s.sg = some sg' → (∀ σ', Bnd Z H al s σ t.slots v x sg' σ' → R σ' H) → gOf Z.K t x σ H R
  | .nm i, v, sg', s, σ, x, R, r, h, e, k => by
    have e' : some (s.sg.set i (some v)) = some sg' := e
    injection e' with e'
    obtain ⟨h1, h2⟩ := r.assign (i := i) h
    refine k _ ⟨by rw [← e']; exact h1, by rw [← e']; exact h2, by simp, fun j hj => ?_⟩
    have hj' : i ≠ j := fun z => hj (by rw [z]; exact List.mem_singleton.mpr rfl)
    rw [← e', List.getElem?_set_ne hj', List.getElem?_set_ne hj']
    exact ⟨rfl, rfl⟩
  | .tup ts, .own o, sg', s, σ, x, R, r, h, e, k => by cases e
  | .tup ts, .pv p, sg', s, σ, x, R, r, h, e, k => by
    cases p with
    | tup xs =>
      obtain ⟨a, vs, e1, h1, h2⟩ := h
      have e' : bindTs ts xs s.sg = some sg' := e
      exact ⟨a, vs, e1, h1.t, by rw [h2.length]; exact bindTs_len e', gOfs_ok r h2 e' fun σ' b => k σ' ⟨b.sr, fun c hc => .inl (b.ft c hc |>.elim id fun z => nomatch z.1), b.ln, b.out⟩⟩
    | _ => cases e
theorem gOfs_ok : ∀ {ts : List T} {xs : List PV} {sg' : List (Option SV)} {s : Kv.St} {σ : L2.St} {vs : List V} {R : L2.St → Hp → Prop}, SR Z H al s σ → RepVs Z H al xs vs → bindTs ts xs s.sg = some sg' →
    (∀ σ', Bnd Z H al s σ (T.slotss ts) (.pv .non) .non sg' σ' → R σ' H) → gOfs Z.K ts vs σ H R
  | [], [], sg', s, σ, vs, R, r, h, e, k => by
    have e' : some s.sg = some sg' := e
    injection e' with e'
    subst e'
    exact ⟨h, k σ ⟨r, fun b hb => .inl hb, rfl, fun j _ => ⟨rfl, rfl⟩⟩⟩
  | [], _ :: _, sg', s, σ, vs, R, r, h, e, k => by cases e
  | _ :: _, [], sg', s, σ, vs, R, r, h, e, k => by cases e
  | t :: ts, x :: xs, sg', s, σ, vs, R, r, ⟨v, vr, ev, h1, h2⟩, e, k => by
    subst ev
    have e' : (bindT t (.pv x) s.sg).bind (fun sg1 => bindTs ts xs sg1) = some sg' := e
    cases hb : bindT t (.pv x) s.sg with
    | none => rw [hb] at e'; cases e'
    | some sg1 =>
      rw [hb] at e'
      refine ⟨v, vr, rfl, gOf_ok r (v := .pv x) h1 hb fun σ1 b1 => ?_⟩
      refine gOfs_ok (s := { s with sg := sg1 }) b1.sr h2 e' fun σ2 b2 => k σ2 ⟨b2.sr, fun c hc => ?_, b2.ln.trans b1.ln, fun j hj => ?_⟩
      · rcases b2.ft c hc with z | z
        · rcases b1.ft c z with y | y
          · exact .inl y
          · cases y.1
        · cases z.1
      · have hj' : j ∉ t.slots ++ T.slotss ts := hj
        rw [List.mem_append, not_or] at hj'
        have q1 := b1.out j hj'.1
        have q2 := b2.out j hj'.2
        exact ⟨q2.1.trans q1.1, q2.2.trans q1.2⟩
theorem bindTs_len : ∀ {ts : List T} {xs : List PV} {sg sg' : List (Option SV)}, bindTs ts xs sg = some sg' → xs.length = ts.length
  | [], [], _, _, _ => rfl
  | [], _ :: _, _, _, e => by cases e
  | _ :: _, [], _, _, e => by cases e
  | t :: ts, x :: xs, sg, sg', e => by
    have e' : (bindT t (.pv x) sg).bind (fun sg1 => bindTs ts xs sg1) = some sg' := e
    cases hb : bindT t (.pv x) sg with
    | none => rw [hb] at e'; cases e'
    | some sg1 =>
      rw [hb] at e'
      rw [List.length_cons, List.length_cons, bindTs_len e']
end
end
/-- an item of a walk is bound -/
theorem gOf_okX {H : Hp} {al : List Addr} {t : T} {p : PV} {sg' : List (Option SV)} {s : Kv.St} {σ : L2.St} {x : V} {R : L2.St → Hp → Prop} (r : SR Z H al s σ) (h : RepX Z H al t.isTup p x) (e : bindT t (.pv p) s.sg = some sg') (k : ∀ σ', Bnd Z H al s σ t.slots (.pv p) x sg' σ' → R σ' H) : gOf Z.K t x σ H R := by
  cases t with
  | nm i =>
    have h' : RepV Z H al p x := by cases p <;> exact h
    exact gOf_ok r (v := .pv p) h' e k
  | tup ts =>
    cases p with
    | tup xs =>
      obtain ⟨a, vs, e1, h1, h2⟩ := h
      have e' : bindTs ts xs s.sg = some sg' := e
      exact ⟨a, vs, e1, h1, by rw [h2.length]; exact bindTs_len (Z := Z) (H := H) (al := al) e', gOfs_ok r h2 e' fun σ' b => k σ' ⟨b.sr, fun c hc => .inl (b.ft c hc |>.elim id fun z => nomatch z.1), b.ln, b.out⟩⟩
    | _ => cases e
end Kv

set_option Elab.async false
set_option linter.all false
set_option maxRecDepth 100000
/-! Comprehensions. -/
namespace Kv
open PySem L2 PySem.Spec PyProof.Rows
variable {Z : Kx} {W : WX}

theorem wipeS_len (sg : List (Option SV)) : ∀ own : List Nat, (wipeS sg own).length = sg.length
  | [] => rfl
  | i :: r => by unfold wipeS; rw [List.length_set, wipeS_len sg r]
theorem wipeS_get {sg : List (Option SV)} {j : Nat} {v : SV} : ∀ {own : List Nat}, (wipeS sg own)[j]? = some (some v) ↔ sg[j]? = some (some v) ∧ j ∉ own
  | [] => by simp [wipeS]
  | i :: r => by
    unfold wipeS
    have ih := @wipeS_get sg j v r
    by_cases c : i = j
    · subst c
      constructor
      · intro h
        rcases set_get h with ⟨_, e⟩ | ⟨e, _⟩
        · cases e
        · exact absurd rfl e
      · rintro ⟨_, h⟩
        exact absurd List.mem_cons_self h
    · rw [List.getElem?_set_ne c, ih]
      constructor
      · rintro ⟨h1, h2⟩; exact ⟨h1, by simp only [List.mem_cons, not_or]; exact ⟨fun e => c e.symm, h2⟩⟩
      · rintro ⟨h1, h2⟩; exact ⟨h1, fun z => h2 (List.mem_cons_of_mem _ z)⟩
theorem wipe_get {σ : L2.St} {j : Nat} {v : V} : ∀ {own : List Nat}, (L2.wipe σ own)[j]? = some (some v) ↔ σ[j]? = some (some v) ∧ j ∉ own
  | [] => by simp [L2.wipe]
  | i :: r => by
    unfold L2.wipe
    have ih := @wipe_get σ j v r
    by_cases c : i = j
    · subst c
      constructor
      · intro h
        rcases set_get h with ⟨_, e⟩ | ⟨e, _⟩
        · cases e
        · exact absurd rfl e
      · rintro ⟨_, h⟩
        exact absurd List.mem_cons_self h
    · rw [List.getElem?_set_ne c, ih]
      constructor
      · rintro ⟨h1, h2⟩; exact ⟨h1, by simp only [List.mem_cons, not_or]; exact ⟨fun e => c e.symm, h2⟩⟩
      · rintro ⟨h1, h2⟩; exact ⟨h1, fun z => h2 (List.mem_cons_of_mem _ z)⟩
theorem layBack_len (old sg : List (Option SV)) : ∀ own : List Nat, (layBack old sg own).length = sg.length
  | [] => rfl
  | i :: r => by unfold layBack; rw [List.length_set, layBack_len old sg r]
theorem layBack_get {old sg : List (Option SV)} {j : Nat} {v : SV} : ∀ {own : List Nat}, (layBack old sg own)[j]? = some (some v) → (j ∈ own ∧ old[j]? = some (some v)) ∨ (j ∉ own ∧ sg[j]? = some (some v))
  | [], h => .inr ⟨by simp, h⟩
  | i :: r, h => by
    unfold layBack at h
    rcases set_get h with ⟨c, e⟩ | ⟨c, h'⟩
    · subst c
      refine .inl ⟨List.mem_cons_self, ?_⟩
      cases q : old[j]? with
      | none => rw [q] at e; cases e
      | some w => rw [q] at e; exact congrArg some e.symm
    · rcases layBack_get h' with ⟨h1, h2⟩ | ⟨h1, h2⟩
      · exact .inl ⟨List.mem_cons_of_mem _ h1, h2⟩
      · exact .inr ⟨by simp only [List.mem_cons, not_or]; exact ⟨c, h1⟩, h2⟩

section
variable {s s1 : Kv.St} {σ σ2 : L2.St} {H H1 : Hp} {al al1 : List Addr} {own : List Nat}
theorem OwnAt.wipe {i : Nat} {b : Addr} : OwnAt (s.wipe own) (L2.wipe σ own) i b ↔ OwnAt s σ i b ∧ i ∉ own := by
  constructor
  · rintro ⟨o, h1, h2⟩
    have z := wipeS_get.mp h1
    exact ⟨⟨o, z.1, (wipe_get.mp h2).1⟩, z.2⟩
  · rintro ⟨⟨o, h1, h2⟩, h3⟩
    exact ⟨o, wipeS_get.mpr ⟨h1, h3⟩, wipe_get.mpr ⟨h2, h3⟩⟩
theorem Ft.wipe {b : Addr} (h : Ft al (s.wipe own) (L2.wipe σ own) b) : Ft al s σ b := h.elim .inl fun ⟨i, q⟩ => .inr ⟨i, (OwnAt.wipe.mp q).1⟩
theorem SR.wipe (r : SR Z H al s σ) : SR Z H al (s.wipe own) (L2.wipe σ own) := by
  refine ⟨by rw [L2.wipe_length]; show _ = (wipeS s.sg own).length; rw [wipeS_len]; exact r.len, r.aln, r.mu, fun i v h => ?_, fun i o h => r.tr i o (wipeS_get.mp h).1, r.nd, fun i n b h => r.off i n b (OwnAt.wipe.mp h).1, fun i j b h h' => r.inj i j b (OwnAt.wipe.mp h).1 (OwnAt.wipe.mp h').1⟩
  have z := wipeS_get.mp h
  obtain ⟨u, e, q⟩ := r.sg i v z.1
  exact ⟨u, wipe_get.mpr ⟨e, z.2⟩, q⟩
theorem RepP.wipe {o : Opd} {v : V} (h : RepP Z H al s σ o v) (hn : ∀ i, o = .slot i → i ∉ own) : RepP Z H al (s.wipe own) (L2.wipe σ own) o v := by
  cases o with
  | val w =>
    cases w with
    | pv p => exact h
    | own ob => obtain ⟨a, e, g1, g2, g3⟩ := h; exact ⟨a, e, g1, g2, fun z => g3 z.wipe⟩
  | slot i => exact wipe_get.mpr ⟨h, hn i rfl⟩
  | tab ob => exact h
theorem Reps.wipe : ∀ {os : List Opd} {vs : List V}, Reps Z H al s σ os vs → (∀ i, Opd.slot i ∈ os → i ∉ own) → Reps Z H al (s.wipe own) (L2.wipe σ own) os vs
  | [], _, h, _ => h
  | o :: os, _, ⟨v, vr, e, h1, h2⟩, hn => ⟨v, vr, e, h1.wipe fun i e => hn i (e ▸ List.mem_cons_self), Reps.wipe h2 fun i z => hn i (List.mem_cons_of_mem _ z)⟩
/-- what stands in a block stands in slots that are not its own -/
theorem stands_slots {os : List Opd} {cs : List SV} (h : stands os cs (s.wipe own) = true) : ∀ i, Opd.slot i ∈ os → i ∉ own := by
  intro i hi z
  have e : os.map (cont · (s.wipe own)) = cs.map some := of_decide_eq_true h
  have m : cont (.slot i) (s.wipe own) ∈ cs.map some := by rw [← e]; exact List.mem_map_of_mem hi
  have n : cont (.slot i) (s.wipe own) = none := by
    have g : (s.wipe own).get i = none := by
      cases q : (s.wipe own).get i with
      | none => rfl
      | some w => exact absurd z (wipeS_get.mp (get_some q)).2
    simp only [cont, g]
  rw [n] at m
  obtain ⟨c, _, e2⟩ := List.mem_map.mp m
  cases e2
theorem stands_mapM {os : List Opd} {cs : List SV} {s : Kv.St} (h : stands os cs s = true) : os.mapM (cont · s) = some cs := by
  have e : os.map (cont · s) = cs.map some := of_decide_eq_true h
  clear h
  induction os generalizing cs with
  | nil =>
    cases cs with
    | nil => rfl
    | cons c cs => cases e
  | cons o os ih =>
    cases cs with
    | nil => cases e
    | cons c cs =>
      rw [List.map_cons, List.map_cons] at e
      injection e with e1 e2
      rw [mapM_cons, e1, ih e2]
/-- behind a block -/
theorem frame_back {sw : Kv.St} (r1 : SR Z H1 al1 s1 σ) (st : Step Z (s1.wipe own) (L2.wipe σ own) H1 al1 sw (L2.wipe σ own) H al) (hw : ∀ i v, sw.sg[i]? = some (some v) → i ∉ own) :
    Step Z s1 σ H1 al1 { sw with sg := layBack s1.sg sw.sg own } σ H al ∧ ∀ b, Ft al { sw with sg := layBack s1.sg sw.sg own } σ b → Ft al sw (L2.wipe σ own) b ∨ ∃ i, OwnAt s1 σ i b := by
  have own_ : ∀ {i : Nat} {b : Addr}, OwnAt { sw with sg := layBack s1.sg sw.sg own } σ i b → (i ∈ own ∧ OwnAt s1 σ i b) ∨ (i ∉ own ∧ OwnAt sw (L2.wipe σ own) i b) := by
    rintro i b ⟨o, h1, h2⟩
    rcases layBack_get h1 with ⟨g1, g2⟩ | ⟨g1, g2⟩
    · exact .inl ⟨g1, o, g2, h2⟩
    · exact .inr ⟨g1, o, g2, wipe_get.mpr ⟨h2, g1⟩⟩
  -- an own thing of the block's outside stands
  have keep : ∀ {i : Nat} {b : Addr}, i ∈ own → OwnAt s1 σ i b → H b = H1 b ∧ ¬ Ft al sw (L2.wipe σ own) b := by
    intro i b hi h
    obtain ⟨u, e⟩ := Ft.tracked r1 (.inr ⟨i, h⟩)
    have nf : ¬ Ft al1 (s1.wipe own) (L2.wipe σ own) b := by
      rintro (⟨n, z⟩ | ⟨j, z⟩)
      · exact r1.off i n b h z
      · have z' := OwnAt.wipe.mp z
        have := r1.inj i j b h z'.1
        subst this
        exact z'.2 hi
    refine ⟨by rw [e]; exact st.ext b u e (.inl nf), fun z => ?_⟩
    rcases st.new b z with y | y
    · exact nf y
    · rw [e] at y; cases y
  refine ⟨⟨st.pre, ⟨?_, st.sr.aln, st.sr.mu, fun i v h => ?_, fun i o h => ?_, st.sr.nd, fun i n b h1 h2 => ?_, fun i j b h1 h2 => ?_⟩, fun b o h q => ?_, fun b h => ?_⟩, fun b h => ?_⟩
  · show σ.length = (layBack s1.sg sw.sg own).length
    rw [layBack_len, ← st.sr.len, L2.wipe_length]
  · rcases layBack_get h with ⟨g1, g2⟩ | ⟨g1, g2⟩
    · obtain ⟨u, e, q⟩ := r1.sg i v g2
      refine ⟨u, e, ?_⟩
      cases v with
      | pv p => exact RepV.ext st.ext st.pre q
      | own o =>
        obtain ⟨b, e2, g⟩ := q
        subst e2
        exact ⟨b, rfl, g.at' st.ext st.pre fun _ => (keep g1 ⟨o, g2, e⟩).1⟩
    · obtain ⟨u, e, q⟩ := st.sr.sg i v g2
      exact ⟨u, (wipe_get.mp e).1, q⟩
  · rcases layBack_get h with ⟨g1, g2⟩ | ⟨g1, g2⟩
    · exact r1.tr i o g2
    · exact st.sr.tr i o g2
  · rcases own_ h1 with ⟨z, y⟩ | ⟨z, y⟩
    · exact (keep z y).2 (.inl ⟨n, h2⟩)
    · exact st.sr.off i n b y h2
  · rcases own_ h1 with ⟨z, y⟩ | ⟨z, y⟩
    · rcases own_ h2 with ⟨z', y'⟩ | ⟨z', y'⟩
      · exact r1.inj i j b y y'
      · exact absurd (.inr ⟨j, y'⟩) (keep z y).2
    · rcases own_ h2 with ⟨z', y'⟩ | ⟨z', y'⟩
      · exact absurd (.inr ⟨i, y⟩) (keep z' y').2
      · exact st.sr.inj i j b y y'
  · exact st.ext b o h (q.elim (fun n => .inl fun z => n z.wipe) .inr)
  · rcases h with h | ⟨i, h⟩
    · rcases st.new b (.inl h) with y | y
      · exact .inl y.wipe
      · exact .inr y
    · rcases own_ h with ⟨z, y⟩ | ⟨z, y⟩
      · exact .inl (.inr ⟨i, y⟩)
      · rcases st.new b (.inr ⟨i, y⟩) with y | y
        · exact .inl y.wipe
        · exact .inr y
  · rcases h with h | ⟨i, h⟩
    · exact .inl (.inl h)
    · rcases own_ h with ⟨z, y⟩ | ⟨z, y⟩
      · exact .inr ⟨i, y⟩
      · exact .inl (.inr ⟨i, y⟩)
end
end Kv

set_option Elab.async false
set_option linter.all false
set_option maxRecDepth 100000
/-! Comprehensions: the node. -/
namespace Kv
open PySem L2 PySem.Spec PyProof.Rows
variable {Z : Kx} {W : WX}
/-- in a block nothing is let out -/
abbrev W0 : WX := fun _ _ _ _ => False
section
variable {X : Cx} {N : Kv.Env}

/-- the state of a comprehension between two turns -/
structure Turn0 (Z : Kx) (s1 : Kv.St) (σ : L2.St) (H1 : Hp) (al1 : List Addr) (own : List Nat) (D : Addr) (si : Kv.St) (acc : List PV) (H : Hp) (ali : List Addr) : Prop where
  st : Step Z (s1.wipe own) (L2.wipe σ own) H1 al1 (si.wipe own) (L2.wipe σ own) H ali
  dl : ∃ va, H D = some (.lst va) ∧ RepVs Z H ali acc va
  nf : ¬ Ft ali (si.wipe own) (L2.wipe σ own) D

theorem upd_grow {s1 s : Kv.St} {σ1 σ : L2.St} {H1 H : Hp} {al1 al : List Addr} (st : Step Z s1 σ1 H1 al1 s σ H al) {D : Addr} {u : HO} (h1 : H1 D = none) (nf : ¬ Ft al s σ D) (mu : Mut (H D)) : Step Z s1 σ1 H1 al1 s σ (upd H D u) al := by
  refine ⟨st.pre, st.sr.heap (F := fun b => b = D) (ext_at rfl mu) fun a h => upd_ne fun e => nf (e ▸ h), fun b o h q => ?_, st.new⟩
  rw [upd_ne (ne_of_none h h1)]
  exact st.ext b o h q

theorem comp_loop (ok : XOk Z W X) {elt : E} {t : T} {cond : List B} {own : List Nat} (ht : ∀ i ∈ t.slots, i ∈ own) {os : List Opd} {cs : List SV} {xs : List PV} {s0 s1 : Kv.St} {σ : L2.St} {H0 H1 : Hp} {al0 al1 : List Addr} {vs : List V} {Q : VK} {J : It} {tt : TT} {D : Addr}
    (st1 : Step Z s0 σ H0 al0 s1 σ H1 al1) (r1 : Reps Z H1 al1 s1 σ os vs) (wk : Walk Z t.isTup J cs vs xs) (hD : H1 D = none)
    (htt : ∀ σ H Q, tT Z W0 (evAnd N cond) σ H Q → tt σ H Q)
    (q : oG Z W s0 σ H0 al0 (kE Z s0 σ H0 al0 Q) (compEnd s1 own (compL (evAnd N cond) (ev N elt) t (stands os cs) own xs [] s1))) :
    ∃ Wv : Nat → Nat → Hp → Prop, (∃ m, Wv 0 m (upd H1 D (.lst []))) ∧ ∀ i m H, Wv i m H →
      (J.stop i H ∧ Q (.ref D) H) ∨ (J.go i H ∧ ∃ Nx : Hp → Prop, (∀ H', Nx H' → ∃ m', m' < m ∧ Wv (i + 1) m' H') ∧ ∀ x H', J.yld i H x H' → gOf Z.K t x (L2.wipe σ own) H' fun σ2 H2 => L2.wipe σ2 own = L2.wipe σ own ∧ tt σ2 H2 fun b H3 =>
        if b = true then tE Z W0 (ev N elt) σ2 H3 fun y H4 => ∃ acc, H4 D = some (.lst acc) ∧ acc.length < sizeLine ∧ Nx (upd H4 D (.lst (acc ++ [y]))) else Nx H3) := by
  let run := fun (i : Nat) (acc : List PV) (si : Kv.St) => compL (evAnd N cond) (ev N elt) t (stands os cs) own (xs.drop i) acc si
  let Inv := fun (i : Nat) (H : Hp) => i ≤ xs.length ∧ ∃ si acc ali, oG Z W s0 σ H0 al0 (kE Z s0 σ H0 al0 Q) (compEnd s1 own (run i acc si)) ∧ Turn0 Z s1 σ H1 al1 own D si acc H ali
  refine ⟨fun i m H => m = xs.length - i ∧ Inv i H, ⟨xs.length, by simp, Nat.zero_le _, s1, [], al1, ?_, ?_⟩, ?_⟩
  · show oG Z W s0 σ H0 al0 (kE Z s0 σ H0 al0 Q) (compEnd s1 own (compL (evAnd N cond) (ev N elt) t (stands os cs) own (xs.drop 0) [] s1))
    rw [List.drop_zero]; exact q
  · obtain ⟨g1, g2, _⟩ := alloc_step (u := .lst []) (Step.refl (SR.wipe (own := own) st1.sr)) hD
    exact ⟨g1, ⟨[], upd_same, rfl⟩, g2⟩
  rintro i m H ⟨rfl, hi, si, acc, ali, qi, T⟩
  -- the sources stand
  have std : stands os cs (si.wipe own) = true := by
    have qi' : oG Z W s0 σ H0 al0 (kE Z s0 σ H0 al0 Q) (compEnd s1 own (compL (evAnd N cond) (ev N elt) t (stands os cs) own (xs.drop i) acc si)) := qi
    cases hs : stands os cs (si.wipe own) with
    | true => rfl
    | false =>
      cases hx : xs.drop i with
      | nil => rw [hx] at qi'; unfold compL at qi'; simp only [hs, Bool.false_eq_true, if_false] at qi'; exact qi'.elim
      | cons x r => rw [hx] at qi'; unfold compL at qi'; simp only [hs, Bool.false_eq_true, if_false] at qi'; exact qi'.elim
  have rsw : Reps Z H ali (si.wipe own) (L2.wipe σ own) os vs := (r1.wipe (stands_slots std)).step T.st
  have rc : RepCs Z H ali cs vs := conts_rep T.st.sr rsw (stands_mapM std)
  by_cases hlt : i < xs.length
  · refine .inr ⟨wk.go i H ali rc hlt, fun H' => Inv (i + 1) H', fun H' h => ⟨xs.length - (i + 1), by omega, rfl, h⟩, fun x H' y => ?_⟩
    obtain ⟨same, p, ep, rp⟩ := wk.yld i H ali x H' rc hlt y
    have ed : xs.drop i = p :: xs.drop (i + 1) := by
      have e := List.getElem?_eq_getElem hlt
      rw [e] at ep
      cases ep
      exact List.drop_eq_getElem_cons hlt
    have qi' : oG Z W s0 σ H0 al0 (kE Z s0 σ H0 al0 Q) (compEnd s1 own (compL (evAnd N cond) (ev N elt) t (stands os cs) own (p :: xs.drop (i + 1)) acc si)) := by rw [← ed]; exact qi
    unfold compL at qi'
    simp only [std, if_true] at qi'
    cases hb : bindT t (.pv p) (si.wipe own).sg with
    | none => simp only [hb] at qi'; exact qi'.elim
    | some sg =>
      simp only [hb] at qi'
      have g0 : Step Z (si.wipe own) (L2.wipe σ own) H ali (si.wipe own) (L2.wipe σ own) H' ali := grow_step (.refl T.st.sr) same
      refine gOf_okX g0.sr rp hb fun σ2 bd => ?_
      have wp : L2.wipe σ2 own = L2.wipe σ own := by
        refine List.ext_getElem? fun j => ?_
        have ln : (L2.wipe σ2 own).length = (L2.wipe σ own).length := by
          rw [L2.wipe_length, bd.ln]
        by_cases lj : j < (L2.wipe σ own).length
        · have e1 := List.getElem?_eq_getElem lj
          have e2 := List.getElem?_eq_getElem (l := L2.wipe σ2 own) (i := j) (by rw [ln]; exact lj)
          rw [e1, e2]
          have key : ∀ w, (L2.wipe σ2 own)[j]? = some (some w) ↔ (L2.wipe σ own)[j]? = some (some w) := fun w => by
            rw [wipe_get]
            constructor
            · rintro ⟨h1, h2⟩
              rw [(bd.out j fun z => h2 (ht j z)).1] at h1
              exact h1
            · intro h1
              have h2 := (wipe_get.mp h1).2
              exact ⟨by rw [(bd.out j fun z => h2 (ht j z)).1]; exact h1, h2⟩
          cases c1 : (L2.wipe σ2 own)[j]'(by rw [ln]; exact lj) with
          | some w =>
            have := (key w).mp (by rw [e2, c1])
            rw [e1] at this
            exact this.symm
          | none =>
            cases c2 : (L2.wipe σ own)[j] with
            | none => rfl
            | some w =>
              have := (key w).mpr (by rw [e1, c2])
              rw [e2, c1] at this
              cases this
        · rw [List.getElem?_eq_none (by omega), List.getElem?_eq_none (by omega)]
      refine ⟨wp, htt _ _ _ ⟨⟨sg, si.mu⟩, ali, bd.sr, ?_⟩⟩
      -- the step to the bound state
      have sb : Step Z (si.wipe own) (L2.wipe σ own) H ali ⟨sg, si.mu⟩ σ2 H' ali :=
        ⟨List.prefix_refl _, bd.sr, g0.ext, fun b hb' => (bd.ft b hb').elim (fun z => .inl z) fun z => nomatch z.1⟩
      -- behind a turn
      have next : ∀ {se : Kv.St} {ale : List Addr} {H4 : Hp}, Step Z ⟨sg, si.mu⟩ σ2 H' ali se σ2 H4 ale → Step Z (si.wipe own) (L2.wipe σ own) H ali (se.wipe own) (L2.wipe σ own) H4 ale := fun {se ale H4} se4 => by
        have z := sb.trans se4
        have w := SR.wipe (own := own) z.sr
        rw [wp] at w
        refine ⟨z.pre, w, z.ext, fun b hb' => z.new b ?_⟩
        have hb2 : Ft ale (se.wipe own) (L2.wipe σ2 own) b := by rw [wp]; exact hb'
        exact hb2.wipe
      obtain ⟨va, hva, rva⟩ := T.dl
      have stay : ∀ {se : Kv.St} {ale : List Addr} {H4 : Hp}, Step Z (si.wipe own) (L2.wipe σ own) H ali (se.wipe own) (L2.wipe σ own) H4 ale → H4 D = some (.lst va) ∧ ¬ Ft ale (se.wipe own) (L2.wipe σ own) D := fun {se ale H4} z => by
        refine ⟨z.ext D _ hva (.inl T.nf), fun y => ?_⟩
        rcases z.new D y with w | w
        · exact T.nf w
        · rw [hva] at w; cases w
      -- the test
      cases hc : evAnd N cond ⟨sg, si.mu⟩ with
      | bad => rw [bind_bad hc] at qi'; exact qi'.elim
      | exc x s' => rw [bind_exc hc] at qi'; exact qi'.elim
      | ok b sc =>
        rw [bind_ok hc] at qi'
        intro H3 al3 st3
        cases b with
        | false =>
          simp only [kT, Bool.false_eq_true, if_false] at qi' ⊢
          have n3 := next st3
          obtain ⟨d1, d2⟩ := stay n3
          exact ⟨hlt, sc, acc, al3, qi', T.st.trans n3, ⟨va, d1, RepVs.ext n3.ext n3.pre rva⟩, d2⟩
        | true =>
          simp only [kT, if_true] at qi' ⊢
          refine ⟨sc, al3, st3.sr, ?_⟩
          cases he : ev N elt sc with
          | bad => rw [bind_bad he] at qi'; exact qi'.elim
          | exc x s' => rw [bind_exc he] at qi'; exact qi'.elim
          | ok o sd =>
            rw [bind_ok he] at qi'
            intro H4 al4 st4 v rv nv
            cases hbx : box o sd with
            | bad => rw [bind_bad hbx] at qi'; exact qi'.elim
            | exc x s' => exact absurd hbx (box_no x s')
            | ok pp se =>
              rw [bind_ok hbx] at qi'
              obtain ⟨al5, st5, rp5, pre5, _, _⟩ := box_step st4 rv nv hbx
              have n5 := next (st3.trans st5)
              obtain ⟨d1, d2⟩ := stay n5
              by_cases hz : acc.length < sizeL
              · rw [if_pos hz] at qi'
                have rv5 := RepVs.ext n5.ext n5.pre rva
                have mu : Mut (H4 D) := by rw [d1]; trivial
                have ex : Ext (fun b => b = D) H4 (upd H4 D (.lst (va ++ [v]))) := ext_at rfl mu
                refine ⟨va, d1, by rw [rva.length]; exact hz, hlt, se, acc ++ [pp], al5, qi', upd_grow (T.st.trans n5) hD d2 mu, ⟨_, upd_same, ?_⟩, d2⟩
                exact RepVs.ext ex (List.prefix_refl _) (rv5.append ⟨v, [], rfl, rp5, rfl⟩)
              · rw [if_neg hz] at qi'; exact qi'.elim
  · have e : i = xs.length := by omega
    subst e
    refine .inl ⟨wk.stop _ H ali rc rfl, ?_⟩
    have qi' : oG Z W s0 σ H0 al0 (kE Z s0 σ H0 al0 Q) (compEnd s1 own (compL (evAnd N cond) (ev N elt) t (stands os cs) own (xs.drop xs.length) acc si)) := qi
    rw [List.drop_length] at qi'
    unfold compL at qi'
    simp only [std, if_true] at qi'
    obtain ⟨f1, f2⟩ := frame_back (own := own) st1.sr T.st fun i v h => (wipeS_get.mp h).2
    obtain ⟨va, hva, rva⟩ := T.dl
    refine qi' H ali (st1.trans f1) (.ref D) ⟨D, rfl, ⟨va, hva, rva⟩, rfl, fun z => ?_⟩ ?_
    · rcases f2 D z with y | ⟨j, y⟩
      · exact T.nf y
      · obtain ⟨u, e⟩ := Ft.tracked st1.sr (.inr ⟨j, y⟩)
        rw [hD] at e; cases e
    · show Ft al0 s0 σ D ∨ H0 D = none
      exact (st1.ext.none hD).elim .inr .inl

/-- the reading of a comprehension -/
theorem comp_reads (ok : XOk Z W X) {elt : E} {t : T} {ik : Ik} {es : List E} {cond : List B} {own : List Nat} (ht : ∀ i ∈ t.slots, i ∈ own) {tt : TT} (htt : ∀ σ H Q, tT Z W0 (evAnd N cond) σ H Q → tt σ H Q) {σ : L2.St} {H : Hp} {Q : VK}
    (h : tE Z W (ev N (.comp elt t ik es cond own)) σ H Q) : tLc (tI Z W t.isTup (evI N ik es)) (gOf Z.K t) tt (tE Z W0 (ev N elt)) own σ H Q := by
  obtain ⟨s, al, sr, q⟩ := h
  refine ⟨s, al, sr, ?_⟩
  have q' : oG Z W s σ H al (kE Z s σ H al Q) ((evs N es >>= fun os => srcOf ik os >>= fun r => fun s => compEnd s own (compL (evAnd N cond) (ev N elt) t (stands r.1 r.2.1) own r.2.2 [] s)) s) := q
  have q2 : oG Z W s σ H al (kE Z s σ H al Q) ((evI N ik es >>= fun r => fun s => compEnd s own (compL (evAnd N cond) (ev N elt) t (stands r.1 r.2.1) own r.2.2 [] s)) s) := by
    have e : evI N ik es s = (evs N es >>= fun os => srcOf ik os) s := rfl
    cases h1 : evs N es s with
    | bad => rw [bind_bad h1] at q'; exact q'.elim
    | exc x s1 =>
      rw [bind_exc h1] at q'
      rw [bind_exc (by rw [e, bind_exc h1])]
      exact q'
    | ok os s1 =>
      rw [bind_ok h1] at q'
      cases h2 : srcOf ik os s1 with
      | bad => rw [bind_bad h2] at q'; exact q'.elim
      | exc x s2 =>
        rw [bind_exc h2] at q'
        rw [bind_exc (by rw [e, bind_ok h1, h2])]
        exact q'
      | ok r s2 =>
        rw [bind_ok h2] at q'
        rw [bind_ok (by rw [e, bind_ok h1, h2])]
        exact q'
  refine oG.bind (.refl sr) q2 fun r s1 e1 q3 H1 al1 st1 vs J r1 hm wk D hD => ?_
  exact comp_loop ok ht st1 r1 wk hD htt q3
end
end Kv

set_option Elab.async false
set_option linter.all false
set_option maxRecDepth 100000
/-! Statements. -/
namespace Kv
open PySem L2 PySem.Spec PyProof.Rows
variable {Z : Kx} {W : WX}
section
variable (Z : Kx) (W : WX)
def Prot (pr : List Nat) (σ σ' : L2.St) : Prop := ∀ i, prot pr i = true → σ'[i]? = σ[i]?
def kS (s : Kv.St) (σ : L2.St) (H : Hp) (al : List Addr) (D : Ends) : Fl → Kv.St → L2.St → Hp → List Addr → Prop
  | .nx, s', σ', H', al' => D.nx σ' H'
  | .brk, s', σ', H', al' => D.bk σ' H'
  | .cnt, s', σ', H', al' => D.ct σ' H'
  | .ret v, s', σ', H', al' => ∀ u, RepP Z H' al' s' σ' (.val v) u → New al s σ H (.val v) u → D.rt u H'
def oS (pr : List Nat) (s : Kv.St) (σ : L2.St) (H : Hp) (al : List Addr) (K : Fl → Kv.St → L2.St → Hp → List Addr → Prop) : Out Fl → Prop
  | .ok f s' => ∀ σ' H' al', Step Z s σ H al s' σ' H' al' → Prot pr σ σ' → K f s' σ' H' al'
  | .exc x s' => ∀ cls d σ' H' al', Step Z s σ H al s' σ' H' al' → Prot pr σ σ' → ExR Z H' al' x cls d → W cls d σ' H'
  | .bad => False
def tS (pr : List Nat) (m : M Fl) : TS := fun D σ H => ∃ s al, SR Z H al s σ ∧ oS Z W pr s σ H al (kS Z s σ H al D) (m s)
end
theorem Prot.refl {pr : List Nat} {σ : L2.St} : Prot pr σ σ := fun _ _ => rfl
theorem Prot.trans {pr : List Nat} {σ σ1 σ2 : L2.St} (a : Prot pr σ σ1) (b : Prot pr σ1 σ2) : Prot pr σ σ2 := fun i h => (b i h).trans (a i h)
section
variable {pr : List Nat} {s s1 : Kv.St} {σ σ1 : L2.St} {H H1 : Hp} {al al1 : List Addr} {K : Fl → Kv.St → L2.St → Hp → List Addr → Prop} {α : Type} {K' : α → Kv.St → Hp → List Addr → Prop}
/-- an expression's part of a statement -/
theorem oS.bind {m : M α} {g : α → M Fl} (st : Step Z s σ H al s1 σ1 H1 al1) (pt : Prot pr σ σ1) (h : oS Z W pr s σ H al K ((m >>= g) s1))
    (k : ∀ a s2, m s1 = .ok a s2 → oS Z W pr s σ H al K (g a s2) → ∀ H2 al2, Step Z s1 σ1 H1 al1 s2 σ1 H2 al2 → K' a s2 H2 al2) : oG Z W s1 σ1 H1 al1 K' (m s1) := by
  cases q : m s1 with
  | ok a s2 => rw [bind_ok q] at h; exact k a s2 q h
  | exc x s2 => rw [bind_exc q] at h; exact fun cls d H' al' st' r => h cls d σ1 H' al' (st.trans st') pt r
  | bad => rw [bind_bad q] at h; exact h.elim
theorem oS.prim {m : M α} {g : α → M Fl} {s1 : Kv.St} (h : oS Z W pr s σ H al K ((m >>= g) s1)) (no : ∀ x s2, m s1 ≠ .exc x s2) : ∃ a s2, m s1 = .ok a s2 ∧ oS Z W pr s σ H al K (g a s2) := by
  cases q : m s1 with
  | ok a s2 => rw [bind_ok q] at h; exact ⟨a, s2, rfl, h⟩
  | exc x s2 => exact absurd q (no x s2)
  | bad => rw [bind_bad q] at h; exact h.elim
theorem oS.later {o : Out Fl} {K2 : Fl → Kv.St → L2.St → Hp → List Addr → Prop} (st : Step Z s σ H al s1 σ1 H1 al1) (pt : Prot pr σ σ1) (h : oS Z W pr s σ H al K o)
    (k : ∀ f s2 σ2 H2 al2, Step Z s1 σ1 H1 al1 s2 σ2 H2 al2 → K f s2 σ2 H2 al2 → K2 f s2 σ2 H2 al2) : oS Z W pr s1 σ1 H1 al1 K2 o := by
  cases o with
  | ok f s2 => exact fun σ2 H2 al2 st2 p2 => k f s2 σ2 H2 al2 st2 (h σ2 H2 al2 (st.trans st2) (pt.trans p2))
  | exc x s2 => exact fun cls d σ2 H2 al2 st2 p2 rx => h cls d σ2 H2 al2 (st.trans st2) (pt.trans p2) rx
  | bad => exact h
theorem New.back2 (st : Step Z s σ H al s1 σ1 H1 al1) {o : Opd} {v : V} (h : New al1 s1 σ1 H1 o v) : New al s σ H o v := by
  cases o with
  | val w =>
    cases w with
    | pv p => trivial
    | own ob =>
      cases v with
      | ref a =>
        have h' : Ft al1 s1 σ1 a ∨ H1 a = none := h
        show Ft al s σ a ∨ H a = none
        rcases h' with z | z
        · exact st.new a z
        · exact (st.ext.none z).elim .inr .inl
      | _ => trivial
  | slot i => trivial
  | tab ob => trivial
theorem kS.later (st : Step Z s σ H al s1 σ1 H1 al1) {D : Ends} {f : Fl} {s2 : Kv.St} {σ2 : L2.St} {H2 : Hp} {al2 : List Addr} (h : kS Z s σ H al D f s2 σ2 H2 al2) : kS Z s1 σ1 H1 al1 D f s2 σ2 H2 al2 := by
  cases f with
  | ret v => exact fun u r n => h u r (n.back2 st)
  | _ => exact h
end
/-- storing is a step -/
theorem toSV_step {s0 s s2 : Kv.St} {σ : L2.St} {H0 H : Hp} {al0 al : List Addr} (st : Step Z s0 σ H0 al0 s σ H al) {o : Opd} {v : V} (r : RepP Z H al s σ o v) (n : New al0 s0 σ H0 o v) {sv : SV} (e : toSV o s = .ok sv s2) :
    ∃ al2, Step Z s0 σ H0 al0 s2 σ H al2 ∧ RepP Z H al2 s2 σ (.val sv) v ∧ New al0 s0 σ H0 (.val sv) v := by
  cases o with
  | val w =>
    have e' : Out.ok w s = .ok sv s2 := e
    injection e' with e1 e2
    subst e1 e2
    exact ⟨al, st, r, n⟩
  | slot i =>
    have e' : (box (.slot i) >>= fun p => pure (SV.pv p)) s = .ok sv s2 := e
    obtain ⟨p, s1, e1, e2⟩ := bind_inv e'
    have e3 : Out.ok (SV.pv p) s1 = .ok sv s2 := e2
    injection e3 with e4 e5
    subst e4 e5
    obtain ⟨al2, st2, r2, _⟩ := box_step st r n e1
    exact ⟨al2, st2, r2, trivial⟩
  | tab ob => cases e
theorem toSV_no {o : Opd} {s : Kv.St} : ∀ x s2, toSV o s ≠ .exc x s2 := by
  intro x s2 e
  cases o with
  | val w => cases e
  | slot i =>
    have e' : (box (.slot i) >>= fun p => pure (SV.pv p)) s = .exc x s2 := e
    cases q : box (.slot i) s with
    | ok p s1 => rw [bind_ok q] at e'; cases e'
    | exc y s1 => exact box_no y s1 q
    | bad => rw [bind_bad q] at e'; cases e'
  | tab ob => cases e
theorem store_inv {pr : List Nat} {t : T} {v : SV} {s s2 : Kv.St} {u : Unit} (e : store pr t v s = .ok u s2) : (∀ i ∈ t.slots, prot pr i = false) ∧ ∃ sg, bindT t v s.sg = some sg ∧ s2 = { s with sg := sg } := by
  unfold store at e
  split at e
  · cases e
  · rename_i h
    split at e
    · rename_i sg hb
      injection e with _ e
      refine ⟨fun i hi => ?_, sg, hb, e.symm⟩
      cases hp : prot pr i with
      | false => rfl
      | true => exact absurd (List.any_eq_true.mpr ⟨i, hi, hp⟩) h
    · cases e
theorem store_no {pr : List Nat} {t : T} {v : SV} {s : Kv.St} : ∀ x s2, store pr t v s ≠ .exc x s2 := by
  intro x s2 e
  unfold store at e
  split at e
  · cases e
  · split at e <;> cases e
/-- a bound state -/
theorem Bnd.step {s0 s : Kv.St} {σ0 σ σ' : L2.St} {H0 H : Hp} {al0 al : List Addr} {sl : List Nat} {v : SV} {x : V} {sg : List (Option SV)} (st : Step Z s0 σ0 H0 al0 s σ H al) (b : Bnd Z H al s σ sl v x sg σ') (n : New al0 s0 σ0 H0 (.val v) x) : Step Z s0 σ0 H0 al0 { s with sg := sg } σ' H al := by
  refine ⟨st.pre, b.sr, st.ext, fun c hc => ?_⟩
  rcases b.ft c hc with z | ⟨z, z'⟩
  · exact st.new c z
  · subst z'
    cases v with
    | pv p => cases z
    | own o => exact n
theorem Bnd.prot {s : Kv.St} {σ σ' : L2.St} {H : Hp} {al : List Addr} {sl : List Nat} {v : SV} {x : V} {sg : List (Option SV)} {pr : List Nat} (b : Bnd Z H al s σ sl v x sg σ') (h : ∀ i ∈ sl, Kv.prot pr i = false) : Prot pr σ σ' := fun i hi => by
  refine (b.out i fun z => ?_).1
  rw [h i z] at hi; cases hi

section
variable {X : Cx} {N : Kv.Env} {pr : List Nat}
/-- target = value, by the value's reading -/
theorem asg_reads {t : T} {e : E} {σ : L2.St} {H : Hp} {D : Ends} {te : TE} (hte : ∀ σ H Q, tE Z W (ev N e) σ H Q → te σ H Q) (h : tS Z W pr (evS N (.asg t e) pr) D σ H) : tAsg te (gOf Z.K t) D σ H := by
  obtain ⟨s, al, sr, q⟩ := h
  have q' : oS Z W pr s σ H al (kS Z s σ H al D) ((ev N e >>= fun o => toSV o >>= fun v => store pr t v >>= fun _ => pure Fl.nx) s) := q
  refine hte _ _ _ ⟨s, al, sr, oS.bind (.refl sr) .refl q' fun o s1 e1 q1 H1 al1 st1 v r1 n1 => ?_⟩
  obtain ⟨sv, s2, e2, q2⟩ := oS.prim q1 toSV_no
  obtain ⟨al2, st2, r2, n2⟩ := toSV_step st1 r1 n1 e2
  obtain ⟨u, s3, e3, q3⟩ := oS.prim q2 store_no
  obtain ⟨hp, sg, hb, rfl⟩ := store_inv e3
  exact gOf_ok st2.sr r2 hb fun σ' b => q3 σ' H1 al2 (b.step st2 n2) (b.prot hp)
theorem s_expr {ee : Expr} {e : E} {pos : Pos} (he : PE X ee (tE Z W (ev N e))) (hs : swapsWith ee none pos.line X.env = pure false) : PS X (.Expr ee pos) (tS Z W pr (evS N (.ex e) pr)) := by
  refine PS.imp (ps_expr he hs) fun D σ H ⟨s, al, sr, q⟩ => ⟨s, al, sr, ?_⟩
  have q' : oS Z W pr s σ H al (kS Z s σ H al D) ((ev N e >>= fun _ => pure Fl.nx) s) := q
  exact oS.bind (.refl sr) .refl q' fun o s1 e1 q1 H1 al1 st1 v r1 n1 => q1 σ H1 al1 st1 .refl
theorem zs_ret {ee : Expr} {e : E} {pos : Pos} (he : PE X ee (tE Z W (ev N e))) : PS X (.Return (some ee) pos) (tS Z W pr (evS N (.ret e) pr)) := by
  refine PS.imp (ps_ret he) fun D σ H ⟨s, al, sr, q⟩ => ⟨s, al, sr, ?_⟩
  have q' : oS Z W pr s σ H al (kS Z s σ H al D) ((ev N e >>= fun o => match o with
    | .slot i => fun s => if i < N.np then (toSV (.slot i) >>= fun v => pure (Fl.ret v)) s
        else (match s.get i with
          | some v => .ok (.ret v) (s.put i none)
          | none => .bad)
    | o => toSV o >>= fun v => pure (Fl.ret v)) s) := q
  refine oS.bind (.refl sr) .refl q' fun o s1 e1 q1 H1 al1 st1 v r1 n1 => ?_
  have plain : ∀ {o : Opd}, RepP Z H1 al1 s1 σ o v → New al s σ H o v → oS Z W pr s σ H al (kS Z s σ H al D) ((toSV o >>= fun v => pure (Fl.ret v)) s1) → D.rt v H1 := by
    intro o r n q
    obtain ⟨sv, s2, e2, q2⟩ := oS.prim q toSV_no
    obtain ⟨al2, st2, r2, n2⟩ := toSV_step st1 r n e2
    exact q2 σ H1 al2 st2 .refl v r2 n2
  cases o with
  | val w => exact plain r1 n1 q1
  | tab ob => exact plain r1 n1 q1
  | slot i =>
    have q2 : oS Z W pr s σ H al (kS Z s σ H al D) (if i < N.np then (toSV (.slot i) >>= fun v => pure (Fl.ret v)) s1 else (match s1.get i with | some v => .ok (.ret v) (s1.put i none) | none => .bad)) := q1
    split at q2
    · exact plain r1 n1 q2
    · cases g : s1.get i with
      | none => rw [g] at q2; exact q2.elim
      | some w =>
        rw [g] at q2
        have hv : σ[i]? = some (some v) := r1
        obtain ⟨u, hu, ru⟩ := st1.sr.sg i w (get_some g)
        rw [hv] at hu
        obtain rfl : v = u := Option.some.inj (Option.some.inj hu)
        have st2 : Step Z s σ H al (s1.put i none) σ H1 al1 := ⟨st1.pre, st1.sr.drop i, st1.ext, fun b z => st1.new b z.drop⟩
        refine q2 σ H1 al1 st2 .refl v ?_ ?_
        · cases w with
          | pv p => exact ru
          | own ob =>
            obtain ⟨a, rfl, g1⟩ := ru
            have own : OwnAt s1 σ i a := ⟨ob, get_some g, hv⟩
            refine ⟨a, rfl, g1, st1.sr.tr i ob (get_some g), ?_⟩
            rintro (⟨n, z⟩ | ⟨j, z⟩)
            · exact st1.sr.off i n a own z
            · have z' := z.drop
              exact z'.2 (st1.sr.inj j i a z'.1 own)
        · cases w with
          | pv p => trivial
          | own ob =>
            obtain ⟨a, rfl, g1⟩ := ru
            exact st1.new a (.inr ⟨i, ob, get_some g, hv⟩)
theorem zs_retN {pos : Pos} : PS X (.Return none pos) (tS Z W pr (evS N .retN pr)) :=
  PS.imp ps_retN fun D σ H ⟨s, al, sr, q⟩ => q σ H al (.refl sr) .refl .non rfl trivial
theorem zs_any {st : Stmt} : PS X st (tS Z W pr (evS N .any pr)) := ⟨fun pins s σ H D I ⟨s0, al, sr, q⟩ => q.elim⟩
theorem zs_pass {pos : Pos} : PS X (.Pass pos) (tS Z W pr (evS N .pass pr)) := PS.imp ps_pass fun D σ H ⟨s, al, sr, q⟩ => q σ H al (.refl sr) .refl
theorem zs_brk {pos : Pos} : PS X (.Break pos) (tS Z W pr (evS N .brk pr)) := PS.imp ps_break fun D σ H ⟨s, al, sr, q⟩ => q σ H al (.refl sr) .refl
theorem zs_cnt {pos : Pos} : PS X (.Continue pos) (tS Z W pr (evS N .cnt pr)) := PS.imp ps_continue fun D σ H ⟨s, al, sr, q⟩ => q σ H al (.refl sr) .refl
theorem zs_nil : PSs X [] (tS Z W pr (evSs N [] pr)) := PSs.imp pss_nil fun D σ H ⟨s, al, sr, q⟩ => q σ H al (.refl sr) .refl
theorem zs_cons {a : Stmt} {r : List Stmt} {b : S} {bs : List S} (ha : PS X a (tS Z W pr (evS N b pr))) (hr : PSs X r (tS Z W pr (evSs N bs pr))) : PSs X (a :: r) (tS Z W pr (evSs N (b :: bs) pr)) := by
  refine PSs.imp (pss_cons ha hr) fun D σ H ⟨s, al, sr, q⟩ => ⟨s, al, sr, ?_⟩
  have q' : oS Z W pr s σ H al (kS Z s σ H al D) ((evS N b pr >>= fun f => match f with | .nx => evSs N bs pr | f => pure f) s) := q
  cases hq : evS N b pr s with
  | bad => rw [bind_bad hq] at q'; exact q'
  | exc x s1 => rw [bind_exc hq] at q'; exact q'
  | ok f s1 =>
    rw [bind_ok hq] at q'
    cases f with
    | nx =>
      intro σ1 H1 al1 st1 p1
      exact ⟨s1, al1, st1.sr, oS.later st1 p1 q' fun _ _ _ _ _ _ k => k.later st1⟩
    | brk => exact fun σ1 H1 al1 st1 p1 => q' σ1 H1 al1 st1 p1
    | cnt => exact fun σ1 H1 al1 st1 p1 => q' σ1 H1 al1 st1 p1
    | ret v => exact fun σ1 H1 al1 st1 p1 => q' σ1 H1 al1 st1 p1
theorem s_if {c : Expr} {a b : List Stmt} {tc : B} {ta tb : List S} {pos : Pos} (hc : PT X c (tT Z W (evT N tc))) (ha : PSs X a (tS Z W pr (evSs N ta pr))) (hb : PSs X b (tS Z W pr (evSs N tb pr))) : PS X (.If c a b pos) (tS Z W pr (evS N (.iff tc ta tb) pr)) := by
  refine PS.imp (ps_if hc ha hb) fun D σ H ⟨s, al, sr, q⟩ => ⟨s, al, sr, ?_⟩
  have q' : oS Z W pr s σ H al (kS Z s σ H al D) ((evT N tc >>= fun t => if t then evSs N ta pr else evSs N tb pr) s) := q
  refine oS.bind (.refl sr) .refl q' fun r s1 e1 q1 H1 al1 st1 => ?_
  cases r with
  | true =>
    simp only [kT, if_true]
    exact ⟨s1, al1, st1.sr, oS.later st1 .refl q1 fun _ _ _ _ _ _ k => k.later st1⟩
  | false =>
    simp only [kT, if_false, Bool.false_eq_true]
    exact ⟨s1, al1, st1.sr, oS.later st1 .refl q1 fun _ _ _ _ _ _ k => k.later st1⟩
/-! ### item assignment -/
def setAny (X : Cx) : TSet := fun o i v H Q => ∃ r : TSet, PSet X r ∧ r o i v H Q
theorem set_any : PSet X (setAny X) := fun pins s σ H o i v ov iv u Q I ro ri rv ⟨r, h, q⟩ => h pins s σ H o i v ov iv u Q I ro ri rv q
theorem set_dict (hu : X.A.units + 1 < cLine) : PSet X (fun o i v H Q => ∃ a H', o = .ref a ∧ DPut H a i v H' ∧ Q H') := by
  intro pins s σ H o i v ov iv u Q I ro ri rv ⟨a, H', e, g, q⟩
  subst e
  obtain rfl : ov = Value.ref a := ro
  exact d_setItem hu I g ri rv fun s' I' => ⟨H', I', q⟩
theorem repK_len {H : Hp} {al : List Addr} : ∀ {kvs : List (PV × PV)} {hs : List (Key × V)}, RepK Z H al kvs hs → hs.length = kvs.length
  | [], _, h => by cases h; rfl
  | _ :: _, _, ⟨k, v, vr, e, _, _, h⟩ => by subst e; rw [List.length_cons, List.length_cons, repK_len h]
theorem zs_asgI (ok : XOk Z W X) {eo ei e : Expr} {o i a : E} {pos' pos : Pos} (ho : PE X eo (tE Z W (ev N o))) (hi : PE X ei (tE Z W (ev N i))) (he : PE X e (tE Z W (ev N a)))
    (ha : ∀ v, assign (.Subscript eo ei pos') X.env v = (do
      let ov ← holding [v] (eval eo X.env)
      let iv ← holding [v, ov] (eval ei X.env)
      standAt pos'
      holding [v, ov, iv] (setItem ov iv v)
      release [v, ov, iv] []))
    (hs : swapsWithSole [.Subscript eo ei pos'] e pos.line X.env = pure false) (hw : swappedStores [.Subscript eo ei pos'] e X.env = pure none) (h1 : (assignEach [.Subscript eo ei pos'] X.env).map (·.2) = [assign (.Subscript eo ei pos') X.env]) :
    PS X (.Assign [.Subscript eo ei pos'] e pos) (tS Z W pr (evS N (.asgI o i a) pr)) := by
  refine PS.imp (ps_asg he (pg_sub ho hi set_any ha) hs hw h1) fun D σ H ⟨s, al, sr, q⟩ => ⟨s, al, sr, ?_⟩
  have q' : oS Z W pr s σ H al (kS Z s σ H al D) ((ev N a >>= fun v => ev N o >>= fun x => ev N i >>= fun k => box v >>= fun p => box k >>= fun q => setAt x q p >>= fun _ => pure Fl.nx) s) := q
  refine oS.bind (.refl sr) .refl q' fun v s1 e1 q1 H1 al1 st1 vv r1 n1 => ⟨s1, al1, st1.sr, oS.bind st1 .refl q1 fun x s2 e2 q2 H2 al2 st2 xv r2 n2 => ⟨s2, al2, st2.sr, oS.bind (st1.trans st2) .refl q2 fun k s3 e3 q3 H3 al3 st3 kv r3 n3 => ?_⟩⟩
  obtain ⟨p, s4, e4, q4⟩ := oS.prim q3 box_no
  obtain ⟨kq, s5, e5, q5⟩ := oS.prim q4 box_no
  have st23 := st2.trans st3
  have st13 := st1.trans st23
  obtain ⟨al4, st4, rp4, pre4, _, f4⟩ := box_step st13 (r1.step st23) n1 e4
  -- the other operands behind the first one's boxing
  have apartv : ∀ {o' : Opd} {w : V}, RepP Z H3 al3 s3 σ o' w → (IsTemp o' = true → IsTemp v = true → w ≠ vv) → RepP Z H3 al4 s4 σ o' w := by
    intro o' w rr ne
    by_cases t : IsTemp v = true
    · exact rr.relay pre4 (fun b z => (f4 b z).elim .inl fun y => .inr y.2) fun t' => ne t' t
    · refine RepP.relay (v0 := .non) pre4 (fun b z => (f4 b z).elim .inl fun y => absurd y.1 t) (fun t' e => ?_) rr
      cases o' with
      | val w' =>
        cases w' with
        | pv p => cases t'
        | own ob => obtain ⟨a, e', _⟩ := rr; rw [e'] at e; cases e
      | slot i => cases t'
      | tab ob => cases t'
  have newer : ∀ {sA sB : Kv.St} {HA HB : Hp} {alA alB : List Addr} {oA oB : Opd} {vA vB : V}, RepP Z HA alA sA σ oA vA → New alA sA σ HA oB vB → RepP Z HB alB sB σ oB vB → IsTemp oB = true → IsTemp oA = true → vB ≠ vA := by
    intro sA sB HA HB alA alB oA oB vA vB ra nb rb tb ta e
    cases oB with
    | val wB =>
      cases wB with
      | pv p => cases tb
      | own obB =>
        obtain ⟨b, eb, _⟩ := rb
        cases oA with
        | val wA =>
          cases wA with
          | pv p => cases ta
          | own obA =>
            obtain ⟨a', ea, ga, ta', fa⟩ := ra
            rw [ea] at e
            rw [e] at nb
            have nb' : Ft alA sA σ a' ∨ HA a' = none := nb
            rcases nb' with z | z
            · exact fa z
            · obtain ⟨u, hu⟩ := ga.tracked ta'
              rw [z] at hu; cases hu
        | slot i => cases ta
        | tab ob => cases ta
    | slot i => cases tb
    | tab ob => cases tb
  have rk4 := apartv r3 fun tb ta => newer (r1.step st2) n3 r3 tb ta
  have rx4 := apartv (r2.step st3) fun tb ta => newer r1 n2 r2 tb ta
  obtain ⟨al5, st5, rk5, pre5, _, f5⟩ := box_step st4 rk4 ((n3.back2 st2).back2 st1) e5
  have rx5 : RepP Z H3 al5 s5 σ x xv ∨ True := .inr trivial
  have rp5 := RepV.ext (.refl (Ft al4 s4 σ) _) pre5 rp4
  -- the receiver
  have q6 : oS Z W pr s σ H al (kS Z s σ H al D) (((cont1 x >>= fun c => match c with
    | .own ob => (match setix ob kq p with
      | some ob' => wback x ob'
      | none => M.bad)
    | _ => M.bad) >>= fun _ => pure Fl.nx) s5) := q5
  have rx5 : RepP Z H3 al5 s5 σ x xv := by
    by_cases t : IsTemp k = true
    · refine rx4.relay pre5 (fun b z => (f5 b z).elim .inl fun y => .inr y.2) fun tx e => ?_
      exact newer r2 n3 r3 t tx e.symm
    · refine RepP.relay (v0 := .non) pre5 (fun b z => (f5 b z).elim .inl fun y => absurd y.1 t) (fun t' e => ?_) rx4
      cases x with
      | val w' =>
        cases w' with
        | pv p => cases t'
        | own ob => obtain ⟨a, e', _⟩ := rx4; rw [e'] at e; cases e
      | slot i => cases t'
      | tab ob => cases t'
  cases hc : cont x s5 with
  | none =>
    have : (cont1 x >>= fun c => match c with
      | .own ob => (match setix ob kq p with
        | some ob' => wback x ob'
        | none => M.bad)
      | _ => M.bad) s5 = .bad := bind_bad (by unfold cont1; rw [hc])
    rw [bind_bad this] at q6
    exact q6.elim
  | some c =>
    have h5 : cont1 x s5 = .ok c s5 := by unfold cont1; rw [hc]
    have rc := cont_rep st5.sr rx5 hc
    cases c with
    | pv pp =>
      rw [bind_bad (m := cont1 x >>= _) (by rw [bind_ok h5]; rfl)] at q6
      exact q6.elim
    | own ob =>
      cases hx : setix ob kq p with
      | none =>
        rw [bind_bad (m := cont1 x >>= _) (by rw [bind_ok h5]; simp only [hx]; rfl)] at q6
        exact q6.elim
      | some ob' =>
        have em : (cont1 x >>= fun c => match c with
          | .own ob => (match setix ob kq p with
            | some ob' => wback x ob'
            | none => M.bad)
          | _ => M.bad) s5 = wback x ob' s5 := by rw [bind_ok h5]; simp only [hx]
        cases hw5 : wback x ob' s5 with
        | bad => rw [bind_bad (by rw [em, hw5])] at q6; exact q6.elim
        | exc y s6 => rw [bind_exc (by rw [em, hw5])] at q6; exact (by
            cases x with
            | val w =>
              cases w with
              | pv p => cases p <;> first | cases hw5 | (simp only [wback] at hw5; split at hw5 <;> cases hw5)
              | own o => cases hw5
            | slot i =>
              simp only [wback] at hw5
              split at hw5
              · split at hw5 <;> cases hw5
              · cases hw5
              · cases hw5
            | tab o => cases hw5)
        | ok u s6 =>
          rw [bind_ok (by rw [em, hw5])] at q6
          unfold setix at hx
          split at hx
          · obtain ⟨j, ej, rfl⟩ := Option.map_eq_some_iff.mp hx
            obtain ⟨a0, rfl, ws, g1, g2⟩ := rc
            rename_i xs iv _
            have ki : kv = .int iv := rk5
            subst ki
            have mu : Mut (H3 a0) := by rw [g1]; trivial
            have ex : Ext (fun b => b = a0) H3 (upd H3 a0 (.lst (ws.set j vv))) := ext_at rfl mu
            refine ⟨_, set_list, a0, ws, iv, j, rfl, rfl, g1, by rw [g2.length]; exact ej, ?_⟩
            have st6 := wback_step (u := .lst (ws.set j vv)) st5 rx5 hw5 hc rfl rfl mu ⟨_, upd_same, RepVs.ext ex (List.prefix_refl _) (g2.set j rp5)⟩ rfl
            exact q6 σ _ al5 st6 .refl
          · split at hx
            · rename_i hz
              cases hx
              simp only [Bool.and_eq_true, decide_eq_true_eq] at hz
              obtain ⟨a0, rfl, hs0, g1, g2⟩ := rc
              obtain ⟨key, rfl, hkey⟩ := key_of_rep rk5 hz.1
              have mu : Mut (H3 a0) := by rw [g1]; trivial
              have ex : Ext (fun b => b = a0) H3 (upd H3 a0 (.dK (putK hs0 key vv))) := ext_at rfl mu
              refine ⟨_, set_dict (by have := ok.hu; omega), a0, _, rfl, DPut.k g1 (by rw [repK_len g2]; exact hz.2), ?_⟩
              have st6 := wback_step (u := .dK (putK hs0 key vv)) st5 rx5 hw5 hc rfl rfl mu ⟨_, upd_same, RepK.ext ex (List.prefix_refl _) (repK_put hkey rk5 rp5 g2)⟩ rfl
              exact q6 σ _ al5 st6 .refl
            · cases hx
          · cases hx
end
end Kv

set_option Elab.async false
set_option linter.all false
set_option maxRecDepth 100000
/-! Loops. -/
namespace Kv
open PySem L2 PySem.Spec PyProof.Rows
variable {Z : Kx} {W : WX}
theorem Reps.step2 {s s1 : Kv.St} {σ σ1 : L2.St} {H H1 : Hp} {al al1 : List Addr} (st : Step Z s σ H al s1 σ1 H1 al1) : ∀ {os : List Opd} {vs : List V}, (∀ i ∈ srcSlots os, σ1[i]? = σ[i]?) → Reps Z H al s σ os vs → Reps Z H1 al1 s1 σ1 os vs
  | [], _, _, h => h
  | .val (.pv p) :: os, _, hs, ⟨v, vr, e, h1, h2⟩ => ⟨v, vr, e, RepV.ext st.ext st.pre h1, Reps.step2 st hs h2⟩
  | .val (.own ob) :: os, _, hs, ⟨v, vr, e, h1, h2⟩ => by
    refine ⟨v, vr, e, ?_, Reps.step2 st hs h2⟩
    obtain ⟨a, e, g, t, n⟩ := h1
    obtain ⟨u, hu⟩ := g.tracked t
    have hs' : H1 a = H a := by rw [hu]; exact st.ext a u hu (.inl n)
    refine ⟨a, e, g.at st.ext st.pre hs', t, fun q => ?_⟩
    rcases st.new a q with q | q
    · exact n q
    · rw [hu] at q; cases q
  | .slot i :: os, _, hs, ⟨v, vr, e, h1, h2⟩ => by
    refine ⟨v, vr, e, ?_, Reps.step2 st (fun j z => hs j (List.mem_cons_of_mem _ z)) h2⟩
    have h1' : σ[i]? = some (some v) := h1
    show σ1[i]? = some (some v)
    rw [hs i List.mem_cons_self]; exact h1'
  | .tab ob :: os, _, hs, ⟨v, vr, e, h1, h2⟩ => ⟨v, vr, e, h1, Reps.step2 st hs h2⟩
theorem Prot.sub {pr pr' : List Nat} {σ σ' : L2.St} (h : Prot pr' σ σ') (s : ∀ i, prot pr i = true → prot pr' i = true) : Prot pr σ σ' := fun i hi => h i (s i hi)
theorem prot_app {a b : List Nat} {i : Nat} : prot (a ++ b) i = (prot a i || prot b i) := by
  unfold prot
  rw [Bool.eq_iff_iff]
  simp
section
variable {X : Cx} {N : Kv.Env} {pr : List Nat}
/-- a body, whatever is protected -/
def tAnyPr (Z : Kx) (W : WX) (N : Kv.Env) (tb : List S) : TS := fun D σ H => ∃ pr, tS Z W pr (evSs N tb pr) D σ H
theorem any_pr {body : List Stmt} {tb : List S} (h : ∀ pr, PSs X body (tS Z W pr (evSs N tb pr))) : PSs X body (tAnyPr Z W N tb) := ⟨fun pins s σ H D I ⟨pr, q⟩ => (h pr).run pins s σ H D I q⟩
theorem for_loop {t : T} {body : List S} {os : List Opd} {cs : List SV} {xs : List PV} {s0 s1 : Kv.St} {σ : L2.St} {H0 H1 : Hp} {al0 al1 : List Addr} {vs : List V} {D : Ends} {J : It}
    (st1 : Step Z s0 σ H0 al0 s1 σ H1 al1) (r1 : Reps Z H1 al1 s1 σ os vs) (wk : Walk Z t.isTup J cs vs xs)
    (q : oS Z W pr s0 σ H0 al0 (kS Z s0 σ H0 al0 D) (forL (evSs N body (srcSlots os ++ pr)) (srcSlots os ++ pr) t (stands os cs) xs s1)) :
    ∃ Wv : Nat → Nat → L2.St → Hp → Prop, (∃ m, Wv 0 m σ H1) ∧ ∀ i m σ H, Wv i m σ H →
      (J.stop i H ∧ D.nx σ H) ∨ (J.go i H ∧ ∃ Nx : L2.St → Hp → Prop, (∀ σ' H', Nx σ' H' → ∃ m', m' < m ∧ Wv (i + 1) m' σ' H') ∧ ∀ x H', J.yld i H x H' → gOf Z.K t x σ H' fun σ2 H2 => tAnyPr Z W N body { D with nx := Nx, ct := Nx, bk := D.nx } σ2 H2) := by
  let p2 := srcSlots os ++ pr
  have sub : ∀ i, prot pr i = true → prot p2 i = true := fun i hi => by
    show prot (srcSlots os ++ pr) i = true
    rw [prot_app, hi, Bool.or_true]
  have src : ∀ i ∈ srcSlots os, prot p2 i = true := fun i hi => by
    show prot (srcSlots os ++ pr) i = true
    rw [prot_app]
    have : prot (srcSlots os) i = true := by unfold prot; simpa using hi
    rw [this]; rfl
  let Inv := fun (i : Nat) (σc : L2.St) (H : Hp) => i ≤ xs.length ∧ ∃ si ali, oS Z W pr s0 σ H0 al0 (kS Z s0 σ H0 al0 D) (forL (evSs N body p2) p2 t (stands os cs) (xs.drop i) si) ∧ Step Z s1 σ H1 al1 si σc H ali ∧ Prot p2 σ σc
  refine ⟨fun i m σc H => m = xs.length - i ∧ Inv i σc H, ⟨xs.length, by simp, Nat.zero_le _, s1, al1, ?_, .refl st1.sr, .refl⟩, ?_⟩
  · rw [List.drop_zero]; exact q
  rintro i m σc H ⟨rfl, hi, si, ali, qi, T, P⟩
  have std : stands os cs si = true := by
    cases hs : stands os cs si with
    | true => rfl
    | false =>
      cases hx : xs.drop i with
      | nil => rw [hx] at qi; unfold forL at qi; simp only [hs, Bool.false_eq_true, if_false] at qi; exact qi.elim
      | cons x r => rw [hx] at qi; unfold forL at qi; simp only [hs, Bool.false_eq_true, if_false] at qi; exact qi.elim
  have rsi : Reps Z H ali si σc os vs := Reps.step2 T (fun j hj => P j (src j hj)) r1
  have rc : RepCs Z H ali cs vs := conts_rep T.sr rsi (stands_mapM std)
  by_cases hlt : i < xs.length
  · refine .inr ⟨wk.go i H ali rc hlt, fun σ' H' => Inv (i + 1) σ' H', fun σ' H' h => ⟨xs.length - (i + 1), by omega, rfl, h⟩, fun x H' y => ?_⟩
    obtain ⟨same, p, ep, rp⟩ := wk.yld i H ali x H' rc hlt y
    have ed : xs.drop i = p :: xs.drop (i + 1) := by
      have e := List.getElem?_eq_getElem hlt
      rw [e] at ep
      cases ep
      exact List.drop_eq_getElem_cons hlt
    rw [ed] at qi
    unfold forL at qi
    simp only [std, if_true] at qi
    cases hb : store p2 t (.pv p) si with
    | bad => simp only [hb] at qi; exact qi.elim
    | exc x s' => exact absurd hb (store_no x s')
    | ok u s2 =>
      simp only [hb] at qi
      obtain ⟨hp, sg, hbt, rfl⟩ := store_inv hb
      have g0 : Step Z s1 σ H1 al1 si σc H' ali := grow_step T same
      refine gOf_okX g0.sr rp hbt fun σ2 bd => ⟨p2, { si with sg := sg }, ali, bd.sr, ?_⟩
      have st2 : Step Z s1 σ H1 al1 { si with sg := sg } σ2 H' ali := bd.step g0 trivial
      have P2 : Prot p2 σ σ2 := P.trans (bd.prot hp)
      cases he : evSs N body p2 { si with sg := sg } with
      | bad => rw [he] at qi; exact qi.elim
      | exc x s' =>
        rw [he] at qi
        exact fun cls d σ3 H3 al3 st3 P3 rx => qi cls d σ3 H3 al3 (st1.trans (st2.trans st3)) ((P2.trans P3).sub sub) rx
      | ok f s3 =>
        rw [he] at qi
        cases f with
        | nx => exact fun σ3 H3 al3 st3 P3 => ⟨hlt, s3, al3, qi, st2.trans st3, P2.trans P3⟩
        | cnt => exact fun σ3 H3 al3 st3 P3 => ⟨hlt, s3, al3, qi, st2.trans st3, P2.trans P3⟩
        | brk => exact fun σ3 H3 al3 st3 P3 => qi σ3 H3 al3 (st1.trans (st2.trans st3)) ((P2.trans P3).sub sub)
        | ret v => exact fun σ3 H3 al3 st3 P3 u ru nu => qi σ3 H3 al3 (st1.trans (st2.trans st3)) ((P2.trans P3).sub sub) u ru ((nu.back2 st2).back2 st1)
  · have e : i = xs.length := by omega
    subst e
    refine .inl ⟨wk.stop _ H ali rc rfl, ?_⟩
    rw [List.drop_length] at qi
    unfold forL at qi
    simp only [std, if_true] at qi
    exact qi σc H ali (st1.trans T) (P.sub sub)
theorem s_for (ok : XOk Z W X) (po : PassesOwn (model X.prog X.w) X.A X.env X.xe) {tg iter : Expr} {body : List Stmt} {t : T} {ik : Ik} {es : List E} {tb : List S} {pos : Pos} (hi : PI X tg iter (tI Z W t.isTup (evI N ik es))) (hg : PG X tg (gOf Z.K t)) (hb : ∀ pr, PSs X body (tS Z W pr (evSs N tb pr)))
    (hs : ∀ x, foldedSetIterable iter X.env x = pure x) : PS X (.For tg iter body [] pos) (tS Z W pr (evS N (.forr t ik es tb) pr)) := by
  refine PS.imp (ps_for po ok.calm hi hg (any_pr hb) hs) fun D σ H ⟨s, al, sr, q⟩ => ⟨s, al, sr, ?_⟩
  have q' : oS Z W pr s σ H al (kS Z s σ H al D) ((evs N es >>= fun os => srcOf ik os >>= fun r => forL (evSs N tb (srcSlots r.1 ++ pr)) (srcSlots r.1 ++ pr) t (stands r.1 r.2.1) r.2.2) s) := q
  have q2 : oS Z W pr s σ H al (kS Z s σ H al D) ((evI N ik es >>= fun r => forL (evSs N tb (srcSlots r.1 ++ pr)) (srcSlots r.1 ++ pr) t (stands r.1 r.2.1) r.2.2) s) := by
    have e : evI N ik es s = (evs N es >>= fun os => srcOf ik os) s := rfl
    cases h1 : evs N es s with
    | bad => rw [bind_bad h1] at q'; exact q'.elim
    | exc x s1 =>
      rw [bind_exc h1] at q'
      rw [bind_exc (by rw [e, bind_exc h1])]
      exact q'
    | ok os s1 =>
      rw [bind_ok h1] at q'
      cases h2 : srcOf ik os s1 with
      | bad => rw [bind_bad h2] at q'; exact q'.elim
      | exc x s2 =>
        rw [bind_exc h2] at q'
        rw [bind_exc (by rw [e, bind_ok h1, h2])]
        exact q'
      | ok r s2 =>
        rw [bind_ok h2] at q'
        rw [bind_ok (by rw [e, bind_ok h1, h2])]
        exact q'
  exact oS.bind (.refl sr) .refl q2 fun r s1 e1 q3 H1 al1 st1 vs J r1 hm wk => for_loop st1 r1 wk q3
theorem zs_while (po : PassesOwn (model X.prog X.w) X.A X.env X.xe) {c : Expr} {body : List Stmt} {tc : B} {tb : List S} {pos : Pos} (hc : PT X c (tT Z W (evT N tc))) (hb : ∀ pr, PSs X body (tS Z W pr (evSs N tb pr))) : PS X (.While c body [] pos) (tS Z W pr (evS N (.while tc tb) pr)) := by
  refine PS.imp (ps_while po hc (any_pr hb)) fun D σ H ⟨s, al, sr, q⟩ => ?_
  have q' : oS Z W pr s σ H al (kS Z s σ H al D) (whileL (evT N tc) (evSs N tb pr) WF s) := q
  refine ⟨fun m σc Hc => ∃ si ali, oS Z W pr s σ H al (kS Z s σ H al D) (whileL (evT N tc) (evSs N tb pr) m si) ∧ Step Z s σ H al si σc Hc ali ∧ Prot pr σ σc, ⟨WF, s, al, q', .refl sr, .refl⟩, ?_⟩
  rintro m σc Hc ⟨si, ali, qi, T, P⟩
  cases m with
  | zero => exact qi.elim
  | succ n =>
    unfold whileL at qi
    refine ⟨si, ali, T.sr, ?_⟩
    cases ht : evT N tc si with
    | bad => simp only [ht] at qi; exact qi.elim
    | exc x s' => simp only [ht] at qi; exact fun cls d H' al' st' rx => qi cls d σc H' al' (T.trans st') P rx
    | ok b s1 =>
      intro H1 al1 st1
      cases b with
      | false =>
        simp only [ht] at qi
        simp only [kT, if_false, Bool.false_eq_true]
        exact qi σc H1 al1 (T.trans st1) P
      | true =>
        simp only [ht] at qi
        simp only [kT, if_true]
        refine ⟨fun σ' H' => ∃ si ali, oS Z W pr s σ H al (kS Z s σ H al D) (whileL (evT N tc) (evSs N tb pr) n si) ∧ Step Z s σ H al si σ' H' ali ∧ Prot pr σ σ', fun σ' H' h => ⟨n, Nat.lt_succ_self n, h⟩, pr, s1, al1, st1.sr, ?_⟩
        have T1 := T.trans st1
        cases he : evSs N tb pr s1 with
        | bad => simp only [he] at qi; exact qi.elim
        | exc x s' => simp only [he] at qi; exact fun cls d σ3 H3 al3 st3 P3 rx => qi cls d σ3 H3 al3 (T1.trans st3) (P.trans P3) rx
        | ok f s3 =>
          simp only [he] at qi
          cases f with
          | nx => exact fun σ3 H3 al3 st3 P3 => ⟨s3, al3, qi, T1.trans st3, P.trans P3⟩
          | cnt => exact fun σ3 H3 al3 st3 P3 => ⟨s3, al3, qi, T1.trans st3, P.trans P3⟩
          | brk => exact fun σ3 H3 al3 st3 P3 => qi σ3 H3 al3 (T1.trans st3) (P.trans P3)
          | ret v => exact fun σ3 H3 al3 st3 P3 u ru nu => qi σ3 H3 al3 (T1.trans st3) (P.trans P3) u ru (nu.back2 T1)
theorem ip_any {op : Operator} : PIp X op (fun x y H Q => ∃ r : TIp, PIp X op r ∧ r x y H Q) := fun pins s σ H x y v u Q I rx ry ⟨r, h, q⟩ => h pins s σ H x y v u Q I rx ry q
theorem zs_aug {x : Str} {ee : Expr} {e : E} {op : Operator} {i : Nat} {pos' pos : Pos} (hN : X.N.Nodup) (hi : X.N[i]? = some x) (hx : Loc X.env.scope x) (hf : X.fn x = true ∨ X.env.scope.names.lookup x = some .local) (he : PE X ee (tE Z W (ev N e))) :
    PS X (.AugAssign (.Name x pos') op ee pos) (tS Z W pr (evS N (.aug i op e) pr)) := by
  refine PS.imp (ps_aug hN hi hx he ip_any hf) fun D σ H ⟨s, al, sr, q⟩ => ?_
  have q' : oS Z W pr s σ H al (kS Z s σ H al D) (match s.get i with
    | some (.pv a) => (ev N e >>= fun o => isInt o >>= fun b => M.ofo (augop op a b) >>= fun v => store pr (.nm i) (.pv v) >>= fun _ => pure Fl.nx) s
    | _ => .bad) := q
  split at q'
  · rename_i a g
    obtain ⟨u, hu, ru⟩ := sr.sg i _ (get_some g)
    refine ⟨u, hu, s, al, sr, ?_⟩
    refine oS.bind (.refl sr) .refl q' fun o s1 e1 q1 H1 al1 st1 v r1 n1 => ?_
    obtain ⟨b, s2, e2, q2⟩ := oS.prim q1 fun x s2 e => by
      cases o with
      | val w => cases w with
        | pv p => cases p <;> cases e
        | own _ => cases e
      | slot _ => cases e
      | tab _ => cases e
    have hb : o = .val (.pv (.int b)) ∧ s1 = s2 := by
      cases o with
      | val w => cases w with
        | pv p =>
          cases p with
          | int b' => have e3 : Out.ok b' s1 = .ok b s2 := e2; injection e3 with e4 e5; subst e4 e5; exact ⟨rfl, rfl⟩
          | _ => cases e2
        | own _ => cases e2
      | slot _ => cases e2
      | tab _ => cases e2
    obtain ⟨rfl, rfl⟩ := hb
    obtain ⟨w, s3, e3, q3⟩ := oS.prim q2 fun x s2 e => by
      unfold M.ofo at e
      split at e <;> cases e
    have hw : augop op a b = some w ∧ s1 = s3 := by
      unfold M.ofo at e3
      split at e3
      · rename_i z hz; injection e3 with e4 e5; subst e4 e5; exact ⟨hz, rfl⟩
      · cases e3
    obtain ⟨hw, rfl⟩ := hw
    obtain ⟨uu, s4, e4, q4⟩ := oS.prim q3 store_no
    obtain ⟨hp, sg, hbt, rfl⟩ := store_inv e4
    have r1' : v = .int b := r1
    subst r1'
    have fin : ∀ {z : Int}, w = .int z → D.nx (σ.set i (some (.int z))) H1 := by
      rintro z rfl
      have hbt' : some (s1.sg.set i (some (SV.pv (.int z)))) = some sg := hbt
      injection hbt' with hbt'
      subst hbt'
      obtain ⟨h1, h2⟩ := st1.sr.assign (i := i) (v := .pv (.int z)) (x := .int z) rfl
      refine q4 _ H1 al1 ⟨st1.pre, h1, st1.ext, fun c hc => ?_⟩ fun j hj => ?_
      · rcases h2 c hc with y | y
        · exact st1.new c y
        · cases y.1
      · by_cases c : i = j
        · subst c
          rw [hp i (List.mem_singleton.mpr rfl)] at hj; cases hj
        · rw [List.getElem?_set_ne c]
    unfold augop at hw
    split at hw
    · cases hw
      have ru' : u = .int _ := ru
      subst ru'
      exact ⟨_, ip_add, _, b, rfl, rfl, fin rfl⟩
    · cases hw
      have ru' : u = .int _ := ru
      subst ru'
      exact ⟨_, ip_sub, _, b, rfl, rfl, fin rfl⟩
    · cases hw
  · exact q'.elim
end
end Kv

set_option Elab.async false
set_option linter.all false
set_option maxRecDepth 100000
/-! Stores to the fields of instances. -/
namespace Kv
open PySem L2 PySem.Spec PyProof.Rows
variable {Z : Kx} {W : WX}
theorem wback_no {x : Opd} {o : Kv.Obj} {s : Kv.St} : ∀ y s2, wback x o s ≠ .exc y s2 := by
  intro y s2 e
  cases x with
  | val w =>
    cases w with
    | pv p =>
      cases p with
      | loc n => simp only [wback] at e; split at e <;> cases e
      | _ => cases e
    | own o => cases e
  | slot i =>
    simp only [wback] at e
    split at e
    · split at e <;> cases e
    · cases e
    · cases e
  | tab o => cases e
theorem setF_cases {c : Nat} {x : Opd} {f : Tx} {p : PV} {s : Kv.St} : setF c x f p s = .bad ∨ ∃ fs, cont x s = some (.own (.ins c fs)) ∧ fs.length < 1000 ∧ setF c x f p s = wback x (.ins c (fput fs f p)) s := by
  unfold setF
  cases hc : cont x s with
  | none =>
    left
    exact bind_bad (by unfold cont1; rw [hc])
  | some k =>
    have h1 : cont1 x s = .ok k s := by unfold cont1; rw [hc]
    rw [bind_ok h1]
    cases hi : insOf c k with
    | none => left; rfl
    | some fs =>
      obtain rfl := insOf_inv hi
      have h2 : (M.ofo (some fs) : M _) s = .ok fs s := rfl
      rw [bind_ok h2]
      split
      · rename_i hl
        exact .inr ⟨fs, rfl, hl, rfl⟩
      · exact .inl rfl
theorem setF_no {c : Nat} {x : Opd} {f : Tx} {p : PV} {s : Kv.St} : ∀ y s2, setF c x f p s ≠ .exc y s2 := by
  intro y s2 e
  rcases setF_cases (c := c) (x := x) (f := f) (p := p) (s := s) with h | ⟨fs, _, _, h⟩
  · rw [h] at e; cases e
  · rw [h] at e; exact wback_no y s2 e
theorem setF_inv {c : Nat} {x : Opd} {f : Tx} {p : PV} {s s2 : Kv.St} {u : Unit} (e : setF c x f p s = .ok u s2) : ∃ fs, cont x s = some (.own (.ins c fs)) ∧ fs.length < 1000 ∧ wback x (.ins c (fput fs f p)) s = .ok () s2 := by
  rcases setF_cases (c := c) (x := x) (f := f) (p := p) (s := s) with h | ⟨fs, h1, h2, h⟩
  · rw [h] at e; cases e
  · rw [h] at e; exact ⟨fs, h1, h2, e⟩
/-- two temporary things, the second new behind the first -/
theorem temp_ne {sA sB : Kv.St} {σ : L2.St} {HA HB : Hp} {alA alB : List Addr} {oA oB : Opd} {vA vB : V} (ra : RepP Z HA alA sA σ oA vA) (nb : New alA sA σ HA oB vB) (rb : RepP Z HB alB sB σ oB vB) (tb : IsTemp oB = true) (ta : IsTemp oA = true) : vB ≠ vA := by
  intro e
  cases oB with
  | val wB =>
    cases wB with
    | pv p => cases tb
    | own obB =>
      obtain ⟨b, eb, _⟩ := rb
      cases oA with
      | val wA =>
        cases wA with
        | pv p => cases ta
        | own obA =>
          obtain ⟨a', ea, ga, ta', fa⟩ := ra
          rw [ea] at e
          rw [e] at nb
          have nb' : Ft alA sA σ a' ∨ HA a' = none := nb
          rcases nb' with z | z
          · exact fa z
          · obtain ⟨u, hu⟩ := ga.tracked ta'
            rw [z] at hu; cases hu
      | slot i => cases ta
      | tab ob => cases ta
  | slot i => cases tb
  | tab ob => cases tb
/-- an operand behind another one's boxing -/
theorem rep_boxed {s s1 : Kv.St} {σ : L2.St} {H : Hp} {al al1 : List Addr} {v x : Opd} {vv w : V} (pre : al <+: al1) (f : ∀ b, Ft al1 s1 σ b → Ft al s σ b ∨ (IsTemp v = true ∧ vv = .ref b)) (rr : RepP Z H al s σ x w) (ne : IsTemp x = true → IsTemp v = true → w ≠ vv) : RepP Z H al1 s1 σ x w := by
  by_cases t : IsTemp v = true
  · exact rr.relay pre (fun b z => (f b z).elim .inl fun y => .inr y.2) fun t' => ne t' t
  · refine RepP.relay (v0 := .non) pre (fun b z => (f b z).elim .inl fun y => absurd y.1 t) (fun t' e => ?_) rr
    cases x with
    | val w' =>
      cases w' with
      | pv p => cases t'
      | own ob => obtain ⟨a, e', _⟩ := rr; rw [e'] at e; cases e
    | slot i => cases t'
    | tab ob => cases t'
section
variable {X : Cx} {N : Kv.Env} {pr : List Nat}
theorem zs_asgF {c : Nat} {f : Tx} {eo e : Expr} {o a : E} {pos' pos : Pos} (ho : PE X eo (tE Z W (ev N o))) (he : PE X e (tE Z W (ev N a))) (cl : Cls X.K (Z.ca c)) (na : NoAttr X.K (Z.ca c) (toStr f))
    (hs : swapsWith e (some (.Attribute eo (toStr f) pos')) pos.line X.env = pure false) : PS X (.Assign [.Attribute eo (toStr f) pos'] e pos) (tS Z W pr (evS N (.asgF c o f a) pr)) := by
  refine PS.imp (ps_fld ho he hs) fun D σ H ⟨s, al, sr, q⟩ => ⟨s, al, sr, ?_⟩
  have q' : oS Z W pr s σ H al (kS Z s σ H al D) ((ev N a >>= fun v => ev N o >>= fun x => box v >>= fun p => setF c x f p >>= fun _ => pure Fl.nx) s) := q
  refine oS.bind (.refl sr) .refl q' fun v s1 e1 q1 H1 al1 st1 vv r1 n1 => ⟨s1, al1, st1.sr, oS.bind st1 .refl q1 fun x s2 e2 q2 H2 al2 st2 xv r2 n2 => ?_⟩
  obtain ⟨p, s3, e3, q3⟩ := oS.prim q2 box_no
  obtain ⟨al3, st3, rp, pre3, _, f3⟩ := box_step (st1.trans st2) (r1.step st2) n1 e3
  have rx := rep_boxed pre3 f3 r2 fun tb ta => temp_ne r1 n2 r2 tb ta
  obtain ⟨u, s4, e4, q4⟩ := oS.prim q3 setF_no
  obtain ⟨fs, hc, hl, hw⟩ := setF_inv e4
  obtain ⟨b, rfl, dx, hf, g1, g2⟩ := cont_rep st3.sr rx hc
  have mu : Mut (H2 b) := by rw [g1]; trivial
  have ex : Ext (fun y => y = b) H2 (upd H2 b (.ins (Z.ca c) dx (putF (toStr f) vv hf))) := ext_at rfl mu
  refine ⟨b, Z.ca c, dx, hf, rfl, g1, cl, na, by rw [fld_len g2]; exact hl, ?_⟩
  have st4 := wback_step (u := .ins (Z.ca c) dx (putF (toStr f) vv hf)) st3 rx hw hc rfl rfl mu ⟨dx, _, upd_same, RepF.ext ex (List.prefix_refl _) (put_fld rp g2)⟩ rfl
  exact q4 σ _ al3 st4 .refl
theorem in_any {op : Operator} : InOp X op (fun x y H Q => ∃ r : V → V → Hp → VK → Prop, InOp X op r ∧ r x y H Q) := fun pins s σ H x y u v Q I rx ry ⟨r, h, q⟩ => h pins s σ H x y u v Q I rx ry q
theorem zs_augF {c : Nat} {f : Tx} {op : Operator} {eo e : Expr} {o a : E} {tpos pos : Pos} (ho : PE X eo (tE Z W (ev N o))) (he : PE X e (tE Z W (ev N a))) (cl : Cls X.K (Z.ca c)) (na : NoAttr X.K (Z.ca c) (toStr f)) :
    PS X (.AugAssign (.Attribute eo (toStr f) tpos) op e pos) (tS Z W pr (evS N (.augF c o f op a) pr)) := by
  refine PS.imp (ps_fldaug ho he in_any) fun D σ H ⟨s, al, sr, q⟩ => ⟨s, al, sr, ?_⟩
  have q' : oS Z W pr s σ H al (kS Z s σ H al D) ((ev N o >>= fun x => cont1 x >>= fun k => M.ofo ((insOf c k).bind fun fs => flook fs f) >>= fun a0 => ev N a >>= fun y => isInt y >>= fun b => M.ofo (augop op a0 b) >>= fun v => setF c x f v >>= fun _ => pure Fl.nx) s) := q
  refine oS.bind (.refl sr) .refl q' fun x s1 e1 q1 H1 al1 st1 xv r1 n1 => ?_
  have ofo_no : ∀ {α : Type} {o : Option α} {s : Kv.St} y s2, (M.ofo o : M α) s ≠ .exc y s2 := by
    intro α o s y s2 e
    unfold M.ofo at e
    split at e <;> cases e
  have ofo_ok : ∀ {α : Type} {o : Option α} {s s2 : Kv.St} {z : α}, (M.ofo o : M α) s = .ok z s2 → o = some z ∧ s = s2 := by
    intro α o s s2 z e
    unfold M.ofo at e
    split at e
    · injection e with e4 e5
      subst e4 e5
      exact ⟨rfl, rfl⟩
    · cases e
  have cont_no : ∀ {x : Opd} {s : Kv.St} y s2, cont1 x s ≠ .exc y s2 := by
    intro x s y s2 e
    unfold cont1 at e
    split at e <;> cases e
  have cont_ok : ∀ {x : Opd} {s s2 : Kv.St} {z : SV}, cont1 x s = .ok z s2 → cont x s = some z ∧ s = s2 := by
    intro x s s2 z e
    unfold cont1 at e
    split at e
    · rename_i z' hz
      injection e with e4 e5
      subst e4 e5
      exact ⟨hz, rfl⟩
    · cases e
  obtain ⟨k, s2, e2, q2⟩ := oS.prim q1 cont_no
  obtain ⟨hc, rfl⟩ := cont_ok e2
  obtain ⟨a0, s3, e3, q3⟩ := oS.prim q2 ofo_no
  obtain ⟨hz, rfl⟩ := ofo_ok e3
  obtain ⟨fs, hi, hk⟩ := Option.bind_eq_some_iff.mp hz
  obtain rfl := insOf_inv hi
  obtain ⟨b, rfl, dx, hf, g1, g2⟩ := cont_rep st1.sr r1 hc
  obtain ⟨w, hw, rw_⟩ := (look_fld (f := f) g2).1 a0 hk
  refine ⟨b, Z.ca c, dx, hf, w, rfl, g1, cl, na, hw, s1, al1, st1.sr, ?_⟩
  refine oS.bind st1 .refl q3 fun y s4 e4 q4 H2 al2 st2 yv r2 n2 => ?_
  obtain ⟨i, s5, e5, q5⟩ := oS.prim q4 fun y' s' e => by
    cases y with
    | val w => cases w with
      | pv p => cases p <;> cases e
      | own _ => cases e
    | slot _ => cases e
    | tab _ => cases e
  have hb : y = .val (.pv (.int i)) ∧ s4 = s5 := by
    cases y with
    | val w => cases w with
      | pv p =>
        cases p with
        | int b' => have z3 : Out.ok b' s4 = .ok i s5 := e5; injection z3 with z4 z5; subst z4 z5; exact ⟨rfl, rfl⟩
        | _ => cases e5
      | own _ => cases e5
    | slot _ => cases e5
    | tab _ => cases e5
  obtain ⟨rfl, rfl⟩ := hb
  have r2' : yv = .int i := r2
  subst r2'
  obtain ⟨nv, s6, e6, q6⟩ := oS.prim q5 ofo_no
  obtain ⟨hn, rfl⟩ := ofo_ok e6
  have rx := r1.step st2
  obtain ⟨u, s7, e7, q7⟩ := oS.prim q6 setF_no
  obtain ⟨fs', hc', hl', hw'⟩ := setF_inv e7
  obtain ⟨b', eb, dx', hf', g1', g2'⟩ := cont_rep st2.sr rx hc'
  cases eb
  have mu : Mut (H2 b) := by rw [g1']; trivial
  have fin : ∀ z : Int, nv = .int z → ∃ dx' fs', H2 b = some (.ins (Z.ca c) dx' fs') ∧ fs'.length < 1000 ∧ D.nx σ (upd H2 b (.ins (Z.ca c) dx' (putF (toStr f) (.int z) fs'))) := by
    rintro z rfl
    have ex : Ext (fun y => y = b) H2 (upd H2 b (.ins (Z.ca c) dx' (putF (toStr f) (.int z) hf'))) := ext_at rfl mu
    refine ⟨dx', hf', g1', by rw [fld_len g2']; exact hl', ?_⟩
    have rz : RepV Z H2 al2 (.int z) (.int z) := rfl
    have st4 := wback_step (u := .ins (Z.ca c) dx' (putF (toStr f) (.int z) hf')) (st1.trans st2) rx hw' hc' rfl rfl mu ⟨dx', _, upd_same, RepF.ext ex (List.prefix_refl _) (put_fld rz g2')⟩ rfl
    exact q7 σ _ al2 st4 .refl
  unfold augop at hn
  split at hn
  · cases hn
    have ru' : w = .int _ := rw_
    subst ru'
    exact ⟨rAdd, in_add, _, i, rfl, rfl, fin _ rfl⟩
  · cases hn
    have ru' : w = .int _ := rw_
    subst ru'
    exact ⟨rSub, in_sub, _, i, rfl, rfl, fin _ rfl⟩
  · cases hn
end
end Kv

set_option Elab.async false
set_option linter.all false
set_option maxRecDepth 100000
/-! The check that a body of the program's form is a body of Kv. -/
namespace Kv
open PySem L2 PySem.Spec PyProof.Rows

/-- a class: its name, the names of its instances' fields, its methods, its __init__ -/
structure Cd where
  x : Str
  fs : List Tx
  ms : List (Tx × Nat)
  ini : Option Nat
structure Ck where
  N : List Str
  sc : Scope
  fnn : List (Str × NameKind)
  fs : List Str
  bs : List Str
  ts : List Str
  cs : List Cd
def Ck.att (C : Ck) (c : Nat) (f : Tx) : Bool := match C.cs[c]? with
  | some d => d.fs.contains f
  | none => false
def Ck.met (C : Ck) (c : Nat) (m : Tx) (f : Nat) : Bool := match C.cs[c]? with
  | some d => d.ms.contains (m, f)
  | none => false
def Ck.ini (C : Ck) (c f : Nat) (x : Str) : Bool := match C.cs[c]? with
  | some d => decide (d.ini = some f) && decide (d.x = x)
  | none => false
def Ck.blk (C : Ck) (scope : Scope) : Ck := { C with sc := relS scope C.sc, fnn := scope.names }
def Ck.vis (C : Ck) (x : Str) : Bool := match C.sc.names.lookup x with
  | some .local => true
  | some .cell => true
  | some .free => true
  | _ => false
def Ck.glo (C : Ck) (x : Str) : Bool := match C.sc.names.lookup x with
  | some .globalImplicit => true
  | _ => false
def Ck.loc (C : Ck) (x : Str) : Bool := match C.sc.names.lookup x with
  | some .local => true
  | some .cell => (match C.fnn.lookup x with | some .cell => true | _ => false)
  | _ => false
def Ck.blt (C : Ck) (x : Str) : Bool := C.glo x && C.bs.any fun y => decide (y = x)
def Ck.nm (C : Ck) (i : Nat) (x : Str) : Bool := decide (C.N[i]? = some x)
def nst : Expr → Bool
  | .Starred _ _ => false
  | _ => true
def nsl : Expr → Bool
  | .Slice _ _ _ _ => false
  | _ => true
def nset : Expr → Bool
  | .Set _ _ _ => false
  | _ => true
def ncomp : Expr → Bool
  | .ListComp .. => false
  | .SetComp .. => false
  | .DictComp .. => false
  | _ => true
def ntup : Expr → Bool
  | .Tuple .. => false
  | _ => true
def ntst : Expr → Bool
  | .UnaryOp .. => false
  | .BoolOp .. => false
  | .IfExp .. => false
  | .Compare .. => false
  | _ => true
def nbase : Expr → Bool
  | .Call (.Name x _) [] _ _ => x != "super"
  | .Call _ [] _ _ => false
  | _ => true
def sameLine (a b : Pos) : Bool := a.endLine == b.line
def ckC : Const → PV → Bool
  | .none, .non => true
  | .bool a, .bl b => a == b
  | .int a, .int b => decide (a = b)
  | .str a, .str b => decide (a = toStr b)
  | _, _ => false
mutual
def ckT (C : Ck) : T → Expr → Bool
  | .nm i, .Name x _ => C.nm i x && C.loc x
  | .tup ts, .Tuple es _ _ => ckTs C ts es
  | _, _ => false
def ckTs (C : Ck) : List T → List Expr → Bool
  | [], [] => true
  | t :: ts, e :: es => nst e && ckT C t e && ckTs C ts es
  | _, _ => false
end
def ownOf (C : Ck) (own : List Nat) : List (Str × Nat) := own.map fun i => ((C.N[i]?).getD "", i)
theorem ownOf_snd {C : Ck} {own : List Nat} : (ownOf C own).map (·.2) = own := by
  unfold ownOf; rw [List.map_map]
  have : ((fun x : Str × Nat => x.2) ∘ fun i => ((C.N[i]?).getD "", i)) = id := rfl
  rw [this, List.map_id]

/-- the keys of a display -/
def ckKeys : List Tx → List (Option Expr) → Bool
  | [], [] => true
  | k :: ks, some (.Constant (.str x) _ _) :: es => decide (x = toStr k) && ckKeys ks es
  | _, _ => false
mutual
def ckE : Nat → Ck → E → Expr → Bool
  | 0, _, _, _ => false
  | n + 1, C, a, e => match a with
    | .c v => (match e with
      | .Constant c _ _ => ckC c v
      | _ => false)
    | .var i => (match e with
      | .Name x _ => C.nm i x && C.vis x && (x == ("__debug__" : Str)) == false && (x == ("__classdict__" : Str)) == false
      | _ => false)
    | .tab x => (match e with
      | .Name nm _ => decide (C.ts[x]? = some nm) && C.glo nm && (nm == ("__debug__" : Str)) == false
      | _ => false)
    | .tup as => (match e with
      | .Tuple es _ _ => decide (as.length ≤ 1000) && ckEs n C as es
      | _ => false)
    | .lst as => (match e with
      | .List es _ => decide (as.length ≤ 1000) && ckEs n C as es
      | _ => false)
    | .dic ks as => (match e with
      | .Dict keys es _ => (match ks, as, keys, es with
        | [], [], [], [] => true
        | _, _, _, _ => decide (keys ≠ []) && decide (keys.length = es.length) && decide (keys.length ≤ 15) && decide (ks.length = as.length) && ckKeys ks keys && ckEs n C as es)
      | _ => false)
    | .bin op a b => (match e with
      | .BinOp l op' r _ => decide (op = op') && ckE n C a l && ckE n C b r
      | _ => false)
    | .neg a => (match e with
      | .UnaryOp .USub x _ => ckE n C a x
      | _ => false)
    | .not a => (match e with
      | .UnaryOp .Not x _ => ckE n C a x
      | _ => false)
    | .cmp op a b => (match e with
      | .Compare l [op'] [r] _ => decide (op = op') && behindInMarks op' r == false && ckE n C a l && ckE n C b r
      | _ => false)
    | .and as => (match e with
      | .BoolOp .And (x :: xs) _ => ckEs n C as (x :: xs)
      | _ => false)
    | .or as => (match e with
      | .BoolOp .Or (x :: xs) _ => ckEs n C as (x :: xs)
      | _ => false)
    | .ite t a b => (match e with
      | .IfExp c x y _ => ckB n C t c && ckE n C a x && ckE n C b y
      | _ => false)
    | .call f as => (match e with
      | .Call (.Name x _) (y :: ys) [] _ => decide (C.fs[f]? = some x) && (x == ("" : Str)) == false && C.glo x && (x == ("__debug__" : Str)) == false && ckEs n C as (y :: ys)
      | .Call (.Name x _) [] [] _ => decide (C.fs[f]? = some x) && (x == ("" : Str)) == false && C.glo x && (x == ("__debug__" : Str)) == false && as.isEmpty
      | _ => false)
    | .any => ncomp e
    | .fld c a f => (match e with
      | .Attribute o x _ => nbase o && decide (x = toStr f) && C.att c f && ckE n C a o
      | _ => false)
    | .meth c m f a as => (match e with
      | .Call (.Attribute o x apos) (y :: ys) [] cpos => (apos.endLine == cpos.line) && nbase o && decide (x = toStr m) && C.met c m f && decide ((y :: ys).length < 29) && ckE n C a o && ckEs n C as (y :: ys)
      | .Call (.Attribute o x apos) [] [] cpos => (apos.endLine == cpos.line) && nbase o && decide (x = toStr m) && C.met c m f && ckE n C a o && as.isEmpty
      | _ => false)
    | .make c f as => (match e with
      | .Call (.Name x _) (y :: ys) [] _ => C.ini c f x && C.glo x && (x == ("__debug__" : Str)) == false && ckEs n C as (y :: ys)
      | .Call (.Name x _) [] [] _ => C.ini c f x && C.glo x && (x == ("__debug__" : Str)) == false && as.isEmpty
      | _ => false)
    | .sset a => (match e with
      | .Call (.Name x _) [.Call (.Name y _) [z] [] _] [] _ => decide (x = ("sorted" : Str)) && decide (y = ("set" : Str)) && C.blt x && C.blt y && nst z && ckE n C a z
      | _ => false)
    | .sit a => (match e with
      | .Call (.Name x _) [.Call (.Attribute o y apos) [] [] cpos] [] _ => decide (x = ("sorted" : Str)) && decide (y = ("items" : Str)) && C.blt x && (apos.endLine == cpos.line) && nbase o && ckE n C a o
      | _ => false)
    | .isiT ts a => (match ts, e with
      | [t, u], .Call (.Name x _) [y, .Tuple [.Name z _, .Name v _] _ _] [] _ => decide (x = ("isinstance" : Str)) && decide (z = Str.ofString t.nm) && decide (v = Str.ofString u.nm) && C.blt x && C.blt z && C.blt v && nst y && ckE n C a y
      | _, _ => false)
    | .bi b as => (match e with
      | .Call (.Name x _) (y :: ys) [] _ => (match b.val with
        | some f => decide (x = f.1) && C.blt x && ckEs n C as (y :: ys)
        | none => false)
      | _ => false)
    | .isi t a => (match e with
      | .Call (.Name x _) [y, .Name z _] [] _ => decide (x = ("isinstance" : Str)) && decide (z = Str.ofString t.nm) && C.blt x && C.blt z && nst y && ckE n C a y
      | _ => false)
    | .bm m a as => (match e with
      | .Call (.Attribute o x apos) ys [] cpos => (apos.endLine == cpos.line) && nbase o && ckE n C a o && ckEs n C as ys && (match m, ys with
        | .append, [_] => decide (x = ("append" : Str))
        | .extend, [_] => decide (x = ("extend" : Str))
        | .pop, [] => decide (x = ("pop" : Str))
        | .popAt, [_] => decide (x = ("pop" : Str))
        | .insert, [_, _] => decide (x = ("insert" : Str))
        | _, _ => false)
      | _ => false)
    | .me m a as => (match e with
      | .Call (.Attribute o x apos) ys [] cpos => (apos.endLine == cpos.line) && nbase o && ckE n C a o && ckEs n C as ys && (match m.nm, ys with
        | some f, [_] => decide (x = f.2.2)
        | _, _ => false)
      | _ => false)
    | .getd a k d => (match e with
      | .Call (.Attribute o x apos) [y, z] [] cpos => (apos.endLine == cpos.line) && nbase o && decide (x = ("get" : Str)) && nst y && nst z && ckE n C a o && ckE n C k y && ckE n C d z
      | _ => false)
    | .get1 a k => (match e with
      | .Call (.Attribute o x apos) [y] [] cpos => (apos.endLine == cpos.line) && nbase o && decide (x = ("get" : Str)) && nst y && ckE n C a o && ckE n C k y
      | _ => false)
    | .join a b => (match e with
      | .Call (.Attribute o x apos) [y] [] cpos => (apos.endLine == cpos.line) && nbase o && decide (x = ("join" : Str)) && nst y && ckE n C a o && ckE n C b y
      | _ => false)
    | .idx a i => (match e with
      | .Subscript o x _ => nsl x && ckE n C a o && ckE n C i x
      | _ => false)
    | .sl a lo hi => (match e with
      | .Subscript o (.Slice l h none _) _ => ckE n C a o && ckO n C lo l && ckO n C hi h
      | _ => false)
    | .comp elt t ik es cond own => (match e with
      | .ListComp x [⟨tg, iter, ifs, 0⟩] scope _ => blkC C.N C.sc scope (ownOf C own) && (t.slots.all fun i => own.contains i) && nset iter && ckI n C ik es tg iter && ckT (C.blk scope) t tg && ckCd n (C.blk scope) cond ifs && ckE n (C.blk scope) elt x
      | _ => false)
def ckEs : Nat → Ck → List E → List Expr → Bool
  | 0, _, _, _ => false
  | n + 1, C, as, es => match as, es with
    | [], [] => true
    | a :: as, e :: es => nst e && ckE n C a e && ckEs n C as es
    | _, _ => false
def ckO : Nat → Ck → List E → Option Expr → Bool
  | 0, _, _, _ => false
  | n + 1, C, as, e => match as, e with
    | [], none => true
    | [a], some e => ckE n C a e
    | _, _ => false
def ckB : Nat → Ck → B → Expr → Bool
  | 0, _, _, _ => false
  | n + 1, C, b, e => match b with
    | .e a => (match a, e with
      | .cmp op a b, .Compare l [op'] [r] _ => decide (op = op') && behindInMarks op' r == false && ckE n C a l && ckE n C b r
      | a, e => ntst e && ckE n C a e)
    | .not b => (match e with
      | .UnaryOp .Not x _ => ckB n C b x
      | _ => false)
    | .and bs => (match e with
      | .BoolOp .And (x :: xs) _ => ckBs n C bs (x :: xs)
      | _ => false)
    | .or bs => (match e with
      | .BoolOp .Or (x :: xs) _ => ckBs n C bs (x :: xs)
      | _ => false)
def ckBs : Nat → Ck → List B → List Expr → Bool
  | 0, _, _, _ => false
  | n + 1, C, as, es => match as, es with
    | [], [] => true
    | a :: as, e :: es => ckB n C a e && ckBs n C as es
    | _, _ => false
def ckCd : Nat → Ck → List B → List Expr → Bool
  | 0, _, _, _ => false
  | n + 1, C, as, es => match as, es with
    | [], [] => true
    | [a], [e] => ckB n C a e
    | _, _ => false
def ckI : Nat → Ck → Ik → List E → Expr → Expr → Bool
  | 0, _, _, _, _, _ => false
  | n + 1, C, ik, as, tg, e => match ik with
    | .it => (match as with
      | [a] => ckE n C a e
      | _ => false)
    | .range => (match e with
      | .Call (.Name x _) [y] [] _ => decide (x = ("range" : Str)) && C.blt x && nst y && ckEs n C as [y]
      | .Call (.Name x _) [y, z] [] _ => decide (x = ("range" : Str)) && C.blt x && nst y && nst z && ckEs n C as [y, z]
      | _ => false)
    | .zip => (match e, tg with
      | .Call (.Name x _) [y, z] [] _, .Tuple _ _ _ => decide (x = ("zip" : Str)) && C.blt x && nst y && nst z && ckEs n C as [y, z]
      | _, _ => false)
    | .enum => (match e, tg with
      | .Call (.Name x _) [y] [] _, .Tuple _ _ _ => decide (x = ("enumerate" : Str)) && C.blt x && nst y && ckEs n C as [y]
      | _, _ => false)
    | _ => false
end
mutual
def ckS : Nat → Ck → S → Stmt → Bool
  | 0, _, _, _ => false
  | n + 1, C, s, st => match s with
    | .asg t a => (match st with
      | .Assign [tg] e _ => ckT C t tg && ckE 400 C a e && (match e, tg with
        | .ListComp _ [⟨_, _, _, 0⟩] scope pos, .Name y py => decide (C.sc.kind = .function) && decide (C.sc.names.lookup y = some .local) && (py.line == pos.line) && ((scope.names.any fun (n, k) => n == y && (k == .local || k == .cell)) == false)
        | _, _ => ncomp e && (ntup e || ntup tg))
      | _ => false)
    | .asgI o i a => (match st with
      | .Assign [.Subscript x y _] e _ => nsl y && ncomp e && ckE 400 C o x && ckE 400 C i y && ckE 400 C a e
      | _ => false)
    | .asgF c o f a => (match st with
      | .Assign [.Attribute x y _] e _ => decide (y = toStr f) && C.att c f && ncomp e && ckE 400 C o x && ckE 400 C a e
      | _ => false)
    | .augF c o f op a => (match st with
      | .AugAssign (.Attribute x y _) op' e _ => decide (op = op') && decide (y = toStr f) && C.att c f && ckE 400 C o x && ckE 400 C a e
      | _ => false)
    | .aug i op a => (match st with
      | .AugAssign (.Name x _) op' e _ => decide (op = op') && C.nm i x && C.loc x && ckE 400 C a e
      | _ => false)
    | .ex a => (match st with
      | .Expr e _ => ncomp e && ckE 400 C a e
      | _ => false)
    | .ret a => (match st with
      | .Return (some e) _ => ckE 400 C a e
      | _ => false)
    | .retN => (match st with
      | .Return none _ => true
      | _ => false)
    | .iff c a b => (match st with
      | .If t x y _ => ckB 400 C c t && ckSs n C a x && ckSs n C b y
      | _ => false)
    | .forr t ik es b => (match st with
      | .For tg iter body [] _ => nset iter && ckI 400 C ik es tg iter && ckT C t tg && ckSs n C b body
      | _ => false)
    | .while c b => (match st with
      | .While t body [] _ => ckB 400 C c t && ckSs n C b body
      | _ => false)
    | .brk => (match st with
      | .Break _ => true
      | _ => false)
    | .cnt => (match st with
      | .Continue _ => true
      | _ => false)
    | .pass => (match st with
      | .Pass _ => true
      | _ => false)
    | .any => true
def ckSs : Nat → Ck → List S → List Stmt → Bool
  | 0, _, _, _ => false
  | n + 1, C, as, es => match as, es with
    | [], [] => true
    | a :: as, e :: es => ckS n C a e && ckSs n C as es
    | _, _ => false
end
end Kv

set_option Elab.async false
set_option linter.all false
set_option maxRecDepth 100000
/-! The check is sound. -/
namespace Kv
open PySem L2 PySem.Spec PyProof.Rows
variable {Z : Kx} {W : WX}

/-- what a call of the def with the number f, of the name x, needs -/
def CallFact (Z : Kx) (X : Cx) (N : Kv.Env) (f : Nat) (x : Str) : Prop :=
  ∃ k fn fd ps, N.fns[f]? = some fn ∧ FnOk X.prog X.w X.K X.mg X.base (L2.CX X.prog X.w) k (Z.fa f) fd ps (spF Z N.cl fn.np f) ∧ Room k X.A ∧ X.mg x = some (.ref (Z.fa f)) ∧ PySem.W.keepIn X.K (.ref (Z.fa f)) = true ∧ Binds X.K fd ps []
/-- what a class needs -/
def MethFact (Z : Kx) (X : Cx) (N : Kv.Env) (f : Nat) : Prop :=
  ∃ k fn fd ps, N.fns[f]? = some fn ∧ FnOk X.prog X.w X.K X.mg X.base (L2.CX X.prog X.w) k (Z.fa f) fd ps (spF Z N.cl fn.np f) ∧ Room (k + 1) X.A ∧ Binds X.K fd ps []
structure ClsFact (Z : Kx) (X : Cx) (N : Kv.Env) (c : Nat) (d : Cd) : Prop where
  cl : Cls X.K (Z.ca c)
  mg : X.mg d.x = some (.ref (Z.ca c))
  no : ∀ f ∈ d.fs, NoAttr X.K (Z.ca c) (toStr f)
  ms : ∀ m f, (m, f) ∈ d.ms → Meth X.K (Z.ca c) (toStr m) (Z.fa f) ∧ MethFact Z X N f
  ini : ∀ f, d.ini = some f → Mk X.K (Z.ca c) (Z.fa f) ∧ MethFact Z X N f
structure Good (Z : Kx) (W : WX) (X : Cx) (N : Kv.Env) (C : Ck) : Prop where
  ok : XOk Z W X
  nN : X.N = C.N
  sc : X.env.scope = C.sc
  kd : X.env.scope.kind = .function
  fn : ∀ x, C.fnn.lookup x = some .cell → X.fn x = true
  calls : ∀ f x, C.fs[f]? = some x → (x == ("" : Str)) = false → CallFact Z X N f x
  clss : ∀ c d, C.cs[c]? = some d → ClsFact Z X N c d
  nomg : ∀ x ∈ C.bs, X.mg x = none
  tabs : ∀ (x : Nat) (nm : Str), C.ts[x]? = some nm → ∃ u v o, N.tabs[x]? = some o ∧ X.mg nm = some u ∧ RelV v u ∧ RepTab Z o v

section
variable {X : Cx} {N : Kv.Env} {C : Ck}
theorem Good.blk (g : Good Z W X N C) (s : Shared) (H : Hp) (scope : Scope) (hk : scope.kind = .function) (c : Addr) (cl : List (Str × Addr)) (fp : List Addr) : Good Z W0 (X.blk s H scope (compEnvC scope cl c X.env) fp) N (C.blk scope) where
  ok := ⟨g.ok.hK, g.ok.calm, g.ok.hu, g.ok.nd, takes0, g.ok.hw⟩
  nN := g.nN
  sc := by
    show relS scope X.env.scope = relS scope C.sc
    rw [g.sc]
  kd := hk
  fn := fun x h => by
    show (scope.names.lookup x == some .cell) = true
    have h' : scope.names.lookup x = some .cell := h
    rw [h']; rfl
  calls := g.calls
  clss := fun c d h => let k := g.clss c d h; ⟨k.cl, k.mg, k.no, k.ms, k.ini⟩
  nomg := g.nomg
  tabs := g.tabs
theorem Good.gl (g : Good Z W X N C) {x : Str} (h : C.glo x = true) : Gl X x := by
  show X.env.scope.names.lookup x = some .globalImplicit
  rw [g.sc]
  unfold Ck.glo at h
  split at h
  · assumption
  · cases h
theorem Good.vis (g : Good Z W X N C) {x : Str} (h : C.vis x = true) : Vis X.env.scope x := by
  unfold Vis
  rw [g.sc]
  unfold Ck.vis at h
  split at h
  · exact .inl (by assumption)
  · exact .inr (.inl (by assumption))
  · exact .inr (.inr (by assumption))
  · cases h
theorem Good.loc (g : Good Z W X N C) {x : Str} (h : C.loc x = true) : L2.Loc X.env.scope x ∧ (X.fn x = true ∨ X.env.scope.names.lookup x = some .local) := by
  unfold L2.Loc
  rw [g.sc]
  unfold Ck.loc at h
  split at h
  · rename_i e; exact ⟨.inl e, .inr e⟩
  · rename_i e
    split at h
    · rename_i e2; exact ⟨.inr e, .inl (g.fn x e2)⟩
    · cases h
  · cases h
theorem Good.ix (g : Good Z W X N C) {x : Str} {i : Nat} (h : C.nm i x = true) : X.N[i]? = some x := by
  rw [g.nN]; exact of_decide_eq_true h
theorem Good.blt (g : Good Z W X N C) {x : Str} (h : C.blt x = true) : Gl X x ∧ X.mg x = none := by
  unfold Ck.blt at h
  obtain ⟨h1, h2⟩ := (Bool.and_eq_true _ _).mp h
  obtain ⟨y, hy, e⟩ := List.any_eq_true.mp h2
  have e' := of_decide_eq_true e
  exact ⟨g.gl h1, g.nomg x (e' ▸ hy)⟩
theorem Good.att (g : Good Z W X N C) {c : Nat} {f : Tx} (h : C.att c f = true) : Cls X.K (Z.ca c) ∧ NoAttr X.K (Z.ca c) (toStr f) := by
  unfold Ck.att at h
  split at h
  · rename_i d hd
    have k := g.clss c d hd
    exact ⟨k.cl, k.no f (by simpa using h)⟩
  · cases h
theorem Good.met (g : Good Z W X N C) {c f : Nat} {m : Tx} (h : C.met c m f = true) : Cls X.K (Z.ca c) ∧ Meth X.K (Z.ca c) (toStr m) (Z.fa f) ∧ MethFact Z X N f := by
  unfold Ck.met at h
  split at h
  · rename_i d hd
    have k := g.clss c d hd
    exact ⟨k.cl, k.ms m f (by simpa using h)⟩
  · cases h
theorem Good.ini (g : Good Z W X N C) {c f : Nat} {x : Str} (h : C.ini c f x = true) : X.mg x = some (.ref (Z.ca c)) ∧ Mk X.K (Z.ca c) (Z.fa f) ∧ MethFact Z X N f := by
  unfold Ck.ini at h
  split at h
  · rename_i d hd
    simp only [Bool.and_eq_true, decide_eq_true_eq] at h
    have k := g.clss c d hd
    exact ⟨h.2 ▸ k.mg, k.ini f h.1⟩
  · cases h
theorem star_cons {e : Expr} {es : List Expr} {env : PySem.Env} (h : nst e = true) : starEach (e :: es) env = (false, eval e env) :: starEach es env := by
  cases e <;> first | rfl | cases h
theorem base_ok {o : Expr} {m : Str} {env : PySem.Env} (h : nbase o = true) : attributeBase o m env (eval o env) = eval o env := by
  unfold attributeBase
  split
  · have h' : (_ != ("super" : Str)) = true := h
    rw [h', Bool.true_or, Bool.true_or, Bool.true_or, if_pos rfl]
  · rfl
theorem plainIx {x : Expr} (h : nsl x = true) : PlainIx x := fun o i => by cases x <;> first | rfl | cases h
theorem foldSet {e : Expr} {env : PySem.Env} (h : nset e = true) (x : Value) : foldedSetIterable e env x = pure x := by
  unfold foldedSetIterable
  split
  · cases h
  · rfl
theorem tst_ok {e : Expr} {env : PySem.Env} (h : ntst e = true) (whole : Sem Value) : PySem.isTrue e env whole = (do let v ← whole; standAt e.pos; holding [v] (truthy v)) := by
  cases e <;> first | rfl | cases h
theorem swap_no {e : Expr} {t : Option Expr} {l : Nat} {env : PySem.Env} (h : ncomp e = true) : swapsWith e t l env = pure false := by
  unfold swapsWith
  cases e <;> first | rfl | cases h

/-- all the arguments -/
def AllE (Z : Kx) (W : WX) (X : Cx) (N : Kv.Env) : List E → List Expr → Prop
  | [], [] => True
  | a :: as, e :: es => nst e = true ∧ PE X e (tE Z W (ev N a)) ∧ AllE Z W X N as es
  | _, _ => False
theorem AllE.pa : ∀ {as : List E} {es : List Expr}, AllE Z W X N as es → PA X es (tL Z W (evs N as))
  | [], [], _ => n_nil
  | a :: as, e :: es, ⟨h1, h2, h3⟩ => n_cons h2 (AllE.pa h3) (star_cons h1)
theorem AllE.star : ∀ {as : List E} {es : List Expr} {pos : Pos} {env : PySem.Env}, AllE Z W X N as es → (backTo pos (starEach es env)).any (·.1) = false
  | [], [], _, _, _ => rfl
  | a :: as, e :: es, pos, env, ⟨h1, h2, h3⟩ => by
    rw [star_cons h1]
    exact AllE.star h3
theorem AllE.and : ∀ {as : List E} {x : Expr} {es : List Expr} {pos : Pos}, AllE Z W X N as (x :: es) → PE X (.BoolOp .And (x :: es) pos) (tE Z W (evAndV N as))
  | [_], _, [], _, ⟨_, h, _⟩ => n_vand1 h
  | _ :: _ :: _, _, _ :: _, _, ⟨_, h1, h2⟩ => n_vandc h1 (AllE.and h2)
  | [_], _, _ :: _, _, ⟨_, _, h⟩ => h.elim
  | _ :: _ :: _, _, [], _, ⟨_, _, h⟩ => h.elim
theorem AllE.or : ∀ {as : List E} {x : Expr} {es : List Expr} {pos : Pos}, AllE Z W X N as (x :: es) → PE X (.BoolOp .Or (x :: es) pos) (tE Z W (evOrV N as))
  | [_], _, [], _, ⟨_, h, _⟩ => n_vor1 h
  | _ :: _ :: _, _, _ :: _, _, ⟨_, h1, h2⟩ => n_vorc h1 (AllE.or h2)
  | [_], _, _ :: _, _, ⟨_, _, h⟩ => h.elim
  | _ :: _ :: _, _, [], _, ⟨_, _, h⟩ => h.elim
/-- a display's pairs -/
theorem AllE.pps {pos : Pos} : ∀ {ks : List Tx} {keys : List (Option Expr)} {as : List E} {es : List Expr}, ckKeys ks keys = true → ks.length = as.length → AllE Z W X N as es → PPs X pos keys es (trs Z W N ks as) ∧ keys.all (·.isSome) = true
  | [], [], [], [], _, _, _ => ⟨pps_nil, rfl⟩
  | [], _ :: _, _, _, h, _, _ => by cases h
  | [], [], _ :: _, _, _, h, _ => by cases h
  | [], [], [], _ :: _, _, _, h => h.elim
  | k :: ks, [], _, _, h, _, _ => by cases h
  | k :: ks, none :: _, _, _, h, _, _ => by cases h
  | k :: ks, some e :: keys, [], _, _, h, _ => by cases h
  | k :: ks, some e :: keys, a :: as, [], _, _, h => h.elim
  | k :: ks, some e :: keys, a :: as, e2 :: es, h, hl, ⟨_, h2, h3⟩ => by
    unfold ckKeys at h
    split at h
    · rename_i heq
      cases heq
    · rename_i heq1 heq2
      cases heq1; cases heq2
      rw [Bool.and_eq_true] at h
      obtain ⟨i1, i2⟩ := AllE.pps (pos := pos) h.2 (by simpa using hl) h3
      obtain rfl := of_decide_eq_true h.1
      refine ⟨pps_cons pe_str h2 i1, ?_⟩
      rw [List.all_cons, i2]; rfl
    · cases h
def AllB (Z : Kx) (W : WX) (X : Cx) (N : Kv.Env) : List B → List Expr → Prop
  | [], [] => True
  | a :: as, e :: es => PT X e (tT Z W (evT N a)) ∧ AllB Z W X N as es
  | _, _ => False
theorem AllB.and : ∀ {as : List B} {x : Expr} {es : List Expr} {pos : Pos}, AllB Z W X N as (x :: es) → PW X (.BoolOp .And (x :: es) pos) (tT Z W (evAnd N as))
  | [_], _, [], _, ⟨h, _⟩ => n_and1 h
  | _ :: _ :: _, _, _ :: _, _, ⟨h1, h2⟩ => n_andc h1 (AllB.and h2)
  | [_], _, _ :: _, _, ⟨_, h⟩ => h.elim
  | _ :: _ :: _, _, [], _, ⟨_, h⟩ => h.elim
theorem AllB.or : ∀ {as : List B} {x : Expr} {es : List Expr} {pos : Pos}, AllB Z W X N as (x :: es) → PW X (.BoolOp .Or (x :: es) pos) (tT Z W (evOr N as))
  | [_], _, [], _, ⟨h, _⟩ => n_or1 h
  | _ :: _ :: _, _, _ :: _, _, ⟨h1, h2⟩ => n_orc h1 (AllB.or h2)
  | [_], _, _ :: _, _, ⟨_, h⟩ => h.elim
  | _ :: _ :: _, _, [], _, ⟨_, h⟩ => h.elim
/-- a comparison as a test -/
theorem n_tcmp (ok : XOk Z W X) {ea eb : Expr} {op : CmpOp} {a b : E} {pos : Pos} (hm : behindInMarks op eb = false) (ha : PE X ea (tE Z W (ev N a))) (hb : PE X eb (tE Z W (ev N b))) : PT X (.Compare ea [op] [eb] pos) (tT Z W (evT N (.e (.cmp op a b)))) := by
  refine PT.imp (pt_cmpR (op_any _) ha hb hm) fun σ H Q ⟨s, al, sr, q⟩ => ⟨s, al, sr, ?_⟩
  have q' : oG Z W s σ H al (kT Q) (((ev N a >>= fun x => ev N b >>= fun y => cont2 x y >>= fun c => M.ofo ((cmpall op c.1 c.2).map fun r => Opd.val (.pv (.bl r)))) >>= fun o => cont1 o >>= fun c => M.ofo (truth c)) s) := q
  have q2 : oG Z W s σ H al (kT Q) ((ev N a >>= fun x => ev N b >>= fun y => cont2 x y >>= fun c => M.ofo ((cmpall op c.1 c.2).map fun r => Opd.val (.pv (.bl r))) >>= fun o => cont1 o >>= fun c => M.ofo (truth c)) s) := by
    have as : ∀ {α β γ : Type} (m : M α) (f : α → M β) (g : β → M γ) (s : Kv.St), ((m >>= f) >>= g) s = (m >>= fun a => f a >>= g) s := by
      intro α β γ m f g s
      show M.bind (M.bind m f) g s = M.bind m (fun a => M.bind (f a) g) s
      unfold M.bind
      cases m s <;> rfl
    rw [as] at q'
    have e : (fun x => (ev N b >>= fun y => cont2 x y >>= fun c => M.ofo ((cmpall op c.1 c.2).map fun r => Opd.val (.pv (.bl r)))) >>= fun o => cont1 o >>= fun c => M.ofo (truth c)) = fun x => ev N b >>= fun y => cont2 x y >>= fun c => M.ofo ((cmpall op c.1 c.2).map fun r => Opd.val (.pv (.bl r))) >>= fun o => cont1 o >>= fun c => M.ofo (truth c) := by
      funext x s
      rw [as]
      have e2 : (fun y => (cont2 x y >>= fun c => M.ofo ((cmpall op c.1 c.2).map fun r => Opd.val (.pv (.bl r)))) >>= fun o => cont1 o >>= fun c => M.ofo (truth c)) = fun y => cont2 x y >>= fun c => M.ofo ((cmpall op c.1 c.2).map fun r => Opd.val (.pv (.bl r))) >>= fun o => cont1 o >>= fun c => M.ofo (truth c) := by
        funext y s; rw [as]
      rw [e2]
    rw [e] at q'
    exact q'
  refine oG.bind (.refl sr) q2 fun o1 s1 e1 q1 H1 al1 st1 v1 r1 n1 => ⟨s1, al1, st1.sr, oG.bind st1 q1 fun o2 s2 e2 q2 H2 al2 st2 v2 r2 n2 => ?_⟩
  obtain ⟨c, d, ec, ed, q3⟩ := oG.cont2 q2
  have st12 := st1.trans st2
  cases er : cmpall op c d with
  | none =>
    have e : M.ofo ((cmpall op c d).map fun r => Opd.val (.pv (.bl r))) s2 = .bad := by rw [er]; rfl
    rw [bind_bad e] at q3
    exact q3.elim
  | some res =>
    have e : M.ofo ((cmpall op c d).map fun r => Opd.val (.pv (.bl r))) s2 = .ok (.val (.pv (.bl res))) s2 := by rw [er]; rfl
    rw [bind_ok e] at q3
    have q5 : oG Z W s σ H al (kT Q) (Out.ok res s2) := q3
    exact cmp_ok ok.hK ok.hu er (cont_rep st12.sr (r1.step st2) ec) (cont_rep st12.sr r2 ed) ⟨res, rfl, q5 H2 al2 st12⟩
mutual
theorem ckT_ok (g : Good Z W X N C) : ∀ {t : T} {e : Expr}, ckT C t e = true → PG X e (gOf Z.K t)
  | .nm i, e, h => by
    cases e with
    | Name x pos =>
      unfold ckT at h
      obtain ⟨h1, h2⟩ := (Bool.and_eq_true _ _).mp h
      exact pg_name g.ok.nd (g.ix h1) (g.loc h2).1 (g.loc h2).2
    | _ => unfold ckT at h; cases h
  | .tup ts, e, h => by
    cases e with
    | Tuple es k pos =>
      unfold ckT at h
      obtain ⟨h1, h2, h3⟩ := ckTs_ok g h
      show PG X _ (gTup Z.K ts.length (gOfs Z.K ts))
      have p := pg_tup (n := ts.length) (pos := pos) (k := k) g.ok.calm h1 (h2 _) (h3 _)
      rw [g.ok.hK] at p
      exact p
    | _ => unfold ckT at h; cases h
theorem ckTs_ok (g : Good Z W X N C) : ∀ {ts : List T} {es : List Expr}, ckTs C ts es = true → PGs X es (gOfs Z.K ts) ∧ (∀ env : PySem.Env, (assignEach es env).length = ts.length) ∧ ∀ env : PySem.Env, (assignEach es env).findIdx? (·.1) = none
  | [], [], h => ⟨pgs_nil, fun _ => rfl, fun _ => rfl⟩
  | [], _ :: _, h => by unfold ckTs at h; cases h
  | _ :: _, [], h => by unfold ckTs at h; cases h
  | t :: ts, e :: es, h => by
    unfold ckTs at h
    simp only [Bool.and_eq_true] at h
    obtain ⟨⟨h1, h2⟩, h3⟩ := h
    obtain ⟨i1, i2, i3⟩ := ckTs_ok g h3
    have hs : ∀ env : PySem.Env, assignEach (e :: es) env = (false, assign e env) :: assignEach es env := fun env => by cases e <;> first | rfl | cases h1
    refine ⟨pgs_cons (ckT_ok g h2) i1 (by rw [hs]; rfl), fun env => by rw [hs, List.length_cons, List.length_cons, i2], fun env => ?_⟩
    rw [hs, List.findIdx?_cons, i3]
    rfl
end
theorem ckC_ok {c : Const} {p : PV} {k : Nat} {pos : Pos} (h : ckC c p = true) : PE X (.Constant c k pos) (tE Z W (ev N (.c p))) := by
  unfold ckC at h
  split at h
  · exact n_const pe_non fun _ _ => rfl
  · rename_i a b; obtain rfl := eq_of_beq h; exact n_const pe_bl fun _ _ => rfl
  · obtain rfl := of_decide_eq_true h; exact n_const pe_int fun _ _ => rfl
  · obtain rfl := of_decide_eq_true h; exact n_const pe_str fun _ _ => rfl
  · cases h
/-- what a comprehension's node needs -/
structure LcFact (Z : Kx) (W : WX) (X : Cx) (N : Kv.Env) (a : E) (elt tg iter : Expr) (ifs : List Expr) (scope : Scope) (own : List (Str × Nat)) : Prop where
  get : ∃ wi g tt te, PI X tg iter wi ∧ BlkOk X.N X.env.scope scope own ∧ (∀ (s : Shared) (H : Hp) (C : Addr) (cl : List (Str × Addr)) (fp : List Addr), PG (X.blk s H scope (compEnvC scope cl C X.env) fp) tg g) ∧
    (∀ (s : Shared) (H : Hp) (C : Addr) (cl : List (Str × Addr)) (fp : List Addr), PTs (X.blk s H scope (compEnvC scope cl C X.env) fp) ifs tt) ∧ (∀ (s : Shared) (H : Hp) (C : Addr) (cl : List (Str × Addr)) (fp : List Addr), PE (X.blk s H scope (compEnvC scope cl C X.env) fp) elt te) ∧
    (∀ x, foldedSetIterable iter X.env x = pure x) ∧ ∀ σ H Q, tE Z W (ev N a) σ H Q → tLc wi g tt te (own.map (·.2)) σ H Q
theorem LcFact.pe (ok : XOk Z W X) {a : E} {elt tg iter : Expr} {ifs : List Expr} {scope : Scope} {own : List (Str × Nat)} {pos : Pos} (f : LcFact Z W X N a elt tg iter ifs scope own) : PE X (.ListComp elt [⟨tg, iter, ifs, 0⟩] scope pos) (tE Z W (ev N a)) := by
  obtain ⟨wi, g, tt, te, h1, h2, h3, h4, h5, h6, h7⟩ := f.get
  exact PE.imp (pe_lc ok.calm ok.nd h1 h2 h3 h4 h5 h6) h7
end
end Kv

set_option Elab.async false
set_option linter.all false
set_option maxRecDepth 100000
/-! The check is sound: expressions. -/
namespace Kv
open PySem L2 PySem.Spec PyProof.Rows
variable {Z : Kx}
/-- a comprehension's condition, as one test -/
def tCd (Z : Kx) (N : Kv.Env) : List B → TT
  | [b] => tT Z W0 (evT N b)
  | _ => tYes
theorem cd_reads {n : Nat} {C : Ck} {N : Kv.Env} {as : List B} {es : List Expr} (h : ckCd n C as es = true) : ∀ σ H Q, tT Z W0 (evAnd N as) σ H Q → tCd Z N as σ H Q := by
  rintro σ H Q ⟨s, al, sr, q⟩
  cases n with
  | zero => cases h
  | succ n =>
    unfold ckCd at h
    split at h
    · exact q H al (.refl sr)
    · rename_i b e
      refine ⟨s, al, sr, ?_⟩
      have q' : oG Z W0 s σ H al (kT Q) ((evT N b >>= fun r => if r then evAnd N [] else pure false) s) := q
      refine oG.bind (.refl sr) q' fun r s1 e1 q1 H1 al1 st1 => ?_
      cases r with
      | true => exact q1 H1 al1 st1
      | false => exact q1 H1 al1 st1
    · cases h
theorem ckKeys_len : ∀ {ks : List Tx} {keys : List (Option Expr)}, ckKeys ks keys = true → ks.length = keys.length
  | [], [], _ => rfl
  | [], _ :: _, h => by cases h
  | k :: ks, [], h => by cases h
  | k :: ks, e :: keys, h => by
    unfold ckKeys at h
    split at h
    · rename_i heq; cases heq
    · rename_i heq1 heq2
      cases heq1; cases heq2
      rw [Bool.and_eq_true] at h
      rw [List.length_cons, List.length_cons, ckKeys_len h.2]
    · cases h
/-- a method's arguments are few and plain -/
theorem AllE.form {W : WX} {X : Cx} {N : Kv.Env} {as : List E} {es : List Expr} {pos : Pos} (A : AllE Z W X N as es) (hl : es.length < 29) : methodCallForm (es.length + ([] : List Keyword).length) (backTo pos (starEach es X.env)) (backToKw pos (keywordEach [] X.env)) = true := by
  have h := AllE.star (pos := pos) (env := X.env) A
  unfold methodCallForm
  have h1 : (backTo pos (starEach es X.env)).all (fun x => !x.1) = true := by
    rw [List.all_eq_true]
    intro x hx
    have := List.any_eq_false.mp h x hx
    simpa using this
  rw [h1]
  show (true && true && decide (es.length + 0 + 0 < 30)) = true
  rw [decide_eq_true (by omega)]; rfl
mutual
theorem okE : ∀ (n : Nat) {W : WX} {X : Cx} {N : Kv.Env} {C : Ck} (g : Good Z W X N C) (a : E) (e : Expr), ckE n C a e = true → PE X e (tE Z W (ev N a))
  | 0, _, _, _, _, _, _, _, h => nomatch h
  | n + 1, W, X, N, C, g, a, e, h => by
    unfold ckE at h
    cases a with
    | c v =>
      simp only at h
      split at h
      · exact ckC_ok h
      · cases h
    | var i =>
      simp only at h
      split at h
      · simp only [Bool.and_eq_true, beq_iff_eq] at h
        obtain ⟨⟨⟨h1, h2⟩, h3⟩, h4⟩ := h
        exact n_var (g.ix h1) (g.vis h2) h3 h4
      · cases h
    | tab x =>
      simp only at h
      split at h
      · simp only [Bool.and_eq_true, decide_eq_true_eq, beq_iff_eq] at h
        obtain ⟨⟨h1, h2⟩, h3⟩ := h
        obtain ⟨u, v, o, t1, t2, t3, t4⟩ := g.tabs _ _ h1
        exact n_tab (g.gl h2) t2 t3 t1 t4 h3
      · cases h
    | tup as =>
      simp only at h
      split at h
      · simp only [Bool.and_eq_true, decide_eq_true_eq] at h
        exact n_tup h.1 (okEs n g _ _ h.2).pa
      · cases h
    | lst as =>
      simp only at h
      split at h
      · simp only [Bool.and_eq_true, decide_eq_true_eq] at h
        exact n_lst h.1 (okEs n g _ _ h.2).pa
      · cases h
    | dic ks as =>
      simp only at h
      split at h
      · split at h
        · exact n_dic
        · simp only [Bool.and_eq_true, decide_eq_true_eq] at h
          obtain ⟨⟨⟨⟨⟨h1, h2⟩, h3⟩, h4⟩, h5⟩, h6⟩ := h
          have A := okEs n g _ _ h6
          obtain ⟨p1, p2⟩ := AllE.pps h5 h4 A
          exact n_disp p1 p2 h2 h1 h3 h4 (by have := ckKeys_len h5; omega)
      · cases h
    | bin op a b =>
      simp only at h
      split at h
      · simp only [Bool.and_eq_true, decide_eq_true_eq] at h
        obtain ⟨⟨rfl, h2⟩, h3⟩ := h
        exact n_bin g.ok (okE n g _ _ h2) (okE n g _ _ h3)
      · cases h
    | neg a =>
      simp only at h
      split at h
      · exact n_neg (okE n g _ _ h)
      · cases h
    | not a =>
      simp only at h
      split at h
      · exact n_not (okE n g _ _ h)
      · cases h
    | cmp op a b =>
      simp only at h
      split at h
      · simp only [Bool.and_eq_true, decide_eq_true_eq, beq_iff_eq] at h
        obtain ⟨⟨⟨rfl, h1⟩, h2⟩, h3⟩ := h
        exact n_cmp g.ok h1 (okE n g _ _ h2) (okE n g _ _ h3)
      · cases h
    | and as =>
      simp only at h
      split at h
      · exact (okEs n g _ _ h).and
      · cases h
    | or as =>
      simp only at h
      split at h
      · exact (okEs n g _ _ h).or
      · cases h
    | ite t a b =>
      simp only at h
      split at h
      · simp only [Bool.and_eq_true] at h
        obtain ⟨⟨h1, h2⟩, h3⟩ := h
        exact n_ite (okB n g _ _ h1) (okE n g _ _ h2) (okE n g _ _ h3)
      · cases h
    | call f as =>
      simp only at h
      split at h
      · simp only [Bool.and_eq_true, decide_eq_true_eq, beq_iff_eq] at h
        obtain ⟨⟨⟨⟨h1, h0⟩, h2⟩, h3⟩, h4⟩ := h
        have A := okEs n g _ _ h4
        obtain ⟨k, fn, fd, ps, c1, c2, c3, c4, c5, c6⟩ := g.calls _ _ h1 h0
        cases as with
        | nil => exact A.elim
        | cons a1 as1 => exact n_call g.ok c1 c2 c3 (g.gl h2) c4 c5 c6 A.pa h3 (star_cons A.1) (AllE.star A.2.2)
      · simp only [Bool.and_eq_true, decide_eq_true_eq, beq_iff_eq] at h
        obtain ⟨⟨⟨⟨h1, h0⟩, h2⟩, h3⟩, h4⟩ := h
        obtain ⟨k, fn, fd, ps, c1, c2, c3, c4, c5, c6⟩ := g.calls _ _ h1 h0
        cases as with
        | nil => exact n_call0 g.ok c1 c2 c3 (g.gl h2) c4 c5 c6 h3
        | cons a1 as1 => cases h4
      · cases h
    | bi b as =>
      simp only at h
      split at h
      · split at h
        · rename_i hf
          simp only [Bool.and_eq_true, decide_eq_true_eq] at h
          obtain ⟨⟨h1, h2⟩, h3⟩ := h
          have A := okEs n g _ _ h3
          cases as with
          | nil => exact A.elim
          | cons a1 as1 => exact n_bi g.ok hf h1 (g.blt h2).1 (g.blt h2).2 A.pa (star_cons A.1) (AllE.star A.2.2)
        · cases h
      · cases h
    | any => exact n_any
    | fld c a f =>
      simp only at h
      split at h
      · simp only [Bool.and_eq_true, decide_eq_true_eq] at h
        obtain ⟨⟨⟨h1, rfl⟩, h3⟩, h4⟩ := h
        obtain ⟨c1, c2⟩ := g.att h3
        exact n_fld g.ok (okE n g _ _ h4) (base_ok h1) c1 c2
      · cases h
    | meth c m f a as =>
      simp only at h
      split at h
      · simp only [Bool.and_eq_true, decide_eq_true_eq] at h
        obtain ⟨⟨⟨⟨⟨⟨h1, h2⟩, rfl⟩, h4⟩, h5⟩, h6⟩, h7⟩ := h
        obtain ⟨c1, c2, k, fn, fd, ps, d1, d2, d3, d4⟩ := g.met h4
        have A := okEs n g _ _ h7
        have fm := fun pos => AllE.form (pos := pos) A h5
        cases as with
        | nil => exact A.elim
        | cons a1 as1 => exact n_meth g.ok d1 d2 (d3.mono (Nat.le_succ _)) d4 c1 c2 (okE n g _ _ h6) A.pa (base_ok h2) (fm _) h1 (star_cons A.1) (AllE.star A.2.2)
      · simp only [Bool.and_eq_true, decide_eq_true_eq] at h
        obtain ⟨⟨⟨⟨⟨h1, h2⟩, rfl⟩, h4⟩, h6⟩, h7⟩ := h
        obtain ⟨c1, c2, k, fn, fd, ps, d1, d2, d3, d4⟩ := g.met h4
        cases as with
        | nil => exact n_meth0 g.ok d1 d2 (d3.mono (Nat.le_succ _)) d4 c1 c2 (okE n g _ _ h6) (base_ok h2) h1
        | cons a1 as1 => cases h7
      · cases h
    | make c f as =>
      simp only at h
      split at h
      · simp only [Bool.and_eq_true, decide_eq_true_eq, beq_iff_eq] at h
        obtain ⟨⟨⟨h1, h2⟩, h3⟩, h4⟩ := h
        obtain ⟨c1, c2, k, fn, fd, ps, d1, d2, d3, d4⟩ := g.ini h1
        have A := okEs n g _ _ h4
        cases as with
        | nil => exact A.elim
        | cons a1 as1 => exact n_make g.ok d1 d2 d3 d4 c2 (g.gl h2) c1 A.pa h3 (star_cons A.1) (AllE.star A.2.2)
      · simp only [Bool.and_eq_true, decide_eq_true_eq, beq_iff_eq] at h
        obtain ⟨⟨⟨h1, h2⟩, h3⟩, h4⟩ := h
        obtain ⟨c1, c2, k, fn, fd, ps, d1, d2, d3, d4⟩ := g.ini h1
        cases as with
        | nil => exact n_make0 g.ok d1 d2 d3 d4 c2 (g.gl h2) c1 h3
        | cons a1 as1 => cases h4
      · cases h
    | sset a =>
      simp only at h
      split at h
      · simp only [Bool.and_eq_true, decide_eq_true_eq] at h
        obtain ⟨⟨⟨⟨⟨rfl, rfl⟩, h3⟩, h4⟩, h5⟩, h6⟩ := h
        exact n_sset g.ok (okE n g _ _ h6) (g.blt h3).1 (g.blt h3).2 (g.blt h4).1 (g.blt h4).2 (by rw [star_cons h5]; rfl)
      · cases h
    | sit a =>
      simp only at h
      split at h
      · simp only [Bool.and_eq_true, decide_eq_true_eq] at h
        obtain ⟨⟨⟨⟨⟨rfl, rfl⟩, h3⟩, h4⟩, h5⟩, h6⟩ := h
        exact n_sit g.ok (okE n g _ _ h6) (g.blt h3).1 (g.blt h3).2 (base_ok h5) h4 (by rw [star_cons rfl]; rfl)
      · cases h
    | isiT ts a =>
      simp only at h
      split at h
      · simp only [Bool.and_eq_true, decide_eq_true_eq] at h
        obtain ⟨⟨⟨⟨⟨⟨⟨rfl, rfl⟩, rfl⟩, h3⟩, h4⟩, h7⟩, h5⟩, h6⟩ := h
        exact n_isiT g.ok (okE n g _ _ h6) (g.blt h3).1 (g.blt h3).2 (g.blt h4).1 (g.blt h4).2 (g.blt h7).1 (g.blt h7).2 (by rw [star_cons h5, star_cons rfl]; rfl)
      · cases h
    | isi t a =>
      simp only at h
      split at h
      · simp only [Bool.and_eq_true, decide_eq_true_eq] at h
        obtain ⟨⟨⟨⟨⟨rfl, rfl⟩, h3⟩, h4⟩, h5⟩, h6⟩ := h
        exact n_isi g.ok (okE n g _ _ h6) (g.blt h3).1 (g.blt h3).2 (g.blt h4).1 (g.blt h4).2 (by rw [star_cons h5, star_cons rfl]; rfl)
      · cases h
    | bm m a as =>
      simp only at h
      split at h
      · simp only [Bool.and_eq_true] at h
        obtain ⟨⟨⟨⟨h1, h2⟩, h3⟩, h4⟩, h5⟩ := h
        have A := okEs n g _ _ h4
        have B := okE n g _ _ h3
        split at h5
        · obtain rfl := of_decide_eq_true h5
          match as, A with
          | [b], A => exact n_append g.ok B A.pa (base_ok h2) h1 (by rw [star_cons A.1]; rfl)
          | [], A => exact A.elim
          | _ :: _ :: _, A => exact A.2.2.elim
        · obtain rfl := of_decide_eq_true h5
          match as, A with
          | [b], A => exact n_extend g.ok B A.pa (base_ok h2) h1 (by rw [star_cons A.1]; rfl)
          | [], A => exact A.elim
          | _ :: _ :: _, A => exact A.2.2.elim
        · obtain rfl := of_decide_eq_true h5
          match as, A with
          | [], A => exact n_pop g.ok B (base_ok h2) h1
          | _ :: _, A => exact A.elim
        · obtain rfl := of_decide_eq_true h5
          match as, A with
          | [b], A => exact n_popAt g.ok B A.pa (base_ok h2) h1 (by rw [star_cons A.1]; rfl)
          | [], A => exact A.elim
          | _ :: _ :: _, A => exact A.2.2.elim
        · obtain rfl := of_decide_eq_true h5
          match as, A with
          | [b, c], A => exact n_insert g.ok B A.pa (base_ok h2) h1 (by rw [star_cons A.1, star_cons A.2.2.1]; rfl) (by rw [star_cons A.2.2.1]; rfl)
          | [], A => exact A.elim
          | [_], A => exact A.2.2.elim
          | _ :: _ :: _ :: _, A => exact A.2.2.2.2.elim
        · cases h5
      · cases h
    | me m a as =>
      simp only at h
      split at h
      · simp only [Bool.and_eq_true] at h
        obtain ⟨⟨⟨⟨h1, h2⟩, h3⟩, h4⟩, h5⟩ := h
        have A := okEs n g _ _ h4
        have B := okE n g _ _ h3
        split at h5
        · rename_i f _ hf
          obtain ⟨T, id, y⟩ := f
          obtain rfl := of_decide_eq_true h5
          match as, A with
          | [b], A => exact n_me1 g.ok hf B A.pa (base_ok h2) h1 (by rw [star_cons A.1]; rfl)
          | [], A => exact A.elim
          | _ :: _ :: _, A => exact A.2.2.elim
        · cases h5
      · cases h
    | getd a k d =>
      simp only at h
      split at h
      · simp only [Bool.and_eq_true, decide_eq_true_eq] at h
        obtain ⟨⟨⟨⟨⟨⟨⟨h1, h2⟩, rfl⟩, h4⟩, h5⟩, h6⟩, h7⟩, h8⟩ := h
        exact n_getd g.ok (okE n g _ _ h6) (okE n g _ _ h7) (okE n g _ _ h8) (base_ok h2) h1 (by rw [star_cons h4, star_cons h5]; rfl)
      · cases h
    | get1 a k =>
      simp only at h
      split at h
      · simp only [Bool.and_eq_true, decide_eq_true_eq] at h
        obtain ⟨⟨⟨⟨⟨h1, h2⟩, rfl⟩, h4⟩, h6⟩, h7⟩ := h
        exact n_get1 g.ok (okE n g _ _ h6) (okE n g _ _ h7) (base_ok h2) h1 (by rw [star_cons h4]; rfl)
      · cases h
    | join a b =>
      simp only at h
      split at h
      · simp only [Bool.and_eq_true, decide_eq_true_eq] at h
        obtain ⟨⟨⟨⟨⟨h1, h2⟩, rfl⟩, h4⟩, h6⟩, h7⟩ := h
        exact n_join g.ok (okE n g _ _ h6) (okE n g _ _ h7) (base_ok h2) h1 (by rw [star_cons h4]; rfl)
      · cases h
    | idx a i =>
      simp only at h
      split at h
      · simp only [Bool.and_eq_true] at h
        obtain ⟨⟨h1, h2⟩, h3⟩ := h
        exact n_idx g.ok (plainIx h1) (okE n g _ _ h2) (okE n g _ _ h3)
      · cases h
    | sl a lo hi =>
      simp only at h
      split at h
      · simp only [Bool.and_eq_true] at h
        obtain ⟨⟨h1, h2⟩, h3⟩ := h
        exact n_sl g.ok (okE n g _ _ h1) (okO n g _ _ h2) (okO n g _ _ h3)
      · cases h
    | comp elt t ik es cond own =>
      simp only at h
      split at h
      · simp only [Bool.and_eq_true, List.all_eq_true] at h
        obtain ⟨⟨⟨⟨⟨⟨h1, h2⟩, h3⟩, h4⟩, h5⟩, h6⟩, h7⟩ := h
        have bo := blkOk_by h1
        have gb := fun s H c cl fp => g.blk s H _ bo.kind c cl fp
        refine LcFact.pe g.ok (own := ownOf C own) ⟨_, _, tCd Z N cond, _, okI n g _ _ _ _ h4 _ _ h5, by rw [g.nN, g.sc]; exact bo, fun s H c cl fp => ckT_ok (gb s H c cl fp) h5, fun s H c cl fp => okCd n (gb s H c cl fp) _ _ h6, fun s H c cl fp => okE n (gb s H c cl fp) _ _ h7, foldSet h3, fun σ H Q q => ?_⟩
        rw [ownOf_snd]
        exact comp_reads g.ok (fun i hi => by have := h2 i hi; simpa using this) (cd_reads h6) q
      · cases h
theorem okEs : ∀ (n : Nat) {W : WX} {X : Cx} {N : Kv.Env} {C : Ck} (g : Good Z W X N C) (as : List E) (es : List Expr), ckEs n C as es = true → AllE Z W X N as es
  | 0, _, _, _, _, _, _, _, h => nomatch h
  | n + 1, W, X, N, C, g, as, es, h => by
    unfold ckEs at h
    split at h
    · trivial
    · simp only [Bool.and_eq_true] at h
      exact ⟨h.1.1, okE n g _ _ h.1.2, okEs n g _ _ h.2⟩
    · cases h
theorem okO : ∀ (n : Nat) {W : WX} {X : Cx} {N : Kv.Env} {C : Ck} (g : Good Z W X N C) (as : List E) (e : Option Expr), ckO n C as e = true → PO X e (tO Z W (evB N as))
  | 0, _, _, _, _, _, _, _, h => nomatch h
  | n + 1, W, X, N, C, g, as, e, h => by
    unfold ckO at h
    split at h
    · exact n_bnd0
    · exact n_bnd1 (okE n g _ _ h)
    · cases h
theorem okB : ∀ (n : Nat) {W : WX} {X : Cx} {N : Kv.Env} {C : Ck} (g : Good Z W X N C) (b : B) (e : Expr), ckB n C b e = true → PT X e (tT Z W (evT N b))
  | 0, _, _, _, _, _, _, _, h => nomatch h
  | n + 1, W, X, N, C, g, b, e, h => by
    unfold ckB at h
    cases b with
    | e a =>
      simp only at h
      split at h
      · simp only [Bool.and_eq_true, decide_eq_true_eq, beq_iff_eq] at h
        obtain ⟨⟨⟨rfl, h1⟩, h2⟩, h3⟩ := h
        exact n_tcmp g.ok h1 (okE n g _ _ h2) (okE n g _ _ h3)
      · simp only [Bool.and_eq_true] at h
        exact n_test g.ok (tst_ok h.1) (okE n g _ _ h.2)
    | not b =>
      simp only at h
      split at h
      · exact n_tnot (okB n g _ _ h)
      · cases h
    | and bs =>
      simp only at h
      split at h
      · exact (okBs n g _ _ h).and.pt
      · cases h
    | or bs =>
      simp only at h
      split at h
      · exact (okBs n g _ _ h).or.pt
      · cases h
theorem okBs : ∀ (n : Nat) {W : WX} {X : Cx} {N : Kv.Env} {C : Ck} (g : Good Z W X N C) (as : List B) (es : List Expr), ckBs n C as es = true → AllB Z W X N as es
  | 0, _, _, _, _, _, _, _, h => nomatch h
  | n + 1, W, X, N, C, g, as, es, h => by
    unfold ckBs at h
    split at h
    · trivial
    · simp only [Bool.and_eq_true] at h
      exact ⟨okB n g _ _ h.1, okBs n g _ _ h.2⟩
    · cases h
theorem okCd : ∀ (n : Nat) {X : Cx} {N : Kv.Env} {C : Ck} (g : Good Z W0 X N C) (as : List B) (es : List Expr), ckCd n C as es = true → PTs X es (tCd Z N as)
  | 0, _, _, _, _, _, _, h => nomatch h
  | n + 1, X, N, C, g, as, es, h => by
    unfold ckCd at h
    split at h
    · exact pts_nil
    · exact pts_one (okB n g _ _ h)
    · cases h
theorem okI : ∀ (n : Nat) {W : WX} {X : Cx} {N : Kv.Env} {C : Ck} (g : Good Z W X N C) (ik : Ik) (as : List E) (tg e : Expr), ckI n C ik as tg e = true → ∀ (t : T) (C2 : Ck), ckT C2 t tg = true → PI X tg e (tI Z W t.isTup (evI N ik as))
  | 0, _, _, _, _, _, _, _, _, _, h, _, _, _ => nomatch h
  | n + 1, W, X, N, C, g, ik, as, tg, e, h, t, C2, ht => by
    unfold ckI at h
    cases ik with
    | it =>
      simp only at h
      split at h
      · exact i_it g.ok (okE n g _ _ h)
      · cases h
    | range =>
      simp only at h
      split at h
      · simp only [Bool.and_eq_true, decide_eq_true_eq] at h
        obtain ⟨⟨⟨rfl, h2⟩, h3⟩, h4⟩ := h
        have A := okEs n g _ _ h4
        match as, A with
        | [b], A => exact i_range1 g.ok rfl (g.blt h2).1 (g.blt h2).2 A.pa (by rw [star_cons h3]; rfl)
        | [], A => exact A.elim
        | _ :: _ :: _, A => exact A.2.2.elim
      · simp only [Bool.and_eq_true, decide_eq_true_eq] at h
        obtain ⟨⟨⟨⟨rfl, h2⟩, h3⟩, h5⟩, h4⟩ := h
        have A := okEs n g _ _ h4
        match as, A with
        | [_, _], A => exact i_range2 g.ok rfl (g.blt h2).1 (g.blt h2).2 A.pa (by rw [star_cons h3, star_cons h5]; rfl) (by rw [star_cons h5]; rfl)
        | [], A => exact A.elim
        | [_], A => exact A.2.2.elim
        | _ :: _ :: _ :: _, A => exact A.2.2.2.2.elim
      · cases h
    | zip =>
      simp only at h
      split at h
      · simp only [Bool.and_eq_true, decide_eq_true_eq] at h
        obtain ⟨⟨⟨⟨rfl, h2⟩, h3⟩, h5⟩, h4⟩ := h
        have A := okEs n g _ _ h4
        cases t with
        | nm i => cases ht
        | tup ts => exact i_zip g.ok (g.blt h2).1 (g.blt h2).2 A.pa (star_cons h3) (by rw [star_cons h5]; rfl)
      · cases h
    | enum =>
      simp only at h
      split at h
      · simp only [Bool.and_eq_true, decide_eq_true_eq] at h
        obtain ⟨⟨⟨rfl, h2⟩, h3⟩, h4⟩ := h
        have A := okEs n g _ _ h4
        cases t with
        | nm i => cases ht
        | tup ts => exact i_enum g.ok (g.blt h2).1 (g.blt h2).2 A.pa (by rw [star_cons h3]; rfl)
      · cases h
    | _ => cases h
end
end Kv

set_option Elab.async false
set_option linter.all false
set_option maxRecDepth 100000
/-! The check is sound: statements. -/
namespace Kv
open PySem L2 PySem.Spec PyProof.Rows
variable {Z : Kx} {W : WX}
theorem sole_no {e t : Expr} {l : Nat} {env : PySem.Env} (h : ncomp e = true) : swapsWithSole [t] e l env = pure false := by
  unfold swapsWithSole
  exact swap_no h
theorem lc_fact {n : Nat} {X : Cx} {N : Kv.Env} {C : Ck} (g : Good Z W X N C) {elt : E} {t : T} {ik : Ik} {es : List E} {cond : List B} {own : List Nat} {x tg iter : Expr} {ifs : List Expr} {scope : Scope} {pos : Pos}
    (h : ckE n C (.comp elt t ik es cond own) (.ListComp x [⟨tg, iter, ifs, 0⟩] scope pos) = true) : LcFact Z W X N (.comp elt t ik es cond own) x tg iter ifs scope (ownOf C own) := by
  cases n with
  | zero => cases h
  | succ n =>
    unfold ckE at h
    simp only [Bool.and_eq_true, List.all_eq_true] at h
    obtain ⟨⟨⟨⟨⟨⟨h1, h2⟩, h3⟩, h4⟩, h5⟩, h6⟩, h7⟩ := h
    have bo := blkOk_by h1
    have gb := fun s H c cl fp => g.blk s H _ bo.kind c cl fp
    refine ⟨⟨_, _, tCd Z N cond, _, okI n g _ _ _ _ h4 _ _ h5, by rw [g.nN, g.sc]; exact bo, fun s H c cl fp => ckT_ok (gb s H c cl fp) h5, fun s H c cl fp => okCd n (gb s H c cl fp) _ _ h6, fun s H c cl fp => okE n (gb s H c cl fp) _ _ h7, foldSet h3, fun σ H Q q => ?_⟩⟩
    rw [ownOf_snd]
    exact comp_reads g.ok (fun i hi => by have := h2 i hi; simpa using this) (cd_reads h6) q
section
variable {X : Cx} {N : Kv.Env} {C : Ck} {pr : List Nat}
theorem zs_asg (g : Good Z W X N C) {t : T} {a : E} {tg e : Expr} {pos : Pos} (h1 : ckT C t tg = true) (h2 : ckE 400 C a e = true) (h3 : ncomp e = true) (h4 : ntup e = true ∨ ntup tg = true) : PS X (.Assign [tg] e pos) (tS Z W pr (evS N (.asg t a) pr)) := by
  refine PS.imp (ps_asg (okE 400 g _ _ h2) (ckT_ok g h1) (swap_no h3) ?_ ?_) fun D σ H h => asg_reads (fun _ _ _ q => q) h
  · cases t with
    | nm i =>
      cases tg with
      | Name x p => cases e <;> rfl
      | _ => unfold ckT at h1; cases h1
    | tup ts =>
      cases tg with
      | Tuple x p =>
        rcases h4 with h4 | h4
        · cases e <;> first | rfl | cases h4
        · cases h4
      | _ => unfold ckT at h1; cases h1
  · cases t with
    | nm i =>
      cases tg with
      | Name x p => rfl
      | _ => unfold ckT at h1; cases h1
    | tup ts =>
      cases tg with
      | Tuple x p => rfl
      | _ => unfold ckT at h1; cases h1
theorem s_asgLc (g : Good Z W X N C) {t : T} {a : E} {y : Str} {py : Pos} {x tg iter : Expr} {ifs : List Expr} {scope : Scope} {lp pos : Pos} (h1 : ckT C t (.Name y py) = true) (h2 : ckE 400 C a (.ListComp x [⟨tg, iter, ifs, 0⟩] scope lp) = true)
    (k : C.sc.kind = .function) (l : C.sc.names.lookup y = some .local) (e : (py.line == lp.line) = true) (sw : (scope.names.any fun (n, k) => n == y && (k == .local || k == .cell)) = false) :
    PS X (.Assign [.Name y py] (.ListComp x [⟨tg, iter, ifs, 0⟩] scope lp) pos) (tS Z W pr (evS N (.asg t a) pr)) := by
  cases t with
  | tup ts => unfold ckT at h1; cases h1
  | nm i =>
    cases a with
    | comp elt t ik es cond own =>
      obtain ⟨wi, gg, tt, te, f1, f2, f3, f4, f5, f6, f7⟩ := (lc_fact g h2).get
      unfold ckT at h1
      obtain ⟨i1, i2⟩ := (Bool.and_eq_true _ _).mp h1
      refine PS.imp (ps_setLc g.ok.calm g.ok.nd (g.ix i1) (by rw [g.sc]; exact l) (sw_true (by rw [g.sc]; exact k) (by rw [g.sc]; exact l) e sw) f1 f2 f3 f4 f5 f6) fun D σ H h => asg_reads (t := .nm i) f7 h
    | dic as => unfold ckE at h2; cases as <;> cases h2
    | isiT ts as => unfold ckE at h2; (rcases ts with _ | ⟨t, _ | ⟨u, _ | ⟨w, r⟩⟩⟩) <;> cases h2
    | _ => unfold ckE at h2; cases h2
mutual
theorem okS : ∀ (n : Nat) {pr : List Nat} {X : Cx} {N : Kv.Env} {C : Ck} (g : Good Z W X N C) (po : PassesOwn (model X.prog X.w) X.A X.env X.xe) (s : S) (st : Stmt), ckS n C s st = true → PS X st (tS Z W pr (evS N s pr))
  | 0, _, _, _, _, _, _, _, _, h => nomatch h
  | n + 1, pr, X, N, C, g, po, s, st, h => by
    unfold ckS at h
    cases s with
    | asg t a =>
      simp only at h
      split at h
      · simp only [Bool.and_eq_true] at h
        obtain ⟨⟨h1, h2⟩, h3⟩ := h
        split at h3
        · simp only [Bool.and_eq_true, decide_eq_true_eq, beq_iff_eq] at h3
          obtain ⟨⟨⟨k1, k2⟩, k3⟩, k4⟩ := h3
          exact s_asgLc g h1 h2 k1 k2 (by simpa using k3) k4
        · simp only [Bool.and_eq_true, Bool.or_eq_true] at h3
          exact zs_asg g h1 h2 h3.1 h3.2
      · cases h
    | asgI o i a =>
      simp only at h
      split at h
      · simp only [Bool.and_eq_true] at h
        obtain ⟨⟨⟨⟨h1, h2⟩, h3⟩, h4⟩, h5⟩ := h
        refine zs_asgI g.ok (okE 400 g _ _ h3) (okE 400 g _ _ h4) (okE 400 g _ _ h5) (fun v => ?_) (sole_no h2) ?_ rfl
        · rename_i y _ _ _
          cases y <;> first | rfl | cases h1
        · rename_i e _
          cases e <;> rfl
      · cases h
    | asgF c o f a =>
      simp only at h
      split at h
      · simp only [Bool.and_eq_true, decide_eq_true_eq] at h
        obtain ⟨⟨⟨⟨rfl, h2⟩, h3⟩, h4⟩, h5⟩ := h
        obtain ⟨c1, c2⟩ := g.att h2
        exact zs_asgF (okE 400 g _ _ h4) (okE 400 g _ _ h5) c1 c2 (swap_no h3)
      · cases h
    | augF c o f op a =>
      simp only at h
      split at h
      · simp only [Bool.and_eq_true, decide_eq_true_eq] at h
        obtain ⟨⟨⟨⟨rfl, rfl⟩, h2⟩, h4⟩, h5⟩ := h
        obtain ⟨c1, c2⟩ := g.att h2
        exact zs_augF (okE 400 g _ _ h4) (okE 400 g _ _ h5) c1 c2
      · cases h
    | aug i op a =>
      simp only at h
      split at h
      · simp only [Bool.and_eq_true, decide_eq_true_eq] at h
        obtain ⟨⟨⟨rfl, h2⟩, h3⟩, h4⟩ := h
        exact zs_aug g.ok.nd (g.ix h2) (g.loc h3).1 (g.loc h3).2 (okE 400 g _ _ h4)
      · cases h
    | ex a =>
      simp only at h
      split at h
      · simp only [Bool.and_eq_true] at h
        exact s_expr (okE 400 g _ _ h.2) (swap_no h.1)
      · cases h
    | ret a =>
      simp only at h
      split at h
      · exact zs_ret (okE 400 g _ _ h)
      · cases h
    | retN =>
      simp only at h
      split at h
      · exact zs_retN
      · cases h
    | iff c a b =>
      simp only at h
      split at h
      · simp only [Bool.and_eq_true] at h
        obtain ⟨⟨h1, h2⟩, h3⟩ := h
        exact s_if (okB 400 g _ _ h1) (okSs n g po _ _ h2) (okSs n g po _ _ h3)
      · cases h
    | forr t ik es b =>
      simp only at h
      split at h
      · simp only [Bool.and_eq_true] at h
        obtain ⟨⟨⟨h1, h2⟩, h3⟩, h4⟩ := h
        exact s_for g.ok po (okI 400 g _ _ _ _ h2 _ _ h3) (ckT_ok g h3) (fun pr => okSs n g po _ _ h4) (foldSet h1)
      · cases h
    | «while» c b =>
      simp only at h
      split at h
      · simp only [Bool.and_eq_true] at h
        exact zs_while po (okB 400 g _ _ h.1) (fun pr => okSs n g po _ _ h.2)
      · cases h
    | brk =>
      simp only at h
      split at h
      · exact zs_brk
      · cases h
    | cnt =>
      simp only at h
      split at h
      · exact zs_cnt
      · cases h
    | any => exact zs_any
    | pass =>
      simp only at h
      split at h
      · exact zs_pass
      · cases h
theorem okSs : ∀ (n : Nat) {pr : List Nat} {X : Cx} {N : Kv.Env} {C : Ck} (g : Good Z W X N C) (po : PassesOwn (model X.prog X.w) X.A X.env X.xe) (s : List S) (st : List Stmt), ckSs n C s st = true → PSs X st (tS Z W pr (evSs N s pr))
  | 0, _, _, _, _, _, _, _, _, h => nomatch h
  | n + 1, pr, X, N, C, g, po, s, st, h => by
    unfold ckSs at h
    split at h
    · exact zs_nil
    · simp only [Bool.and_eq_true] at h
      exact zs_cons (okS n g po _ _ h.1) (okSs n g po _ _ h.2)
    · cases h
end
end
end Kv

set_option Elab.async false
set_option linter.all false
set_option maxRecDepth 100000
/-! A def's body, by the check. -/
namespace Kv
open PySem L2 PySem.Spec PyProof.Rows
variable {Z : Kx} {W : WX}

theorem keeps_len : ∀ {ks : List Bool} {sg : List (Option SV)}, (keeps ks sg).length = ks.length
  | [], _ => rfl
  | _ :: ks, sg => by
    show (keeps ks sg.tail).length + 1 = ks.length + 1
    rw [keeps_len]
theorem keeps_get : ∀ {ks : List Bool} {sg : List (Option SV)} {i : Nat} {v : SV}, (keeps ks sg)[i]? = some (some v) → ks[i]? = some true ∧ sg[i]? = some (some v)
  | [], _, _, _, h => by cases h
  | k :: ks, sg, 0, v, h => by
    have h' : some (if k then sg.headD none else none) = some (some v) := h
    injection h' with h'
    split at h'
    · rename_i hk
      subst hk
      refine ⟨rfl, ?_⟩
      cases sg with
      | nil => cases h'
      | cons a r => exact congrArg some h'
    · cases h'
  | k :: ks, sg, i + 1, v, h => by
    have h' : (keeps ks sg.tail)[i]? = some (some v) := h
    obtain ⟨h1, h2⟩ := keeps_get h'
    refine ⟨h1, ?_⟩
    cases sg with
    | nil => cases h2
    | cons a r => exact h2
theorem keepIx_mem : ∀ {ks : List Bool} {n i : Nat}, ks[i]? = some true → n + i ∈ keepIx n ks
  | [], _, _, h => by cases h
  | k :: ks, n, 0, h => by
    have h' : some k = some true := h
    injection h' with h'
    subst h'
    exact List.mem_cons_self
  | k :: ks, n, i + 1, h => by
    have h' : ks[i]? = some true := h
    have z := keepIx_mem (n := n + 1) h'
    have e : n + 1 + i = n + (i + 1) := by omega
    rw [e] at z
    unfold keepIx
    split
    · exact List.mem_cons_of_mem _ z
    · exact z
theorem prot_keep {ks : List Bool} {i : Nat} (h : ks[i]? = some true) : prot (keepIx 0 ks) i = true := by
  have z := keepIx_mem (n := 0) h
  rw [Nat.zero_add] at z
  unfold prot
  simpa using z
section
variable {H : Hp} {al : List Addr} {args : List SV} {mu : List Kv.Obj} {vs : List V} {n m : Nat}
theorem pad_get {α : Type} {xs : List α} {i : Nat} {v : α} {n : Nat} (h : (xs.map some ++ List.replicate n none)[i]? = some (some v)) : (xs.map some)[i]? = some (some v) := by
  by_cases c : i < (xs.map some).length
  · rwa [List.getElem?_append_left c] at h
  · rw [List.getElem?_append_right (Nat.le_of_not_lt c), List.getElem?_replicate] at h
    split at h
    · injection h with h; cases h
    · cases h
theorem get_pad {α : Type} {xs : List α} {i : Nat} {v : α} {n : Nat} (h : (xs.map some)[i]? = some (some v)) : (xs.map some ++ List.replicate n none)[i]? = some (some v) := by
  rw [List.getElem?_append_left (List.getElem?_eq_some_iff.mp h).1]; exact h
theorem own_pad {i : Nat} {a : Addr} : OwnAt ⟨args.map some ++ List.replicate n none, mu⟩ (vs.map some ++ List.replicate m none) i a ↔ OwnAt ⟨args.map some, mu⟩ (vs.map some) i a :=
  ⟨fun ⟨o, h1, h2⟩ => ⟨o, pad_get h1, pad_get h2⟩, fun ⟨o, h1, h2⟩ => ⟨o, get_pad h1, get_pad h2⟩⟩
theorem ft_pad {a : Addr} : Ft al ⟨args.map some ++ List.replicate n none, mu⟩ (vs.map some ++ List.replicate m none) a ↔ Ft al ⟨args.map some, mu⟩ (vs.map some) a :=
  ⟨fun h => h.elim (fun ⟨k, h⟩ => .inl ⟨k, h⟩) fun ⟨i, h⟩ => .inr ⟨i, own_pad.mp h⟩, fun h => h.elim (fun ⟨k, h⟩ => .inl ⟨k, h⟩) fun ⟨i, h⟩ => .inr ⟨i, own_pad.mpr h⟩⟩
theorem SR.pad (r : SR Z H al ⟨args.map some, mu⟩ (vs.map some)) (hn : n = m) : SR Z H al ⟨args.map some ++ List.replicate n none, mu⟩ (vs.map some ++ List.replicate m none) := by
  subst hn
  refine ⟨by have := r.len; simp at this ⊢; exact this, r.aln, r.mu, fun i v h => ?_, fun i o h => r.tr i o (pad_get h), r.nd, fun i k a h1 h2 => r.off i k a (own_pad.mp h1) h2, fun i j a h1 h2 => r.inj i j a (own_pad.mp h1) (own_pad.mp h2)⟩
  obtain ⟨u, h1, h2⟩ := r.sg i v (pad_get h)
  exact ⟨u, get_pad h1, h2⟩
/-- behind the body: what is kept -/
theorem keep_own {ks : List Bool} {s' : Kv.St} {σ' : L2.St} (p : Prot (keepIx 0 ks) (vs.map some ++ List.replicate m none) σ') {i : Nat} {a : Addr} (h : OwnAt ⟨keeps ks s'.sg, s'.mu⟩ (vs.map some) i a) : OwnAt s' σ' i a := by
  obtain ⟨o, h1, h2⟩ := h
  obtain ⟨k1, k2⟩ := keeps_get h1
  exact ⟨o, k2, by rw [p i (prot_keep k1)]; exact get_pad h2⟩
theorem keep_ft {ks : List Bool} {s' : Kv.St} {σ' : L2.St} {al' : List Addr} (p : Prot (keepIx 0 ks) (vs.map some ++ List.replicate m none) σ') {a : Addr} (h : Ft al' ⟨keeps ks s'.sg, s'.mu⟩ (vs.map some) a) : Ft al' s' σ' a :=
  h.elim (fun ⟨k, h⟩ => .inl ⟨k, h⟩) fun ⟨i, h⟩ => .inr ⟨i, keep_own p h⟩
theorem keep_step {ks : List Bool} {s' : Kv.St} {σ' : L2.St} {H' : Hp} {al' : List Addr} (hk : ks.length = vs.length) (st : Step Z ⟨args.map some ++ List.replicate n none, mu⟩ (vs.map some ++ List.replicate m none) H al s' σ' H' al') (p : Prot (keepIx 0 ks) (vs.map some ++ List.replicate m none) σ') :
    Step Z ⟨args.map some, mu⟩ (vs.map some) H al ⟨keeps ks s'.sg, s'.mu⟩ (vs.map some) H' al' := by
  have r := st.sr
  refine ⟨st.pre, ⟨by rw [keeps_len, hk, List.length_map], r.aln, r.mu, fun i v h => ?_, fun i o h => r.tr i o (keeps_get h).2, r.nd, fun i k a h1 h2 => r.off i k a (keep_own p h1) h2, fun i j a h1 h2 => r.inj i j a (keep_own p h1) (keep_own p h2)⟩, fun a o h q => st.ext a o h (q.imp (fun z y => z (ft_pad.mp y)) id), fun a h => (st.new a (keep_ft p h)).imp ft_pad.mp id⟩
  obtain ⟨k1, k2⟩ := keeps_get h
  obtain ⟨u, h1, h2⟩ := r.sg i v k2
  rw [p i (prot_keep k1)] at h1
  exact ⟨u, pad_get h1, h2⟩
theorem keep_rep {ks : List Bool} {s' : Kv.St} {σ' : L2.St} {H' : Hp} {al' : List Addr} (p : Prot (keepIx 0 ks) (vs.map some ++ List.replicate m none) σ') {v : SV} {u : V} (h : RepP Z H' al' s' σ' (.val v) u) : RepP Z H' al' ⟨keeps ks s'.sg, s'.mu⟩ (vs.map some) (.val v) u := by
  cases v with
  | pv q => exact h
  | own o => obtain ⟨a, e, h1, h2, h3⟩ := h; exact ⟨a, e, h1, h2, fun z => h3 (keep_ft p z)⟩
theorem new_pad {v : SV} {u : V} (h : New al ⟨args.map some ++ List.replicate n none, mu⟩ (vs.map some ++ List.replicate m none) H (.val v) u) : New al ⟨args.map some, mu⟩ (vs.map some) H (.val v) u := by
  cases v with
  | pv q => trivial
  | own o =>
    cases u with
    | ref a =>
      have h' : Ft al ⟨args.map some ++ List.replicate n none, mu⟩ (vs.map some ++ List.replicate m none) a ∨ H a = none := h
      exact h'.imp ft_pad.mp id
    | _ => trivial
end
/-- the body's promise from the def's -/
theorem body_of {fns : List Fn} {tabs : List SV} {cl : Cl} {f : Nat} {fn : Fn} {vs : List V} {H : Hp} {Q : VK} {E : XK} {N : List Str} (hf : fns[f]? = some fn) (hN : N.length = fn.ns) (h : spF Z (runFn fns tabs cl) fn.np f vs H Q E) :
    tS Z (fun c d _ H' => E c d H') (keepIx 0 fn.keep) (evSs ⟨fns, tabs, cl, fn.np⟩ fn.body (keepIx 0 fn.keep)) { nx := fun _ H' => Q .non H', rt := Q } (L2.start N vs) H := by
  obtain ⟨args, mu, al, sr, lv, la, q⟩ := h
  unfold runFn at q
  rw [hf] at q
  simp only at q
  split at q
  · rename_i hl
    obtain ⟨_, hk⟩ := hl
    have e : L2.start N vs = vs.map some ++ List.replicate (fn.ns - fn.np) none := by
      unfold L2.start
      rw [hN, lv]
    rw [e]
    have sp := SR.pad (n := fn.ns - fn.np) (m := fn.ns - fn.np) sr rfl
    refine ⟨_, al, sp, ?_⟩
    cases ho : evSs ⟨fns, tabs, cl, fn.np⟩ fn.body (keepIx 0 fn.keep) ⟨args.map some ++ List.replicate (fn.ns - fn.np) none, mu⟩ with
    | bad => rw [ho] at q; exact q.elim
    | exc x s' =>
      rw [ho] at q
      exact fun cls d σ' H' al' st p rx => q cls d H' al' (keep_step (hk.trans lv.symm) st p) rx
    | ok fl s' =>
      rw [ho] at q
      cases fl with
      | nx => exact fun σ' H' al' st p => q H' al' (keep_step (hk.trans lv.symm) st p) .non rfl trivial
      | brk => exact q.elim
      | cnt => exact q.elim
      | ret v => exact fun σ' H' al' st p u ru nu => q H' al' (keep_step (hk.trans lv.symm) st p) u (keep_rep p ru) (new_pad nu)
  · exact q.elim
/-- a def, as the program has it -/
structure Df where
  x : Str
  q : Str
  st : Stmt
  N : List Str
  ps : List Str
  g : Bool
instance : Inhabited Df := ⟨⟨"", "", .Pass ⟨0, 0, 0, 0⟩, [], [], true⟩⟩
/-- the name by which the module calls it -/
def Df.nm (d : Df) : Str := if d.g = true then d.x else ""
def Df.ck (d : Df) (fs bs ts : List Str) (cs : List Cd) : Ck := ⟨d.N, defScope d.st, (defScope d.st).names, fs, bs, ts, cs⟩
/-- the check of one def -/
def ckD (fs bs ts : List Str) (cs : List Cd) (fn : Fn) (d : Df) : Bool := decide (d.N.length = fn.ns) && decide (d.ps.length = fn.np) && ckSs 400 (d.ck fs bs ts cs) fn.body (defBody d.st)
/-- the facts of one def -/
structure DefOk (Z : Kx) (mg : Str → Option Value) (f : Nat) (fd : FuncData) (d : Df) : Prop where
  F : Fun Z.K d.x d.q d.st (Z.fa f) fd
  S : FnScope d.N d.ps (defScope d.st)
  b : Binds Z.K fd d.ps []
  m : d.g = true → mg d.x = some (.ref (Z.fa f))
/-- the facts of one class -/
structure ClsOk (Z : Kx) (mg : Str → Option Value) (n c : Nat) (d : Cd) : Prop where
  cl : Cls Z.K (Z.ca c)
  mg : mg d.x = some (.ref (Z.ca c))
  no : ∀ f ∈ d.fs, NoAttr Z.K (Z.ca c) (toStr f)
  ms : ∀ m f, (m, f) ∈ d.ms → Meth Z.K (Z.ca c) (toStr m) (Z.fa f) ∧ f < n
  ini : ∀ f, d.ini = some f → Mk Z.K (Z.ca c) (Z.fa f) ∧ f < n
theorem all_ok {P : Program} {w : World} {mg : Str → Option Value} {base : Heap} {fns : List Fn} {tabs : List SV} {ds : List Df} {fd : Nat → FuncData} {bs ts : List Str} {cs : List Cd} (hw : w = Z.w) (ht : ∀ (x : Nat) (nm : Str), ts[x]? = some nm → ∃ u v o, tabs[x]? = some o ∧ mg nm = some u ∧ RelV v u ∧ RepTab Z o v) (hn : ∀ x ∈ bs, mg x = none) (hcs : ∀ (c : Nat) (d : Cd), cs[c]? = some d → ClsOk Z mg ds.length c d)
    (hd : ∀ (f : Nat) (d : Df), ds[f]? = some d → DefOk Z mg f (fd f) d) (hc : ∀ (f : Nat) (fn : Fn), fns[f]? = some fn → ∃ d, ds[f]? = some d ∧ ckD (ds.map Df.nm) bs ts cs fn d = true) (hl : fns.length = ds.length) :
    ∀ (k f : Nat) (fn : Fn) (d : Df), fns[f]? = some fn → ds[f]? = some d → FnOk P w Z.K mg base (L2.CX P w) (2 * k) (Z.fa f) (fd f) d.ps (spF Z (callK fns tabs k) fn.np f)
  | 0, f, fn, d, hf, hdf => by
    have no : ∀ vs H Q E, ¬ spF Z (callK fns tabs 0) fn.np f vs H Q E := fun vs H Q E ⟨_, _, _, _, _, _, q⟩ => q.elim
    exact ⟨fun vs H Q E h => absurd h (no vs H Q E), fun A outer s H args us vs Q E _ _ _ _ h => absurd h (no vs H Q E)⟩
  | k + 1, f, fn, d, hf, hdf => by
    have ih := all_ok (P := P) (w := w) (base := base) (tabs := tabs) hw ht hn hcs hd hc hl k
    obtain ⟨d', hd', c⟩ := hc f fn hf
    obtain rfl : d' = d := Option.some.inj (hd'.symm.trans hdf)
    have D := hd f d' hdf
    unfold ckD at c
    simp only [Bool.and_eq_true, decide_eq_true_eq] at c
    obtain ⟨⟨c1, c2⟩, c3⟩ := c
    show FnOk P w Z.K mg base (L2.CX P w) (2 * k + 1 + 1) (Z.fa f) (fd f) d'.ps (spF Z (callK fns tabs (k + 1)) fn.np f)
    refine D.F.okX D.S (fun vs H Q E ⟨_, _, _, _, h, _⟩ => h.trans c2.symm) fun cdv A outer s H vs Q E hr h => ⟨_, ?_, body_of hf c1 h⟩
    have mth : ∀ g, g < ds.length → MethFact Z (cxOf (L2.CX P w) P w Z.K mg base d'.N d'.q (defScope d'.st) (Z.fa f) cdv A outer s H E) ⟨fns, tabs, callK fns tabs k, fn.np⟩ g := fun g lg => by
      have lg' : g < fns.length := by rw [hl]; exact lg
      have e1 : ds[g]? = some ds[g] := List.getElem?_eq_getElem lg
      exact ⟨2 * k, fns[g], fd g, ds[g].ps, List.getElem?_eq_getElem lg', ih g _ _ (List.getElem?_eq_getElem lg') e1, hr, (hd g _ e1).b⟩
    refine okSs (X := cxOf (L2.CX P w) P w Z.K mg base d'.N d'.q (defScope d'.st) (Z.fa f) cdv A outer s H E) (N := ⟨fns, tabs, callK fns tabs k, fn.np⟩) (C := d'.ck (ds.map Df.nm) bs ts cs) 400 ⟨⟨rfl, rfl, ?_, D.S.nd, takes_of rfl rfl rfl rfl, hw⟩, rfl, rfl, D.S.kind, fun _ _ => rfl, fun g x hg hx => ?_, fun c cd hcd => ?_, hn, ht⟩ (passes_of rfl) _ _ c3
    · have := hr.un
      show (A.deeper _).units + 200 < cLine
      omega
    · have hg' : (ds.map Df.nm)[g]? = some x := hg
      rw [List.getElem?_map] at hg'
      obtain ⟨dg, e1, e2⟩ := Option.map_eq_some_iff.mp hg'
      have lg : g < fns.length := by rw [hl]; exact (List.getElem?_eq_some_iff.mp e1).1
      have Dg := hd g dg e1
      unfold Df.nm at e2
      split at e2
      · rename_i hgl
        subst e2
        exact ⟨2 * k, fns[g], fd g, dg.ps, List.getElem?_eq_getElem lg, ih g _ dg (List.getElem?_eq_getElem lg) e1, hr.mono (Nat.le_succ _), Dg.m hgl, Dg.F.kp, Dg.b⟩
      · subst e2
        exact absurd hx (by decide)
    · have k0 := hcs c cd hcd
      exact ⟨k0.cl, k0.mg, k0.no, fun m g hm => ⟨(k0.ms m g hm).1, mth g (k0.ms m g hm).2⟩, fun g hg => ⟨(k0.ini g hg).1, mth g (k0.ini g hg).2⟩⟩
end Kv

set_option Elab.async false
set_option linter.all false
set_option maxRecDepth 100000
/-! The law's row from the evaluator's answers. -/
namespace Kv
open PySem L2 PySem.Spec PyProof.Rows

/-- the facts of one def in the program -/
structure DK (K : PySem.W.Frag) (f : Addr) (fd : FuncData) (d : Df) : Prop where
  a : d.g = true → PySem.W.nsIn K mainGlobals d.x = some (some (.ref f))
  F : Fun K d.x d.q d.st f fd
  S : FnScope d.N d.ps (defScope d.st)
  b : ∀ us : List Value, us.length = d.ps.length → bindArgs fd ⟨us, []⟩ = pure (d.ps.zip us)
inductive DefsK (K : PySem.W.Frag) : List Addr → List FuncData → List Df → Prop
  | nil : DefsK K [] [] []
  | cons {f g d fs gs ds} : DK K f g d → DefsK K fs gs ds → DefsK K (f :: fs) (g :: gs) (d :: ds)
theorem DefsK.get {K : PySem.W.Frag} {fs : List Addr} {gs : List FuncData} {ds : List Df} (h : DefsK K fs gs ds) : ∀ {i : Nat} {d : Df}, ds[i]? = some d → ∃ f g, fs[i]? = some f ∧ gs[i]? = some g ∧ DK K f g d := by
  induction h with
  | nil => intro i d e; cases e
  | cons h1 _ ih =>
    intro i d' e
    cases i with
    | zero => cases e; exact ⟨_, _, rfl, rfl, h1⟩
    | succ i => exact ih (i := i) e
theorem DefsK.len {K : PySem.W.Frag} {fs : List Addr} {gs : List FuncData} {ds : List Df} (h : DefsK K fs gs ds) : fs.length = ds.length := by
  induction h with
  | nil => rfl
  | cons _ _ ih => rw [List.length_cons, List.length_cons, ih]
/-- the facts of one class in the program -/
structure CK (K : PySem.W.Frag) (fs : List Addr) (a : Addr) (d : Cd) : Prop where
  cl : Cls K a
  mg : PySem.W.nsIn K mainGlobals d.x = some (some (.ref a))
  no : ∀ f ∈ d.fs, NoAttr K a (toStr f)
  ms : ∀ p ∈ d.ms, ∃ g, fs[p.2]? = some g ∧ Meth K a (toStr p.1) g
  ini : ∀ f, d.ini = some f → ∃ g, fs[f]? = some g ∧ Mk K a g
inductive ClsK (K : PySem.W.Frag) (fs : List Addr) : List Addr → List Cd → Prop
  | nil : ClsK K fs [] []
  | cons {a d as ds} : CK K fs a d → ClsK K fs as ds → ClsK K fs (a :: as) (d :: ds)
theorem ClsK.get {K : PySem.W.Frag} {fs as : List Addr} {ds : List Cd} (h : ClsK K fs as ds) : ∀ {i : Nat} {d : Cd}, ds[i]? = some d → ∃ a, as[i]? = some a ∧ CK K fs a d := by
  induction h with
  | nil => intro i d e; cases e
  | cons h1 _ ih =>
    intro i d' e
    cases i with
    | zero => cases e; exact ⟨_, rfl, h1⟩
    | succ i => exact ih (i := i) e
/-- all defs and all classes -/
def AllPK (K : PySem.W.Frag) (ds : List Df) (cs : List Cd) : Prop := ∃ fs gs as, DefsK K fs gs ds ∧ ClsK K fs as cs
theorem dk_fun {K : PySem.W.Frag} {f : Addr} {x : Str} {st : Stmt} {N ps : List Str} {oc : Value} {od an : Option Addr} {osl : Array (Option Value)} {kV doc pm cdv ct : Value} (a : PySem.W.nsIn K mainGlobals x = some (some (.ref f)))
    (l : K.lookup f = some ⟨oc, od, .func (PySem.W.fnOf x x (defArgs st) (defBody st) (defScope st) .none kV doc pm an cdv ct), osl⟩) (c : PySem.W.codeIn K cdv x = true) (k : PySem.W.keepIn K (.ref f) = true)
    (S : FnScope N ps (defScope st))
    (b : ∀ (kV doc pm : Value) (an : Option Addr) (cdv ct : Value) (us : List Value), us.length = ps.length → bindArgs (PySem.W.fnOf x x (defArgs st) (defBody st) (defScope st) .none kV doc pm an cdv ct) ⟨us, []⟩ = pure (ps.zip us)) :
    DK K f (PySem.W.fnOf x x (defArgs st) (defBody st) (defScope st) .none kV doc pm an cdv ct) ⟨x, x, st, N, ps, true⟩ := ⟨fun _ => a, fun_mk l c k, S, b kV doc pm an cdv ct⟩
theorem dk_meth {K : PySem.W.Frag} {f : Addr} {x q : Str} {st : Stmt} {N ps : List Str} {oc : Value} {od an : Option Addr} {osl : Array (Option Value)} {kV doc pm cdv ct : Value}
    (l : K.lookup f = some ⟨oc, od, .func (PySem.W.fnOf x q (defArgs st) (defBody st) (defScope st) .none kV doc pm an cdv ct), osl⟩) (c : PySem.W.codeIn K cdv q = true) (k : PySem.W.keepIn K (.ref f) = true)
    (S : FnScope N ps (defScope st))
    (b : ∀ (kV doc pm : Value) (an : Option Addr) (cdv ct : Value) (us : List Value), us.length = ps.length → bindArgs (PySem.W.fnOf x q (defArgs st) (defBody st) (defScope st) .none kV doc pm an cdv ct) ⟨us, []⟩ = pure (ps.zip us)) :
    DK K f (PySem.W.fnOf x q (defArgs st) (defBody st) (defScope st) .none kV doc pm an cdv ct) ⟨x, q, st, N, ps, false⟩ := ⟨fun h => (nomatch h), fun_mk l c k, S, b kV doc pm an cdv ct⟩
theorem mem_nil {α : Type} {P : α → Prop} : ∀ q ∈ ([] : List α), P q := fun q h => nomatch h
theorem mem_cons {α : Type} {P : α → Prop} {q : α} {r : List α} (h : P q) (t : ∀ q ∈ r, P q) : ∀ z ∈ q :: r, P z := fun z hz => by
  rcases List.mem_cons.mp hz with e | e
  · rw [e]; exact h
  · exact t z e
theorem no_mk {K : PySem.W.Frag} {a : Addr} {f : Tx} {nm : Str} (hx : toStr f = nm) (h : PySem.W.findIn K (.ref a) nm = some none) : NoAttr K a (toStr f) := by
  rw [hx]; exact h
theorem ms_mk {K : PySem.W.Frag} {fs : List Addr} {a g : Addr} {m : Tx} {i : Nat} {nm : Str} (hx : toStr m = nm) (e : fs[i]? = some g) (h : PySem.W.findIn K (.ref a) nm = some (some (.ref g))) (t : PySem.W.isFn K (.ref g) = true) (k : PySem.W.keepIn K (.ref g) = true) : ∃ g, fs[i]? = some g ∧ Meth K a (toStr m) g :=
  ⟨g, e, by rw [hx]; exact h, t, k⟩
theorem ini_mk {K : PySem.W.Frag} {fs : List Addr} {a g : Addr} {i : Nat} (e : fs[i]? = some g) (mk : PySem.W.makesIn K a = true) (h : PySem.W.findIn K (.ref a) "__init__" = some (some (.ref g))) (t : PySem.W.isFn K (.ref g) = true) (k : PySem.W.keepIn K (.ref a) = true) : ∀ f, some i = some f → ∃ g, fs[f]? = some g ∧ Mk K a g := fun f hf => by
  cases hf
  exact ⟨g, e, mk, h, t, k⟩
def NoneK (K : PySem.W.Frag) (bs : List Str) : Prop := ∀ x ∈ bs, PySem.W.nsIn K mainGlobals x = some none
/-- the tables of the module -/
def AllTK (K : PySem.W.Frag) (w : World) (ts : List Str) (tabs : List SV) : Prop := ∀ (x : Nat) (nm : Str), ts[x]? = some nm → ∃ u v o, tabs[x]? = some o ∧ PySem.W.nsIn K mainGlobals nm = some (some u) ∧ RelV v u ∧ ∀ Z : Kx, Z.K = K → Z.w = w → RepTab Z o v
theorem allTK_nil {K : PySem.W.Frag} {w : World} : AllTK K w [] [] := fun x nm h => nomatch h
theorem allTK_cons {K : PySem.W.Frag} {w : World} {nm : Str} {ts : List Str} {u : Value} {v : V} {o : SV} {tabs : List SV} (h : PySem.W.nsIn K mainGlobals nm = some (some u)) (hv : RelV v u) (t : ∀ Z : Kx, Z.K = K → Z.w = w → RepTab Z o v) (r : AllTK K w ts tabs) : AllTK K w (nm :: ts) (o :: tabs) := fun x y e => by
  cases x with
  | zero => cases e; exact ⟨u, v, o, rfl, h, hv, t⟩
  | succ x => exact r x y e
/-- one entry of a written dict -/
def EntK (K : PySem.W.Frag) (w : World) (a : Addr) (q : PV × PV) : Prop := ∃ (x : Tx) (v : V), q.1 = .str x ∧ KDct K w a (toStr x) v ∧ ∀ Z : Kx, Z.K = K → RepV Z (fun _ => none) [] q.2 v
theorem tab_of {K : PySem.W.Frag} {w : World} {kvs : List (PV × PV)} {a : Addr} (h : ∀ q ∈ kvs, EntK K w a q) : ∀ Z : Kx, Z.K = K → Z.w = w → RepTab Z (.own (.tdic kvs)) (.ref a) := fun Z hK hw => ⟨a, rfl, fun x p e => by
  have e' : (kvs.find? fun q => decide (q.1 = .str x)).map (·.2) = some p := e
  obtain ⟨q, e1, e2⟩ := Option.map_eq_some_iff.mp e'
  have m := List.mem_of_find?_eq_some e1
  have k := List.find?_some e1
  obtain ⟨y, v, h1, h2, h3⟩ := h q m
  rw [h1] at k
  have k' := of_decide_eq_true k
  injection k' with k'
  rw [← e2, ← k']
  exact ⟨v, by rw [hK, hw]; exact h2, h3 Z hK⟩⟩
/-- a value that the module names -/
theorem val_of {K : PySem.W.Frag} {w : World} {p : PV} {v : V} (h : ∀ Z : Kx, Z.K = K → RepV Z (fun _ => none) [] p v) : ∀ Z : Kx, Z.K = K → Z.w = w → RepTab Z (.pv p) v := fun Z hK _ => h Z hK
/-- a tuple that the module has laid -/
theorem tup_of {K : PySem.W.Frag} {a : Addr} {ps : List PV} {vs : List V} {us : List Value} {n : Nat} (l : K.lookup a = some ⟨.type "tuple", none, .seq us.toArray n, #[]⟩) (hz : us.length ≤ 1000) (r : Vals vs us) (h : ∀ Z : Kx, Z.K = K → RepVs Z (fun _ => none) [] ps vs) : ∀ Z : Kx, Z.K = K → RepV Z (fun _ => none) [] (.tup ps) (.ref a) := fun Z hK =>
  ⟨a, vs, rfl, .inr ⟨_, us.toArray, n, by rw [hK]; exact l, rfl, rfl, rfl, by rw [List.size_toArray]; exact small_line hz, r⟩, h Z hK⟩
theorem vs_nil {K : PySem.W.Frag} : ∀ Z : Kx, Z.K = K → RepVs Z (fun _ => none) [] [] [] := fun _ _ => rfl
theorem vs_cons {K : PySem.W.Frag} {p : PV} {v : V} {ps : List PV} {vs : List V} (h : ∀ Z : Kx, Z.K = K → RepV Z (fun _ => none) [] p v) (t : ∀ Z : Kx, Z.K = K → RepVs Z (fun _ => none) [] ps vs) : ∀ Z : Kx, Z.K = K → RepVs Z (fun _ => none) [] (p :: ps) (v :: vs) := fun Z hK => ⟨v, vs, rfl, h Z hK, t Z hK⟩
theorem ent_mk {K : PySem.W.Frag} {w : World} {a : Addr} {x : Tx} {nm : Str} {p : PV} {v : V} {u : Value} {es : Array DictEntry} {n : Nat} (hx : toStr x = nm) (l : K.lookup a = some ⟨.type "dict", none, .dict es n, #[]⟩) (k : PySem.W.KeysLit w.params es.toList) (h : PySem.W.nsIn K a nm = some (some u)) (r : RelV v u) (hp : ∀ Z : Kx, Z.K = K → RepV Z (fun _ => none) [] p v) : EntK K w a (.str x, p) :=
  ⟨x, v, rfl, ⟨es, n, u, l, k, by rw [hx]; exact h, r⟩, hp⟩
theorem ents_nil {P : PV × PV → Prop} : ∀ q ∈ ([] : List (PV × PV)), P q := fun q h => nomatch h
theorem ents_cons {P : PV × PV → Prop} {q : PV × PV} {r : List (PV × PV)} (h : P q) (t : ∀ q ∈ r, P q) : ∀ z ∈ q :: r, P z := fun z hz => by
  rcases List.mem_cons.mp hz with e | e
  · rw [e]; exact h
  · exact t z e
theorem noneK_nil {K : PySem.W.Frag} : NoneK K [] := fun _ h => nomatch h
theorem noneK_cons {K : PySem.W.Frag} {x : Str} {bs : List Str} (h : PySem.W.nsIn K mainGlobals x = some none) (r : NoneK K bs) : NoneK K (x :: bs) := fun y hy => by
  rcases List.mem_cons.mp hy with e | e
  · rw [e]; exact h
  · exact r y e
/-- the checks of all the defs -/
def ckDs (fs bs ts : List Str) (cs : List Cd) : List Fn → List Df → Bool
  | [], [] => true
  | fn :: fns, d :: ds => ckD fs bs ts cs fn d && ckDs fs bs ts cs fns ds
  | _, _ => false
theorem ckDs_get {fs bs ts : List Str} {cs : List Cd} : ∀ {fns : List Fn} {ds : List Df}, ckDs fs bs ts cs fns ds = true → fns.length = ds.length ∧ ∀ (f : Nat) (fn : Fn), fns[f]? = some fn → ∃ d, ds[f]? = some d ∧ ckD fs bs ts cs fn d = true
  | [], [], _ => ⟨rfl, fun f fn e => by cases e⟩
  | fn :: fns, d :: ds, h => by
    unfold ckDs at h
    obtain ⟨h1, h2⟩ := (Bool.and_eq_true _ _).mp h
    obtain ⟨i1, i2⟩ := ckDs_get h2
    refine ⟨congrArg (· + 1) i1, fun f fn' e => ?_⟩
    cases f with
    | zero => cases e; exact ⟨d, rfl, h1⟩
    | succ f => exact i2 f fn' e
  | [], _ :: _, h => by cases h
  | _ :: _, [], h => by cases h
theorem ckDs_cons {fs bs ts : List Str} {cs : List Cd} {fn : Fn} {d : Df} {fns : List Fn} {ds : List Df} (h : ckD fs bs ts cs fn d = true) (r : ckDs fs bs ts cs fns ds = true) : ckDs fs bs ts cs (fn :: fns) (d :: ds) = true := by
  unfold ckDs; rw [h, r]; rfl

theorem start_ints {Z : Kx} {H : Hp} {al : List Addr} : ∀ {ns : List Int}, RepVs Z H al (ns.map .int) (ns.map V.int)
  | [] => rfl
  | _ :: _ => ⟨_, _, rfl, rfl, start_ints⟩
theorem law_spec {Z : Kx} {fns : List Fn} {tabs : List SV} {k law : Nat} {ns : List Int} {H : Hp} {a : Addr} (ho : Only H) (hs : SqL Z.K H a (ns.map V.int)) (hr : runLaw fns tabs k law ns = true) :
    spF Z (callK fns tabs k) 1 law [.ref a] H (fun v _ => v = .bl true) fun _ _ _ => False := by
  have fz : FrzL Z.K H a (ns.map V.int) := by
    rcases hs with (h | h) | h
    · rcases ho a with q | ⟨o, xs, q⟩ <;> rw [q] at h <;> cases h
    · exact .inl h
    · exact .inr h
  refine ⟨[.pv (.loc 0)], [.flst (ns.map .int)], [a], ⟨rfl, rfl, fun n o b h1 h2 => ?_, fun i v h => ?_, fun i o h => ?_, fun n m b h1 h2 => ?_, fun i n b h1 => ?_, fun i j b h1 h2 => ?_⟩, rfl, rfl, ?_⟩
  · cases n with
    | zero => cases h1; cases h2; exact ⟨_, fz, start_ints⟩
    | succ n => cases h1
  · cases i with
    | zero => cases h; exact ⟨_, rfl, a, rfl, rfl⟩
    | succ i => cases h
  · cases i with
    | zero => cases h
    | succ i => cases h
  · obtain ⟨o, g1, g2, _⟩ := h1
    cases n with
    | zero => cases g1; cases g2
    | succ n => cases g1
  · obtain ⟨o, g1, _⟩ := h1
    cases i with
    | zero => cases g1
    | succ i => cases g1
  · obtain ⟨o, g1, _⟩ := h1
    cases i with
    | zero => cases g1
    | succ i => cases g1
  · unfold runLaw at hr
    split at hr
    · rename_i s e
      rw [e]
      exact fun H' al' st u ru nu => ru
    · cases hr
theorem walk_kv {l : PySem.W.OpenLaw} {q : Program} {loose : List Str} {XP : (Str → Option Value) → Heap → Prop} {YP : World → Heap → Prop} {d : DefRec} {K : Params → PySem.W.Frag} {fns : List Fn} {tabs : List SV} {ds : List Df} {bs ts : List Str} {cs : List Cd} {k law : Nat} {fn : Fn} {df : Df} {x : Str}
    (hn : l.most = some 63) (hdf : d.params.defaults = []) (hY : ∀ (w : World) (h : Heap), YP w h → (K w.params).In h) (hr : Room (2 * k) callerA)
    (hl : ds[law]? = some df) (hgl : df.g = true) (hfn : fns[law]? = some fn) (hnm : df.x = d.name) (hps : df.ps = [x]) (hnp : fn.np = 1) (hc : ckDs (ds.map Df.nm) bs ts cs fns ds = true)
    (hd : ∀ w : World, AllPK (K w.params) ds cs ∧ NoneK (K w.params) bs ∧ AllTK (K w.params) w ts tabs)
    (hlaw : ∀ ns : List Int, ns.length ≤ 63 → (∀ z ∈ ns, Builtin.Int.intBits z ≤ 1048576) → runLaw fns tabs k law ns = true) :
    PySem.W.WalkO q loose XP YP l.row.toRowW d [] (fun f vs => PySem.call f vs) := by
  have key : ∀ w : World, ∃ (Z : Kx) (fd : Nat → FuncData), Z.K = K w.params ∧ Z.w = w ∧ (∀ (f : Nat) (d : Df), ds[f]? = some d → DK Z.K (Z.fa f) (fd f) d) ∧ ∀ (c : Nat) (d : Cd), cs[c]? = some d → Cls Z.K (Z.ca c) ∧ PySem.W.nsIn Z.K mainGlobals d.x = some (some (.ref (Z.ca c))) ∧ (∀ f ∈ d.fs, NoAttr Z.K (Z.ca c) (toStr f)) ∧ (∀ m f, (m, f) ∈ d.ms → Meth Z.K (Z.ca c) (toStr m) (Z.fa f) ∧ f < ds.length) ∧ ∀ f, d.ini = some f → Mk Z.K (Z.ca c) (Z.fa f) ∧ f < ds.length := fun w => by
    obtain ⟨fs, gs, as, h, hC⟩ := (hd w).1
    refine ⟨⟨K w.params, fun i => fs.getD i 0, fun i => as.getD i 0, w⟩, fun i => if h : i < gs.length then gs[i] else default, rfl, rfl, fun f d e => ?_, fun c d e => ?_⟩
    · obtain ⟨f', g', e1, e2, h'⟩ := h.get e
      have l2 : f < gs.length := (List.getElem?_eq_some_iff.mp e2).1
      have e3 : gs[f] = g' := (List.getElem?_eq_some_iff.mp e2).2
      have e4 : fs.getD f 0 = f' := by rw [List.getD_eq_getElem?_getD, e1]; rfl
      show DK _ (fs.getD f 0) (if h : f < gs.length then gs[f] else default) d
      rw [e4, dif_pos l2, e3]
      exact h'
    · obtain ⟨a, e1, k0⟩ := hC.get e
      have e4 : as.getD c 0 = a := by rw [List.getD_eq_getElem?_getD, e1]; rfl
      have e5 : ∀ {f : Nat} {g : Addr}, fs[f]? = some g → fs.getD f 0 = g := fun {f g} e6 => by rw [List.getD_eq_getElem?_getD, e6]; rfl
      show Cls _ (as.getD c 0) ∧ PySem.W.nsIn _ mainGlobals d.x = some (some (.ref (as.getD c 0))) ∧ (∀ f ∈ d.fs, NoAttr _ (as.getD c 0) (toStr f)) ∧ (∀ m f, (m, f) ∈ d.ms → Meth _ (as.getD c 0) (toStr m) (fs.getD f 0) ∧ f < ds.length) ∧ ∀ f, d.ini = some f → Mk _ (as.getD c 0) (fs.getD f 0) ∧ f < ds.length
      rw [e4]
      refine ⟨k0.cl, k0.mg, k0.no, fun m f hm => ?_, fun f hf => ?_⟩
      · obtain ⟨g, e6, m0⟩ := k0.ms _ hm
        rw [e5 e6]
        exact ⟨m0, by rw [← h.len]; exact (List.getElem?_eq_some_iff.mp e6).1⟩
      · obtain ⟨g, e6, m0⟩ := k0.ini f hf
        rw [e5 e6]
        exact ⟨m0, by rw [← h.len]; exact (List.getElem?_eq_some_iff.mp e6).1⟩
  refine L2.walk_ofB (n := 63) (k := 2 * k) (x := x) (CX := fun w => L2.CX l.prog w) (sp := fun w => fun vs H Q E => ∃ ns : List Int, ∃ a, vs = [.ref a] ∧ ns.length ≤ 63 ∧ (∀ z ∈ ns, Builtin.Int.intBits z ≤ 1048576) ∧ Only H ∧ SqL (K w.params) H a (ns.map V.int) ∧ (∀ H', Q (.bl true) H')) hn (by decide) hdf hr hY (fun w mg fa h KX G hfa => ?_) (fun w H a ns hl hb hO hS => ⟨ns, a, rfl, hl, hb, hO, hS, fun _ => rfl⟩) fun w H s e s' ⟨_, _, _, _, _, _, _, _, _, _, _, _, z⟩ => z
  obtain ⟨Z, fd, hZ, hZw, hk, hkc⟩ := key w
  rw [← hZ] at KX ⊢
  have D := hk law df hl
  have e := hfa.symm.trans (PySem.W.mg_of KX G (by rw [← hnm]; exact D.a hgl))
  cases e
  obtain ⟨c1, c2⟩ := ckDs_get hc
  refine ⟨fd law, fun s u => .of_eq (by have := D.b [u] (by rw [hps]; rfl); rw [hps] at this; exact this), fun base _ _ => ?_⟩
  have ok := all_ok (Z := Z) (P := l.prog) (w := w) (mg := mg) (base := base) (tabs := tabs) (fd := fd) (bs := bs) (ts := ts) (ds := ds) (fns := fns) hZw.symm (fun y nm e => by
    obtain ⟨u, v, o, t1, t2, t3, t4⟩ := (hd w).2.2 y nm e
    exact ⟨u, v, o, t1, PySem.W.mg_of KX G (by rw [hZ]; exact t2), t3, t4 Z hZ hZw⟩) (fun y hy => PySem.W.mg_none_of KX G (by rw [hZ]; exact (hd w).2.1 y hy)) (fun c d e => ⟨(hkc c d e).1, PySem.W.mg_of KX G (hkc c d e).2.1, (hkc c d e).2.2.1, (hkc c d e).2.2.2.1, (hkc c d e).2.2.2.2⟩) (fun f d e => ⟨(hk f d e).F, (hk f d e).S, .all (hk f d e).b, fun hg => PySem.W.mg_of KX G ((hk f d e).a hg)⟩) c2 c1 k law fn df hfn hl
  rw [hps] at ok
  refine ok.imp fun vs H Q E ⟨ns, a, e1, e2, e3, e4, e5, e6⟩ => ?_
  subst e1
  rw [hnp]
  have sp := law_spec (Z := Z) (tabs := tabs) (k := k) (law := law) (fns := fns) e4 e5 (hlaw ns e2 e3)
  obtain ⟨args, mu, al, h1, h2, h3, h4⟩ := sp
  refine ⟨args, mu, al, h1, h2, h3, ?_⟩
  cases ho : callK fns tabs k law args mu with
  | ok v s => rw [ho] at h4; exact fun H' al' st u ru nu => by rw [h4 H' al' st u ru nu]; exact e6 H'
  | exc x s => rw [ho] at h4; exact fun cls d H' al' st rx => (h4 cls d H' al' st rx).elim
  | bad => rw [ho] at h4; exact h4.elim
end Kv

set_option Elab.async false
set_option linter.all false
set_option maxRecDepth 100000
/-! Equations for running a text of Kv by simp. -/
namespace Kv
open PySem (Operator CmpOp)
/-- one run behind another -/
def Out.go {α β : Type} (o : Out α) (f : α → St → Out β) : Out β := match o with
  | .ok a s => f a s
  | .exc x s => .exc x s
  | .bad => .bad
theorem Out.go_congr {α β : Type} {o o' : Out α} {f : α → St → Out β} (h : o = o') : o.go f = o'.go f := by rw [h]
theorem go_ok {α β : Type} {a : α} {s : St} {f : α → St → Out β} : (Out.ok a s).go f = f a s := rfl
theorem go_exc {α β : Type} {a : Ex} {s : St} {f : α → St → Out β} : (Out.exc a s : Out α).go f = .exc a s := rfl
theorem go_bad {α β : Type} {f : α → St → Out β} : (Out.bad : Out α).go f = .bad := rfl
theorem bind_go {α β : Type} (m : M α) (f : α → M β) (s : St) : (m >>= f) s = (m s).go f := by
  show M.bind m f s = _
  unfold M.bind Out.go
  cases m s <;> rfl
/-- an option's way -/
def oSome {α β : Type} (o : Option α) (f : α → Out β) : Out β := match o with
  | some a => f a
  | none => .bad
theorem oSome_congr {α β : Type} {o o' : Option α} {f : α → Out β} (h : o = o') : oSome o f = oSome o' f := by rw [h]
theorem oSome_some {α β : Type} {a : α} {f : α → Out β} : oSome (some a) f = f a := rfl
theorem oSome_none {α β : Type} {f : α → Out β} : oSome (none : Option α) f = .bad := rfl
/-- a truth's way -/
def bIf {β : Type} (b : Bool) (x y : Unit → Out β) : Out β := match b with
  | true => x ()
  | false => y ()
theorem bIf_congr {β : Type} {b b' : Bool} {x y : Unit → Out β} (h : b = b') : bIf b x y = bIf b' x y := by rw [h]
theorem bIf_t {β : Type} {x y : Unit → Out β} : bIf true x y = x () := rfl
theorem bIf_f {β : Type} {x y : Unit → Out β} : bIf false x y = y () := rfl
def oVal (v : SV) (s : St) : Out Opd := .ok (.val v) s
def cont1' (x : Opd) (s : St) : Option SV := cont x s
section
variable {N : Env} {s : St}
theorem ev_c {v : PV} : ev N (.c v) s = .ok (.val (.pv v)) s := rfl
theorem ev_var {i : Nat} : ev N (.var i) s = oSome (s.get i) fun v => match v with | .pv p => .ok (.val (.pv p)) s | .own _ => .ok (.slot i) s := by
  unfold ev
  cases s.get i with
  | none => rfl
  | some v => cases v <;> rfl
theorem ofo_go {α : Type} {o : Option α} : M.ofo o s = oSome o fun a => .ok a s := by cases o <;> rfl
theorem ev_tup {es : List E} : ev N (.tup es) s = (evs N es s).go fun os s => (boxs os s).go fun ps s => .ok (.val (.pv (.tup ps))) s := by
  unfold ev; rw [bind_go]; congr 1
theorem ev_lst {es : List E} : ev N (.lst es) s = (evs N es s).go fun os s => (boxs os s).go fun ps s => .ok (.val (.own (.lst ps))) s := by
  unfold ev; rw [bind_go]; congr 1
theorem ev_dic {ks : List Tx} {es : List E} : ev N (.dic ks es) s = (evs N es s).go fun os s => (boxs os s).go fun ps s => if ks.Nodup ∧ ks.length = ps.length then .ok (.val (.own (.dic (dmk ks ps)))) s else .bad := by
  conv => lhs; unfold ev
  rw [bind_go]; congr 1; funext x s; rw [bind_go]; congr 1; funext cs s
  split <;> rfl
theorem cont2_go {x y : Opd} : cont2 x y s = oSome (cont x s) fun c => oSome (cont y s) fun d => .ok (c, d) s := by
  unfold cont2
  cases cont x s <;> cases cont y s <;> rfl
theorem cont1_go {x : Opd} : cont1 x s = oSome (cont x s) fun c => .ok c s := by
  unfold cont1
  cases cont x s <;> rfl
theorem two_go {α : Type} {x y : Opd} {f : SV → SV → Option α} : (cont2 x y >>= fun c => M.ofo (f c.1 c.2)) s = oSome (cont x s) fun c => oSome (cont y s) fun d => oSome (f c d) fun r => .ok r s := by
  rw [bind_go, cont2_go]
  cases cont x s with
  | none => rfl
  | some c =>
    cases cont y s with
    | none => rfl
    | some d => exact ofo_go
theorem map_go {α β : Type} {o : Option α} {g : α → β} {f : β → Out Opd} : oSome (o.map g) f = oSome o fun a => f (g a) := by cases o <;> rfl
theorem ev_bin {op : Operator} {a b : E} : ev N (.bin op a b) s = (ev N a s).go fun x s => (ev N b s).go fun y s => oSome (cont x s) fun c => oSome (cont y s) fun d => oSome (binop op c d) fun r => .ok (.val r) s := by
  conv => lhs; unfold ev
  rw [bind_go]; congr 1; funext x s; rw [bind_go]; congr 1; funext y s
  rw [two_go (f := fun c d => (binop op c d).map Opd.val)]; congr 1; funext c; congr 1; funext d; rw [map_go]
theorem ev_cmp {op : CmpOp} {a b : E} : ev N (.cmp op a b) s = (ev N a s).go fun x s => (ev N b s).go fun y s => oSome (cont x s) fun c => oSome (cont y s) fun d => oSome (cmpall op c d) fun r => .ok (.val (.pv (.bl r))) s := by
  conv => lhs; unfold ev
  rw [bind_go]; congr 1; funext x s; rw [bind_go]; congr 1; funext y s
  rw [two_go (f := fun c d => (cmpall op c d).map fun r => Opd.val (.pv (.bl r)))]; congr 1; funext c; congr 1; funext d; rw [map_go]
theorem ev_idx {a b : E} : ev N (.idx a b) s = (ev N a s).go fun x s => (ev N b s).go fun y s => oSome (cont x s) fun c => oSome (cont y s) fun d => oSome (index c d) fun r => .ok (.val (.pv r)) s := by
  conv => lhs; unfold ev
  rw [bind_go]; congr 1; funext x s; rw [bind_go]; congr 1; funext y s
  rw [two_go (f := fun c d => (index c d).map fun r => Opd.val (.pv r))]; congr 1; funext c; congr 1; funext d; rw [map_go]
theorem isInt_go {x : Opd} : isInt x s = match x with | .val (.pv (.int i)) => .ok i s | _ => .bad := by
  cases x with
  | val v => cases v with
    | pv p => cases p <;> rfl
    | own _ => rfl
  | _ => rfl
theorem ev_neg {a : E} : ev N (.neg a) s = (ev N a s).go fun x s => (isInt x s).go fun i s => .ok (.val (.pv (.int (-i)))) s := by
  conv => lhs; unfold ev
  rw [bind_go]; congr 1
theorem ev_not {a : E} : ev N (.not a) s = (ev N a s).go fun x s => (isBl x s).go fun i s => .ok (.val (.pv (.bl (!i)))) s := by
  conv => lhs; unfold ev
  rw [bind_go]; congr 1
theorem ev_and {es : List E} : ev N (.and es) s = evAndV N es s := rfl
theorem ev_or {es : List E} : ev N (.or es) s = evOrV N es s := rfl
theorem ev_ite {t : B} {a b : E} : ev N (.ite t a b) s = (evT N t s).go fun c s => bIf c (fun _ => ev N a s) fun _ => ev N b s := by
  conv => lhs; unfold ev
  rw [bind_go]; congr 1; funext x s; cases x <;> rfl
theorem ev_call {f : Nat} {es : List E} : ev N (.call f es) s = (evs N es s).go fun os s => callF N.fns N.cl f os s := by
  conv => lhs; unfold ev
  rw [bind_go]
theorem ev_bi {b : Bi} {es : List E} : ev N (.bi b es) s = (evs N es s).go fun os s => (conts os s).go fun cs s => oSome (biFn b cs) fun r => .ok (.val r) s := by
  conv => lhs; unfold ev
  rw [bind_go]; congr 1; funext x s; rw [bind_go]; congr 1; funext cs s; rw [ofo_go, map_go]
theorem ite_go {α : Type} {b : Bool} {A : M α} : (if b = true then A else M.bad) s = bIf b (fun _ => A s) fun _ => .bad := by cases b <;> rfl
theorem ev_bm {m : Bm} {o : E} {es : List E} : ev N (.bm m o es) s = (ev N o s).go fun x s => oSome (cont x s) fun c => bIf (isLst c) (fun _ => (evs N es s).go fun os s => mutate m x os s) fun _ => .bad := by
  conv => lhs; unfold ev
  rw [bind_go]; congr 1; funext x s; rw [bind_go, cont1_go]
  cases cont x s with
  | none => rfl
  | some c => rw [oSome_some, oSome_some, go_ok, ite_go]; congr 1
theorem ev_me {m : Me} {o : E} {es : List E} : ev N (.me m o es) s = (ev N o s).go fun x s => oSome (cont x s) fun c => bIf (meTy m c) (fun _ => (evs N es s).go fun os s => oSome (cont x s) fun c => (conts os s).go fun cs s => oSome (meFn m c cs) fun r => .ok (.val r) s) fun _ => .bad := by
  conv => lhs; unfold ev
  rw [bind_go]; congr 1; funext x s; rw [bind_go, cont1_go]
  cases cont x s with
  | none => rfl
  | some c =>
    rw [oSome_some, oSome_some, go_ok, ite_go]; congr 1; funext _
    rw [bind_go]; congr 1; funext os s; rw [bind_go, cont1_go]
    cases cont x s with
    | none => rfl
    | some c =>
      rw [oSome_some, oSome_some, go_ok, bind_go]; congr 1; funext cs s; rw [ofo_go, map_go]
theorem ev_getd {o k d : E} : ev N (.getd o k d) s = (ev N o s).go fun x s => oSome (cont x s) fun c => bIf (isDic c) (fun _ => (ev N k s).go fun y s => (ev N d s).go fun z s => oSome (cont x s) fun c => oSome (cont y s) fun e => (isPv z s).go fun p s => oSome (dgetd c e p) fun r => .ok (.val (.pv r)) s) fun _ => .bad := by
  conv => lhs; unfold ev
  rw [bind_go]; congr 1; funext x s; rw [bind_go, cont1_go]
  cases cont x s with
  | none => rfl
  | some c =>
    rw [oSome_some, oSome_some, go_ok, ite_go]; congr 1; funext _; rw [bind_go]; congr 1; funext y s; rw [bind_go]; congr 1; funext z s; rw [bind_go, cont2_go]
    cases cont x s with
    | none => rfl
    | some c =>
      cases cont y s with
      | none => rfl
      | some e =>
        rw [oSome_some, oSome_some, oSome_some, oSome_some, go_ok, bind_go]; congr 1; funext p s; rw [ofo_go, map_go]
theorem ev_get1 {o k : E} : ev N (.get1 o k) s = (ev N o s).go fun x s => oSome (cont x s) fun c => bIf (isDic c) (fun _ => (ev N k s).go fun y s => oSome (cont x s) fun c => oSome (cont y s) fun e => oSome (dgetd c e .non) fun r => .ok (.val (.pv r)) s) fun _ => .bad := by
  conv => lhs; unfold ev
  rw [bind_go]; congr 1; funext x s; rw [bind_go, cont1_go]
  cases cont x s with
  | none => rfl
  | some c =>
    rw [oSome_some, oSome_some, go_ok, ite_go]; congr 1; funext _; rw [bind_go]; congr 1; funext y s
    rw [two_go (f := fun c d => (dgetd c d .non).map fun r => Opd.val (.pv r))]; congr 1; funext c; congr 1; funext d; rw [map_go]
theorem ev_join {a b : E} : ev N (.join a b) s = (ev N a s).go fun x s => (isTx x s).go fun sep s => (ev N b s).go fun y s => oSome (cont y s) fun c => oSome (joinOf sep c) fun r => .ok (.val (.pv r)) s := by
  conv => lhs; unfold ev
  rw [bind_go]; congr 1; funext x s; rw [bind_go]; congr 1; funext sep s; rw [bind_go]; congr 1; funext y s; rw [bind_go, cont1_go]
  cases cont y s with
  | none => rfl
  | some c => show M.ofo _ s = oSome _ _; rw [ofo_go, map_go] <;> rfl
theorem ev_isi {t : Ty} {a : E} : ev N (.isi t a) s = (ev N a s).go fun x s => oSome (cont x s) fun c => oSome c.ty fun u => .ok (.val (.pv (.bl (u.sub t)))) s := by
  conv => lhs; unfold ev
  rw [bind_go]; congr 1; funext x s; rw [bind_go, cont1_go]
  cases cont x s with
  | none => rfl
  | some c => show M.ofo _ s = oSome _ _; rw [ofo_go, map_go] <;> rfl
theorem ev_isiT {ts : List Ty} {a : E} : ev N (.isiT ts a) s = (ev N a s).go fun x s => oSome (cont x s) fun c => oSome c.ty fun u => .ok (.val (.pv (.bl (ts.any fun t => u.sub t)))) s := by
  conv => lhs; unfold ev
  rw [bind_go]; congr 1; funext x s; rw [bind_go, cont1_go]
  cases cont x s with
  | none => rfl
  | some c => show M.ofo _ s = oSome _ _; rw [ofo_go, map_go] <;> rfl
theorem ev_sset {a : E} : ev N (.sset a) s = (ev N a s).go fun x s => oSome (cont x s) fun c => oSome (ssetOf c) fun r => .ok (.val r) s := by
  conv => lhs; unfold ev
  rw [bind_go]; congr 1; funext x s; rw [bind_go, cont1_go]
  cases cont x s with
  | none => rfl
  | some c => show M.ofo _ s = oSome _ _; rw [ofo_go, map_go] <;> rfl
theorem ev_sit {a : E} : ev N (.sit a) s = (ev N a s).go fun x s => oSome (cont x s) fun c => oSome (sitOf c) fun r => .ok (.val r) s := by
  conv => lhs; unfold ev
  rw [bind_go]; congr 1; funext x s; rw [bind_go, cont1_go]
  cases cont x s with
  | none => rfl
  | some c => show M.ofo _ s = oSome _ _; rw [ofo_go, map_go] <;> rfl
theorem ev_fld {c : Nat} {o : E} {f : Tx} : ev N (.fld c o f) s = (ev N o s).go fun x s => oSome (cont x s) fun k => oSome ((insOf c k).bind fun fs => flook fs f) fun p => .ok (.val (.pv p)) s := by
  conv => lhs; unfold ev
  rw [bind_go]; congr 1; funext x s; rw [bind_go, cont1_go]
  cases cont x s with
  | none => rfl
  | some k => show M.ofo _ s = oSome _ _; rw [ofo_go, map_go] <;> rfl
theorem ev_meth {c f : Nat} {m : Tx} {o : E} {es : List E} : ev N (.meth c m f o es) s = (ev N o s).go fun x s => oSome (cont x s) fun k => oSome (insOf c k) fun fs => bIf (flook fs m).isNone (fun _ => (evs N es s).go fun os s => callF N.fns N.cl f (x :: os) s) fun _ => .bad := by
  conv => lhs; unfold ev
  rw [bind_go]; congr 1; funext x s; rw [bind_go, cont1_go]
  cases cont x s with
  | none => rfl
  | some k =>
    rw [oSome_some, oSome_some, go_ok, bind_go, ofo_go]
    cases insOf c k with
    | none => rfl
    | some fs =>
      rw [oSome_some, oSome_some, go_ok, ite_go]; congr 1
theorem ev_make {c f : Nat} {es : List E} : ev N (.make c f es) s = (evs N es s).go fun os s => makeF N.fns N.cl c f os s := by
  conv => lhs; unfold ev
  rw [bind_go]
theorem ev_sl {o : E} {lo hi : List E} : ev N (.sl o lo hi) s = (ev N o s).go fun x s => (evB N lo s).go fun l s => (evB N hi s).go fun h s => oSome (cont x s) fun c => oSome (slice c l h) fun r => .ok (.val r) s := by
  conv => lhs; unfold ev
  rw [bind_go]; congr 1; funext x s; rw [bind_go]; congr 1; funext l s; rw [bind_go]; congr 1; funext h s; rw [bind_go, cont1_go]
  cases cont x s with
  | none => rfl
  | some c => show M.ofo _ s = oSome _ _; rw [ofo_go, map_go] <;> rfl
theorem src_go {ik : Ik} {os : List Opd} : srcOf ik os s = (conts os s).go fun cs s => oSome (itemsOf ik cs) fun xs => .ok (os, cs, xs) s := by
  unfold srcOf
  rw [bind_go]; congr 1; funext cs s; rw [bind_go, ofo_go]
  cases itemsOf ik cs <;> rfl
theorem ev_comp {elt : E} {t : T} {ik : Ik} {es : List E} {cond : List B} {own : List Nat} : ev N (.comp elt t ik es cond own) s = (evs N es s).go fun os s => (conts os s).go fun cs s => oSome (itemsOf ik cs) fun xs => compEnd s own (compL (evAnd N cond) (ev N elt) t (stands os cs) own xs [] s) := by
  conv => lhs; unfold ev
  rw [bind_go]; congr 1; funext os s; rw [bind_go, src_go]
  cases conts os s with
  | bad => rfl
  | exc x s => rfl
  | ok cs s => simp only [go_ok]; cases itemsOf ik cs <;> rfl
theorem evs_nil : evs N [] s = .ok [] s := rfl
theorem evs_cons {e : E} {es : List E} : evs N (e :: es) s = (ev N e s).go fun o s => (evs N es s).go fun os s => .ok (o :: os) s := by
  conv => lhs; unfold evs
  rw [bind_go]; congr 1
theorem boxs_nil : boxs [] s = .ok [] s := rfl
theorem boxs_cons {o : Opd} {os : List Opd} : boxs (o :: os) s = (box o s).go fun p s => (boxs os s).go fun ps s => .ok (p :: ps) s := by
  conv => lhs; unfold boxs
  rw [bind_go]; congr 1
theorem evB_nil : evB N [] s = .ok none s := rfl
theorem evB_one {e : E} {r : List E} : evB N (e :: r) s = (ev N e s).go fun o s => (isInt o s).go fun i s => .ok (some i) s := by
  conv => lhs; unfold evB
  rw [bind_go]; congr 1
theorem evT_e {x : E} : evT N (.e x) s = (ev N x s).go fun o s => oSome (cont o s) fun c => oSome (truth c) fun b => .ok b s := by
  conv => lhs; unfold evT
  rw [bind_go]; congr 1; funext x s; rw [bind_go, cont1_go]
  cases cont x s with
  | none => rfl
  | some c => exact ofo_go
theorem evT_not {b : B} : evT N (.not b) s = (evT N b s).go fun b s => .ok (!b) s := by
  conv => lhs; unfold evT
  rw [bind_go] <;> rfl
theorem evT_and {bs : List B} : evT N (.and bs) s = evAnd N bs s := rfl
theorem evT_or {bs : List B} : evT N (.or bs) s = evOr N bs s := rfl
theorem evAnd_nil : evAnd N [] s = .ok true s := rfl
theorem evAnd_cons {e : B} {es : List B} : evAnd N (e :: es) s = (evT N e s).go fun b s => bIf b (fun _ => evAnd N es s) fun _ => .ok false s := by
  conv => lhs; unfold evAnd
  rw [bind_go]; congr 1; funext b s; cases b <;> rfl
theorem evOr_nil : evOr N [] s = .ok false s := rfl
theorem evOr_cons {e : B} {es : List B} : evOr N (e :: es) s = (evT N e s).go fun b s => bIf b (fun _ => .ok true s) fun _ => evOr N es s := by
  conv => lhs; unfold evOr
  rw [bind_go]; congr 1; funext b s; cases b <;> rfl
theorem evAndV_one {e : E} : evAndV N [e] s = ev N e s := rfl
theorem evAndV_cons {e e2 : E} {es : List E} : evAndV N (e :: e2 :: es) s = (ev N e s).go fun x s => (isBl x s).go fun b s => bIf b (fun _ => evAndV N (e2 :: es) s) fun _ => .ok (.val (.pv (.bl false))) s := by
  conv => lhs; unfold evAndV
  rw [bind_go]; congr 1; funext x s; rw [bind_go]; congr 1; funext b s; cases b <;> rfl
theorem evOrV_one {e : E} : evOrV N [e] s = ev N e s := rfl
theorem evOrV_cons {e e2 : E} {es : List E} : evOrV N (e :: e2 :: es) s = (ev N e s).go fun x s => (isBl x s).go fun b s => bIf b (fun _ => .ok (.val (.pv (.bl true))) s) fun _ => evOrV N (e2 :: es) s := by
  conv => lhs; unfold evOrV
  rw [bind_go]; congr 1; funext x s; rw [bind_go]; congr 1; funext b s; cases b <;> rfl
/-! statements -/
variable {pr : List Nat}
theorem evS_asg {t : T} {e : E} : evS N (.asg t e) pr s = (ev N e s).go fun o s => (toSV o s).go fun v s => (store pr t v s).go fun _ s => .ok .nx s := by
  conv => lhs; unfold evS
  rw [bind_go]; congr 1
theorem evS_asgI {o i e : E} : evS N (.asgI o i e) pr s = (ev N e s).go fun v s => (ev N o s).go fun x s => (ev N i s).go fun k s => (box v s).go fun p s => (box k s).go fun q s => (setAt x q p s).go fun _ s => .ok .nx s := by
  conv => lhs; unfold evS
  rw [bind_go]; congr 1
theorem setAt_go {x : Opd} {i v : PV} : setAt x i v s = oSome (cont x s) fun c => (match c with | .own ob => oSome (setix ob i v) fun ob' => wback x ob' s | _ => .bad) := by
  unfold setAt
  rw [bind_go, cont1_go]
  cases cont x s with
  | none => rfl
  | some c =>
    cases c with
    | pv p => rfl
    | own ob => show (match setix ob i v with | some ob' => wback x ob' | none => M.bad) s = oSome (setix ob i v) _; cases setix ob i v <;> rfl
theorem setF_go {c : Nat} {x : Opd} {f : Tx} {v : PV} : setF c x f v s = oSome (cont x s) fun k => oSome (insOf c k) fun fs => if fs.length < 1000 then wback x (.ins c (fput fs f v)) s else .bad := by
  unfold setF
  rw [bind_go, cont1_go]
  cases cont x s with
  | none => rfl
  | some k =>
    rw [oSome_some, oSome_some, go_ok, bind_go, ofo_go]
    cases insOf c k with
    | none => rfl
    | some fs => rw [oSome_some, oSome_some, go_ok]; split <;> rfl
theorem evS_asgF {c : Nat} {o e : E} {f : Tx} : evS N (.asgF c o f e) pr s = (ev N e s).go fun v s => (ev N o s).go fun x s => (box v s).go fun p s => (setF c x f p s).go fun _ s => .ok .nx s := by
  conv => lhs; unfold evS
  rw [bind_go]; congr 1
theorem evS_augF {c : Nat} {o e : E} {f : Tx} {op : Operator} : evS N (.augF c o f op e) pr s = (ev N o s).go fun x s => oSome (cont x s) fun k => oSome ((insOf c k).bind fun fs => flook fs f) fun a => (ev N e s).go fun y s => (isInt y s).go fun b s => oSome (augop op a b) fun v => (setF c x f v s).go fun _ s => .ok .nx s := by
  conv => lhs; unfold evS
  rw [bind_go]; congr 1; funext x s; rw [bind_go, cont1_go]
  cases cont x s with
  | none => rfl
  | some k =>
    rw [oSome_some, oSome_some, go_ok, bind_go, ofo_go]
    cases (insOf c k).bind fun fs => flook fs f with
    | none => rfl
    | some a =>
      rw [oSome_some, oSome_some, go_ok, bind_go]; congr 1; funext y s; rw [bind_go]; congr 1; funext b s; rw [bind_go, ofo_go]
      cases augop op a b with
      | none => rfl
      | some v => show (setF c x f v >>= _) s = (setF c x f v s).go _; rw [bind_go] <;> rfl
theorem evS_aug {i : Nat} {op : Operator} {e : E} : evS N (.aug i op e) pr s = oSome (s.get i) fun v => (match v with | .pv a => (ev N e s).go fun o s => (isInt o s).go fun b s => oSome (augop op a b) fun v => (store pr (.nm i) (.pv v) s).go fun _ s => .ok .nx s | _ => .bad) := by
  conv => lhs; unfold evS
  cases s.get i with
  | none => rfl
  | some v =>
    cases v with
    | own o => rfl
    | pv a =>
      show (ev N e >>= _) s = (ev N e s).go _
      rw [bind_go]; congr 1; funext o s; rw [bind_go]; congr 1; funext b s; rw [bind_go, ofo_go]
      cases augop op a b with
      | none => rfl
      | some v => show (store pr (.nm i) (.pv v) >>= _) s = (store pr (.nm i) (.pv v) s).go _; rw [bind_go] <;> rfl
theorem evS_ex {e : E} : evS N (.ex e) pr s = (ev N e s).go fun _ s => .ok .nx s := by
  conv => lhs; unfold evS
  rw [bind_go] <;> rfl
/-- what a return hands back -/
def retO (np : Nat) (o : Opd) (s : St) : Out Fl := match o with
  | .val v => .ok (.ret v) s
  | .tab _ => .bad
  | .slot i => if i < np then (toSV (.slot i) s).go fun v s => .ok (.ret v) s else oSome (s.get i) fun v => .ok (.ret v) (s.put i none)
theorem retO_val {np : Nat} {v : SV} : retO np (.val v) s = .ok (.ret v) s := rfl
theorem evS_ret {e : E} : evS N (.ret e) pr s = (ev N e s).go fun o s => retO N.np o s := by
  conv => lhs; unfold evS
  rw [bind_go]; congr 1; funext o s
  cases o with
  | val v => rfl
  | tab o => rfl
  | slot i =>
    show (if i < N.np then (toSV (.slot i) >>= fun v => pure (Fl.ret v)) s else (match s.get i with | some v => .ok (.ret v) (s.put i none) | none => .bad)) = if i < N.np then _ else _
    split
    · rw [bind_go] <;> rfl
    · cases s.get i <;> rfl
theorem evS_retN : evS N .retN pr s = .ok (.ret (.pv .non)) s := rfl
theorem evS_iff {c : B} {a b : List S} : evS N (.iff c a b) pr s = (evT N c s).go fun t s => bIf t (fun _ => evSs N a pr s) fun _ => evSs N b pr s := by
  conv => lhs; unfold evS
  rw [bind_go]; congr 1; funext t s; cases t <;> rfl
theorem evS_forr {t : T} {ik : Ik} {es : List E} {body : List S} : evS N (.forr t ik es body) pr s = (evs N es s).go fun os s => (conts os s).go fun cs s => oSome (itemsOf ik cs) fun xs => forL (evSs N body (srcSlots os ++ pr)) (srcSlots os ++ pr) t (stands os cs) xs s := by
  conv => lhs; unfold evS
  rw [bind_go]; congr 1; funext os s; rw [bind_go, src_go]
  cases conts os s with
  | bad => rfl
  | exc x s => rfl
  | ok cs s => simp only [go_ok]; cases itemsOf ik cs <;> rfl
theorem evS_while {c : B} {body : List S} : evS N (.while c body) pr s = whileL (evT N c) (evSs N body pr) WF s := rfl
theorem evS_brk : evS N .brk pr s = .ok .brk s := rfl
theorem evS_cnt : evS N .cnt pr s = .ok .cnt s := rfl
theorem evS_pass : evS N .pass pr s = .ok .nx s := rfl
def flGo (f : Fl) (k : Unit → Out Fl) (s : St) : Out Fl := match f with
  | .nx => k ()
  | f => .ok f s
theorem flGo_nx {k : Unit → Out Fl} : flGo .nx k s = k () := rfl
theorem flGo_ret {k : Unit → Out Fl} {v : SV} : flGo (.ret v) k s = .ok (.ret v) s := rfl
theorem flGo_brk {k : Unit → Out Fl} : flGo .brk k s = .ok .brk s := rfl
theorem flGo_cnt {k : Unit → Out Fl} : flGo .cnt k s = .ok .cnt s := rfl
theorem evSs_nil : evSs N [] pr s = .ok .nx s := rfl
theorem evSs_cons {a : S} {r : List S} : evSs N (a :: r) pr s = (evS N a pr s).go fun f s => flGo f (fun _ => evSs N r pr s) s := by
  conv => lhs; unfold evSs
  rw [bind_go]; congr 1; funext f s; cases f <;> rfl
end
theorem bind_eq {α β : Type} (m : M α) (f : α → M β) (s : St) : (m >>= f) s = match m s with | .ok a s' => f a s' | .exc x s' => .exc x s' | .bad => .bad := rfl
theorem pure_eq {α : Type} (a : α) (s : St) : (pure a : M α) s = .ok a s := rfl
theorem bad_eq {α : Type} (s : St) : (M.bad : M α) s = .bad := rfl
theorem ite_eq {α : Type} (c : Prop) [Decidable c] (a b : M α) (s : St) : (if c then a else b) s = if c then a s else b s := by split <;> rfl
theorem ofo_some {α : Type} (a : α) (s : St) : M.ofo (some a) s = .ok a s := rfl
theorem ofo_none {α : Type} (s : St) : M.ofo (none : Option α) s = .bad := rfl
theorem conts_nil (s : St) : conts [] s = .ok [] s := rfl
theorem conts_cons (o : Opd) (os : List Opd) (s : St) : conts (o :: os) s = match cont o s with | none => .bad | some c => (match conts os s with | .ok cs s' => .ok (c :: cs) s' | .exc x s' => .exc x s' | .bad => .bad) := by
  unfold conts
  rw [List.mapM_cons]
  cases h : cont o s with
  | none => rfl
  | some c =>
    cases h2 : os.mapM (cont · s) with
    | none => simp [h2]
    | some cs => simp [h2]
theorem eq_int (a b : Int) : eqSV (.pv (.int a)) (.pv (.int b)) = some (decide (a = b)) := by
  unfold eqSV
  simp [PV.plain, PV.depth]
theorem eq_bl (a b : Bool) : eqSV (.pv (.bl a)) (.pv (.bl b)) = some (decide (a = b)) := rfl
theorem cmp_eq (a b : SV) : cmpall .Eq a b = eqSV a b := by cases a <;> cases b <;> rfl
theorem cmp_ne (a b : SV) : cmpall .NotEq a b = (eqSV a b).map (!·) := by cases a <;> cases b <;> rfl
theorem cmp_lt (a b : Int) : cmpall .Lt (.pv (.int a)) (.pv (.int b)) = some (decide (a < b)) := rfl
theorem cmp_le (a b : Int) : cmpall .LtE (.pv (.int a)) (.pv (.int b)) = some (decide (a ≤ b)) := rfl
theorem cmp_gt (a b : Int) : cmpall .Gt (.pv (.int a)) (.pv (.int b)) = some (decide (b < a)) := rfl
theorem cmp_ge (a b : Int) : cmpall .GtE (.pv (.int a)) (.pv (.int b)) = some (decide (b ≤ a)) := rfl
theorem cmp_in (a b : SV) : cmpall .In a b = inop a b := rfl
theorem cmp_nin (a b : SV) : cmpall .NotIn a b = (inop a b).map (!·) := rfl
theorem add_int (a b : Int) : binop .Add (.pv (.int a)) (.pv (.int b)) = some (.pv (.int (a + b))) := rfl
theorem sub_int (a b : Int) : binop .Sub (.pv (.int a)) (.pv (.int b)) = some (.pv (.int (a - b))) := rfl
theorem mul_int {a b : Int} (h : mulOk a b = true) : binop .Mult (.pv (.int a)) (.pv (.int b)) = some (.pv (.int (a * b))) := if_pos h
theorem mod_int {a b : Int} (h : b ≠ 0) : binop .Mod (.pv (.int a)) (.pv (.int b)) = some (.pv (.int (a.fmod b))) := if_pos h
theorem div_int {a b : Int} (h : b ≠ 0 ∧ b.natAbs < 1073741824) : binop .FloorDiv (.pv (.int a)) (.pv (.int b)) = some (.pv (.int (a.fdiv b))) := if_pos h
theorem pow_int {a b : Int} (h : 0 ≤ b ∧ b ≤ 1000000 ∧ a.natAbs < 2 ^ 64) : binop .Pow (.pv (.int a)) (.pv (.int b)) = some (.pv (.int (a ^ b.toNat))) := if_pos h
theorem add_str {a b : Tx} (h : a.length + b.length ≤ sizeL) : binop .Add (.pv (.str a)) (.pv (.str b)) = some (.pv (.str (a ++ b))) := if_pos h
theorem add_lst {a b : List PV} (h : a.length + b.length ≤ sizeL) : binop .Add (.own (.lst a)) (.own (.lst b)) = some (.own (.lst (a ++ b))) := if_pos h
theorem tru_bl (b : Bool) : truth (.pv (.bl b)) = some b := rfl
theorem at_0 {α : Type} {a : α} {r : List α} : atOf (a :: r) 0 = some a := by
  unfold atOf ixOf
  simp
theorem at_nat {α : Type} {xs : List α} {n : Nat} {a : α} (h : xs[n]? = some a) : atOf xs (n : Int) = some a := by
  have l := (List.getElem?_eq_some_iff.mp h).1
  unfold atOf ixOf
  rw [if_pos (Int.natCast_nonneg n), if_pos (by omega)]
  simpa using h
theorem ix_nat {len n : Nat} (h : n < len) : ixOf len (n : Int) = some n := by
  unfold ixOf
  rw [if_pos (Int.natCast_nonneg n), if_pos (by omega)]
  simp
/-- the small places -/
theorem at_1 {α : Type} {a b : α} {r : List α} : atOf (a :: b :: r) 1 = some b := at_nat (n := 1) rfl
theorem at_2 {α : Type} {a b c : α} {r : List α} : atOf (a :: b :: c :: r) 2 = some c := at_nat (n := 2) rfl
theorem at_3 {α : Type} {a b c d : α} {r : List α} : atOf (a :: b :: c :: d :: r) 3 = some d := at_nat (n := 3) rfl
theorem at_4 {α : Type} {a b c d e : α} {r : List α} : atOf (a :: b :: c :: d :: e :: r) 4 = some e := at_nat (n := 4) rfl
theorem index_lst {xs : List PV} {i : Int} : index (.own (.lst xs)) (.pv (.int i)) = atOf xs i := rfl
theorem index_flst {xs : List PV} {i : Int} : index (.own (.flst xs)) (.pv (.int i)) = atOf xs i := rfl
theorem index_tup {xs : List PV} {i : Int} : index (.pv (.tup xs)) (.pv (.int i)) = atOf xs i := rfl
theorem set_lst {xs : List PV} {i : Int} {v : PV} : setix (.lst xs) (.int i) v = (ixOf xs.length i).map fun j => .lst (xs.set j v) := rfl
theorem ix_0 {n : Nat} : ixOf (n + 1) 0 = some 0 := ix_nat (n := 0) (by omega)
theorem ix_1 {n : Nat} : ixOf (n + 2) 1 = some 1 := ix_nat (n := 1) (by omega)
theorem ix_2 {n : Nat} : ixOf (n + 3) 2 = some 2 := ix_nat (n := 2) (by omega)
theorem ix_3 {n : Nat} : ixOf (n + 4) 3 = some 3 := ix_nat (n := 3) (by omega)
theorem ix_4 {n : Nat} : ixOf (n + 5) 4 = some 4 := ix_nat (n := 4) (by omega)
theorem fmod_range {a b : Int} (h : 0 < b) : 0 ≤ a.fmod b ∧ a.fmod b < b := ⟨Int.fmod_nonneg_of_pos _ h, Int.fmod_lt_of_pos _ h⟩
theorem fdiv_nonneg {a b : Int} (h : 0 ≤ a) (hb : 0 < b) : 0 ≤ a.fdiv b := by
  rw [Int.fdiv_eq_ediv_of_nonneg _ (Int.le_of_lt hb)]
  exact Int.ediv_nonneg h (Int.le_of_lt hb)
theorem log_lt {a : Int} {n : Nat} (h : a.natAbs < 2 ^ n) (hn : 0 < n) : a.natAbs.log2 < n := by
  by_cases z : a.natAbs = 0
  · rw [z, Nat.log2_zero]; exact hn
  · exact (Nat.log2_lt z).mpr h
theorem mul_ok {a b : Int} (ha : a.natAbs < 2 ^ 1000) (hb : b.natAbs < 2 ^ 1000) : mulOk a b = true := by
  unfold mulOk
  have := log_lt ha (by decide)
  have := log_lt hb (by decide)
  exact decide_eq_true (by omega)
end Kv

set_option Elab.async false
set_option linter.all false
set_option maxRecDepth 100000
/-! What a run has to reach. -/
namespace Kv
open PySem (Operator CmpOp)
/-- it ends well, and so -/
def wp {α : Type} (o : Out α) (Q : α → St → Prop) : Prop := ∃ a s, o = .ok a s ∧ Q a s
def Has {α : Type} (o : Option α) (f : α → Prop) : Prop := ∃ a, o = some a ∧ f a
def Two (b : Bool) (x y : Prop) : Prop := (b = true → x) ∧ (b = false → y)
theorem has_mk {α : Type} {o : Option α} {f : α → Prop} {a : α} (h : o = some a) (k : f a) : Has o f := ⟨a, h, k⟩
theorem two_mk {b : Bool} {x y : Prop} (h : b = true → x) (k : b = false → y) : Two b x y := ⟨h, k⟩
theorem two_t {b : Bool} {x y : Prop} (h : b = true) (k : x) : Two b x y := ⟨fun _ => k, fun z => absurd (h.symm.trans z) (by decide)⟩
theorem two_f {b : Bool} {x y : Prop} (h : b = false) (k : y) : Two b x y := ⟨fun z => absurd (z.symm.trans h) (by decide), fun _ => k⟩
section
variable {α β : Type} {Q : β → St → Prop} {s : St}
theorem wp_ok {a : β} : wp (.ok a s) Q = Q a s := propext ⟨fun ⟨_, _, e, h⟩ => by cases e; exact h, fun h => ⟨_, _, rfl, h⟩⟩
theorem wp_bad : wp (Out.bad : Out β) Q = False := propext ⟨fun ⟨_, _, e, _⟩ => by (cases e), fun h => h.elim⟩
theorem wp_go {o : Out α} {f : α → St → Out β} : wp (o.go f) Q = wp o fun a s => wp (f a s) Q := by
  cases o with
  | ok a s => rw [go_ok, wp_ok]
  | exc x s => exact propext ⟨fun ⟨_, _, e, _⟩ => by (cases e), fun ⟨_, _, e, _⟩ => by (cases e)⟩
  | bad => exact propext ⟨fun ⟨_, _, e, _⟩ => by (cases e), fun ⟨_, _, e, _⟩ => by (cases e)⟩
theorem wp_oSome {o : Option α} {f : α → Out β} : wp (oSome o f) Q = Has o fun a => wp (f a) Q := by
  cases o with
  | none => exact propext ⟨fun ⟨_, _, e, _⟩ => by (cases e), fun ⟨a, h, _⟩ => by (cases h)⟩
  | some a => exact propext ⟨fun h => ⟨a, rfl, h⟩, fun ⟨b, h, k⟩ => by cases h; exact k⟩
theorem wp_bIf {b : Bool} {x y : Unit → Out β} : wp (bIf b x y) Q = Two b (wp (x ()) Q) (wp (y ()) Q) := by
  cases b with
  | true => exact propext ⟨fun h => two_t rfl h, fun h => h.1 rfl⟩
  | false => exact propext ⟨fun h => two_f rfl h, fun h => h.2 rfl⟩
theorem wp_mono {o : Out β} {P : β → St → Prop} (h : wp o P) (k : ∀ a s, P a s → Q a s) : wp o Q := by
  obtain ⟨a, s, e, h⟩ := h
  exact ⟨a, s, e, k a s h⟩
theorem wp_eq {o : Out β} {a : β} {s' : St} (h : o = .ok a s') (k : Q a s') : wp o Q := ⟨a, s', h, k⟩
theorem wp_get {o : Out β} (h : wp o Q) : ∃ a s', o = .ok a s' ∧ Q a s' := h
end
section
variable {N : Env} {s : St} {Q : Opd → St → Prop} {P : Fl → St → Prop} {pr : List Nat}
theorem w_c {v : PV} (h : Q (.val (.pv v)) s) : wp (ev N (.c v) s) Q := ⟨_, _, rfl, h⟩
def VarIs (N : Env) (i : Nat) (s : St) (Q : Opd → St → Prop) : Prop := wp (ev N (.var i) s) Q
theorem w_var {i : Nat} (h : VarIs N i s Q) : wp (ev N (.var i) s) Q := h
theorem varp {i : Nat} {p : PV} (g : s.get i = some (.pv p)) (h : Q (.val (.pv p)) s) : VarIs N i s Q := by
  unfold VarIs; rw [ev_var, g]; exact ⟨_, _, rfl, h⟩
theorem varo {i : Nat} {o : Obj} (g : s.get i = some (.own o)) (h : Q (.slot i) s) : VarIs N i s Q := by
  unfold VarIs; rw [ev_var, g]; exact ⟨_, _, rfl, h⟩
theorem w_tab {x : Nat} {o : Obj} (g : N.tabs[x]? = some (.own o)) (h : Q (.tab o) s) : wp (ev N (.tab x) s) Q := by
  unfold ev
  rw [g]
  exact ⟨_, _, rfl, h⟩
theorem w_tabc {x : Nat} {p : PV} (g : N.tabs[x]? = some (.pv p)) (h : Q (.val (.pv p)) s) : wp (ev N (.tab x) s) Q := by
  unfold ev
  rw [g]
  exact ⟨_, _, rfl, h⟩
theorem w_tup {es : List E} (h : wp (evs N es s) fun os s => wp (boxs os s) fun ps s => Q (.val (.pv (.tup ps))) s) : wp (ev N (.tup es) s) Q := by simp only [ev_tup, wp_go, wp_ok]; exact h
theorem w_lst {es : List E} (h : wp (evs N es s) fun os s => wp (boxs os s) fun ps s => Q (.val (.own (.lst ps))) s) : wp (ev N (.lst es) s) Q := by simp only [ev_lst, wp_go, wp_ok]; exact h
/-- a display's keys -/
def DicOk (ks : List Tx) (ps : List PV) (R : Prop) : Prop := (ks.Nodup ∧ ks.length = ps.length) ∧ R
theorem dic_mk {ks : List Tx} {ps : List PV} {R : Prop} (h : ks.Nodup) (h2 : ks.length = ps.length) (h3 : R) : DicOk ks ps R := ⟨⟨h, h2⟩, h3⟩
/-- a guard -/
def Gd (b : Bool) (R : Prop) : Prop := b = true ∧ R
theorem gd_mk {b : Bool} {R : Prop} (h : b = true) (h2 : R) : Gd b R := ⟨h, h2⟩
theorem w_dic {ks : List Tx} {es : List E} (h : wp (evs N es s) fun os s => wp (boxs os s) fun ps s => DicOk ks ps (Q (.val (.own (.dic (dmk ks ps)))) s)) : wp (ev N (.dic ks es) s) Q := by
  simp only [ev_dic, wp_go]
  refine wp_mono h fun os s h => wp_mono h fun ps s h => ?_
  rw [if_pos h.1, wp_ok]; exact h.2
theorem w_bin {op : Operator} {a b : E} (h : wp (ev N a s) fun x s => wp (ev N b s) fun y s => Has (cont x s) fun c => Has (cont y s) fun d => Has (binop op c d) fun r => Q (.val r) s) : wp (ev N (.bin op a b) s) Q := by simp only [ev_bin, wp_go, wp_ok, wp_oSome]; exact h
theorem w_cmp {op : CmpOp} {a b : E} (h : wp (ev N a s) fun x s => wp (ev N b s) fun y s => Has (cont x s) fun c => Has (cont y s) fun d => Has (cmpall op c d) fun r => Q (.val (.pv (.bl r))) s) : wp (ev N (.cmp op a b) s) Q := by simp only [ev_cmp, wp_go, wp_ok, wp_oSome]; exact h
theorem w_idx {a b : E} (h : wp (ev N a s) fun x s => wp (ev N b s) fun y s => Has (cont x s) fun c => Has (cont y s) fun d => Has (index c d) fun r => Q (.val (.pv r)) s) : wp (ev N (.idx a b) s) Q := by simp only [ev_idx, wp_go, wp_ok, wp_oSome]; exact h
theorem w_neg {a : E} (h : wp (ev N a s) fun x s => wp (isInt x s) fun i s => Q (.val (.pv (.int (-i)))) s) : wp (ev N (.neg a) s) Q := by simp only [ev_neg, wp_go, wp_ok]; exact h
theorem w_not {a : E} (h : wp (ev N a s) fun x s => wp (isBl x s) fun i s => Q (.val (.pv (.bl !i))) s) : wp (ev N (.not a) s) Q := by simp only [ev_not, wp_go, wp_ok]; exact h
theorem w_and {es : List E} (h : wp (evAndV N es s) Q) : wp (ev N (.and es) s) Q := h
theorem w_or {es : List E} (h : wp (evOrV N es s) Q) : wp (ev N (.or es) s) Q := h
theorem w_ite {t : B} {a b : E} (h : wp (evT N t s) fun c s => Two c (wp (ev N a s) Q) (wp (ev N b s) Q)) : wp (ev N (.ite t a b) s) Q := by simp only [ev_ite, wp_go, wp_bIf]; exact h
theorem w_call {f : Nat} {es : List E} (h : wp (evs N es s) fun os s => wp (callF N.fns N.cl f os s) Q) : wp (ev N (.call f es) s) Q := by simp only [ev_call, wp_go]; exact h
theorem w_bi {b : Bi} {es : List E} (h : wp (evs N es s) fun os s => wp (conts os s) fun cs s => Has (biFn b cs) fun r => Q (.val r) s) : wp (ev N (.bi b es) s) Q := by simp only [ev_bi, wp_go, wp_ok, wp_oSome]; exact h
theorem w_bm {m : Bm} {o : E} {es : List E} (h : wp (ev N o s) fun x s => Has (cont x s) fun c => isLst c = true ∧ wp (evs N es s) fun os s => wp (mutate m x os s) Q) : wp (ev N (.bm m o es) s) Q := by
  simp only [ev_bm, wp_go, wp_oSome, wp_bIf]
  exact wp_mono h fun x s ⟨c, e, k1, k2⟩ => ⟨c, e, two_t k1 k2⟩
theorem w_bmg {m : Bm} {o : E} {es : List E} (h : wp (ev N o s) fun x s => Has (cont x s) fun c => Gd (isLst c) (wp (evs N es s) fun os s => wp (mutate m x os s) Q)) : wp (ev N (.bm m o es) s) Q := w_bm h
theorem w_me {m : Me} {o : E} {es : List E} (h : wp (ev N o s) fun x s => Has (cont x s) fun c => Gd (meTy m c) (wp (evs N es s) fun os s => Has (cont x s) fun c => wp (conts os s) fun cs s => Has (meFn m c cs) fun r => Q (.val r) s)) : wp (ev N (.me m o es) s) Q := by
  simp only [ev_me, wp_go, wp_oSome, wp_bIf, wp_ok]
  exact wp_mono h fun x s ⟨c, e, k1, k2⟩ => ⟨c, e, two_t k1 k2⟩
theorem w_getd {o k d : E} (h : wp (ev N o s) fun x s => Has (cont x s) fun c => isDic c = true ∧ wp (ev N k s) fun y s => wp (ev N d s) fun z s => Has (cont x s) fun c => Has (cont y s) fun e => wp (isPv z s) fun p s => Has (dgetd c e p) fun r => Q (.val (.pv r)) s) : wp (ev N (.getd o k d) s) Q := by
  simp only [ev_getd, wp_go, wp_oSome, wp_bIf, wp_ok]
  exact wp_mono h fun x s ⟨c, e, k1, k2⟩ => ⟨c, e, two_t k1 k2⟩
theorem w_get1 {o k : E} (h : wp (ev N o s) fun x s => Has (cont x s) fun c => isDic c = true ∧ wp (ev N k s) fun y s => Has (cont x s) fun c => Has (cont y s) fun e => Has (dgetd c e .non) fun r => Q (.val (.pv r)) s) : wp (ev N (.get1 o k) s) Q := by
  simp only [ev_get1, wp_go, wp_oSome, wp_bIf, wp_ok]
  exact wp_mono h fun x s ⟨c, e, k1, k2⟩ => ⟨c, e, two_t k1 k2⟩
theorem w_join {a b : E} (h : wp (ev N a s) fun x s => wp (isTx x s) fun sep s => wp (ev N b s) fun y s => Has (cont y s) fun c => Has (joinOf sep c) fun r => Q (.val (.pv r)) s) : wp (ev N (.join a b) s) Q := by simp only [ev_join, wp_go, wp_oSome, wp_ok]; exact h
theorem w_isi {t : Ty} {a : E} (h : wp (ev N a s) fun x s => Has (cont x s) fun c => Has c.ty fun u => Q (.val (.pv (.bl (u.sub t)))) s) : wp (ev N (.isi t a) s) Q := by simp only [ev_isi, wp_go, wp_oSome, wp_ok]; exact h
theorem w_isiT {ts : List Ty} {a : E} (h : wp (ev N a s) fun x s => Has (cont x s) fun c => Has c.ty fun u => Q (.val (.pv (.bl (ts.any fun t => u.sub t)))) s) : wp (ev N (.isiT ts a) s) Q := by simp only [ev_isiT, wp_go, wp_oSome, wp_ok]; exact h
theorem w_sset {a : E} (h : wp (ev N a s) fun x s => Has (cont x s) fun c => Has (ssetOf c) fun r => Q (.val r) s) : wp (ev N (.sset a) s) Q := by simp only [ev_sset, wp_go, wp_oSome, wp_ok]; exact h
theorem w_sit {a : E} (h : wp (ev N a s) fun x s => Has (cont x s) fun c => Has (sitOf c) fun r => Q (.val r) s) : wp (ev N (.sit a) s) Q := by simp only [ev_sit, wp_go, wp_oSome, wp_ok]; exact h
theorem w_fld {c : Nat} {o : E} {f : Tx} (h : wp (ev N o s) fun x s => Has (cont x s) fun k => Has ((insOf c k).bind fun fs => flook fs f) fun p => Q (.val (.pv p)) s) : wp (ev N (.fld c o f) s) Q := by simp only [ev_fld, wp_go, wp_oSome, wp_ok]; exact h
theorem w_meth {c f : Nat} {m : Tx} {o : E} {es : List E} (h : wp (ev N o s) fun x s => Has (cont x s) fun k => Has (insOf c k) fun fs => Gd (flook fs m).isNone (wp (evs N es s) fun os s => wp (callF N.fns N.cl f (x :: os) s) Q)) : wp (ev N (.meth c m f o es) s) Q := by
  simp only [ev_meth, wp_go, wp_oSome, wp_bIf]
  exact wp_mono h fun x s ⟨k, e, fs, e2, k1, k2⟩ => ⟨k, e, fs, e2, two_t k1 k2⟩
theorem w_make {c f : Nat} {es : List E} (h : wp (evs N es s) fun os s => wp (makeF N.fns N.cl c f os s) Q) : wp (ev N (.make c f es) s) Q := by simp only [ev_make, wp_go]; exact h
theorem w_sl {o : E} {lo hi : List E} (h : wp (ev N o s) fun x s => wp (evB N lo s) fun l s => wp (evB N hi s) fun h s => Has (cont x s) fun c => Has (slice c l h) fun r => Q (.val r) s) : wp (ev N (.sl o lo hi) s) Q := by simp only [ev_sl, wp_go, wp_oSome, wp_ok]; exact h
theorem w_comp {elt : E} {t : T} {ik : Ik} {es : List E} {cond : List B} {own : List Nat} (h : wp (evs N es s) fun os s => wp (conts os s) fun cs s => Has (itemsOf ik cs) fun xs => wp (compEnd s own (compL (evAnd N cond) (ev N elt) t (stands os cs) own xs [] s)) Q) : wp (ev N (.comp elt t ik es cond own) s) Q := by simp only [ev_comp, wp_go, wp_oSome]; exact h
theorem w_isInt {i : Int} {R : Int → St → Prop} (h : R i s) : wp (isInt (.val (.pv (.int i))) s) R := ⟨_, _, rfl, h⟩
theorem w_isBl {i : Bool} {R : Bool → St → Prop} (h : R i s) : wp (isBl (.val (.pv (.bl i))) s) R := ⟨_, _, rfl, h⟩
theorem w_isTx {i : Tx} {R : Tx → St → Prop} (h : R i s) : wp (isTx (.val (.pv (.str i))) s) R := ⟨_, _, rfl, h⟩
theorem w_isPv {i : PV} {R : PV → St → Prop} (h : R i s) : wp (isPv (.val (.pv i)) s) R := ⟨_, _, rfl, h⟩
section
variable {R : List Opd → St → Prop} {L : List PV → St → Prop} {C : List SV → St → Prop} {T' : Bool → St → Prop}
theorem w_nil (h : R [] s) : wp (evs N [] s) R := ⟨_, _, rfl, h⟩
theorem w_cons {e : E} {es : List E} (h : wp (ev N e s) fun o s => wp (evs N es s) fun os s => R (o :: os) s) : wp (evs N (e :: es) s) R := by simp only [evs_cons, wp_go, wp_ok]; exact h
theorem w_bxn (h : L [] s) : wp (boxs [] s) L := ⟨_, _, rfl, h⟩
theorem w_bxc {o : Opd} {os : List Opd} (h : wp (box o s) fun p s => wp (boxs os s) fun ps s => L (p :: ps) s) : wp (boxs (o :: os) s) L := by simp only [boxs_cons, wp_go, wp_ok]; exact h
theorem w_box {p : PV} {B : PV → St → Prop} (h : B p s) : wp (box (.val (.pv p)) s) B := ⟨_, _, rfl, h⟩
theorem w_ctn (h : C [] s) : wp (conts [] s) C := ⟨_, _, rfl, h⟩
theorem w_ctc {o : Opd} {os : List Opd} (h : Has (cont o s) fun c => wp (conts os s) fun cs s => C (c :: cs) s) : wp (conts (o :: os) s) C := by
  obtain ⟨c, e, h⟩ := h
  rw [conts_cons, e]
  obtain ⟨cs, s', e2, h2⟩ := wp_get h
  simp only [e2]
  exact ⟨_, _, rfl, h2⟩
theorem w_bn {B : Option Int → St → Prop} (h : B none s) : wp (evB N [] s) B := ⟨_, _, rfl, h⟩
theorem w_b1 {B : Option Int → St → Prop} {e : E} {r : List E} (h : wp (ev N e s) fun o s => wp (isInt o s) fun i s => B (some i) s) : wp (evB N (e :: r) s) B := by simp only [evB_one, wp_go, wp_ok]; exact h
theorem t_e {x : E} (h : wp (ev N x s) fun o s => Has (cont o s) fun c => Has (truth c) fun b => T' b s) : wp (evT N (.e x) s) T' := by simp only [evT_e, wp_go, wp_oSome, wp_ok]; exact h
theorem t_not {b : B} (h : wp (evT N b s) fun b s => T' (!b) s) : wp (evT N (.not b) s) T' := by simp only [evT_not, wp_go, wp_ok]; exact h
theorem t_and {bs : List B} (h : wp (evAnd N bs s) T') : wp (evT N (.and bs) s) T' := h
theorem t_or {bs : List B} (h : wp (evOr N bs s) T') : wp (evT N (.or bs) s) T' := h
theorem t_andn (h : T' true s) : wp (evAnd N [] s) T' := ⟨_, _, rfl, h⟩
theorem t_andc {b : B} {bs : List B} (h : wp (evT N b s) fun b s => Two b (wp (evAnd N bs s) T') (T' false s)) : wp (evAnd N (b :: bs) s) T' := by simp only [evAnd_cons, wp_go, wp_bIf, wp_ok]; exact h
theorem t_orn (h : T' false s) : wp (evOr N [] s) T' := ⟨_, _, rfl, h⟩
theorem t_orc {b : B} {bs : List B} (h : wp (evT N b s) fun b s => Two b (T' true s) (wp (evOr N bs s) T')) : wp (evOr N (b :: bs) s) T' := by simp only [evOr_cons, wp_go, wp_bIf, wp_ok]; exact h
theorem v_and1 {e : E} (h : wp (ev N e s) Q) : wp (evAndV N [e] s) Q := h
theorem v_andc {e e2 : E} {es : List E} (h : wp (ev N e s) fun x s => wp (isBl x s) fun b s => Two b (wp (evAndV N (e2 :: es) s) Q) (Q (.val (.pv (.bl false))) s)) : wp (evAndV N (e :: e2 :: es) s) Q := by simp only [evAndV_cons, wp_go, wp_bIf, wp_ok]; exact h
theorem v_or1 {e : E} (h : wp (ev N e s) Q) : wp (evOrV N [e] s) Q := h
theorem v_orc {e e2 : E} {es : List E} (h : wp (ev N e s) fun x s => wp (isBl x s) fun b s => Two b (Q (.val (.pv (.bl true))) s) (wp (evOrV N (e2 :: es) s) Q)) : wp (evOrV N (e :: e2 :: es) s) Q := by simp only [evOrV_cons, wp_go, wp_bIf, wp_ok]; exact h
end
/-! methods that change their receiver -/
theorem cont_slot {i : Nat} {o : Obj} (g : s.get i = some (.own o)) : cont (.slot i) s = some (.own o) := by
  show (match s.get i with | some (.pv (.loc n)) => s.mu[n]?.map SV.own | r => r) = _
  rw [g]
theorem mut_slot {m : Bm} {i : Nat} {os : List Opd} {ob ob' : Obj} {p : PV} {cs : List SV} {s1 : St} (hc : (if m.boxes then (boxs os >>= fun ps => pure (ps.map SV.pv)) else conts os) s = .ok cs s1) (g : s1.get i = some (.own ob)) (e : bmf m ob cs = some (ob', p)) (h : Q (.val (.pv p)) (s1.put i (some (.own ob')))) : wp (mutate m (.slot i) os s) Q := by
  unfold mutate
  rw [bind_go, hc, go_ok, bind_go, cont1_go, cont_slot g, oSome_some, go_ok]
  simp only [e]
  have w : wback (.slot i) ob' s1 = .ok () (s1.put i (some (.own ob'))) := by simp only [wback, g]
  rw [bind_go, w, go_ok]
  exact ⟨_, _, rfl, h⟩
theorem m_pop {i : Nat} {xs : List PV} {y : PV} (g : s.get i = some (.own (.lst (xs ++ [y])))) (h : Q (.val (.pv y)) (s.put i (some (.own (.lst xs))))) : wp (mutate .pop (.slot i) [] s) Q := by
  refine mut_slot (m := .pop) (cs := []) (s1 := s) (ob' := .lst xs) (p := y) rfl g ?_ h
  show (match (xs ++ [y])[(xs ++ [y]).length - 1]? with | some y' => some (Obj.lst (xs ++ [y]).dropLast, y') | none => none) = _
  have e : (xs ++ [y])[(xs ++ [y]).length - 1]? = some y := by simp
  rw [e]
  simp
theorem m_append {i : Nat} {xs : List PV} {o : Opd} {p : PV} {s1 : St} (hb : box o s = .ok p s1) (g : s1.get i = some (.own (.lst xs))) (hl : xs.length < sizeL) (h : Q (.val (.pv .non)) (s1.put i (some (.own (.lst (xs ++ [p])))))) : wp (mutate .append (.slot i) [o] s) Q := by
  refine mut_slot (m := .append) (cs := [.pv p]) (s1 := s1) (ob' := .lst (xs ++ [p])) (p := .non) ?_ g (if_pos hl) h
  show (boxs [o] >>= fun ps => pure (ps.map SV.pv)) s = _
  rw [bind_go, boxs_cons, hb]
  rfl
theorem m_insert {i j : Nat} {xs : List PV} {p : PV} (g : s.get i = some (.own (.lst xs))) (hl : xs.length < sizeL) (hj : j < 4611686018427387904) (h : Q (.val (.pv .non)) (s.put i (some (.own (.lst (xs.take j ++ [p] ++ xs.drop j)))))) : wp (mutate .insert (.slot i) [.val (.pv (.int (j : Int))), .val (.pv p)] s) Q := by
  refine mut_slot (m := .insert) (cs := [.pv (.int j), .pv p]) (s1 := s) (ob' := .lst (xs.take j ++ [p] ++ xs.drop j)) (p := .non) rfl g ?_ h
  have z : (2 : Int) ^ 62 = 4611686018427387904 := by decide
  exact if_pos ⟨hl, by omega, by omega⟩
theorem m_extend {i : Nat} {xs ys : List PV} {o : Opd} (hb : cont o s = some (.own (.lst ys))) (g : s.get i = some (.own (.lst xs))) (hl : xs.length + ys.length ≤ sizeL) (h : Q (.val (.pv .non)) (s.put i (some (.own (.lst (xs ++ ys)))))) : wp (mutate .extend (.slot i) [o] s) Q := by
  refine mut_slot (m := .extend) (cs := [.own (.lst ys)]) (s1 := s) (ob' := .lst (xs ++ ys)) (p := .non) ?_ g (if_pos hl) h
  show conts [o] s = _
  rw [conts_cons, hb]
  rfl
/-! statements -/
theorem s_asg {t : T} {e : E} (h : wp (ev N e s) fun o s => wp (toSV o s) fun v s => wp (store pr t v s) fun _ s => P .nx s) : wp (evS N (.asg t e) pr s) P := by simp only [evS_asg, wp_go, wp_ok]; exact h
theorem s_toSV {v : SV} {V : SV → St → Prop} (h : V v s) : wp (toSV (.val v) s) V := ⟨_, _, rfl, h⟩
theorem s_store {t : T} {v : SV} {U : Unit → St → Prop} {sg : List (Option SV)} (hp : (t.slots.any (prot pr)) = false) (hb : bindT t v s.sg = some sg) (h : U () ⟨sg, s.mu⟩) : wp (store pr t v s) U := by
  unfold store
  rw [if_neg (by rw [hp]; decide), hb]
  exact ⟨_, _, rfl, h⟩
theorem s_asgI {o i e : E} (h : wp (ev N e s) fun v s => wp (ev N o s) fun x s => wp (ev N i s) fun k s => wp (box v s) fun p s => wp (box k s) fun q s => wp (setAt x q p s) fun _ s => P .nx s) : wp (evS N (.asgI o i e) pr s) P := by simp only [evS_asgI, wp_go, wp_ok]; exact h
theorem s_setAt {i : Nat} {q p : PV} {ob ob' : Obj} {U : Unit → St → Prop} (g : s.get i = some (.own ob)) (e : setix ob q p = some ob') (h : U () (s.put i (some (.own ob')))) : wp (setAt (.slot i) q p s) U := by
  rw [setAt_go]
  have c : cont (.slot i) s = some (.own ob) := by
    show (match s.get i with | some (.pv (.loc n)) => s.mu[n]?.map SV.own | r => r) = _
    rw [g]
  rw [c, oSome_some]
  simp only
  rw [e, oSome_some]
  have w : wback (.slot i) ob' s = .ok () (s.put i (some (.own ob'))) := by
    simp only [wback, g]
  rw [w]
  exact ⟨_, _, rfl, h⟩
theorem s_asgF {c : Nat} {o e : E} {f : Tx} (h : wp (ev N e s) fun v s => wp (ev N o s) fun x s => wp (box v s) fun p s => wp (setF c x f p s) fun _ s => P .nx s) : wp (evS N (.asgF c o f e) pr s) P := by simp only [evS_asgF, wp_go, wp_ok]; exact h
theorem s_augF {c : Nat} {o e : E} {f : Tx} {op : Operator} (h : wp (ev N o s) fun x s => Has (cont x s) fun k => Has ((insOf c k).bind fun fs => flook fs f) fun a => wp (ev N e s) fun y s => wp (isInt y s) fun b s => Has (augop op a b) fun v => wp (setF c x f v s) fun _ s => P .nx s) : wp (evS N (.augF c o f op e) pr s) P := by simp only [evS_augF, wp_go, wp_oSome, wp_ok]; exact h
theorem s_setF {c i : Nat} {f : Tx} {v : PV} {fs : List (Tx × PV)} {U : Unit → St → Prop} (g : s.get i = some (.own (.ins c fs))) (hl : fs.length < 1000) (h : U () (s.put i (some (.own (.ins c (fput fs f v)))))) : wp (setF c (.slot i) f v s) U := by
  rw [setF_go]
  have e : cont (.slot i) s = some (.own (.ins c fs)) := by
    show (match s.get i with | some (.pv (.loc n)) => s.mu[n]?.map SV.own | r => r) = _
    rw [g]
  have e2 : insOf c (.own (.ins c fs)) = some fs := if_pos rfl
  rw [e, oSome_some, e2, oSome_some, if_pos hl]
  have w : wback (.slot i) (.ins c (fput fs f v)) s = .ok () (s.put i (some (.own (.ins c (fput fs f v))))) := by simp only [wback, g]
  rw [w]
  exact ⟨_, _, rfl, h⟩
theorem s_setFl {c n : Nat} {f : Tx} {v : PV} {fs : List (Tx × PV)} {U : Unit → St → Prop} (g : s.mu[n]? = some (.ins c fs)) (hl : fs.length < 1000) (h : U () ⟨s.sg, s.mu.set n (.ins c (fput fs f v))⟩) : wp (setF c (.val (.pv (.loc n))) f v s) U := by
  rw [setF_go]
  have e : cont (.val (.pv (.loc n))) s = some (.own (.ins c fs)) := by
    show s.mu[n]?.map SV.own = _
    rw [g]; rfl
  have e2 : insOf c (.own (.ins c fs)) = some fs := if_pos rfl
  rw [e, oSome_some, e2, oSome_some, if_pos hl]
  have l : n < s.mu.length := (List.getElem?_eq_some_iff.mp g).1
  have w : wback (.val (.pv (.loc n))) (.ins c (fput fs f v)) s = .ok () ⟨s.sg, s.mu.set n (.ins c (fput fs f v))⟩ := if_pos l
  rw [w]
  exact ⟨_, _, rfl, h⟩
theorem s_aug {i : Nat} {op : Operator} {e : E} {a : PV} (g : s.get i = some (.pv a)) (h : wp (ev N e s) fun o s => wp (isInt o s) fun b s => Has (augop op a b) fun v => wp (store pr (.nm i) (.pv v) s) fun _ s => P .nx s) : wp (evS N (.aug i op e) pr s) P := by
  rw [evS_aug, g]
  simp only [oSome_some, wp_go, wp_oSome, wp_ok]; exact h
def AugIs (N : Env) (pr : List Nat) (i : Nat) (op : Operator) (e : E) (s : St) (P : Fl → St → Prop) : Prop := wp (evS N (.aug i op e) pr s) P
theorem s_aug0 {i : Nat} {op : Operator} {e : E} (h : AugIs N pr i op e s P) : wp (evS N (.aug i op e) pr s) P := h
theorem s_aug1 {i : Nat} {op : Operator} {e : E} {a : PV} (g : s.get i = some (.pv a)) (h : wp (ev N e s) fun o s => wp (isInt o s) fun b s => Has (augop op a b) fun v => wp (store pr (.nm i) (.pv v) s) fun _ s => P .nx s) : AugIs N pr i op e s P := s_aug g h
theorem s_ex {e : E} (h : wp (ev N e s) fun _ s => P .nx s) : wp (evS N (.ex e) pr s) P := by simp only [evS_ex, wp_go, wp_ok]; exact h
theorem s_ret {e : E} (h : wp (ev N e s) fun o s => wp (retO N.np o s) P) : wp (evS N (.ret e) pr s) P := by simp only [evS_ret, wp_go]; exact h
theorem s_retv {np : Nat} {v : SV} (h : P (.ret v) s) : wp (retO np (.val v) s) P := ⟨_, _, rfl, h⟩
theorem s_reto {np i : Nat} {ob : Obj} (hi : decide (i < np) = false) (g : s.get i = some (.own ob)) (h : P (.ret (.own ob)) (s.put i none)) : wp (retO np (.slot i) s) P := by
  have e : retO np (.slot i) s = .ok (.ret (.own ob)) (s.put i none) := by
    simp only [retO, if_neg (of_decide_eq_false hi), g, oSome_some]
  rw [e]
  exact ⟨_, _, rfl, h⟩
theorem s_retN (h : P (.ret (.pv .non)) s) : wp (evS N .retN pr s) P := ⟨_, _, rfl, h⟩
theorem s_iff {c : B} {a b : List S} (h : wp (evT N c s) fun t s => Two t (wp (evSs N a pr s) P) (wp (evSs N b pr s) P)) : wp (evS N (.iff c a b) pr s) P := by simp only [evS_iff, wp_go, wp_bIf]; exact h
theorem s_forr {t : T} {ik : Ik} {es : List E} {body : List S} (h : wp (evs N es s) fun os s => wp (conts os s) fun cs s => Has (itemsOf ik cs) fun xs => wp (forL (evSs N body (srcSlots os ++ pr)) (srcSlots os ++ pr) t (stands os cs) xs s) P) : wp (evS N (.forr t ik es body) pr s) P := by simp only [evS_forr, wp_go, wp_oSome]; exact h
theorem s_while {c : B} {body : List S} (h : wp (whileL (evT N c) (evSs N body pr) WF s) P) : wp (evS N (.while c body) pr s) P := h
theorem s_brk (h : P .brk s) : wp (evS N .brk pr s) P := ⟨_, _, rfl, h⟩
theorem s_cnt (h : P .cnt s) : wp (evS N .cnt pr s) P := ⟨_, _, rfl, h⟩
theorem s_pass (h : P .nx s) : wp (evS N .pass pr s) P := ⟨_, _, rfl, h⟩
theorem s_nil (h : P .nx s) : wp (evSs N [] pr s) P := ⟨_, _, rfl, h⟩
theorem s_cons {a : S} {r : List S} (h : wp (evS N a pr s) fun f s => wp (flGo f (fun _ => evSs N r pr s) s) P) : wp (evSs N (a :: r) pr s) P := by simp only [evSs_cons, wp_go]; exact h
theorem f_nx {k : Unit → Out Fl} (h : wp (k ()) P) : wp (flGo .nx k s) P := h
theorem f_ret {k : Unit → Out Fl} {v : SV} (h : P (.ret v) s) : wp (flGo (.ret v) k s) P := ⟨_, _, rfl, h⟩
theorem f_brk {k : Unit → Out Fl} (h : P .brk s) : wp (flGo .brk k s) P := ⟨_, _, rfl, h⟩
theorem f_cnt {k : Unit → Out Fl} (h : P .cnt s) : wp (flGo .cnt k s) P := ⟨_, _, rfl, h⟩
/-! calls -/
def Back (args : List (SV × Option Nat)) (ps sg : List (Option SV)) (f : List (Option SV) → Prop) : Prop := Has (giveBack args ps sg) f
theorem back_mk {args : List (SV × Option Nat)} {ps sg sg' : List (Option SV)} {f : List (Option SV) → Prop} (h : giveBack args ps sg = some sg') (k : f sg') : Back args ps sg f := ⟨_, h, k⟩
theorem c_call {fns : List Fn} {cl : Cl} {f : Nat} {os : List Opd} {fn : Fn} (hf : fns[f]? = some fn) (hn : os.length = fn.np) (h : wp (Kv.pass os fn.keep s) fun args s1 => wp (cl f (args.map (·.1)) s1.mu) fun v s2 => Back args s2.sg s1.sg fun sg => Q (.val v) ⟨sg, s2.mu⟩) : wp (callF fns cl f os s) Q := by
  unfold callF
  rw [hf]
  simp only
  rw [if_pos hn, bind_go, wp_go]
  refine wp_mono h fun args s1 k => ?_
  obtain ⟨v, s2, e, sg, e2, k⟩ := wp_get k
  have e3 : callEnd args s1 (cl f (args.map (·.1)) s1.mu) = .ok (.val v) ⟨sg, s2.mu⟩ := by
    rw [e]; simp only [callEnd, e2]
  rw [e3]
  exact ⟨_, _, rfl, k⟩
/-- an instance is made -/
theorem c_make {fns : List Fn} {cl : Cl} {c f : Nat} {os : List Opd} {fn : Fn} (hf : fns[f]? = some fn) (hn : os.length + 1 = fn.np) (h : wp (Kv.pass (.val (.own (.ins c [])) :: os) fn.keep s) fun args s1 => wp (cl f (args.map (·.1)) s1.mu) fun v s2 => v = .pv .non ∧ ∃ o r, s2.sg = some (.own o) :: r ∧ Back args s2.sg s1.sg fun sg => Q (.val (.own o)) ⟨sg, s2.mu⟩) : wp (makeF fns cl c f os s) Q := by
  unfold makeF
  rw [hf]
  simp only
  rw [if_pos hn, bind_go, wp_go]
  refine wp_mono h fun args s1 k => ?_
  obtain ⟨v, s2, e, ev, o, r, es, sg, e2, k⟩ := wp_get k
  subst ev
  have e3 : makeEnd args s1 (cl f (args.map (·.1)) s1.mu) = .ok (.val (.own o)) ⟨sg, s2.mu⟩ := by
    rw [e]
    unfold makeEnd
    simp only
    rw [e2]
    simp only [es]
  rw [e3]
  exact ⟨_, _, rfl, k⟩
section
variable {A : List (SV × Option Nat) → St → Prop}
theorem p_nil {ks : List Bool} (h : A [] s) : wp (Kv.pass [] ks s) A := by unfold Kv.pass; exact ⟨_, _, rfl, h⟩
theorem p_val {v : SV} {os : List Opd} {ks : List Bool} (h : wp (Kv.pass os ks.tail s) fun r s => A ((v, none) :: r) s) : wp (Kv.pass (.val v :: os) ks s) A := by
  unfold Kv.pass; simp only [bind_go, wp_go]
  exact wp_mono h fun r s k => by rw [pure_eq, wp_ok]; exact k
theorem p_slot {i : Nat} {o : Obj} {os : List Opd} {ks : List Bool} (g : s.get i = some (.own o)) (hk : ks.headD false = true) (h : wp (Kv.pass os ks.tail (s.put i none)) fun r s => A ((.own o, some i) :: r) s) : wp (Kv.pass (.slot i :: os) ks s) A := by
  unfold Kv.pass; simp only [g, hk, if_true, bind_go, wp_go]
  exact wp_mono h fun r s k => by rw [pure_eq, wp_ok]; exact k
end
/-- a def's run -/
theorem c_run {fns : List Fn} {tabs : List SV} {k f : Nat} {args : List SV} {mu : List Obj} {fn : Fn} {R : SV → St → Prop} (hf : fns[f]? = some fn) (hn : args.length = fn.np) (hk : fn.keep.length = fn.np)
    (h : wp (evSs ⟨fns, tabs, callK fns tabs k, fn.np⟩ fn.body (keepIx 0 fn.keep) ⟨args.map some ++ List.replicate (fn.ns - fn.np) none, mu⟩) fun f s => match f with
      | .ret v => R v { s with sg := keeps fn.keep s.sg }
      | .nx => R (.pv .non) { s with sg := keeps fn.keep s.sg }
      | _ => False) : wp (callK fns tabs (k + 1) f args mu) R := by
  unfold callK runFn
  rw [hf]
  simp only
  rw [if_pos ⟨hn, hk⟩]
  obtain ⟨fl, s', e, h⟩ := wp_get h
  rw [e]
  cases fl with
  | nx => exact ⟨_, _, rfl, h⟩
  | ret v => exact ⟨_, _, rfl, h⟩
  | brk => exact h.elim
  | cnt => exact h.elim
end
theorem call_at (i : Nat) {fns : List Fn} {tabs : List SV} {k : Nat} {args : List SV} {mu : List Obj} {R : SV → St → Prop} (h : wp (callK fns tabs k i args mu) R) : wp (callK fns tabs k i args mu) R := h
theorem keepIx_t {n : Nat} {r : List Bool} : keepIx n (true :: r) = n :: keepIx (n + 1) r := rfl
theorem keepIx_f {n : Nat} {r : List Bool} : keepIx n (false :: r) = keepIx (n + 1) r := rfl
theorem keepIx_n {n : Nat} : keepIx n [] = [] := rfl
theorem two_dec {p : Prop} [Decidable p] {x y : Prop} (h : p → x) (k : ¬ p → y) : Two (decide p) x y := ⟨fun z => h (of_decide_eq_true z), fun z => k (of_decide_eq_false z)⟩
theorem has_ci {i : Int} {s : St} {f : SV → Prop} (k : f (.pv (.int i))) : Has (cont (.val (.pv (.int i))) s) f := ⟨_, rfl, k⟩
theorem has_cb {i : Bool} {s : St} {f : SV → Prop} (k : f (.pv (.bl i))) : Has (cont (.val (.pv (.bl i))) s) f := ⟨_, rfl, k⟩
theorem has_cs {i : Tx} {s : St} {f : SV → Prop} (k : f (.pv (.str i))) : Has (cont (.val (.pv (.str i))) s) f := ⟨_, rfl, k⟩
theorem has_ct {i : List PV} {s : St} {f : SV → Prop} (k : f (.pv (.tup i))) : Has (cont (.val (.pv (.tup i))) s) f := ⟨_, rfl, k⟩
theorem has_cn {s : St} {f : SV → Prop} (k : f (.pv .non)) : Has (cont (.val (.pv .non)) s) f := ⟨_, rfl, k⟩
theorem has_co {i : Obj} {s : St} {f : SV → Prop} (k : f (.own i)) : Has (cont (.val (.own i)) s) f := ⟨_, rfl, k⟩
theorem has_ctb {i : Obj} {s : St} {f : SV → Prop} (k : f (.own i)) : Has (cont (.tab i) s) f := ⟨_, rfl, k⟩
theorem has_csl {i : Nat} {o : Obj} {s : St} {f : SV → Prop} (g : s.get i = some (.own o)) (k : f (.own o)) : Has (cont (.slot i) s) f := by
  refine ⟨_, ?_, k⟩
  show (match s.get i with | some (.pv (.loc n)) => s.mu[n]?.map SV.own | r => r) = _
  rw [g]
theorem has_cl {n : Nat} {o : Obj} {s : St} {f : SV → Prop} (g : s.mu[n]? = some o) (k : f (.own o)) : Has (cont (.val (.pv (.loc n))) s) f := ⟨_, by show s.mu[n]?.map SV.own = _; rw [g]; rfl, k⟩
theorem has_ins {c : Nat} {fs : List (Tx × PV)} {f : List (Tx × PV) → Prop} (k : f fs) : Has (insOf c (.own (.ins c fs))) f := ⟨_, if_pos rfl, k⟩
theorem has_fld {c : Nat} {fs : List (Tx × PV)} {x : Tx} {p : PV} {f : PV → Prop} (e : flook fs x = some p) (k : f p) : Has ((insOf c (.own (.ins c fs))).bind fun fs => flook fs x) f := by
  have h : insOf c (.own (.ins c fs)) = some fs := if_pos rfl
  exact ⟨p, by rw [h]; exact e, k⟩
theorem has_tb {b : Bool} {f : Bool → Prop} (k : f b) : Has (truth (.pv (.bl b))) f := ⟨_, rfl, k⟩
theorem two_T {x y : Prop} (h : x) : Two true x y := two_t rfl h
theorem two_F {x y : Prop} (h : y) : Two false x y := two_f rfl h
theorem has_mod {a b : Int} {f : SV → Prop} (h : 0 < b) (k : ∀ r, 0 ≤ r → r < b → r = a.fmod b → f (.pv (.int r))) : Has (binop .Mod (.pv (.int a)) (.pv (.int b))) f :=
  ⟨_, mod_int (by omega), k _ (fmod_range h).1 (fmod_range h).2 rfl⟩
theorem has_div {a b : Int} {f : SV → Prop} (h : 0 < b) (h2 : b < 1073741824) (k : ∀ q, q = a.fdiv b → (0 ≤ a → 0 ≤ q ∧ q ≤ a) → f (.pv (.int q))) : Has (binop .FloorDiv (.pv (.int a)) (.pv (.int b))) f := by
  refine ⟨_, div_int ⟨by omega, by omega⟩, k _ rfl fun ha => ⟨fdiv_nonneg ha h, ?_⟩⟩
  rw [Int.fdiv_eq_ediv_of_nonneg _ (Int.le_of_lt h)]
  exact Int.ediv_le_self _ ha
theorem has_mul {a b : Int} {f : SV → Prop} (ha : -4611686018427387904 < a ∧ a < 4611686018427387904) (hb : -4611686018427387904 < b ∧ b < 4611686018427387904) (k : ∀ q, q = a * b → f (.pv (.int q))) : Has (binop .Mult (.pv (.int a)) (.pv (.int b))) f := by
  have z : (4611686018427387904 : Nat) < 2 ^ 1000 := by decide
  exact ⟨_, mul_int (mul_ok (by omega) (by omega)), k _ rfl⟩
theorem has_mulB {a b : Int} {f : SV → Prop} (ha : -100000000000000000000000000000000000000000000000000 < a ∧ a < 100000000000000000000000000000000000000000000000000) (hb : -100000000000000000000000000000000000000000000000000 < b ∧ b < 100000000000000000000000000000000000000000000000000) (k : ∀ q, q = a * b → f (.pv (.int q))) : Has (binop .Mult (.pv (.int a)) (.pv (.int b))) f := by
  have z : (100000000000000000000000000000000000000000000000000 : Nat) < 2 ^ 200 := by decide
  have z2 : (2 : Nat) ^ 200 ≤ 2 ^ 1000 := Nat.pow_le_pow_right (by decide) (by decide)
  exact ⟨_, mul_int (mul_ok (by omega) (by omega)), k _ rfl⟩
theorem pow_10_8 : binop .Pow (.pv (.int 10)) (.pv (.int 8)) = some (.pv (.int 100000000)) := by decide +kernel
theorem pow_10_9 : binop .Pow (.pv (.int 10)) (.pv (.int 9)) = some (.pv (.int 1000000000)) := by decide +kernel
theorem pow_10_11 : binop .Pow (.pv (.int 10)) (.pv (.int 11)) = some (.pv (.int 100000000000)) := by decide +kernel
theorem pow_10_12 : binop .Pow (.pv (.int 10)) (.pv (.int 12)) = some (.pv (.int 1000000000000)) := by decide +kernel
theorem pow_10_18 : binop .Pow (.pv (.int 10)) (.pv (.int 18)) = some (.pv (.int 1000000000000000000)) := by decide +kernel
theorem pow_10_20 : binop .Pow (.pv (.int 10)) (.pv (.int 20)) = some (.pv (.int 100000000000000000000)) := by decide +kernel
theorem pow_10_30 : binop .Pow (.pv (.int 10)) (.pv (.int 30)) = some (.pv (.int 1000000000000000000000000000000)) := by decide +kernel
theorem at_has {α : Type} {xs : List α} {i : Int} (h : 0 ≤ i) (h2 : i < xs.length) : ∃ x ∈ xs, atOf xs i = some x := by
  have l : i.toNat < xs.length := by omega
  refine ⟨xs[i.toNat], List.getElem_mem l, ?_⟩
  have := at_nat (List.getElem?_eq_getElem l)
  rwa [Int.toNat_of_nonneg h] at this
theorem has_ixL {xs : List PV} {i : Int} {f : PV → Prop} (P : PV → Prop) (h : 0 ≤ i) (h2 : i < xs.length) (hP : ∀ x ∈ xs, P x) (k : ∀ x, P x → f x) : Has (index (.own (.lst xs)) (.pv (.int i))) f := by
  obtain ⟨x, m, e⟩ := at_has h h2
  exact ⟨x, e, k x (hP x m)⟩
theorem has_ixT {xs : List PV} {i : Int} {f : PV → Prop} (P : PV → Prop) (h : 0 ≤ i) (h2 : i < xs.length) (hP : ∀ x ∈ xs, P x) (k : ∀ x, P x → f x) : Has (index (.pv (.tup xs)) (.pv (.int i))) f := by
  obtain ⟨x, m, e⟩ := at_has h h2
  exact ⟨x, e, k x (hP x m)⟩
theorem has_ixS {xs : Tx} {i : Int} {f : PV → Prop} (hl : xs.length ≤ sizeL) (h : 0 ≤ i) (h2 : i < xs.length) (k : ∀ c ∈ xs, f (.str [c])) : Has (index (.pv (.str xs)) (.pv (.int i))) f := by
  obtain ⟨x, m, e⟩ := at_has h h2
  refine ⟨.str [x], ?_, k x m⟩
  show (if xs.length ≤ sizeL then (atOf xs i).map fun c => PV.str [c] else none) = _
  rw [if_pos hl, e]; rfl
theorem has_range1 {n : Int} {f : List PV → Prop} (h : -4611686018427387904 ≤ n) (h2 : n < 4611686018427387904) (k : f ((List.range n.toNat).map fun (i : Nat) => PV.int (i : Int))) : Has (itemsOf .range [.pv (.int n)]) f := ⟨_, if_pos ⟨h, h2⟩, k⟩
theorem has_range2 {a b : Int} {f : List PV → Prop} (h : -4611686018427387904 ≤ a ∧ a < 4611686018427387904) (h2 : -4611686018427387904 ≤ b ∧ b < 4611686018427387904) (k : f ((List.range (b - a).toNat).map fun (i : Nat) => PV.int (a + (i : Int)))) : Has (itemsOf .range [.pv (.int a), .pv (.int b)]) f := ⟨_, if_pos ⟨h.1, h.2, h2.1, h2.2⟩, k⟩
theorem has_sls {xs : Tx} {lo hi : Option Int} {f : SV → Prop} (h : xs.length ≤ sizeL) (k : f (.pv (.str (cut xs lo hi)))) : Has (slice (.pv (.str xs)) lo hi) f := ⟨_, if_pos h, k⟩
theorem has_slt {xs : List PV} {lo hi : Option Int} {f : SV → Prop} (k : f (.pv (.tup (cut xs lo hi)))) : Has (slice (.pv (.tup xs)) lo hi) f := ⟨_, rfl, k⟩
theorem has_addt {a b : List PV} {f : SV → Prop} (h : a.length + b.length ≤ sizeL) (k : f (.pv (.tup (a ++ b)))) : Has (binop .Add (.pv (.tup a)) (.pv (.tup b))) f := ⟨_, if_pos h, k⟩
theorem has_str {n : Int} {f : SV → Prop} (h : n.natAbs < 1000000000000000000000000000000000000000000000000000000000000) (k : f (.pv (.str (intTx n)))) : Has (biFn .str [.pv (.int n)]) f := by
  have z : (1000000000000000000000000000000000000000000000000000000000000 : Nat) < 2 ^ 200 := by decide
  have l : n.natAbs.log2 < 1920 := by
    have := log_lt (a := n) (n := 200) (by omega) (by decide)
    omega
  exact ⟨_, if_pos l, k⟩
theorem setN {xs : List PV} {i : Nat} {v : PV} (h : i < xs.length) : setix (.lst xs) (.int (i : Int)) v = some (.lst (xs.set i v)) := by
  show (ixOf xs.length (i : Int)).map (fun j => Obj.lst (xs.set j v)) = _
  have : ixOf xs.length (i : Int) = some i := by
    unfold ixOf
    rw [if_pos (Int.natCast_nonneg i), if_pos (by omega)]; rfl
  rw [this]; rfl
theorem has_divB {a b : Int} {f : SV → Prop} (h : 0 < b) (h2 : b < 1000000000000000000000000000000000000000000000000000) (k : ∀ q, q = a.fdiv b → (0 ≤ a → 0 ≤ q ∧ q ≤ a) → f (.pv (.int q))) : Has (binop .FloorDiv (.pv (.int a)) (.pv (.int b))) f := by
  refine ⟨_, ?_, k _ rfl fun ha => ⟨fdiv_nonneg ha h, ?_⟩⟩
  · show (if b ≠ 0 ∧ b.natAbs < 1073741824 then some (SV.pv (.int (a.fdiv b))) else if 0 < b ∧ b.natAbs.log2 < 9000 then some (.pv (.int (a.fdiv b))) else none) = _
    by_cases c : b ≠ 0 ∧ b.natAbs < 1073741824
    · rw [if_pos c]
    · have z : (1000000000000000000000000000000000000000000000000000 : Nat) < 2 ^ 200 := by decide
      have l := log_lt (a := b) (n := 200) (by omega) (by decide)
      rw [if_neg c, if_pos ⟨h, by omega⟩]
  · rw [Int.fdiv_eq_ediv_of_nonneg _ (Int.le_of_lt h)]
    exact Int.ediv_le_self _ ha
theorem has_adds {a b : Tx} {f : SV → Prop} (h : a.length + b.length ≤ sizeL) (k : f (.pv (.str (a ++ b)))) : Has (binop .Add (.pv (.str a)) (.pv (.str b))) f := ⟨_, add_str h, k⟩
theorem has_addl {a b : List PV} {f : SV → Prop} (h : a.length + b.length ≤ sizeL) (k : f (.own (.lst (a ++ b)))) : Has (binop .Add (.own (.lst a)) (.own (.lst b))) f := ⟨_, add_lst h, k⟩
theorem asTx_map : ∀ {ts : List Tx}, asTx (ts.map PV.str) = some ts
  | [] => rfl
  | t :: r => by
    show (asTx (r.map PV.str)).map (t :: ·) = _
    rw [asTx_map]; rfl
theorem has_join {sep : Tx} {ts : List Tx} {f : PV → Prop} (h : (ts.map (fun t => List.length t)).sum + ts.length * sep.length ≤ sizeL) (k : f (.str (joinTx sep ts))) : Has (joinOf sep (.own (.lst (ts.map PV.str)))) f := by
  refine ⟨_, ?_, k⟩
  show (match asTx (ts.map PV.str) with | some ts => if (ts.map (fun t => List.length t)).sum + ts.length * sep.length ≤ sizeL then some (PV.str (joinTx sep ts)) else none | none => none) = _
  rw [asTx_map]
  exact if_pos h
theorem joinTx_chars : ∀ {w : Tx}, joinTx [] (w.map fun c => [c]) = w
  | [] => rfl
  | [c] => rfl
  | c :: d :: r => by
    show [c] ++ [] ++ joinTx [] ((d :: r).map fun c => [c]) = _
    rw [joinTx_chars]; rfl
theorem stands_tup {xs : List PV} {s : St} : stands [.val (.pv (.tup xs))] [.pv (.tup xs)] s = true := by
  unfold stands; exact decide_eq_true rfl
theorem stands_str {xs : Tx} {s : St} : stands [.val (.pv (.str xs))] [.pv (.str xs)] s = true := by
  unfold stands; exact decide_eq_true rfl
theorem stands_int {n : Int} {s : St} : stands [.val (.pv (.int n))] [.pv (.int n)] s = true := by
  unfold stands; exact decide_eq_true rfl
theorem stands_int2 {n m : Int} {s : St} : stands [.val (.pv (.int n)), .val (.pv (.int m))] [.pv (.int n), .pv (.int m)] s = true := by
  unfold stands; exact decide_eq_true rfl
theorem stands_two {x y : List PV} {s : St} : stands [.val (.pv (.tup x)), .val (.pv (.tup y))] [.pv (.tup x), .pv (.tup y)] s = true := by
  unfold stands; exact decide_eq_true rfl
theorem stands_own {o : Obj} {s : St} : stands [.val (.own o)] [.own o] s = true := by
  unfold stands; exact decide_eq_true rfl
theorem stands_slot {i : Nat} {o : Obj} {s : St} (g : s.get i = some (.own o)) : stands [.slot i] [.own o] s = true := by
  unfold stands
  refine decide_eq_true ?_
  show [cont (.slot i) s] = _
  have : cont (.slot i) s = some (.own o) := by
    show (match s.get i with | some (.pv (.loc n)) => s.mu[n]?.map SV.own | r => r) = _
    rw [g]
  rw [this]; rfl
theorem eq_str {a b : Tx} (ha : a.all (fun c => decide (c < 1114112)) = true) (hb : b.all (fun c => decide (c < 1114112)) = true) : eqSV (.pv (.str a)) (.pv (.str b)) = some (decide (a = b)) := by
  show (if PV.plain (.str a) && PV.plain (.str b) && decide (PV.depth (.str a) ≤ 150) && decide (PV.depth (.str b) ≤ 150) then some (decide (PV.str a = PV.str b)) else none) = _
  have e1 : PV.plain (.str a) = true := ha
  have e2 : PV.plain (.str b) = true := hb
  have e3 : PV.depth (.str a) = 0 := rfl
  have e4 : PV.depth (.str b) = 0 := rfl
  rw [e1, e2, e3, e4]
  simp
theorem eq_pv {a b : PV} (ha : a.plain = true) (hb : b.plain = true) (da : a.depth ≤ 150) (db : b.depth ≤ 150) (n : ∀ x, a ≠ .bl x) : eqSV (.pv a) (.pv b) = some (decide (a = b)) := by
  have e : eqSV (.pv a) (.pv b) = if a.plain && b.plain && decide (a.depth ≤ 150) && decide (b.depth ≤ 150) then some (decide (a = b)) else none := by
    cases a <;> first | rfl | exact absurd rfl (n _)
  rw [e, ha, hb, decide_eq_true da, decide_eq_true db]; rfl
theorem has_nes {a b : Tx} {f : Bool → Prop} (ha : a.all (fun c => decide (c < 1114112)) = true) (hb : b.all (fun c => decide (c < 1114112)) = true) (k : f (!decide (a = b))) : Has (cmpall .NotEq (.pv (.str a)) (.pv (.str b))) f := by
  refine ⟨_, ?_, k⟩
  rw [cmp_ne, eq_str ha hb]; rfl
theorem has_eqs {a b : Tx} {f : Bool → Prop} (ha : a.all (fun c => decide (c < 1114112)) = true) (hb : b.all (fun c => decide (c < 1114112)) = true) (k : f (decide (a = b))) : Has (cmpall .Eq (.pv (.str a)) (.pv (.str b))) f := by
  refine ⟨_, ?_, k⟩
  rw [cmp_eq, eq_str ha hb]
theorem has_nep {a b : PV} {f : Bool → Prop} (ha : a.plain = true) (hb : b.plain = true) (da : a.depth ≤ 150) (db : b.depth ≤ 150) (n : ∀ x, a ≠ .bl x) (k : f (!decide (a = b))) : Has (cmpall .NotEq (.pv a) (.pv b)) f := by
  refine ⟨_, ?_, k⟩
  rw [cmp_ne, eq_pv ha hb da db n]; rfl
theorem has_eqp {a b : PV} {f : Bool → Prop} (ha : a.plain = true) (hb : b.plain = true) (da : a.depth ≤ 150) (db : b.depth ≤ 150) (n : ∀ x, a ≠ .bl x) (k : f (decide (a = b))) : Has (cmpall .Eq (.pv a) (.pv b)) f := by
  refine ⟨_, ?_, k⟩
  rw [cmp_eq, eq_pv ha hb da db n]
/-- one of two, by a truth -/
theorem has_pick {x y : PV} {b : Bool} {f : PV → Prop} (k : f (bif b then y else x)) : Has (index (.own (.lst [x, y])) (.pv (.int (if b = true then 1 else 0)))) f := by
  cases b
  · exact ⟨_, rfl, k⟩
  · exact ⟨_, rfl, k⟩
theorem has_pick2 {x y : PV} {b : Bool} {f : PV → Prop} (k : b = true → f y) (k2 : b = false → f x) : Has (index (.own (.lst [x, y])) (.pv (.int (if b = true then 1 else 0)))) f := by
  cases b
  · exact ⟨_, rfl, k2 rfl⟩
  · exact ⟨_, rfl, k rfl⟩
theorem has_nei {a b : Int} {f : Bool → Prop} (k : f (!decide (a = b))) : Has (cmpall .NotEq (.pv (.int a)) (.pv (.int b))) f := by
  refine ⟨_, ?_, k⟩
  rw [cmp_ne, eq_int]; rfl
theorem has_ixN {xs : List PV} {i : Nat} {x : PV} {f : PV → Prop} (h : xs[i]? = some x) (k : f x) : Has (index (.own (.lst xs)) (.pv (.int (i : Int)))) f := ⟨x, at_nat h, k⟩
theorem has_ixNt {xs : List PV} {i : Nat} {x : PV} {f : PV → Prop} (h : xs[i]? = some x) (k : f x) : Has (index (.pv (.tup xs)) (.pv (.int (i : Int)))) f := ⟨x, at_nat h, k⟩
theorem has_find {xs : List PV} {p : PV} {j : Nat} {f : SV → Prop} (h1 : p.plain = true) (h2 : PV.plains xs = true) (h3 : p.depth ≤ 60) (h4 : PV.depths xs ≤ 60) (h : xs.findIdx? (fun x => decide (x = p)) = some j) (k : f (.pv (.int (j : Int)))) : Has (meFn .index (.own (.lst xs)) [.pv p]) f := by
  refine ⟨_, ?_, k⟩
  show (if p.plain && PV.plains xs && decide (p.depth ≤ 60) && decide (PV.depths xs ≤ 60) then (xs.findIdx? fun x => decide (x = p)).map fun (j : Nat) => SV.pv (.int (j : Int)) else none) = _
  rw [h1, h2, decide_eq_true h3, decide_eq_true h4, h]; rfl
theorem inop_data {xs ys : List PV} (h1 : (PV.tup ys).plain = true) (h2 : PV.plains xs = true) (h3 : (PV.tup ys).depth ≤ 60) (h4 : PV.depths xs ≤ 60) : inop (.pv (.tup ys)) (.own (.lst xs)) = some (decide (PV.tup ys ∈ xs)) := by
  show (if (PV.tup ys).plain && PV.plains xs && decide ((PV.tup ys).depth ≤ 60) && decide (PV.depths xs ≤ 60) then some (decide (PV.tup ys ∈ xs)) else none) = _
  rw [h1, h2, decide_eq_true h3, decide_eq_true h4]; rfl
theorem has_lts {a b : Tx} {f : Bool → Prop} (k : f (decide (a < b))) : Has (cmpall .Lt (.pv (.str a)) (.pv (.str b))) f := ⟨_, rfl, k⟩
theorem has_in2 {c : Tx} {xs : List PV} {ts : List Tx} {f : Bool → Prop} (h : xs = ts.map PV.str) (k : f (ts.contains c)) : Has (cmpall .In (.pv (.str c)) (.pv (.tup xs))) f := by
  subst h
  refine ⟨_, ?_, k⟩
  show (match asTx (ts.map PV.str) with | some ts => some (ts.contains c) | none => none) = _
  rw [asTx_map]
theorem has_nel {a b : List PV} {f : Bool → Prop} (ha : PV.plains a = true) (hb : PV.plains b = true) (da : PV.depths a ≤ 149) (db : PV.depths b ≤ 149) (k : f (!decide (a = b))) : Has (cmpall .NotEq (.own (.lst a)) (.own (.lst b))) f := by
  refine ⟨_, ?_, k⟩
  rw [cmp_ne]
  show (if PV.plains a && PV.plains b && decide (PV.depths a ≤ 149) && decide (PV.depths b ≤ 149) then some (decide (a = b)) else none).map (!·) = _
  rw [ha, hb, decide_eq_true da, decide_eq_true db]; rfl
theorem has_inP {ys xs : List PV} {f : Bool → Prop} (h1 : (PV.tup ys).plain = true) (h2 : PV.plains xs = true) (h3 : (PV.tup ys).depth ≤ 60) (h4 : PV.depths xs ≤ 60) (k : f (decide (PV.tup ys ∈ xs))) : Has (cmpall .In (.pv (.tup ys)) (.pv (.tup xs))) f := by
  refine ⟨_, ?_, k⟩
  show (if (PV.tup ys).plain && PV.plains xs && decide ((PV.tup ys).depth ≤ 60) && decide (PV.depths xs ≤ 60) then some (decide (PV.tup ys ∈ xs)) else none) = _
  rw [h1, h2, decide_eq_true h3, decide_eq_true h4]; rfl
/-! loops -/
theorem l_for {body : M Fl} {pr : List Nat} {t : T} {still : St → Bool} {P : Fl → St → Prop} (Inv : List PV → St → Prop) (hs : ∀ ys s, Inv ys s → still s = true)
    (step : ∀ y ys s, Inv (y :: ys) s → wp (store pr t (.pv y) s) fun _ s1 => wp (body s1) fun f s2 => match f with
      | .nx => Inv ys s2
      | .cnt => Inv ys s2
      | .brk => P .nx s2
      | .ret v => P (.ret v) s2) (fin : ∀ s, Inv [] s → P .nx s) : ∀ (xs : List PV) (s : St), Inv xs s → wp (forL body pr t still xs s) P
  | [], s, h => by
    unfold forL
    rw [if_pos (hs _ _ h)]
    exact ⟨_, _, rfl, fin s h⟩
  | x :: xs, s, h => by
    unfold forL
    rw [if_pos (hs _ _ h)]
    obtain ⟨u, s1, e1, h1⟩ := wp_get (step x xs s h)
    rw [e1]
    obtain ⟨f, s2, e2, h2⟩ := wp_get h1
    simp only [e2]
    cases f with
    | nx => exact l_for Inv hs step fin xs s2 h2
    | cnt => exact l_for Inv hs step fin xs s2 h2
    | brk => exact ⟨_, _, rfl, h2⟩
    | ret v => exact ⟨_, _, rfl, h2⟩
theorem l_while {c : M Bool} {body : M Fl} {P : Fl → St → Prop} (Inv : Nat → St → Prop)
    (step : ∀ m s, Inv m s → wp (c s) fun b s1 => Two b (wp (body s1) fun f s2 => match f with
      | .nx => ∃ m', m' < m ∧ Inv m' s2
      | .cnt => ∃ m', m' < m ∧ Inv m' s2
      | .brk => P .nx s2
      | .ret v => P (.ret v) s2) (P .nx s1)) : ∀ (n m : Nat) (s : St), m < n → Inv m s → wp (whileL c body n s) P
  | 0, m, s, hm, h => absurd hm (Nat.not_lt_zero _)
  | n + 1, m, s, hm, h => by
    unfold whileL
    obtain ⟨b, s1, e1, h1⟩ := wp_get (step m s h)
    rw [e1]
    cases b with
    | false => exact ⟨_, _, rfl, h1.2 rfl⟩
    | true =>
      obtain ⟨f, s2, e2, h2⟩ := wp_get (h1.1 rfl)
      simp only [e2]
      cases f with
      | nx => obtain ⟨m', l, h3⟩ := h2; exact l_while Inv step n m' s2 (by omega) h3
      | cnt => obtain ⟨m', l, h3⟩ := h2; exact l_while Inv step n m' s2 (by omega) h3
      | brk => exact ⟨_, _, rfl, h2⟩
      | ret v => exact ⟨_, _, rfl, h2⟩
theorem l_comp {cond : M Bool} {elt : M Opd} {t : T} {still : St → Bool} {own : List Nat} {P : List PV → St → Prop} (Inv : List PV → List PV → St → Prop) (hs : ∀ ys acc s, Inv ys acc s → still (s.wipe own) = true)
    (step : ∀ y ys acc s, Inv (y :: ys) acc s → Has (bindT t (.pv y) (s.wipe own).sg) fun sg => wp (cond ⟨sg, (s.wipe own).mu⟩) fun b s1 => Two b (wp (elt s1) fun o s2 => wp (box o s2) fun p s3 => acc.length < sizeL ∧ Inv ys (acc ++ [p]) s3) (Inv ys acc s1))
    (fin : ∀ acc s, Inv [] acc s → P acc (s.wipe own)) : ∀ (xs acc : List PV) (s : St), Inv xs acc s → wp (compL cond elt t still own xs acc s) P
  | [], acc, s, h => by
    unfold compL
    rw [if_pos (hs _ _ _ h)]
    exact ⟨_, _, rfl, fin acc s h⟩
  | x :: xs, acc, s, h => by
    unfold compL
    rw [if_pos (hs _ _ _ h)]
    obtain ⟨sg, e0, h0⟩ := step x xs acc s h
    rw [e0]
    simp only [bind_go]
    obtain ⟨b, s1, e1, h1⟩ := wp_get h0
    have e1' : cond { sg := sg, mu := s.mu } = .ok b s1 := e1
    rw [e1', go_ok]
    cases b with
    | false => exact l_comp Inv hs step fin xs acc s1 (h1.2 rfl)
    | true =>
      obtain ⟨o, s2, e2, h2⟩ := wp_get (h1.1 rfl)
      obtain ⟨p, s3, e3, hl, h3⟩ := wp_get h2
      show wp ((elt >>= fun o => box o >>= fun p => if acc.length < sizeL then compL cond elt t still own xs (acc ++ [p]) else M.bad) s1) P
      rw [bind_go, e2, go_ok, bind_go, e3, go_ok, if_pos hl]
      exact l_comp Inv hs step fin xs (acc ++ [p]) s3 h3
theorem l_end {s : St} {own : List Nat} {o : Out (List PV)} {Q : Opd → St → Prop} (h : wp o fun ps s1 => Q (.val (.own (.lst ps))) { s1 with sg := layBack s.sg s1.sg own }) : wp (compEnd s own o) Q := by
  obtain ⟨ps, s1, e, h⟩ := h
  exact ⟨_, _, by rw [e]; rfl, h⟩
end Kv

set_option Elab.async false
set_option linter.all false
set_option maxRecDepth 100000
/-! Whole numbers as texts. -/
namespace Kv
theorem ofString_toList (s : String) : (PySem.Str.ofString s).cps.toList = s.toList.map Char.toNat := by
  exact PyProof.Rows.signs_ofString s
theorem intTx_nat (m : Nat) : intTx ((m : Nat) : Int) = (Nat.toDigits 10 m).map Char.toNat := by
  unfold intTx
  rw [ofString_toList]
  show (Nat.repr m).toList.map Char.toNat = _
  rw [Nat.toList_repr]
theorem intTx_neg (m : Nat) : intTx (Int.negSucc m) = 45 :: (Nat.toDigits 10 (m + 1)).map Char.toNat := by
  unfold intTx
  rw [ofString_toList]
  show (("-" : String) ++ Nat.repr (m + 1)).toList.map Char.toNat = _
  rw [String.toList_append, Nat.toList_repr]
  rfl
theorem digit_code {c : Char} (h : c.isDigit = true) : 48 ≤ c.toNat ∧ c.toNat ≤ 57 := by
  simp only [Char.isDigit, Bool.and_eq_true, decide_eq_true_eq] at h
  exact ⟨UInt32.le_iff_toNat_le.mp h.1, UInt32.le_iff_toNat_le.mp h.2⟩
theorem digits_code {m c : Nat} (h : c ∈ (Nat.toDigits 10 m).map Char.toNat) : 48 ≤ c ∧ c ≤ 57 := by
  obtain ⟨d, hd, rfl⟩ := List.mem_map.mp h
  exact digit_code (Nat.isDigit_of_mem_toDigits (by decide) (by decide) hd)
theorem intTx_sign {i : Int} {c : Nat} (h : c ∈ intTx i) : c = 45 ∨ (48 ≤ c ∧ c ≤ 57) := by
  cases i with
  | ofNat m =>
    have h' : c ∈ (Nat.toDigits 10 m).map Char.toNat := by rw [← intTx_nat]; exact h
    exact .inr (digits_code h')
  | negSucc m =>
    rw [intTx_neg] at h
    rcases List.mem_cons.mp h with h | h
    · exact .inl h
    · exact .inr (digits_code h)
theorem intTx_ne (i : Int) : intTx i ≠ [] := by
  cases i with
  | ofNat m =>
    show intTx ((m : Nat) : Int) ≠ []
    rw [intTx_nat]
    intro e
    exact Nat.toDigits_ne_nil (List.map_eq_nil_iff.mp e)
  | negSucc m => rw [intTx_neg]; simp
theorem toDigits_inj {m n : Nat} (h : (Nat.toDigits 10 m).map Char.toNat = (Nat.toDigits 10 n).map Char.toNat) : m = n := by
  have inj : ∀ {l k : List Char}, l.map Char.toNat = k.map Char.toNat → l = k := by
    intro l
    induction l with
    | nil => intro k h; cases k with
      | nil => rfl
      | cons => cases h
    | cons a l ih =>
      intro k h
      cases k with
      | nil => cases h
      | cons b k =>
        rw [List.map_cons, List.map_cons] at h
        injection h with h1 h2
        rw [ih h2, Char.toNat_inj.mp h1]
  have := congrArg (fun l => Nat.ofDigitChars 10 l 0) (inj h)
  simpa only [Nat.ofDigitChars_ten_toDigits] using this
theorem intTx_inj {i j : Int} (h : intTx i = intTx j) : i = j := by
  cases i with
  | ofNat m =>
    cases j with
    | ofNat n =>
      have h' : intTx ((m : Nat) : Int) = intTx ((n : Nat) : Int) := h
      rw [intTx_nat, intTx_nat] at h'
      rw [toDigits_inj h']
    | negSucc n =>
      have h' : intTx ((m : Nat) : Int) = intTx (Int.negSucc n) := h
      rw [intTx_nat, intTx_neg] at h'
      have := digits_code (m := m) (c := 45) (by rw [h']; exact List.mem_cons_self)
      omega
  | negSucc m =>
    cases j with
    | ofNat n =>
      have h' : intTx (Int.negSucc m) = intTx ((n : Nat) : Int) := h
      rw [intTx_nat, intTx_neg] at h'
      have := digits_code (m := n) (c := 45) (by rw [← h']; exact List.mem_cons_self)
      omega
    | negSucc n =>
      rw [intTx_neg, intTx_neg] at h
      injection h with _ h
      have := toDigits_inj h
      rw [show m = n by omega]
theorem intTx_len {i : Int} {k : Nat} (hk : 0 < k) (h : i.natAbs < 10 ^ k) : (intTx i).length ≤ k + 1 := by
  cases i with
  | ofNat m =>
    show (intTx ((m : Nat) : Int)).length ≤ _
    rw [intTx_nat, List.length_map]
    exact Nat.le_succ_of_le ((Nat.length_toDigits_le_iff (by decide) hk).mpr h)
  | negSucc m =>
    rw [intTx_neg, List.length_cons, List.length_map]
    exact Nat.succ_le_succ ((Nat.length_toDigits_le_iff (by decide) hk).mpr h)
end Kv

set_option Elab.async false
set_option linter.all false
set_option maxRecDepth 100000
/-! Dicts whose keys are texts, of any values. -/
namespace Kv
variable {α : Type}
abbrev TD (α : Type) := List (Tx × α)
def tnames (l : TD α) : List Tx := l.map (·.1)
def tdic (f : α → PV) (l : TD α) : List (PV × PV) := l.map fun p => (.str p.1, f p.2)
def tget : TD α → Tx → Option α
  | [], _ => none
  | p :: r, t => if p.1 = t then some p.2 else tget r t
def trep (l : TD α) (t : Tx) (v : α) : TD α := l.map fun p => if p.1 = t then (p.1, v) else p
def tput (l : TD α) (t : Tx) (v : α) : TD α := if t ∈ tnames l then trep l t v else l ++ [(t, v)]
theorem tdic_keys {f : α → PV} {l : TD α} : (tdic f l).map (·.1) = (tnames l).map PV.str := by
  unfold tdic tnames
  rw [List.map_map, List.map_map]; rfl
theorem tdic_len {f : α → PV} {l : TD α} : (tdic f l).length = l.length := List.length_map _
theorem tnames_len {l : TD α} : (tnames l).length = l.length := List.length_map _
theorem tdic_look {f : α → PV} {t : Tx} : ∀ {l : TD α}, dlook (tdic f l) (.str t) = (tget l t).map f
  | [] => rfl
  | p :: r => by
    unfold dlook
    show (List.find? (fun p => decide (p.1 = PV.str t)) ((PV.str p.1, f p.2) :: tdic f r)).map (·.2) = (if p.1 = t then some p.2 else tget r t).map f
    rw [List.find?_cons]
    by_cases c : p.1 = t
    · rw [if_pos c, show decide ((PV.str p.1, f p.2).1 = PV.str t) = true from decide_eq_true (by rw [c])]; rfl
    · rw [if_neg c, show decide ((PV.str p.1, f p.2).1 = PV.str t) = false from decide_eq_false fun z => c (by injection z)]
      exact tdic_look (l := r)
theorem tdic_any {f : α → PV} {t : Tx} : ∀ {l : TD α}, ((tdic f l).any fun p => decide (p.1 = PV.str t)) = decide (t ∈ tnames l)
  | [] => by simp [tdic, tnames]
  | p :: r => by
    show (decide ((PV.str p.1) = PV.str t) || (tdic f r).any fun p => decide (p.1 = PV.str t)) = decide (t ∈ p.1 :: tnames r)
    rw [tdic_any, Bool.eq_iff_iff]
    simp
    exact ⟨fun h => h.imp Eq.symm id, fun h => h.imp Eq.symm id⟩
theorem tdic_put {f : α → PV} {l : TD α} {t : Tx} {v : α} : dput (tdic f l) (.str t) (f v) = tdic f (tput l t v) := by
  unfold dput tput
  rw [tdic_any]
  by_cases c : t ∈ tnames l
  · rw [if_pos (decide_eq_true c), if_pos c]
    unfold tdic trep
    rw [List.map_map, List.map_map]
    refine List.map_congr_left fun p _ => ?_
    show (if PV.str p.1 = PV.str t then (PV.str p.1, f v) else (PV.str p.1, f p.2)) = (PV.str (if p.1 = t then (p.1, v) else p).1, f (if p.1 = t then (p.1, v) else p).2)
    by_cases e : p.1 = t
    · rw [if_pos (by rw [e]), if_pos e]
    · rw [if_neg (fun z => e (by injection z)), if_neg e]
  · rw [if_neg (by rw [decide_eq_false c]; decide), if_neg c]
    unfold tdic
    rw [List.map_append]; rfl
theorem trep_names {l : TD α} {t : Tx} {v : α} : tnames (trep l t v) = tnames l := by
  unfold tnames trep
  rw [List.map_map]
  refine List.map_congr_left fun p _ => ?_
  show (if p.1 = t then (p.1, v) else p).1 = p.1
  split <;> rfl
theorem tput_nd {l : TD α} {t : Tx} {v : α} (h : (tnames l).Nodup) : (tnames (tput l t v)).Nodup := by
  unfold tput
  split
  · rw [trep_names]; exact h
  · rename_i c
    show (List.map (·.1) (l ++ [(t, v)])).Nodup
    rw [List.map_append]
    refine List.nodup_append.mpr ⟨h, by simp, fun a ha b hb => ?_⟩
    have e : b = t := by simpa using hb
    rintro rfl
    exact c (e ▸ ha)
theorem tput_len {l : TD α} {t : Tx} {v : α} : (tput l t v).length ≤ l.length + 1 := by
  unfold tput
  split
  · unfold trep; rw [List.length_map]; exact Nat.le_succ _
  · rw [List.length_append]; exact Nat.le_refl _
theorem tput_all {l : TD α} {t : Tx} {v : α} {P : Tx → α → Prop} (hv : P t v) (h : ∀ p ∈ l, P p.1 p.2) : ∀ p ∈ tput l t v, P p.1 p.2 := by
  unfold tput
  split
  · intro p hp
    unfold trep at hp
    obtain ⟨q, hq, rfl⟩ := List.mem_map.mp hp
    split
    · rename_i c; rw [c]; exact hv
    · exact h q hq
  · intro p hp
    rcases List.mem_append.mp hp with hp | hp
    · exact h p hp
    · rw [List.mem_singleton.mp hp]; exact hv
def tsum (w : α → Nat) (l : TD α) : Nat := (l.map fun p => w p.2).sum
theorem tsum_cons {w : α → Nat} {p : Tx × α} {l : TD α} : tsum w (p :: l) = w p.2 + tsum w l := by unfold tsum; rw [List.map_cons, List.sum_cons]
theorem trep_no {t : Tx} {v : α} : ∀ {l : TD α}, t ∉ tnames l → trep l t v = l
  | [], _ => rfl
  | p :: r, h => by
    have h1 : p.1 ≠ t := fun z => h (by rw [← z]; exact List.mem_cons_self)
    show (if p.1 = t then (p.1, v) else p) :: trep r t v = _
    rw [if_neg h1, trep_no fun z => h (List.mem_cons_of_mem _ z)]
theorem trep_sum {w : α → Nat} {t : Tx} {v : α} : ∀ {l : TD α}, (tnames l).Nodup → tsum w (trep l t v) ≤ tsum w l + w v
  | [], _ => Nat.zero_le _
  | p :: r, h => by
    have h' := List.nodup_cons.mp (show (p.1 :: tnames r).Nodup from h)
    show tsum w ((if p.1 = t then (p.1, v) else p) :: trep r t v) ≤ _
    rw [tsum_cons, tsum_cons]
    by_cases c : p.1 = t
    · rw [if_pos c, trep_no (c ▸ h'.1)]
      show w v + _ ≤ _
      omega
    · rw [if_neg c]
      have := trep_sum (w := w) (t := t) (v := v) h'.2
      omega
theorem tput_sum {w : α → Nat} {l : TD α} {t : Tx} {v : α} (h : (tnames l).Nodup) : tsum w (tput l t v) ≤ tsum w l + w v := by
  unfold tput
  split
  · exact trep_sum h
  · unfold tsum
    rw [List.map_append, List.sum_append]
    simp
theorem tget_mem {t : Tx} : ∀ {l : TD α}, t ∈ tnames l → ∃ v, tget l t = some v ∧ (t, v) ∈ l
  | [], h => by cases h
  | p :: r, h => by
    have h' : t ∈ p.1 :: tnames r := h
    unfold tget
    by_cases c : p.1 = t
    · rw [if_pos c]
      exact ⟨p.2, rfl, by rw [← c]; exact List.mem_cons_self⟩
    · rw [if_neg c]
      rcases List.mem_cons.mp h' with e | e
      · exact absurd e.symm c
      · obtain ⟨v, h1, h2⟩ := tget_mem e
        exact ⟨v, h1, List.mem_cons_of_mem _ h2⟩
theorem ins_perm {x : Tx} : ∀ {l : List Tx}, (insTx x l).Perm (x :: l)
  | [] => .refl _
  | y :: r => by
    unfold insTx
    split
    · exact .refl _
    · exact (List.Perm.cons y ins_perm).trans (.swap x y r)
theorem sort_perm : ∀ {l : List Tx}, (sortTx l).Perm l
  | [] => .refl _
  | x :: r => ins_perm.trans (.cons x sort_perm)
theorem perm_sum {f : Tx → Nat} {l l' : List Tx} (h : l.Perm l') : (l.map f).sum = (l'.map f).sum := by
  induction h with
  | nil => rfl
  | cons x _ ih => rw [List.map_cons, List.map_cons, List.sum_cons, List.sum_cons, ih]
  | swap x y l => simp only [List.map_cons, List.sum_cons]; omega
  | trans _ _ i1 i2 => exact i1.trans i2
def tpick (l : TD α) (ts : List Tx) : TD α := ts.filterMap fun t => (tget l t).map fun v => (t, v)
theorem tpick_snoc {l : TD α} {ts : List Tx} {t : Tx} {v : α} (h : tget l t = some v) : tpick l (ts ++ [t]) = tpick l ts ++ [(t, v)] := by
  unfold tpick
  rw [List.filterMap_append, List.filterMap_cons, h]; rfl
theorem tpick_names {l : TD α} : ∀ {ts : List Tx}, (∀ t ∈ ts, t ∈ tnames l) → tnames (tpick l ts) = ts
  | [], _ => rfl
  | t :: r, h => by
    obtain ⟨v, e, _⟩ := tget_mem (h t List.mem_cons_self)
    unfold tpick
    rw [List.filterMap_cons, e]
    show t :: tnames (tpick l r) = _
    rw [tpick_names fun s m => h s (List.mem_cons_of_mem _ m)]
theorem tget_in {t : Tx} {v : α} : ∀ {l : TD α}, tget l t = some v → (t, v) ∈ l
  | [], h => by cases h
  | p :: r, h => by
    unfold tget at h
    split at h
    · rename_i c
      injection h with h
      rw [← c, ← h]; exact List.mem_cons_self
    · exact List.mem_cons_of_mem _ (tget_in h)
theorem tpick_mem {l : TD α} {ts : List Tx} {p : Tx × α} (h : p ∈ tpick l ts) : p ∈ l := by
  unfold tpick at h
  obtain ⟨t, _, e⟩ := List.mem_filterMap.mp h
  obtain ⟨v, e1, rfl⟩ := Option.map_eq_some_iff.mp e
  exact tget_in e1
theorem tpick_len {l : TD α} {ts : List Tx} : (tpick l ts).length ≤ ts.length := List.length_filterMap_le _ _
theorem tpick_sum {w : α → Nat} {l : TD α} : ∀ {ts : List Tx}, tsum w (tpick l ts) = (ts.map fun t => ((tget l t).map w).getD 0).sum
  | [] => rfl
  | t :: r => by
    rw [List.map_cons, List.sum_cons, ← tpick_sum]
    unfold tpick
    rw [List.filterMap_cons]
    cases tget l t with
    | none => simp
    | some v => exact tsum_cons
theorem tnames_sum {w : α → Nat} : ∀ {l : TD α}, (tnames l).Nodup → ((tnames l).map fun t => ((tget l t).map w).getD 0).sum = tsum w l
  | [], _ => rfl
  | p :: r, h => by
    have h' := List.nodup_cons.mp (show (p.1 :: tnames r).Nodup from h)
    show (((p.1 :: tnames r).map fun t => ((tget (p :: r) t).map w).getD 0).sum) = _
    rw [List.map_cons, List.sum_cons, tsum_cons, ← tnames_sum h'.2]
    have e1 : tget (p :: r) p.1 = some p.2 := if_pos rfl
    have e2 : ((tnames r).map fun t => ((tget (p :: r) t).map w).getD 0) = (tnames r).map fun t => ((tget r t).map w).getD 0 := List.map_congr_left fun t ht => by
      have : tget (p :: r) t = tget r t := if_neg (show ¬ p.1 = t from fun z => h'.1 (by rw [z]; exact ht))
      rw [this]
    rw [e1, e2]; rfl
theorem tsorted_sum {w : α → Nat} {l : TD α} (h : (tnames l).Nodup) : tsum w (tpick l (sortTx (tnames l))) = tsum w l := by
  rw [tpick_sum, perm_sum sort_perm, tnames_sum h]
/-- the keys, sorted -/
theorem has_sorted {f : α → PV} {l : TD α} {F : SV → Prop} (hl : l.length ≤ 16777216) (k : F (.own (.lst ((sortTx (tnames l)).map .str)))) : Has (biFn .sorted [.own (.dic (tdic f l))]) F := by
  refine ⟨_, ?_, k⟩
  show (if (tdic f l).length ≤ sizeL then (asTx ((tdic f l).map (·.1))).map fun ts => SV.own (.lst ((sortTx ts).map .str)) else none) = _
  rw [tdic_len, if_pos (show l.length ≤ sizeL from hl), tdic_keys, asTx_map]; rfl
theorem has_tget {f : α → PV} {l : TD α} {t : Tx} {v : α} {F : PV → Prop} (h : tget l t = some v) (k : F (f v)) : Has (index (.own (.dic (tdic f l))) (.pv (.str t))) F := by
  refine ⟨_, ?_, k⟩
  show (if (PV.str t).isKey then dlook (tdic f l) (.str t) else none) = _
  rw [if_pos (show (PV.str t).isKey = true from rfl), tdic_look, h]; rfl
theorem tset_ok {f : α → PV} {l : TD α} {t : Tx} {v : α} (hl : l.length < 16777216) : setix (.dic (tdic f l)) (.str t) (f v) = some (.dic (tdic f (tput l t v))) := by
  show (if (PV.str t).isKey && decide ((tdic f l).length < sizeL) then some (Obj.dic (dput (tdic f l) (.str t) (f v))) else none) = _
  rw [tdic_put, tdic_len, decide_eq_true (show l.length < sizeL from hl)]; rfl
end Kv

set_option Elab.async false
set_option linter.all false
set_option maxRecDepth 100000
namespace K30
open PySem (Operator CmpOp)
open Kv
/-- 0 (2) under(0 question, 1 form, 2 part, 3 field, 4 own) -/
def f_under : Fn := ⟨1, 5, [true], [.iff (.e (.cmp .Eq (.idx (.var 0) (.c (.int 0))) (.c (.str [114, 111, 119])))) [.ret (.bi .tuple [.comp (.var 4) (.tup [.nm 3, .nm 4]) .it [.idx (.var 0) (.c (.int 1))] [] [3, 4]])] [], .ret (.bi .tuple [.comp (.var 2) (.tup [.nm 1, .nm 2]) .zip [.idx (.tab 0) (.idx (.var 0) (.c (.int 0))), .sl (.var 0) [.c (.int 1)] []] [.e (.cmp .In (.var 1) (.c (.str [113, 116])))] [1, 2]])]⟩
/-- 1 (3) tables(0 question, 1 found, 2 waiting, 3 part) -/
def f_tables : Fn := ⟨1, 4, [true], [.asg (.nm 1) (.dic [] []), .asg (.nm 2) (.lst [.var 0]), .while (.e (.cmp .NotEq (.var 2) (.lst []))) [.asg (.nm 3) (.bm .pop (.var 2) []), .iff (.e (.cmp .Eq (.idx (.var 3) (.c (.int 0))) (.c (.str [116, 97, 98, 108, 101])))) [.asgI (.var 1) (.idx (.var 3) (.c (.int 1))) (.c (.bl true))] [], .ex (.bm .extend (.var 2) [.bi .list [.call 0 [.var 3]]])], .ret (.bi .sorted [.var 1])]⟩
/-- 2 (5) is_even(0 question, 1 part) -/
def f_is_even : Fn := ⟨1, 2, [true], [.iff (.and [.e (.cmp .In (.idx (.var 0) (.c (.int 0))) (.tup [.c (.str [111, 110, 101]), .c (.str [97, 116])])), .e (.cmp .NotEq (.call 1 [.var 0]) (.lst []))]) [.ret (.c (.bl false))] [], .iff (.and [.e (.cmp .Eq (.idx (.var 0) (.c (.int 0))) (.c (.str [108, 101, 116]))), .e (.cmp .NotEq (.call 1 [.idx (.var 0) (.c (.int 2))]) (.lst []))]) [.ret (.c (.bl false))] [], .ret (.bi .all [.comp (.call 2 [.var 1]) (.nm 1) .it [.call 0 [.var 0]] [] [1]])]⟩
/-- 3 (6) degree(0 question, 1 names, 2 word) -/
def f_degree : Fn := ⟨2, 3, [true, true], [.asg (.nm 2) (.idx (.var 0) (.c (.int 0))), .iff (.e (.cmp .Eq (.var 2) (.c (.str [116, 97, 98, 108, 101])))) [.ret (.bi .int [.cmp .In (.idx (.var 0) (.c (.int 1))) (.var 1)])] [], .iff (.e (.cmp .Eq (.var 2) (.c (.str [98, 111, 116, 104])))) [.ret (.bi .max2 [.call 3 [.idx (.var 0) (.c (.int 1)), .var 1], .call 3 [.idx (.var 0) (.c (.int 2)), .var 1]])] [], .iff (.e (.cmp .In (.var 2) (.tup [.c (.str [116, 105, 109, 101, 115]), .c (.str [119, 104, 101, 110])]))) [.ret (.call 3 [.idx (.var 0) (.c (.int 2)), .var 1])] [], .iff (.e (.cmp .Eq (.var 2) (.c (.str [102, 111, 114])))) [.ret (.bin .Add (.call 3 [.idx (.var 0) (.c (.int 2)), .var 1]) (.call 3 [.idx (.var 0) (.c (.int 3)), .var 1]))] [], .iff (.e (.cmp .Eq (.var 2) (.c (.str [108, 101, 116])))) [.ret (.call 3 [.idx (.var 0) (.c (.int 3)), .var 1])] [], .ret (.c (.int 0))]⟩
/-- 4 (9) _law_seed(0 cell, 1 number) -/
def f_law_seed : Fn := ⟨1, 2, [true], [.asg (.nm 1) (.bi .max2 [.var 0, .bin .Sub (.c (.int 0)) (.var 0)]), .ret (.lst [.var 1, .bi .int [.cmp .GtE (.var 1) (.bin .Pow (.c (.int 10)) (.c (.int 18)))], .c (.int 0), .bin .Mod (.var 0) (.c (.int 1999999943))])]⟩
/-- 5 (10) _law_draw(0 seed, 1 most, 2 found, 3 number) -/
def f_law_draw : Fn := ⟨2, 4, [true, true], [.asgI (.var 0) (.c (.int 2)) (.bin .Add (.idx (.var 0) (.c (.int 2))) (.c (.int 1))), .iff (.and [.e (.cmp .Eq (.idx (.var 0) (.c (.int 1))) (.c (.int 1))), .e (.cmp .Gt (.idx (.var 0) (.c (.int 0))) (.c (.int 0)))]) [.asg (.nm 2) (.bin .Mod (.idx (.var 0) (.c (.int 0))) (.var 1)), .asgI (.var 0) (.c (.int 0)) (.bin .FloorDiv (.idx (.var 0) (.c (.int 0))) (.var 1)), .ret (.var 2)] [], .asg (.nm 3) (.bin .Mod (.bin .Mult (.bin .Add (.bin .Add (.idx (.var 0) (.c (.int 3))) (.bin .Mult (.c (.int 7919)) (.idx (.var 0) (.c (.int 2))))) (.c (.int 1))) (.c (.int 48271))) (.c (.int 2147483647))), .asg (.nm 3) (.bin .Mod (.bin .Mult (.bin .Mod (.bin .Mult (.var 3) (.var 3)) (.c (.int 2147483629))) (.c (.int 40692))) (.c (.int 2147483399))), .ret (.bin .Mod (.bin .FloorDiv (.var 3) (.c (.int 7))) (.var 1))]⟩
/-- 6 (11) _law_key(0 value, 1 part, 2 count, 3 field) -/
def f_law_key : Fn := ⟨1, 4, [true], [.iff (.or [.e (.cmp .Eq (.idx (.var 0) (.c (.int 0))) (.c (.str [110, 117, 109]))), .e (.cmp .Eq (.idx (.var 0) (.c (.int 0))) (.c (.str [119, 111, 114, 100])))]) [.ret (.tup [.me .index (.lst [.c (.str [110, 117, 109]), .c (.str [119, 111, 114, 100])]) [.idx (.var 0) (.c (.int 0))], .idx (.var 0) (.c (.int 1))])] [], .iff (.e (.cmp .Eq (.idx (.var 0) (.c (.int 0))) (.c (.str [114, 111, 119])))) [.ret (.tup [.c (.int 2), .bi .tuple [.comp (.tup [.var 3, .call 6 [.var 1]]) (.tup [.nm 3, .nm 1]) .it [.idx (.var 0) (.c (.int 1))] [] [3, 1]]])] [], .ret (.tup [.c (.int 3), .bi .tuple [.comp (.tup [.call 6 [.var 1], .var 2]) (.tup [.nm 1, .nm 2]) .it [.idx (.var 0) (.c (.int 1))] [] [1, 2]]])]⟩
/-- 7 (12) _law_bag(0 counts, 1 found, 2 key, 3 row, 4 many, 5 pair) -/
def f_law_bag : Fn := ⟨1, 6, [true], [.asg (.nm 1) (.lst []), .forr (.tup [.nm 2, .nm 3, .nm 4]) .it [.bi .sorted [.comp (.bin .Add (.tup [.call 6 [.idx (.var 5) (.c (.int 0))]]) (.var 5)) (.nm 5) .it [.var 0] [] [5]]] [.iff (.and [.e (.cmp .NotEq (.var 1) (.lst [])), .e (.cmp .Eq (.idx (.idx (.var 1) (.neg (.c (.int 1)))) (.c (.int 0))) (.var 3))]) [.asg (.nm 4) (.bin .Add (.var 4) (.idx (.bm .pop (.var 1) []) (.c (.int 1))))] [], .ex (.bm .append (.var 1) [.tup [.var 3, .var 4]])], .ret (.tup [.c (.str [98, 97, 103]), .bi .tuple [.comp (.var 5) (.nm 5) .it [.var 1] [.e (.cmp .NotEq (.idx (.var 5) (.c (.int 1))) (.c (.int 0)))] [5]]])]⟩
/-- 8 (17) _law_value(0 kind, 1 seed, 2 deep, 3 great, 4 counts, 5 k, 6 value, 7 field, 8 part) -/
def f_law_value : Fn := ⟨3, 9, [true, true, true], [.iff (.e (.cmp .Eq (.idx (.var 0) (.c (.int 0))) (.c (.str [110, 117, 109])))) [.asg (.nm 3) (.bin .Mult (.call 5 [.var 1, .bin .Pow (.c (.int 10)) (.c (.int 9))]) (.bin .Pow (.c (.int 10)) (.c (.int 20)))), .ret (.tup [.c (.str [110, 117, 109]), .idx (.lst [.bin .Sub (.call 5 [.var 1, .c (.int 5)]) (.c (.int 2)), .var 3]) (.bi .int [.cmp .Eq (.call 5 [.var 1, .c (.int 9)]) (.c (.int 0))])])] [], .iff (.e (.cmp .Eq (.idx (.var 0) (.c (.int 0))) (.c (.str [119, 111, 114, 100])))) [.ret (.tup [.c (.str [119, 111, 114, 100]), .idx (.lst [.c (.str [97]), .c (.str [114]), .c (.str [97, 98]), .c (.str [100, 116])]) (.call 5 [.var 1, .c (.int 4)])])] [], .iff (.e (.cmp .Eq (.idx (.var 0) (.c (.int 0))) (.c (.str [114, 111, 119])))) [.ret (.tup [.c (.str [114, 111, 119]), .bi .tuple [.comp (.tup [.var 7, .call 8 [.var 8, .var 1, .var 2]]) (.tup [.nm 7, .nm 8]) .it [.idx (.var 0) (.c (.int 1))] [] [7, 8]]])] [], .asg (.nm 4) (.lst []), .forr (.nm 5) .range [.call 5 [.var 1, .bin .Sub (.c (.int 4)) (.var 2)]] [.asg (.nm 6) (.call 8 [.idx (.var 0) (.c (.int 1)), .var 1, .c (.int 1)]), .ex (.bm .append (.var 4) [.tup [.var 6, .idx (.lst [.c (.int 1), .c (.int 2), .neg (.c (.int 1)), .neg (.c (.int 3)), .bin .Sub (.call 5 [.var 1, .bin .Pow (.c (.int 10)) (.c (.int 9))]) (.c (.int 3))]) (.call 5 [.var 1, .c (.int 5)])]])], .ret (.call 7 [.var 4])]⟩
/-- 9 (18) _law_kinds(0 level, 1 deep) -/
def f_law_kinds : Fn := ⟨0, 2, [], [.asg (.nm 0) (.tup [.c (.str [114, 111, 119]), .tup [.tup [.c (.str [98]), .tup [.c (.str [119, 111, 114, 100])]], .tup [.c (.str [114]), .tup [.c (.str [110, 117, 109])]]]]), .asg (.nm 1) (.tup [.c (.str [114, 111, 119]), .tup [.tup [.c (.str [97]), .tup [.c (.str [110, 117, 109])]], .tup [.c (.str [98]), .tup [.c (.str [119, 111, 114, 100])]], .tup [.c (.str [116]), .tup [.c (.str [98, 97, 103]), .tup [.c (.str [110, 117, 109])]]], .tup [.c (.str [122]), .tup [.c (.str [119, 111, 114, 100])]]]]), .ret (.dic [[114], [115], [116], [117], [118]] [.var 0, .var 0, .tup [.c (.str [110, 117, 109])], .var 1, .tup [.c (.str [98, 97, 103]), .tup [.c (.str [119, 111, 114, 100])]]])]⟩
/-- 10 (20) _law_seen(0 scope, 1 found, 2 name, 3 other) -/
def f_law_seen : Fn := ⟨1, 4, [true], [.asg (.nm 1) (.dic [] []), .forr (.tup [.nm 2, .nm 3]) .it [.var 0] [.iff (.e (.cmp .NotIn (.var 2) (.var 1))) [.asgI (.var 1) (.var 2) (.var 3)] []], .ret (.sit (.var 1))]⟩
/-- 11 (21) _law_held(0 kind, 1 scope, 2 ways, 3 name, 4 other, 5 field, 6 part) -/
def f_law_held : Fn := ⟨2, 7, [true, true], [.asg (.nm 2) (.lst []), .forr (.tup [.nm 3, .nm 4]) .it [.call 10 [.var 1]] [.iff (.e (.cmp .Eq (.var 4) (.var 0))) [.ex (.bm .append (.var 2) [.tup [.c (.str [118, 97, 114]), .var 3]])] [], .iff (.e (.cmp .Eq (.idx (.var 4) (.c (.int 0))) (.c (.str [114, 111, 119])))) [.asg (.nm 2) (.bin .Add (.var 2) (.comp (.tup [.c (.str [97, 116]), .var 5, .tup [.c (.str [118, 97, 114]), .var 3]]) (.tup [.nm 5, .nm 6]) .it [.idx (.var 4) (.c (.int 1))] [.e (.cmp .Eq (.var 6) (.var 0))] [5, 6]))] []], .ret (.var 2)]⟩
/-- 12 (22) _law_small(0 kind, 1 scope, 2 fuel, 3 seed, 4 ways, 5 one, 6 field, 7 part) -/
def f_law_small : Fn := ⟨4, 8, [true, true, true, true], [.asg (.nm 4) (.call 11 [.var 0, .var 1]), .iff (.and [.e (.cmp .NotEq (.var 4) (.lst [])), .e (.cmp .Gt (.call 5 [.var 3, .c (.int 4)]) (.c (.int 0)))]) [.ret (.idx (.var 4) (.call 5 [.var 3, .bi .len [.var 4]]))] [], .iff (.e (.cmp .Eq (.idx (.var 0) (.c (.int 0))) (.c (.str [98, 97, 103])))) [.ret (.call 16 [.var 0, .var 1, .bin .Sub (.var 2) (.c (.int 1)), .var 3])] [], .iff (.e (.cmp .Eq (.idx (.var 0) (.c (.int 0))) (.c (.str [114, 111, 119])))) [.ret (.tup [.c (.str [114, 111, 119]), .bi .tuple [.comp (.tup [.var 6, .call 16 [.var 7, .var 1, .bin .Sub (.var 2) (.c (.int 1)), .var 3]]) (.tup [.nm 6, .nm 7]) .it [.idx (.var 0) (.c (.int 1))] [] [6, 7]]])] [], .iff (.and [.e (.cmp .Eq (.idx (.var 0) (.c (.int 0))) (.c (.str [110, 117, 109]))), .e (.cmp .Gt (.var 2) (.c (.int 0))), .e (.cmp .Eq (.call 5 [.var 3, .c (.int 3)]) (.c (.int 0)))]) [.asg (.nm 5) (.call 12 [.var 0, .var 1, .bin .Sub (.var 2) (.c (.int 1)), .var 3]), .ret (.tup [.idx (.lst [.c (.str [97, 100, 100]), .c (.str [109, 117, 108])]) (.call 5 [.var 3, .c (.int 2)]), .var 5, .call 12 [.var 0, .var 1, .bin .Sub (.var 2) (.c (.int 1)), .var 3]])] [], .ret (.call 8 [.var 0, .var 3, .c (.int 1)])]⟩
/-- 13 (23) _law_claim(0 scope, 1 fuel, 2 seed, 3 way, 4 one, 5 kind, 6 word) -/
def f_law_claim : Fn := ⟨3, 7, [true, true, true], [.asg (.nm 3) (.call 5 [.var 2, .c (.int 6)]), .iff (.and [.e (.cmp .Gt (.var 1) (.c (.int 0))), .e (.cmp .Eq (.var 3) (.c (.int 0)))]) [.ret (.tup [.c (.str [110, 111, 116]), .call 13 [.var 0, .bin .Sub (.var 1) (.c (.int 1)), .var 2]])] [], .iff (.and [.e (.cmp .Gt (.var 1) (.c (.int 0))), .e (.cmp .Eq (.var 3) (.c (.int 1)))]) [.asg (.nm 4) (.call 13 [.var 0, .bin .Sub (.var 1) (.c (.int 1)), .var 2]), .ret (.tup [.idx (.lst [.c (.str [97, 110, 100]), .c (.str [111, 114])]) (.call 5 [.var 2, .c (.int 2)]), .var 4, .call 13 [.var 0, .bin .Sub (.var 1) (.c (.int 1)), .var 2]])] [], .asg (.nm 5) (.idx (.lst [.tup [.c (.str [110, 117, 109])], .tup [.c (.str [110, 117, 109])], .tup [.c (.str [119, 111, 114, 100])]]) (.call 5 [.var 2, .c (.int 3)])), .asg (.nm 4) (.call 12 [.var 5, .var 0, .c (.int 0), .var 2]), .iff (.and [.e (.cmp .Eq (.var 5) (.tup [.c (.str [110, 117, 109])])), .e (.cmp .Eq (.call 5 [.var 2, .c (.int 8)]) (.c (.int 0)))]) [.asg (.nm 4) (.idx (.lst [.tup [.c (.str [97, 116]), .c (.str [97]), .tup [.c (.str [114, 111, 119]), .tup [.tup [.c (.str [97]), .var 4], .tup [.c (.str [98]), .tup [.c (.str [116, 97, 98, 108, 101]), .c (.str [116])]]]]], .tup [.c (.str [108, 101, 116]), .c (.str [119]), .tup [.c (.str [116, 97, 98, 108, 101]), .c (.str [117])], .var 4]]) (.bin .Mod (.var 3) (.c (.int 2))))] [], .asg (.nm 6) (.idx (.lst [.c (.str [115, 97, 109, 101]), .c (.str [117, 110, 100, 101, 114])]) (.bi .int [.and [.cmp .Eq (.var 5) (.tup [.c (.str [110, 117, 109])]), .cmp .Gt (.var 3) (.c (.int 3))]])), .ret (.tup [.var 6, .var 4, .call 12 [.var 5, .var 0, .c (.int 0), .var 2]])]⟩
/-- 14 (24) _law_over(0 scope, 1 fuel, 2 seed, 3 kinds, 4 name, 5 kind, 6 inner, 7 spare, 8 other) -/
def f_law_over : Fn := ⟨3, 9, [true, true, true], [.asg (.nm 3) (.call 9 []), .asg (.nm 4) (.idx (.lst [.c (.str [114]), .c (.str [115]), .c (.str [116]), .c (.str [117]), .c (.str [118])]) (.call 5 [.var 2, .c (.int 5)])), .asg (.nm 5) (.tup [.c (.str [98, 97, 103]), .idx (.var 3) (.var 4)]), .asg (.nm 6) (.comp (.tup [.tup [.c (.str [118, 97, 114]), .var 7], .var 8]) (.tup [.nm 7, .nm 8]) .it [.call 10 [.var 0]] [.e (.cmp .Eq (.idx (.var 8) (.c (.int 0))) (.c (.str [98, 97, 103])))] [7, 8]), .forr (.tup [.nm 7, .nm 8]) .it [.call 10 [.var 0]] [.iff (.e (.cmp .Eq (.var 8) (.idx (.var 3) (.c (.str [117]))))) [.ex (.bm .append (.var 6) [.tup [.tup [.c (.str [97, 116]), .c (.str [116]), .tup [.c (.str [118, 97, 114]), .var 7]], .tup [.c (.str [98, 97, 103]), .tup [.c (.str [110, 117, 109])]]]])] []], .iff (.and [.e (.cmp .NotEq (.var 6) (.lst [])), .e (.cmp .Eq (.call 5 [.var 2, .c (.int 3)]) (.c (.int 0)))]) [.ret (.idx (.var 6) (.call 5 [.var 2, .bi .len [.var 6]]))] [], .iff (.and [.e (.cmp .Gt (.var 1) (.c (.int 0))), .e (.cmp .Eq (.call 5 [.var 2, .c (.int 4)]) (.c (.int 0)))]) [.ret (.tup [.call 16 [.var 5, .var 0, .bin .Sub (.var 1) (.c (.int 1)), .var 2], .var 5])] [], .ret (.tup [.tup [.c (.str [116, 97, 98, 108, 101]), .var 4], .var 5])]⟩
/-- 15 (25) _law_taken(0 kind, 1 scope, 2 fuel, 3 seed, 4 fields, 5 place, 6 parts, 7 field) -/
def f_law_taken : Fn := ⟨4, 8, [true, true, true, true], [.asg (.nm 4) (.sl (.lst [.c (.str [97]), .c (.str [99]), .c (.str [116]), .c (.str [117]), .c (.str [119])]) [] [.bin .Add (.c (.int 1)) (.call 5 [.var 3, .c (.int 5)])]), .asg (.nm 5) (.call 5 [.var 3, .bi .len [.var 4]]), .asg (.nm 6) (.comp (.tup [.var 7, .tup [.c (.str [110, 117, 109]), .c (.int 1)]]) (.nm 7) .it [.var 4] [] [7]), .asgI (.var 6) (.var 5) (.tup [.idx (.var 4) (.var 5), .call 16 [.var 0, .var 1, .bin .Sub (.var 2) (.c (.int 1)), .var 3]]), .ret (.tup [.c (.str [97, 116]), .idx (.var 4) (.var 5), .tup [.c (.str [114, 111, 119]), .bi .tuple [.var 6]]])]⟩
/-- 16 (26) _law_asked(0 kind, 1 scope, 2 fuel, 3 seed, 4 named, 5 ways, 6 way, 7 name, 8 other, 9 bound, 10 over) -/
def f_law_asked : Fn := ⟨4, 11, [true, true, true, true], [.iff (.e (.cmp .NotEq (.idx (.var 0) (.c (.int 0))) (.c (.str [98, 97, 103])))) [.ret (.call 12 [.var 0, .var 1, .var 2, .var 3])] [], .asg (.nm 4) (.comp (.tup [.c (.str [116, 97, 98, 108, 101]), .var 7]) (.tup [.nm 7, .nm 8]) .it [.sit (.call 9 [])] [.e (.cmp .Eq (.tup [.c (.str [98, 97, 103]), .var 8]) (.var 0))] [7, 8]), .asg (.nm 5) (.bin .Add (.bin .Add (.call 11 [.var 0, .var 1]) (.var 4)) (.var 4)), .asg (.nm 6) (.call 5 [.var 3, .c (.int 12)]), .iff (.or [.e (.cmp .LtE (.var 2) (.c (.int 0))), .e (.cmp .Lt (.var 6) (.c (.int 2)))]) [.iff (.and [.e (.cmp .Eq (.var 5) (.lst [])), .e (.cmp .Eq (.call 5 [.var 3, .c (.int 2)]) (.c (.int 0)))]) [.ret (.tup [.c (.str [111, 110, 101]), .call 12 [.idx (.var 0) (.c (.int 1)), .var 1, .c (.int 0), .var 3]])] [], .iff (.e (.cmp .Eq (.var 5) (.lst []))) [.ret (.tup [.c (.str [110, 111, 110, 101]), .idx (.var 0) (.c (.int 1))])] [], .ret (.idx (.var 5) (.call 5 [.var 3, .bi .len [.var 5]]))] [], .iff (.e (.cmp .Eq (.var 6) (.c (.int 2)))) [.ret (.tup [.c (.str [98, 111, 116, 104]), .call 16 [.var 0, .var 1, .bin .Sub (.var 2) (.c (.int 1)), .var 3], .call 16 [.var 0, .var 1, .bin .Sub (.var 2) (.c (.int 1)), .var 3]])] [], .iff (.e (.cmp .Eq (.var 6) (.c (.int 3)))) [.ret (.tup [.c (.str [116, 105, 109, 101, 115]), .bin .Sub (.call 5 [.var 3, .c (.int 7)]) (.c (.int 3)), .call 16 [.var 0, .var 1, .bin .Sub (.var 2) (.c (.int 1)), .var 3]])] [], .iff (.e (.cmp .Eq (.var 6) (.c (.int 4)))) [.ret (.tup [.c (.str [119, 104, 101, 110]), .call 13 [.var 1, .c (.int 1), .var 3], .call 16 [.var 0, .var 1, .bin .Sub (.var 2) (.c (.int 1)), .var 3]])] [], .iff (.e (.cmp .Eq (.var 6) (.c (.int 5)))) [.ret (.tup [.c (.str [111, 110, 101]), .call 12 [.idx (.var 0) (.c (.int 1)), .var 1, .bin .Sub (.var 2) (.c (.int 1)), .var 3]])] [], .iff (.e (.cmp .Eq (.var 6) (.c (.int 7)))) [.ret (.call 15 [.var 0, .var 1, .var 2, .var 3])] [], .iff (.and [.e (.cmp .Eq (.var 6) (.c (.int 8))), .e (.cmp .Eq (.call 5 [.var 3, .c (.int 2)]) (.c (.int 0)))]) [.ret (.tup [.c (.str [110, 111, 110, 101]), .idx (.var 0) (.c (.int 1))])] [], .asg (.nm 7) (.idx (.lst [.c (.str [116]), .c (.str [115]), .c (.str [122])]) (.call 5 [.var 3, .c (.int 3)])), .iff (.e (.cmp .Eq (.var 6) (.c (.int 6)))) [.asg (.nm 8) (.idx (.lst [.tup [.c (.str [110, 117, 109])], .tup [.c (.str [98, 97, 103]), .tup [.c (.str [110, 117, 109])]]]) (.call 5 [.var 3, .c (.int 2)])), .asg (.nm 9) (.call 16 [.var 8, .var 1, .bin .Sub (.var 2) (.c (.int 2)), .var 3]), .ret (.tup [.c (.str [108, 101, 116]), .var 7, .var 9, .call 16 [.var 0, .bin .Add (.lst [.tup [.var 7, .var 8]]) (.var 1), .bin .Sub (.var 2) (.c (.int 1)), .var 3]])] [], .asg (.tup [.nm 10, .nm 8]) (.call 14 [.var 1, .bin .Sub (.var 2) (.c (.int 1)), .var 3]), .ret (.tup [.c (.str [102, 111, 114]), .var 7, .var 10, .call 16 [.var 0, .bin .Add (.lst [.tup [.var 7, .idx (.var 8) (.c (.int 1))]]) (.var 1), .bin .Sub (.var 2) (.c (.int 1)), .var 3]])]⟩
/-- 17 (31) _law_names(0 seed, 1 mark, 2 names, 3 name) -/
def f_law_names : Fn := ⟨2, 4, [true, true], [.asg (.nm 2) (.dic [] []), .forr (.nm 3) .it [.lst [.c (.str [114]), .c (.str [115]), .c (.str [116]), .c (.str [117]), .c (.str [118])]] [.iff (.e (.cmp .Gt (.call 5 [.var 0, .c (.int 4)]) (.c (.int 0)))) [.asgI (.var 2) (.var 3) (.bin .Add (.var 1) (.var 3))] []], .ret (.var 2)]⟩
/-- 18 (32) _law_question(0 seed, 1 kinds, 2 kind) -/
def f_law_question : Fn := ⟨1, 3, [true], [.asg (.nm 1) (.call 9 []), .asg (.nm 2) (.tup [.c (.str [98, 97, 103]), .idx (.var 1) (.idx (.lst [.c (.str [114]), .c (.str [116]), .c (.str [117]), .c (.str [118])]) (.call 5 [.var 0, .c (.int 4)]))]), .ret (.call 16 [.var 2, .lst [], .bin .Add (.c (.int 2)) (.call 5 [.var 0, .c (.int 2)]), .var 0])]⟩
/-- 19 (33) _law_has(0 asked, 1 part) -/
def f_law_has : Fn := ⟨1, 2, [true], [.iff (.not (.e (.isi .tuple (.var 0)))) [.ret (.c (.bl false))] [], .iff (.and [.e (.cmp .Eq (.bi .len [.var 0]) (.c (.int 2))), .e (.cmp .Eq (.idx (.var 0) (.c (.int 0))) (.c (.str [116, 97, 98, 108, 101])))]) [.ret (.c (.bl true))] [], .ret (.cmp .NotEq (.comp (.var 1) (.nm 1) .it [.var 0] [.e (.call 19 [.var 1])] [1]) (.lst []))]⟩
/-- 20 (34) _law_even(0 asked, 1 part) -/
def f_law_even : Fn := ⟨1, 2, [true], [.iff (.not (.e (.isi .tuple (.var 0)))) [.ret (.c (.bl true))] [], .iff (.and [.e (.cmp .Gt (.bi .len [.var 0]) (.c (.int 1))), .e (.cmp .In (.idx (.var 0) (.c (.int 0))) (.tup [.c (.str [111, 110, 101]), .c (.str [97, 116])])), .e (.call 19 [.var 0])]) [.ret (.c (.bl false))] [], .iff (.and [.e (.cmp .Eq (.bi .len [.var 0]) (.c (.int 4))), .e (.cmp .Eq (.idx (.var 0) (.c (.int 0))) (.c (.str [108, 101, 116]))), .e (.call 19 [.idx (.var 0) (.c (.int 2))])]) [.ret (.c (.bl false))] [], .ret (.cmp .Eq (.comp (.var 1) (.nm 1) .it [.var 0] [.not (.e (.call 20 [.var 1]))] [1]) (.lst []))]⟩
/-- 21 (35) _law_degree(0 asked, 1 names, 2 word) -/
def f_law_degree : Fn := ⟨2, 3, [true, true], [.asg (.nm 2) (.idx (.var 0) (.c (.int 0))), .iff (.e (.cmp .Eq (.var 2) (.c (.str [116, 97, 98, 108, 101])))) [.ret (.bi .int [.cmp .In (.idx (.var 0) (.c (.int 1))) (.var 1)])] [], .iff (.e (.cmp .Eq (.var 2) (.c (.str [98, 111, 116, 104])))) [.ret (.bi .max2 [.call 21 [.idx (.var 0) (.c (.int 1)), .var 1], .call 21 [.idx (.var 0) (.c (.int 2)), .var 1]])] [], .iff (.e (.cmp .In (.var 2) (.tup [.c (.str [116, 105, 109, 101, 115]), .c (.str [119, 104, 101, 110])]))) [.ret (.call 21 [.idx (.var 0) (.c (.int 2)), .var 1])] [], .iff (.e (.cmp .Eq (.var 2) (.c (.str [108, 101, 116])))) [.ret (.call 21 [.idx (.var 0) (.c (.int 3)), .var 1])] [], .iff (.e (.cmp .Eq (.var 2) (.c (.str [102, 111, 114])))) [.ret (.bin .Add (.call 21 [.idx (.var 0) (.c (.int 2)), .var 1]) (.call 21 [.idx (.var 0) (.c (.int 3)), .var 1]))] [], .ret (.c (.int 0))]⟩
/-- 22 (36) law(0 script, 1 cell, 2 seed, 3 asked, 4 names, 5 even, 6 found) -/
def f_law : Fn := ⟨1, 7, [true], [.forr (.nm 1) .it [.bin .Add (.sl (.var 0) [] [.c (.int 16)]) (.lst [.bi .len [.var 0]])] [.asg (.nm 2) (.call 4 [.var 1]), .asg (.nm 3) (.call 18 [.var 2]), .asg (.nm 4) (.bi .sorted [.call 17 [.var 2, .c (.str [100])]]), .asg (.nm 5) (.call 2 [.var 3]), .iff (.or [.not (.e (.isi .bool (.var 5))), .e (.cmp .NotEq (.var 5) (.call 20 [.var 3]))]) [.ret (.c (.bl false))] [], .iff (.e (.var 5)) [.asg (.nm 6) (.call 3 [.var 3, .var 4]), .iff (.or [.not (.e (.isi .int (.var 6))), .e (.isi .bool (.var 6)), .e (.cmp .NotEq (.var 6) (.call 21 [.var 3, .var 4]))]) [.ret (.c (.bl false))] []] []], .ret (.c (.bl true))]⟩
def fns : List Fn := [f_under, f_tables, f_is_even, f_degree, f_law_seed, f_law_draw, f_law_key, f_law_bag, f_law_value, f_law_kinds, f_law_seen, f_law_held, f_law_small, f_law_claim, f_law_over, f_law_taken, f_law_asked, f_law_names, f_law_question, f_law_has, f_law_even, f_law_degree, f_law]
def tabs : List SV := [.own (.tdic [(.str [110, 117, 109], .str [110]), (.str [119, 111, 114, 100], .str [119]), (.str [118, 97, 114], .str [119]), (.str [116, 97, 98, 108, 101], .str [119]), (.str [114, 111, 119], .str [114]), (.str [97, 116], .str [119, 113]), (.str [97, 100, 100], .str [113, 113]), (.str [109, 117, 108], .str [113, 113]), (.str [110, 111, 110, 101], .str [107]), (.str [111, 110, 101], .str [113]), (.str [98, 111, 116, 104], .str [113, 113]), (.str [116, 105, 109, 101, 115], .str [110, 113]), (.str [102, 111, 114], .str [119, 113, 113]), (.str [119, 104, 101, 110], .str [116, 113]), (.str [108, 101, 116], .str [119, 113, 113]), (.str [115, 97, 109, 101], .str [113, 113]), (.str [117, 110, 100, 101, 114], .str [113, 113]), (.str [97, 110, 100], .str [116, 116]), (.str [111, 114], .str [116, 116]), (.str [110, 111, 116], .str [116])])]
end K30

namespace K30
open Kv
/-! questions of any words -/
def nmTx (t : Tx) : Bool := decide (t.length ≤ 12) && t.all fun c => decide (c < 128)
mutual
inductive Kd where
  | num | word | row (fs : Kfs) | bag (k : Kd)
inductive Kfs where
  | nil | cons (f : Tx) (k : Kd) (r : Kfs)
end
mutual
def Kd.pv : Kd → PV
  | .num => .tup [.str [110, 117, 109]]
  | .word => .tup [.str [119, 111, 114, 100]]
  | .row fs => .tup [.str [114, 111, 119], .tup fs.pvs]
  | .bag k => .tup [.str [98, 97, 103], k.pv]
def Kfs.pvs : Kfs → List PV
  | .nil => []
  | .cons f k r => .tup [.str f, k.pv] :: r.pvs
end
mutual
def Kd.depth : Kd → Nat
  | .num => 0
  | .word => 0
  | .row fs => fs.depth + 1
  | .bag k => k.depth + 1
def Kfs.depth : Kfs → Nat
  | .nil => 0
  | .cons _ k r => max k.depth r.depth
end
def Kfs.len : Kfs → Nat
  | .nil => 0
  | .cons _ _ r => r.len + 1
mutual
def Kd.good : Kd → Bool
  | .num => true
  | .word => true
  | .row fs => fs.good && decide (fs.len ≤ 14)
  | .bag k => k.good
def Kfs.good : Kfs → Bool
  | .nil => true
  | .cons f k r => nmTx f && k.good && r.good
end
mutual
/-- a kind's words -/
def Kd.wd : Kd → List Tx
  | .num => [[110, 117, 109]]
  | .word => [[119, 111, 114, 100]]
  | .row fs => [114, 111, 119] :: intTx (fs.len : Nat) :: fs.wd
  | .bag k => [98, 97, 103] :: k.wd
def Kfs.wd : Kfs → List Tx
  | .nil => []
  | .cons f k r => f :: (k.wd ++ r.wd)
end
inductive Pre where
  | no | int (i : Int) | tx (t : Tx) | kd (k : Kd)
def Pre.pvs : Pre → List PV
  | .no => []
  | .int i => [.int i]
  | .tx t => [.str t]
  | .kd k => [k.pv]
def Pre.wd : Pre → List Tx
  | .no => []
  | .int i => [intTx i]
  | .tx t => [t]
  | .kd k => k.wd
def Pre.good : Pre → Bool
  | .no => true
  | .int i => decide (i.natAbs ≤ 10000000000000000000000000000000)
  | .tx t => nmTx t
  | .kd k => k.good && decide (k.depth ≤ 8)
/-- its letter -/
def Pre.code : Pre → Nat
  | .no => 0
  | .int _ => 110
  | .tx _ => 119
  | .kd _ => 107
mutual
inductive Qn where
  | nd (w : Tx) (p : Pre) (kids : Qs) | row (fs : Qfs)
inductive Qs where
  | nil | cons (q : Qn) (r : Qs)
inductive Qfs where
  | nil | cons (f : Tx) (q : Qn) (r : Qfs)
end
mutual
def Qn.pv : Qn → PV
  | .nd w p kids => .tup (.str w :: (p.pvs ++ kids.pvs))
  | .row fs => .tup [.str [114, 111, 119], .tup fs.pvs]
def Qs.pvs : Qs → List PV
  | .nil => []
  | .cons q r => q.pv :: r.pvs
def Qfs.pvs : Qfs → List PV
  | .nil => []
  | .cons f q r => .tup [.str f, q.pv] :: r.pvs
end
def Qs.len : Qs → Nat
  | .nil => 0
  | .cons _ r => r.len + 1
def Qfs.len : Qfs → Nat
  | .nil => 0
  | .cons _ _ r => r.len + 1
mutual
/-- a question's words -/
def Qn.wd : Qn → List Tx
  | .nd w p kids => w :: (p.wd ++ kids.wd)
  | .row fs => [114, 111, 119] :: intTx (fs.len : Nat) :: fs.wd
def Qs.wd : Qs → List Tx
  | .nil => []
  | .cons q r => q.wd ++ r.wd
def Qfs.wd : Qfs → List Tx
  | .nil => []
  | .cons f q r => f :: (q.wd ++ r.wd)
end
/-- a word, its part's letter, how many questions -/
def shapes : List (Tx × Nat × Nat) := [([110, 117, 109], 110, 0), ([119, 111, 114, 100], 119, 0), ([118, 97, 114], 119, 0), ([116, 97, 98, 108, 101], 119, 0), ([110, 111, 110, 101], 107, 0), ([97, 116], 119, 1), ([116, 105, 109, 101, 115], 110, 1), ([102, 111, 114], 119, 2), ([108, 101, 116], 119, 2), ([97, 100, 100], 0, 2), ([109, 117, 108], 0, 2), ([111, 110, 101], 0, 1), ([98, 111, 116, 104], 0, 2), ([119, 104, 101, 110], 0, 2), ([115, 97, 109, 101], 0, 2), ([117, 110, 100, 101, 114], 0, 2), ([97, 110, 100], 0, 2), ([111, 114], 0, 2), ([110, 111, 116], 0, 1)]
mutual
def Qn.good : Qn → Bool
  | .nd w p kids => decide ((w, p.code, kids.len) ∈ shapes) && p.good && kids.good
  | .row fs => fs.good && decide (fs.len ≤ 14)
def Qs.good : Qs → Bool
  | .nil => true
  | .cons q r => q.good && r.good
def Qfs.good : Qfs → Bool
  | .nil => true
  | .cons f q r => nmTx f && q.good && r.good
end
mutual
def Qn.depth : Qn → Nat
  | .nd _ _ kids => kids.depth + 1
  | .row fs => fs.depth + 1
def Qs.depth : Qs → Nat
  | .nil => 0
  | .cons q r => max q.depth r.depth
def Qfs.depth : Qfs → Nat
  | .nil => 0
  | .cons _ q r => max q.depth r.depth
end
/-! lists of these -/
def Kfs.l : Kfs → TD Kd
  | .nil => []
  | .cons f k r => (f, k) :: r.l
def Kfs.ofL : TD Kd → Kfs
  | [] => .nil
  | p :: r => .cons p.1 p.2 (Kfs.ofL r)
def Qs.l : Qs → List Qn
  | .nil => []
  | .cons q r => q :: r.l
def Qfs.fl : Qfs → TD Qn
  | .nil => []
  | .cons f q r => (f, q) :: r.fl
def Qfs.ofL : TD Qn → Qfs
  | [] => .nil
  | p :: r => .cons p.1 p.2 (Qfs.ofL r)
abbrev kfPv (p : Tx × Kd) : PV := .tup [.str p.1, p.2.pv]
abbrev qfPv (p : Tx × Qn) : PV := .tup [.str p.1, p.2.pv]
theorem Kfs.pvs_l : ∀ fs : Kfs, fs.pvs = fs.l.map kfPv
  | .nil => rfl
  | .cons f k r => congrArg (PV.tup [.str f, k.pv] :: ·) r.pvs_l
theorem Kfs.l_len : ∀ fs : Kfs, fs.l.length = fs.len
  | .nil => rfl
  | .cons _ _ r => congrArg (· + 1) r.l_len
theorem Kfs.of_pvs : ∀ l : TD Kd, (Kfs.ofL l).pvs = l.map kfPv
  | [] => rfl
  | p :: r => congrArg (kfPv p :: ·) (Kfs.of_pvs r)
theorem Kfs.of_len : ∀ l : TD Kd, (Kfs.ofL l).len = l.length
  | [] => rfl
  | _ :: r => congrArg (· + 1) (Kfs.of_len r)
theorem Kfs.of_good : ∀ {l : TD Kd}, (∀ p ∈ l, nmTx p.1 = true ∧ p.2.good = true) → (Kfs.ofL l).good = true
  | [], _ => rfl
  | p :: r, h => by
    obtain ⟨a, b⟩ := h p List.mem_cons_self
    show (nmTx p.1 && p.2.good && (Kfs.ofL r).good) = true
    rw [a, b, Kfs.of_good fun q m => h q (List.mem_cons_of_mem _ m)]; rfl
theorem Kfs.of_dep {d : Nat} : ∀ {l : TD Kd}, (∀ p ∈ l, p.2.depth ≤ d) → (Kfs.ofL l).depth ≤ d
  | [], _ => Nat.zero_le _
  | p :: r, h => by
    have a := h p List.mem_cons_self
    have b := Kfs.of_dep fun q m => h q (List.mem_cons_of_mem _ m)
    show max p.2.depth (Kfs.ofL r).depth ≤ d
    omega
theorem Kfs.of_wd {b : Nat} : ∀ {l : TD Kd}, (∀ p ∈ l, p.2.wd.length ≤ b) → (Kfs.ofL l).wd.length ≤ l.length * (b + 1)
  | [], _ => Nat.zero_le _
  | p :: r, h => by
    have a := h p List.mem_cons_self
    have c := Kfs.of_wd fun q m => h q (List.mem_cons_of_mem _ m)
    show (p.1 :: (p.2.wd ++ (Kfs.ofL r).wd)).length ≤ _
    rw [List.length_cons, List.length_append, List.length_cons, Nat.succ_mul]
    omega
theorem Qs.pvs_l : ∀ qs : Qs, qs.pvs = qs.l.map Qn.pv
  | .nil => rfl
  | .cons q r => congrArg (q.pv :: ·) r.pvs_l
theorem Qs.l_len : ∀ qs : Qs, qs.l.length = qs.len
  | .nil => rfl
  | .cons _ r => congrArg (· + 1) r.l_len
theorem Qs.wd_l : ∀ qs : Qs, qs.wd = qs.l.flatMap Qn.wd
  | .nil => rfl
  | .cons q r => by
    show q.wd ++ r.wd = (q :: r.l).flatMap Qn.wd
    rw [List.flatMap_cons, r.wd_l]
theorem Qfs.pvs_fl : ∀ qs : Qfs, qs.pvs = qs.fl.map qfPv
  | .nil => rfl
  | .cons f q r => congrArg (PV.tup [.str f, q.pv] :: ·) r.pvs_fl
theorem Qfs.fl_len : ∀ qs : Qfs, qs.fl.length = qs.len
  | .nil => rfl
  | .cons _ _ r => congrArg (· + 1) r.fl_len
theorem Qfs.of_pvs : ∀ l : TD Qn, (Qfs.ofL l).pvs = l.map qfPv
  | [] => rfl
  | p :: r => congrArg (qfPv p :: ·) (Qfs.of_pvs r)
theorem Qfs.of_len : ∀ l : TD Qn, (Qfs.ofL l).len = l.length
  | [] => rfl
  | _ :: r => congrArg (· + 1) (Qfs.of_len r)
theorem Qfs.of_good : ∀ {l : TD Qn}, (∀ p ∈ l, nmTx p.1 = true ∧ p.2.good = true) → (Qfs.ofL l).good = true
  | [], _ => rfl
  | p :: r, h => by
    obtain ⟨a, b⟩ := h p List.mem_cons_self
    show (nmTx p.1 && p.2.good && (Qfs.ofL r).good) = true
    rw [a, b, Qfs.of_good fun q m => h q (List.mem_cons_of_mem _ m)]; rfl
theorem Qfs.of_dep {d : Nat} : ∀ {l : TD Qn}, (∀ p ∈ l, p.2.depth ≤ d) → (Qfs.ofL l).depth ≤ d
  | [], _ => Nat.zero_le _
  | p :: r, h => by
    have a := h p List.mem_cons_self
    have b := Qfs.of_dep fun q m => h q (List.mem_cons_of_mem _ m)
    show max p.2.depth (Qfs.ofL r).depth ≤ d
    omega
/-- how many words, all fields' -/
def fwl (l : TD Qn) : Nat := (l.map fun p => p.2.wd.length + 1).sum
theorem Qfs.of_wd : ∀ {l : TD Qn}, (Qfs.ofL l).wd.length = fwl l
  | [] => rfl
  | p :: r => by
    show (p.1 :: (p.2.wd ++ (Qfs.ofL r).wd)).length = (p.2.wd.length + 1) + fwl r
    rw [List.length_cons, List.length_append, Qfs.of_wd]
    omega
theorem fwl_snoc {l : TD Qn} {p : Tx × Qn} : fwl (l ++ [p]) = fwl l + (p.2.wd.length + 1) := by
  unfold fwl
  rw [List.map_append, List.sum_append]; rfl
theorem kd_cn (k : Kd) (s : Kv.St) : cont (.val (.pv k.pv)) s = some (.pv k.pv) := by cases k <;> rfl
theorem q_cn (q : Qn) (s : Kv.St) : cont (.val (.pv q.pv)) s = some (.pv q.pv) := by cases q <;> rfl
end K30

set_option Elab.async false
set_option linter.all false
set_option maxRecDepth 100000
namespace K30
open Kv
/-! the questions as data -/
theorem dats_app : ∀ {a b : List PV}, PV.plains (a ++ b) = (PV.plains a && PV.plains b)
  | [], _ => rfl
  | x :: r, b => by
    show (PV.plain x && PV.plains (r ++ b)) = ((PV.plain x && PV.plains r) && PV.plains b)
    rw [dats_app, Bool.and_assoc]
theorem depths_app : ∀ {a b : List PV}, PV.depths (a ++ b) = max (PV.depths a) (PV.depths b)
  | [], _ => (Nat.zero_max _).symm
  | x :: r, b => by
    show max x.depth (PV.depths (r ++ b)) = max (max x.depth (PV.depths r)) (PV.depths b)
    rw [depths_app, Nat.max_assoc]
theorem nm_dat {t : Tx} (h : nmTx t = true) : PV.plain (.str t) = true := by
  unfold nmTx at h
  rw [Bool.and_eq_true, List.all_eq_true] at h
  show (t.all fun c => decide (c < 1114112)) = true
  rw [List.all_eq_true]
  intro c m
  have := of_decide_eq_true (h.2 c m)
  exact decide_eq_true (by omega)
theorem tup_dat {xs : List PV} (h : PV.plains xs = true) (hl : xs.length ≤ 1000) : PV.plain (.tup xs) = true := by
  exact h
theorem two_dat {a b : PV} (ha : PV.plain a = true) (hb : PV.plain b = true) : PV.plain (.tup [a, b]) = true := by
  refine tup_dat ?_ (by show 2 ≤ 1000; omega)
  show (PV.plain a && (PV.plain b && true)) = true
  rw [ha, hb]; rfl
mutual
theorem Kd.dd : ∀ {K : Kd}, K.good = true → PV.plain K.pv = true ∧ K.pv.depth ≤ 3 * K.depth + 1
  | .num, _ => ⟨by decide, by decide⟩
  | .word, _ => ⟨by decide, by decide⟩
  | .bag k, h => by
    obtain ⟨a, b⟩ := Kd.dd (K := k) h
    refine ⟨two_dat (by decide) a, ?_⟩
    show max 0 (max k.pv.depth 0) + 1 ≤ 3 * (k.depth + 1) + 1
    omega
  | .row fs, h => by
    have h' : (fs.good && decide (fs.len ≤ 14)) = true := h
    rw [Bool.and_eq_true, decide_eq_true_eq] at h'
    obtain ⟨a, b⟩ := Kfs.dd h'.1
    have l : fs.pvs.length ≤ 14 := by rw [fs.pvs_l, List.length_map, fs.l_len]; exact h'.2
    refine ⟨two_dat (by decide) (tup_dat a (by omega)), ?_⟩
    show max 0 (max (PV.depths fs.pvs + 1) 0) + 1 ≤ 3 * (fs.depth + 1) + 1
    omega
theorem Kfs.dd : ∀ {fs : Kfs}, fs.good = true → PV.plains fs.pvs = true ∧ PV.depths fs.pvs ≤ 3 * fs.depth + 2
  | .nil, _ => ⟨rfl, Nat.zero_le _⟩
  | .cons f k r, h => by
    have h' : (nmTx f && k.good && r.good) = true := h
    simp only [Bool.and_eq_true] at h'
    obtain ⟨a, b⟩ := Kd.dd h'.1.2
    obtain ⟨c, d⟩ := Kfs.dd h'.2
    refine ⟨?_, ?_⟩
    · show (PV.plain (.tup [.str f, k.pv]) && PV.plains r.pvs) = true
      rw [two_dat (nm_dat h'.1.1) a, c]; rfl
    · show max (max 0 (max k.pv.depth 0) + 1) (PV.depths r.pvs) ≤ 3 * max k.depth r.depth + 2
      omega
end
theorem pre_dd {p : Pre} (h : p.good = true) : PV.plains p.pvs = true ∧ PV.depths p.pvs ≤ 25 ∧ p.pvs.length ≤ 1 := by
  cases p with
  | no => exact ⟨rfl, Nat.zero_le _, Nat.zero_le _⟩
  | int i => exact ⟨rfl, Nat.zero_le _, Nat.le_refl _⟩
  | tx t =>
    refine ⟨?_, Nat.zero_le _, Nat.le_refl _⟩
    show (PV.plain (.str t) && true) = true
    rw [nm_dat h]; rfl
  | kd k =>
    have h' : (k.good && decide (k.depth ≤ 8)) = true := h
    rw [Bool.and_eq_true, decide_eq_true_eq] at h'
    obtain ⟨a, b⟩ := Kd.dd h'.1
    refine ⟨?_, ?_, Nat.le_refl _⟩
    · show (PV.plain k.pv && true) = true
      rw [a]; rfl
    · show max k.pv.depth 0 ≤ 25
      omega
theorem shape_dat : ∀ s ∈ shapes, PV.plain (.str s.1) = true ∧ s.2.2 ≤ 14 := by decide
mutual
theorem Qn.dd : ∀ {Q : Qn}, Q.good = true → PV.plain Q.pv = true ∧ Q.pv.depth ≤ 3 * Q.depth + 26
  | .nd w p ks, h => by
    have h' : (decide ((w, p.code, ks.len) ∈ shapes) && p.good && ks.good) = true := h
    simp only [Bool.and_eq_true, decide_eq_true_eq] at h'
    obtain ⟨a1, a2, a3⟩ := pre_dd h'.1.2
    obtain ⟨b1, b2⟩ := Qs.dd h'.2
    obtain ⟨c1, c2⟩ := shape_dat _ h'.1.1
    have l : ks.pvs.length ≤ 14 := by rw [ks.pvs_l, List.length_map, ks.l_len]; exact c2
    refine ⟨tup_dat ?_ ?_, ?_⟩
    · show (PV.plain (.str w) && PV.plains (p.pvs ++ ks.pvs)) = true
      rw [dats_app, c1, a1, b1]; rfl
    · rw [List.length_cons, List.length_append]; omega
    · show max 0 (PV.depths (p.pvs ++ ks.pvs)) + 1 ≤ 3 * (ks.depth + 1) + 26
      rw [depths_app]; omega
  | .row fs, h => by
    have h' : (fs.good && decide (fs.len ≤ 14)) = true := h
    rw [Bool.and_eq_true, decide_eq_true_eq] at h'
    obtain ⟨a, b⟩ := Qfs.dd h'.1
    have l : fs.pvs.length ≤ 14 := by rw [fs.pvs_fl, List.length_map, fs.fl_len]; exact h'.2
    refine ⟨two_dat (by decide) (tup_dat a (by omega)), ?_⟩
    show max 0 (max (PV.depths fs.pvs + 1) 0) + 1 ≤ 3 * (fs.depth + 1) + 26
    omega
theorem Qs.dd : ∀ {ks : Qs}, ks.good = true → PV.plains ks.pvs = true ∧ PV.depths ks.pvs ≤ 3 * ks.depth + 26
  | .nil, _ => ⟨rfl, Nat.zero_le _⟩
  | .cons q r, h => by
    have h' : (q.good && r.good) = true := h
    rw [Bool.and_eq_true] at h'
    obtain ⟨a, b⟩ := Qn.dd h'.1
    obtain ⟨c, d⟩ := Qs.dd h'.2
    refine ⟨?_, ?_⟩
    · show (PV.plain q.pv && PV.plains r.pvs) = true
      rw [a, c]; rfl
    · show max q.pv.depth (PV.depths r.pvs) ≤ 3 * max q.depth r.depth + 26
      omega
theorem Qfs.dd : ∀ {fs : Qfs}, fs.good = true → PV.plains fs.pvs = true ∧ PV.depths fs.pvs ≤ 3 * fs.depth + 27
  | .nil, _ => ⟨rfl, Nat.zero_le _⟩
  | .cons f k r, h => by
    have h' : (nmTx f && k.good && r.good) = true := h
    simp only [Bool.and_eq_true] at h'
    obtain ⟨a, b⟩ := Qn.dd h'.1.2
    obtain ⟨c, d⟩ := Qfs.dd h'.2
    refine ⟨?_, ?_⟩
    · show (PV.plain (.tup [.str f, k.pv]) && PV.plains r.pvs) = true
      rw [two_dat (nm_dat h'.1.1) a, c]; rfl
    · show max (max 0 (max k.pv.depth 0) + 1) (PV.depths r.pvs) ≤ 3 * max k.depth r.depth + 27
      omega
end
mutual
theorem Kd.pv_inj : ∀ {a b : Kd}, a.pv = b.pv → a = b
  | .num, .num, _ => rfl
  | .word, .word, _ => rfl
  | .row x, .row y, h => by
    have h' : PV.tup [.str [114, 111, 119], .tup x.pvs] = .tup [.str [114, 111, 119], .tup y.pvs] := h
    simp only [PV.tup.injEq, List.cons.injEq, and_true, true_and] at h'
    rw [Kfs.pvs_inj h']
  | .bag x, .bag y, h => by
    have h' : PV.tup [.str [98, 97, 103], x.pv] = .tup [.str [98, 97, 103], y.pv] := h
    simp only [PV.tup.injEq, List.cons.injEq, and_true, true_and] at h'
    rw [Kd.pv_inj h']
  | .num, .word, h => by simp [Kd.pv] at h
  | .num, .row _, h => by simp [Kd.pv] at h
  | .num, .bag _, h => by simp [Kd.pv] at h
  | .word, .num, h => by simp [Kd.pv] at h
  | .word, .row _, h => by simp [Kd.pv] at h
  | .word, .bag _, h => by simp [Kd.pv] at h
  | .row _, .num, h => by simp [Kd.pv] at h
  | .row _, .word, h => by simp [Kd.pv] at h
  | .row _, .bag _, h => by simp [Kd.pv] at h
  | .bag _, .num, h => by simp [Kd.pv] at h
  | .bag _, .word, h => by simp [Kd.pv] at h
  | .bag _, .row _, h => by simp [Kd.pv] at h
theorem Kfs.pvs_inj : ∀ {a b : Kfs}, a.pvs = b.pvs → a = b
  | .nil, .nil, _ => rfl
  | .nil, .cons _ _ _, h => by simp [Kfs.pvs] at h
  | .cons _ _ _, .nil, h => by simp [Kfs.pvs] at h
  | .cons f x r, .cons g y t, h => by
    have h' : PV.tup [.str f, x.pv] :: r.pvs = .tup [.str g, y.pv] :: t.pvs := h
    simp only [List.cons.injEq, PV.tup.injEq, PV.str.injEq, and_true] at h'
    rw [h'.1.1, Kd.pv_inj h'.1.2, Kfs.pvs_inj h'.2]
end
theorem Kd.plain {K : Kd} (h : K.good = true) : K.pv.plain = true := (Kd.dd h).1
theorem kd_nb (k : Kd) : ∀ b : Bool, k.pv ≠ .bl b := fun b h => by cases k <;> cases h
theorem q_nb (k : Qn) : ∀ b : Bool, k.pv ≠ .bl b := fun b h => by cases k <;> cases h
end K30

set_option Elab.async false
set_option linter.all false
set_option maxRecDepth 100000
namespace K30
open Kv
/-! kinds that occur -/
/-- strictly rising -/
def risTx : List Tx → Bool
  | [] => true
  | [_] => true
  | a :: b :: r => decide (a < b) && risTx (b :: r)
mutual
def Kd.kk : Kd → Bool
  | .num => true
  | .word => true
  | .row fs => fs.kk && decide (fs.len ≤ 4) && risTx (tnames fs.l)
  | .bag k => k.kk
def Kfs.kk : Kfs → Bool
  | .nil => true
  | .cons f k r => nmTx f && decide (f.length = 1) && k.kk && r.kk
end
mutual
theorem Kd.kk_good : ∀ {K : Kd}, K.kk = true → K.good = true
  | .num, _ => rfl
  | .word, _ => rfl
  | .bag k, h => Kd.kk_good (K := k) h
  | .row fs, h => by
    have h' : (fs.kk && decide (fs.len ≤ 4) && risTx (tnames fs.l)) = true := h
    simp only [Bool.and_eq_true, decide_eq_true_eq] at h'
    show (fs.good && decide (fs.len ≤ 14)) = true
    rw [Kfs.kk_good h'.1.1, decide_eq_true (by omega)]; rfl
theorem Kfs.kk_good : ∀ {fs : Kfs}, fs.kk = true → fs.good = true
  | .nil, _ => rfl
  | .cons f k r, h => by
    have h' : (nmTx f && decide (f.length = 1) && k.kk && r.kk) = true := h
    simp only [Bool.and_eq_true] at h'
    show (nmTx f && k.good && r.good) = true
    rw [h'.1.1.1, Kd.kk_good h'.1.2, Kfs.kk_good h'.2]; rfl
end
theorem Kfs.kk_in : ∀ {fs : Kfs}, fs.kk = true → ∀ p ∈ fs.l, nmTx p.1 = true ∧ p.2.kk = true ∧ p.2.depth ≤ fs.depth
  | .nil, _, p, m => (nomatch m)
  | .cons f k r, h, p, m => by
    have h' : (nmTx f && decide (f.length = 1) && k.kk && r.kk) = true := h
    simp only [Bool.and_eq_true] at h'
    show _ ∧ _ ∧ _ ≤ max k.depth r.depth
    rcases List.mem_cons.mp m with rfl | m
    · exact ⟨h'.1.1.1, h'.1.2, by show k.depth ≤ _; omega⟩
    · have := Kfs.kk_in h'.2 p m
      exact ⟨this.1, this.2.1, by omega⟩
theorem Kfs.kk_one : ∀ {fs : Kfs}, fs.kk = true → ∀ p ∈ fs.l, p.1.length = 1
  | .nil, _, p, m => (nomatch m)
  | .cons f k r, h, p, m => by
    have h' : (nmTx f && decide (f.length = 1) && k.kk && r.kk) = true := h
    simp only [Bool.and_eq_true, decide_eq_true_eq] at h'
    rcases List.mem_cons.mp m with rfl | m
    · exact h'.1.1.2
    · exact Kfs.kk_one h'.2 p m
mutual
theorem Kd.wd_len : ∀ {K : Kd}, K.kk = true → K.wd.length + 4 ≤ 8 ^ (K.depth + 1)
  | .num, _ => by decide
  | .word, _ => by decide
  | .bag k, h => by
    have := Kd.wd_len (K := k) h
    show k.wd.length + 1 + 4 ≤ 8 ^ (k.depth + 1 + 1)
    rw [Nat.pow_succ]; omega
  | .row fs, h => by
    have h' : (fs.kk && decide (fs.len ≤ 4) && risTx (tnames fs.l)) = true := h
    simp only [Bool.and_eq_true, decide_eq_true_eq] at h'
    have := Kfs.wd_len h'.1.1
    have z : 4 * 8 ^ (fs.depth + 1) ≥ fs.len * 8 ^ (fs.depth + 1) := Nat.mul_le_mul_right _ h'.1.2
    have y : 1 ≤ 8 ^ fs.depth := Nat.one_le_pow _ _ (by decide)
    show fs.wd.length + 1 + 1 + 4 ≤ 8 ^ (fs.depth + 1 + 1)
    rw [Nat.pow_succ] at this z ⊢
    rw [Nat.pow_succ]
    omega
theorem Kfs.wd_len : ∀ {fs : Kfs}, fs.kk = true → fs.wd.length ≤ fs.len * 8 ^ (fs.depth + 1)
  | .nil, _ => Nat.zero_le _
  | .cons f k r, h => by
    have h' : (nmTx f && decide (f.length = 1) && k.kk && r.kk) = true := h
    simp only [Bool.and_eq_true] at h'
    have a := Kd.wd_len h'.1.2
    have b := Kfs.wd_len h'.2
    have c : 8 ^ (k.depth + 1) ≤ 8 ^ (max k.depth r.depth + 1) := Nat.pow_le_pow_right (by decide) (by omega)
    have d : 8 ^ (r.depth + 1) ≤ 8 ^ (max k.depth r.depth + 1) := Nat.pow_le_pow_right (by decide) (by omega)
    have e : r.len * 8 ^ (r.depth + 1) ≤ r.len * 8 ^ (max k.depth r.depth + 1) := Nat.mul_le_mul_left _ d
    show (f :: (k.wd ++ r.wd)).length ≤ (r.len + 1) * 8 ^ (max k.depth r.depth + 1)
    rw [List.length_cons, List.length_append, Nat.succ_mul]
    omega
end
/-- the tables' kinds -/
def levelK : Kd := .row (.cons [98] .word (.cons [114] .num .nil))
def deepK : Kd := .row (.cons [97] .num (.cons [98] .word (.cons [116] (.bag .num) (.cons [122] .word .nil))))
def KT : TD Kd := [([114], levelK), ([115], levelK), ([116], .num), ([117], deepK), ([118], .bag .word)]
theorem KT_ok : ∀ p ∈ KT, nmTx p.1 = true ∧ p.2.kk = true ∧ p.2.depth ≤ 2 := by decide
/-- a kind that may be asked for: at most three deep -/
def KO (K : Kd) : Prop := K.kk = true ∧ K.depth ≤ 3
theorem KO.bag {K : Kd} (h : KO (.bag K)) : KO K := ⟨h.1, by have h2 : K.depth + 1 ≤ 3 := h.2; omega⟩
theorem KO.good {K : Kd} (h : KO K) : K.good = true := Kd.kk_good h.1
theorem KO.pd {K : Kd} (h : KO K) : K.pv.depth ≤ 10 := by have := (Kd.dd h.good).2; have := h.2; omega
theorem KO.wd {K : Kd} (h : KO K) : K.wd.length ≤ 4092 := by
  have a := Kd.wd_len h.1
  have b : 8 ^ (K.depth + 1) ≤ 8 ^ (3 + 1) := Nat.pow_le_pow_right (by decide) (by have := h.2; omega)
  have c : 8 ^ (3 + 1) = 4096 := by decide
  omega
/-! what is of what kind -/
abbrev wNum : Tx := [110, 117, 109]
abbrev wWord : Tx := [119, 111, 114, 100]
abbrev wVar : Tx := [118, 97, 114]
abbrev wTab : Tx := [116, 97, 98, 108, 101]
abbrev wAt : Tx := [97, 116]
abbrev wAdd : Tx := [97, 100, 100]
abbrev wMul : Tx := [109, 117, 108]
abbrev wNone : Tx := [110, 111, 110, 101]
abbrev wOne : Tx := [111, 110, 101]
abbrev wBoth : Tx := [98, 111, 116, 104]
abbrev wTimes : Tx := [116, 105, 109, 101, 115]
abbrev wFor : Tx := [102, 111, 114]
abbrev wWhen : Tx := [119, 104, 101, 110]
abbrev wLet : Tx := [108, 101, 116]
abbrev wSame : Tx := [115, 97, 109, 101]
abbrev wUnder : Tx := [117, 110, 100, 101, 114]
abbrev wAnd : Tx := [97, 110, 100]
abbrev wOr : Tx := [111, 114]
abbrev wNot : Tx := [110, 111, 116]
abbrev q0 (w : Tx) (p : Pre) : Qn := .nd w p .nil
abbrev q1 (w : Tx) (p : Pre) (a : Qn) : Qn := .nd w p (.cons a .nil)
abbrev q2 (w : Tx) (p : Pre) (a b : Qn) : Qn := .nd w p (.cons a (.cons b .nil))
mutual
inductive QT : TD Kd → Qn → Kd → Prop
  | num {E : TD Kd} {i : Int} : QT E (q0 wNum (.int i)) .num
  | word {E : TD Kd} {t : Tx} : QT E (q0 wWord (.tx t)) .word
  | var {E : TD Kd} {x : Tx} {K : Kd} : tget E x = some K → QT E (q0 wVar (.tx x)) K
  | tab {E : TD Kd} {x : Tx} {K : Kd} : tget KT x = some K → QT E (q0 wTab (.tx x)) (.bag K)
  | row {E : TD Kd} {fs : Qfs} {ks : Kfs} : FT E fs ks → risTx (tnames ks.l) = true → (∀ p ∈ ks.l, p.1.length = 1) → QT E (.row fs) (.row ks)
  | at {E : TD Kd} {f : Tx} {a : Qn} {ks : Kfs} {K : Kd} : QT E a (.row ks) → (f, K) ∈ ks.l → QT E (q1 wAt (.tx f) a) K
  | op {E : TD Kd} {w : Tx} {a b : Qn} : w = wAdd ∨ w = wMul → QT E a .num → QT E b .num → QT E (q2 w .no a b) .num
  | non {E : TD Kd} {K : Kd} : KO (.bag K) → QT E (q0 wNone (.kd K)) (.bag K)
  | one {E : TD Kd} {a : Qn} {K : Kd} : QT E a K → QT E (q1 wOne .no a) (.bag K)
  | both {E : TD Kd} {a b : Qn} {K : Kd} : QT E a (.bag K) → QT E b (.bag K) → QT E (q2 wBoth .no a b) (.bag K)
  | times {E : TD Kd} {i : Int} {a : Qn} {K : Kd} : QT E a (.bag K) → QT E (q1 wTimes (.int i) a) (.bag K)
  | whn {E : TD Kd} {c a : Qn} {K : Kd} : QC E c → QT E a (.bag K) → QT E (q2 wWhen .no c a) (.bag K)
  | fr {E : TD Kd} {x : Tx} {a b : Qn} {K L : Kd} : QT E a (.bag K) → QT ((x, K) :: E) b (.bag L) → QT E (q2 wFor (.tx x) a b) (.bag L)
  | lt {E : TD Kd} {x : Tx} {a b : Qn} {K L : Kd} : QT E a K → QT ((x, K) :: E) b L → QT E (q2 wLet (.tx x) a b) L
inductive QC : TD Kd → Qn → Prop
  | same {E : TD Kd} {a b : Qn} {K : Kd} : K = .num ∨ K = .word → QT E a K → QT E b K → QC E (q2 wSame .no a b)
  | under {E : TD Kd} {a b : Qn} : QT E a .num → QT E b .num → QC E (q2 wUnder .no a b)
  | and {E : TD Kd} {w : Tx} {a b : Qn} : w = wAnd ∨ w = wOr → QC E a → QC E b → QC E (q2 w .no a b)
  | not {E : TD Kd} {a : Qn} : QC E a → QC E (q1 wNot .no a)
inductive FT : TD Kd → Qfs → Kfs → Prop
  | nil {E : TD Kd} : FT E .nil .nil
  | cons {E : TD Kd} {f : Tx} {a : Qn} {K : Kd} {r : Qfs} {s : Kfs} : QT E a K → FT E r s → FT E (.cons f a r) (.cons f K s)
end
/-- its size -/
structure Sz (Q : Qn) (d n : Nat) : Prop where
  g : Q.good = true
  d : Q.depth ≤ d
  w : Q.wd.length ≤ n
theorem Sz.mono {Q : Qn} {d n d' n' : Nat} (h : Sz Q d n) (hd : d ≤ d') (hn : n ≤ n') : Sz Q d' n' := ⟨h.g, Nat.le_trans h.d hd, Nat.le_trans h.w hn⟩
theorem q0_sz {w : Tx} {p : Pre} {n : Nat} (h : (w, p.code, 0) ∈ shapes) (hp : p.good = true) (hn : p.wd.length + 1 ≤ n) : Sz (q0 w p) 1 n := by
  refine ⟨?_, Nat.le_refl _, ?_⟩
  · show (decide ((w, p.code, 0) ∈ shapes) && p.good && true) = true
    rw [decide_eq_true h, hp]; rfl
  · show (p.wd ++ []).length + 1 ≤ n
    rw [List.append_nil]; exact hn
theorem q1_sz {w : Tx} {p : Pre} {a : Qn} {d n : Nat} (h : (w, p.code, 1) ∈ shapes) (hp : p.good = true) (hn : p.wd.length ≤ 1) (ha : Sz a d n) : Sz (q1 w p a) (d + 1) (n + 2) := by
  have := ha.d
  have := ha.w
  refine ⟨?_, ?_, ?_⟩
  · show (decide ((w, p.code, 1) ∈ shapes) && p.good && (a.good && true)) = true
    rw [decide_eq_true h, hp, ha.g]; rfl
  · show max a.depth 0 + 1 ≤ d + 1
    omega
  · show (p.wd ++ (a.wd ++ [])).length + 1 ≤ n + 2
    rw [List.append_nil, List.length_append]; omega
theorem q2_sz {w : Tx} {p : Pre} {a b : Qn} {d n d' n' : Nat} (h : (w, p.code, 2) ∈ shapes) (hp : p.good = true) (hn : p.wd.length ≤ 1) (ha : Sz a d n) (hb : Sz b d' n') : Sz (q2 w p a b) (max d d' + 1) (n + n' + 2) := by
  have := ha.d
  have := ha.w
  have := hb.d
  have := hb.w
  refine ⟨?_, ?_, ?_⟩
  · show (decide ((w, p.code, 2) ∈ shapes) && p.good && (a.good && (b.good && true))) = true
    rw [decide_eq_true h, hp, ha.g, hb.g]; rfl
  · show max a.depth (max b.depth 0) + 1 ≤ max d d' + 1
    omega
  · show (p.wd ++ (a.wd ++ (b.wd ++ []))).length + 1 ≤ n + n' + 2
    rw [List.append_nil, List.length_append, List.length_append]; omega
theorem row_sz {l : TD Qn} {d n : Nat} (hn : ∀ p ∈ l, nmTx p.1 = true) (h : ∀ p ∈ l, Sz p.2 d n) (hl : l.length ≤ 14) : Sz (.row (Qfs.ofL l)) (d + 1) (l.length * (n + 1) + 2) := by
  refine ⟨?_, ?_, ?_⟩
  · show ((Qfs.ofL l).good && decide ((Qfs.ofL l).len ≤ 14)) = true
    rw [Qfs.of_good fun p m => ⟨hn p m, (h p m).g⟩, Qfs.of_len, decide_eq_true hl]; rfl
  · show (Qfs.ofL l).depth + 1 ≤ d + 1
    have := Qfs.of_dep (d := d) fun p m => (h p m).d
    omega
  · show (Qfs.ofL l).wd.length + 1 + 1 ≤ _
    rw [Qfs.of_wd]
    have : ∀ l : TD Qn, (∀ p ∈ l, Sz p.2 d n) → fwl l ≤ l.length * (n + 1) := by
      intro l
      induction l with
      | nil => intro _; exact Nat.zero_le _
      | cons p r ih =>
        intro h
        have a := (h p List.mem_cons_self).w
        have b := ih fun q m => h q (List.mem_cons_of_mem _ m)
        show (p.2.wd.length + 1) + fwl r ≤ (r.length + 1) * (n + 1)
        rw [Nat.succ_mul]; omega
    have := this l h
    omega
theorem row_pv {l : TD Qn} : (Qn.row (Qfs.ofL l)).pv = .tup [.str [114, 111, 119], .tup (l.map qfPv)] := by
  show PV.tup [.str [114, 111, 119], .tup (Qfs.ofL l).pvs] = _
  rw [Qfs.of_pvs]
theorem pint_good {i : Int} (h : i.natAbs ≤ 10000000000000000000000000000000) : (Pre.int i).good = true := decide_eq_true h
/-- names and their kinds -/
structure EOk (E : TD Kd) (n : Nat) : Prop where
  ok : ∀ p ∈ E, nmTx p.1 = true ∧ p.1 ≠ [119] ∧ KO p.2
  len : E.length ≤ n
theorem EOk.mono {E : TD Kd} {n m : Nat} (h : EOk E n) (l : n ≤ m) : EOk E m := ⟨h.ok, Nat.le_trans h.len l⟩
theorem EOk.cons {E : TD Kd} {n : Nat} {x : Tx} {K : Kd} (h : EOk E n) (hx : nmTx x = true) (hw : x ≠ [119]) (hK : KO K) : EOk ((x, K) :: E) (n + 1) := by
  refine ⟨fun p m => ?_, by rw [List.length_cons]; exact Nat.succ_le_succ h.len⟩
  rcases List.mem_cons.mp m with rfl | m
  · exact ⟨hx, hw, hK⟩
  · exact h.ok p m
end K30

set_option Elab.async false
set_option linter.all false
set_option maxRecDepth 100000
set_option hygiene false
local macro_rules | `(tactic| walk_at "kva") => `(tactic| (first | apply_rules (transparency := .reducible) (symm := false) (maxDepth := 100000) only [w_tup, w_lst, w_dic, w_bin, w_cmp, w_idx, w_neg, w_not, w_and, w_or, w_ite, w_call, w_bi, w_join, w_isi, w_isiT, w_sset, w_sit, w_fld, w_meth, w_make, w_sl, w_comp, w_isInt, w_isBl, w_isTx, w_isPv, w_nil, w_cons, w_bxn, w_bxc, w_box, w_ctn, w_ctc, w_bn, w_b1, t_e, t_not, t_and, t_or, t_andn, t_andc, t_orn, t_orc, v_and1, v_andc, v_or1, v_orc, s_asg, s_toSV, s_asgI, s_asgF, s_augF, s_aug0, s_ex, s_ret, s_retv, s_retN, s_iff, s_forr, s_brk, s_cnt, s_pass, s_nil, s_cons, f_nx, f_ret, f_brk, f_cnt, p_val, w_c, w_var, has_ci, has_cb, has_cs, has_ct, has_cn, has_co, has_ins, has_ctb, has_tb, two_T, two_F] | ((with_reducible apply varp); exact rfl) | ((with_reducible apply varo); exact rfl) | ((with_reducible apply has_csl); exact rfl) | ((with_reducible apply s_store); exact rfl; exact rfl; try dsimp only [List.map, List.cons_append, List.nil_append, List.replicate_succ, List.replicate_zero, keepIx_t, keepIx_f, keepIx_n, Nat.reduceSub, Nat.reduceAdd, St.put, List.set_cons_succ, List.set_cons_zero, Int.reduceToNat, if_true, Bool.false_eq_true, if_false, srcSlots]) | ((with_reducible apply back_mk); exact rfl; try dsimp only [List.map, List.cons_append, List.nil_append, List.replicate_succ, List.replicate_zero, keepIx_t, keepIx_f, keepIx_n, Nat.reduceSub, Nat.reduceAdd, St.put, List.set_cons_succ, List.set_cons_zero, Int.reduceToNat, if_true, Bool.false_eq_true, if_false, srcSlots]) | ((with_reducible refine p_nil ?_); try dsimp only [List.map, List.cons_append, List.nil_append, List.replicate_succ, List.replicate_zero, keepIx_t, keepIx_f, keepIx_n, Nat.reduceSub, Nat.reduceAdd, St.put, List.set_cons_succ, List.set_cons_zero, Int.reduceToNat, if_true, Bool.false_eq_true, if_false, srcSlots]) | ((with_reducible apply p_slot); exact rfl; exact rfl; try dsimp only [List.map, List.cons_append, List.nil_append, List.replicate_succ, List.replicate_zero, keepIx_t, keepIx_f, keepIx_n, Nat.reduceSub, Nat.reduceAdd, St.put, List.set_cons_succ, List.set_cons_zero, Int.reduceToNat, if_true, Bool.false_eq_true, if_false, srcSlots]) | ((with_reducible refine two_t ?_ ?_); exact rfl) | ((with_reducible refine two_f ?_ ?_); exact rfl) | ((with_reducible apply gd_mk); exact rfl) | ((with_reducible apply w_tab); exact rfl) | ((with_reducible apply w_tabc); exact rfl) | ((with_reducible apply has_fld); exact rfl)))
local macro_rules | `(tactic| walk_at "kvs") => `(tactic| (first | ((with_reducible refine has_mulQ ?_ ?_ (fun p hp0 hp1 => ?_)); omega; omega) | ((with_reducible refine has_mod ?_ (fun r hr0 hr1 hre => ?_)); (first | decide | assumption | omega)) | ((with_reducible refine has_div ?_ ?_ (fun q hq hq1 => ?_)); (first | decide | assumption | omega); (first | decide | assumption | omega)) | ((with_reducible refine has_mul ?_ ?_ (fun p hp => ?_)); omega; omega) | (with_reducible refine has_pick ?_) | (with_reducible refine has_nei ?_) | ((with_reducible refine has_mulB ?_ ?_ (fun p hp => ?_)); omega; omega) | (with_reducible refine' has_mk pow_10_8 ?_) | (with_reducible refine' has_mk pow_10_9 ?_) | (with_reducible refine' has_mk pow_10_11 ?_) | (with_reducible refine' has_mk pow_10_12 ?_) | (with_reducible refine' has_mk pow_10_18 ?_) | (with_reducible refine' has_mk pow_10_20 ?_) | (with_reducible refine' has_mk pow_10_30 ?_) | (with_reducible refine' has_mk (cmp_eq _ _ ▸ eq_int _ _) ?_) | (with_reducible refine' has_mk (cmp_ge _ _) ?_) | (with_reducible refine' has_mk (cmp_gt _ _) ?_) | (with_reducible refine' has_mk (cmp_lt _ _) ?_) | (with_reducible refine' has_mk (cmp_le _ _) ?_) | ((with_reducible apply has_mk); exact rfl) | (with_reducible refine two_dec (fun hb => ?_) (fun hb => ?_)) | (with_reducible refine two_mk (fun hb => ?_) (fun hb => ?_)) | ((with_reducible apply s_setAt); exact rfl; exact rfl; try dsimp only [List.map, List.cons_append, List.nil_append, List.replicate_succ, List.replicate_zero, keepIx_t, keepIx_f, keepIx_n, Nat.reduceSub, Nat.reduceAdd, St.put, List.set_cons_succ, List.set_cons_zero, Int.reduceToNat, if_true, Bool.false_eq_true, if_false, srcSlots]) | ((with_reducible apply s_aug1); exact rfl) | ((with_reducible apply s_reto); exact rfl; exact rfl; try dsimp only [List.map, List.cons_append, List.nil_append, List.replicate_succ, List.replicate_zero, keepIx_t, keepIx_f, keepIx_n, Nat.reduceSub, Nat.reduceAdd, St.put, List.set_cons_succ, List.set_cons_zero, Int.reduceToNat, if_true, Bool.false_eq_true, if_false, srcSlots]) | ((with_reducible apply c_call); exact rfl; exact rfl) | ((with_reducible apply c_make); exact rfl; exact rfl) | ((with_reducible apply s_setF); exact rfl; decide; try dsimp only [fput, List.map, List.cons_append, List.nil_append, List.replicate_succ, List.replicate_zero, keepIx_t, keepIx_f, keepIx_n, Nat.reduceSub, Nat.reduceAdd, St.put, List.set_cons_succ, List.set_cons_zero, Int.reduceToNat, if_true, Bool.false_eq_true, if_false, srcSlots]) | ((with_reducible refine has_range1 ?_ ?_ ?_); omega; omega) | (with_reducible refine w_bmg ?_) | (with_reducible refine w_me ?_) | ((with_reducible apply dic_mk); decide; exact rfl; dsimp only [dmk, List.zip_cons_cons, List.zip_nil_left, List.map_cons, List.map_nil]) | (with_reducible refine w_getd ?_) | (with_reducible refine w_get1 ?_)))
set_option hygiene true
namespace K30
open Kv
theorem has_mulQ {a : Int} {f : SV → Prop} (h0 : 0 ≤ a) (h1 : a < 2147483648) (k : ∀ q, 0 ≤ q → q < 4611686018427387904 → f (.pv (.int q))) : Has (binop .Mult (.pv (.int a)) (.pv (.int a))) f := by
  refine has_mul (by omega) (by omega) fun q hq => k q ?_ ?_
  · rw [hq]; exact Int.mul_nonneg h0 h0
  · have e1 : a * a ≤ 2147483647 * a := Int.mul_le_mul_of_nonneg_right (by omega) h0
    omega
theorem has_pickE {x y : PV} {b : Bool} {f : PV → Prop} (k : ∀ p, p = x ∨ p = y → f p) : Has (index (.own (.lst [x, y])) (.pv (.int (if b = true then 1 else 0)))) f := by
  cases b
  · exact ⟨_, rfl, k _ (.inl rfl)⟩
  · exact ⟨_, rfl, k _ (.inr rfl)⟩
/-- a seed -/
abbrev sd (b m a c : Int) : SV := .own (.lst [.int a, .int b, .int c, .int m])
theorem draw_ok {k : Nat} {mu : List Obj} {b m a c L : Int} (hm : 0 ≤ m ∧ m < 2000000000) (hc : 0 ≤ c ∧ c < 1000000000000) (hL : 1 ≤ L) (hL2 : L < 1000000000000000000000000000000000000000000000000000) :
    wp (callK fns tabs (k + 1) 5 [sd b m a c, .pv (.int L)] mu) fun v st => ∃ x a' : Int, 0 ≤ x ∧ x < L ∧ v = .pv (.int x) ∧ st = ⟨[some (sd b m a' (c + 1)), some (.pv (.int L))], mu⟩ := by
  have hL0 : 0 < L := by omega
  refine c_run (fn := f_law_draw) rfl rfl rfl ?_; dsimp only [f_law_draw, List.map, List.cons_append, List.nil_append, List.replicate_succ, List.replicate_zero, keepIx_t, keepIx_f, keepIx_n, Nat.reduceSub, Nat.reduceAdd, St.put, List.set_cons_succ, List.set_cons_zero, Int.reduceToNat, if_true, Bool.false_eq_true, if_false, srcSlots]
  repeat' (first | walk_at "kva" | (with_reducible refine has_div (by decide) (by decide) (fun q hq hq1 => ?_)) | (with_reducible refine has_divB hL0 hL2 (fun q hq hq1 => ?_)) | (with_reducible refine has_mod hL0 (fun r hr0 hr1 hre => ?_)) | walk_at "kvs")
  all_goals exact ⟨_, _, by assumption, by assumption, rfl, rfl⟩
theorem seed_ok {k : Nat} {mu : List Obj} {i : Int} : wp (callK fns tabs (k + 1) 4 [.pv (.int i)] mu) fun v st => ∃ b m a : Int, (0 ≤ m ∧ m < 2000000000) ∧ v = sd b m a 0 ∧ st = ⟨[some (.pv (.int i))], mu⟩ := by
  refine c_run (fn := f_law_seed) rfl rfl rfl ?_; dsimp only [f_law_seed, List.map, List.cons_append, List.nil_append, List.replicate_succ, List.replicate_zero, keepIx_t, keepIx_f, keepIx_n, Nat.reduceSub, Nat.reduceAdd, St.put, List.set_cons_succ, List.set_cons_zero, Int.reduceToNat, if_true, Bool.false_eq_true, if_false, srcSlots]
  repeat' (first | walk_at "kva" | walk_at "kvs")
  exact ⟨_, _, _, ⟨by assumption, by omega⟩, rfl, rfl⟩
theorem kinds_ok {k : Nat} {mu : List Obj} : wp (callK fns tabs (k + 1) 9 [] mu) fun v st => v = .own (.dic (tdic Kd.pv KT)) ∧ st = ⟨[], mu⟩ := by
  refine c_run (fn := f_law_kinds) rfl rfl rfl ?_; dsimp only [f_law_kinds, List.map, List.cons_append, List.nil_append, List.replicate_succ, List.replicate_zero, keepIx_t, keepIx_f, keepIx_n, Nat.reduceSub, Nat.reduceAdd, St.put, List.set_cons_succ, List.set_cons_zero, Int.reduceToNat, if_true, Bool.false_eq_true, if_false, srcSlots]
  repeat' (first | walk_at "kva" | walk_at "kvs")
  exact ⟨rfl, rfl⟩
/-- a drawn number or word -/
abbrev sVal (Q : Qn) (K : Kd) : Prop := (∃ i : Int, i.natAbs ≤ 10000000000000000000000000000000 ∧ Q = q0 wNum (.int i) ∧ K = .num) ∨ (∃ t : Tx, nmTx t = true ∧ Q = q0 wWord (.tx t) ∧ K = .word)
theorem value_num {k : Nat} {mu : List Obj} {b m a c e : Int} (hm : 0 ≤ m ∧ m < 2000000000) (hc : 0 ≤ c ∧ c < 999999999900) :
    wp (callK fns tabs (k + 2) 8 [.pv Kd.num.pv, sd b m a c, .pv (.int e)] mu) fun v st => ∃ (Q : Qn) (a' c' : Int), sVal Q .num ∧ c ≤ c' ∧ c' ≤ c + 3 ∧ v = .pv Q.pv ∧ st = ⟨[some (.pv Kd.num.pv), some (sd b m a' c'), some (.pv (.int e))], mu⟩ := by
  refine c_run (fn := f_law_value) rfl rfl rfl ?_; dsimp only [f_law_value, List.map, List.cons_append, List.nil_append, List.replicate_succ, List.replicate_zero, keepIx_t, keepIx_f, keepIx_n, Nat.reduceSub, Nat.reduceAdd, St.put, List.set_cons_succ, List.set_cons_zero, Int.reduceToNat, if_true, Bool.false_eq_true, if_false, srcSlots]
  repeat' (first | walk_at "kva" | (with_reducible refine' has_mk (kd_cn _ _) ?_) | walk_at "kvs")
  refine wp_mono (draw_ok hm (by omega) (by decide) (by decide)) ?_
  rintro _ _ ⟨x, a1, x0, x1, rfl, rfl⟩
  repeat' (first | walk_at "kva" | walk_at "kvs")
  refine wp_mono (draw_ok hm (by omega) (by decide) (by decide)) ?_
  rintro _ _ ⟨y, a2, y0, y1, rfl, rfl⟩
  repeat' (first | walk_at "kva" | walk_at "kvs")
  refine wp_mono (draw_ok hm (by omega) (by decide) (by decide)) ?_
  rintro _ _ ⟨z, a3, z0, z1, rfl, rfl⟩
  repeat' (first | walk_at "kva" | (with_reducible refine has_pickE fun p hp => ?_) | walk_at "kvs")
  obtain ⟨i, hi, rfl⟩ : ∃ i : Int, i.natAbs ≤ 10000000000000000000000000000000 ∧ p = .int i := by
    rcases hp with rfl | rfl
    · exact ⟨_, by omega, rfl⟩
    · exact ⟨_, by omega, rfl⟩
  repeat' (first | walk_at "kva" | walk_at "kvs")
  exact ⟨q0 wNum (.int i), a3, c + 1 + 1 + 1, .inl ⟨i, hi, rfl, rfl⟩, by omega, by omega, rfl, rfl⟩
theorem value_word {k : Nat} {mu : List Obj} {b m a c e : Int} (hm : 0 ≤ m ∧ m < 2000000000) (hc : 0 ≤ c ∧ c < 999999999900) :
    wp (callK fns tabs (k + 2) 8 [.pv Kd.word.pv, sd b m a c, .pv (.int e)] mu) fun v st => ∃ (Q : Qn) (a' c' : Int), sVal Q .word ∧ c ≤ c' ∧ c' ≤ c + 3 ∧ v = .pv Q.pv ∧ st = ⟨[some (.pv Kd.word.pv), some (sd b m a' c'), some (.pv (.int e))], mu⟩ := by
  refine c_run (fn := f_law_value) rfl rfl rfl ?_; dsimp only [f_law_value, List.map, List.cons_append, List.nil_append, List.replicate_succ, List.replicate_zero, keepIx_t, keepIx_f, keepIx_n, Nat.reduceSub, Nat.reduceAdd, St.put, List.set_cons_succ, List.set_cons_zero, Int.reduceToNat, if_true, Bool.false_eq_true, if_false, srcSlots]
  repeat' (first | walk_at "kva" | (with_reducible refine' has_mk (kd_cn _ _) ?_) | walk_at "kvs")
  refine wp_mono (draw_ok hm (by omega) (by decide) (by decide)) ?_
  rintro _ _ ⟨x, a1, x0, x1, rfl, rfl⟩
  repeat' (first | walk_at "kva" | walk_at "kvs")
  refine has_ixL (fun p => ∃ t : Tx, nmTx t = true ∧ p = .str t) x0 (by exact x1) (fun p hp => by
    simp only [List.mem_cons, List.not_mem_nil, or_false] at hp
    rcases hp with rfl | rfl | rfl | rfl <;> exact ⟨_, by decide, rfl⟩) ?_
  rintro _ ⟨t, ht, rfl⟩
  repeat' (first | walk_at "kva" | walk_at "kvs")
  exact ⟨q0 wWord (.tx t), a1, c + 1, .inr ⟨t, ht, rfl, rfl⟩, by omega, by omega, rfl, rfl⟩
/-! the names seen -/
def snTx (E : TD Kd) : TD Kd := E.foldl (fun d p => if p.1 ∈ tnames d then d else d ++ [p]) []
theorem sn_step : ∀ {E D : TD Kd}, (tnames D).Nodup → (tnames (E.foldl (fun d p => if p.1 ∈ tnames d then d else d ++ [p]) D)).Nodup ∧ ∀ x, tget (E.foldl (fun d p => if p.1 ∈ tnames d then d else d ++ [p]) D) x = (tget D x).or (tget E x)
  | [], D, h => ⟨h, fun x => by show tget D x = (tget D x).or none; rw [Option.or_none]⟩
  | p :: r, D, h => by
    rw [List.foldl_cons]
    by_cases c : p.1 ∈ tnames D
    · rw [if_pos c]
      obtain ⟨a, b⟩ := sn_step (E := r) h
      refine ⟨a, fun x => ?_⟩
      rw [b x]
      show _ = (tget D x).or (if p.1 = x then some p.2 else tget r x)
      by_cases e : p.1 = x
      · subst e
        obtain ⟨v, hv, _⟩ := tget_mem c
        rw [hv]; rfl
      · rw [if_neg e]
    · rw [if_neg c]
      have nd : (tnames (D ++ [p])).Nodup := by
        unfold tnames at c h ⊢
        rw [List.map_append]
        refine List.nodup_append.mpr ⟨h, by simp, ?_⟩
        intro a ha b hb e
        subst e
        rw [List.map_singleton, List.mem_singleton] at hb
        exact c (hb ▸ ha)
      obtain ⟨a, b⟩ := sn_step (E := r) nd
      refine ⟨a, fun x => ?_⟩
      rw [b x]
      have ap : ∀ {l : TD Kd}, tget (l ++ [p]) x = (tget l x).or (if p.1 = x then some p.2 else none) := by
        intro l
        induction l with
        | nil => rfl
        | cons q s ih =>
          show (if q.1 = x then some q.2 else tget (s ++ [p]) x) = (if q.1 = x then some q.2 else tget s x).or _
          split
          · rfl
          · exact ih
      rw [ap, Option.or_assoc]
      congr 1
      show _ = if p.1 = x then some p.2 else tget r x
      split
      · rfl
      · rfl
theorem tget_nd {x : Tx} {K : Kd} : ∀ {l : TD Kd}, (tnames l).Nodup → (x, K) ∈ l → tget l x = some K
  | [], _, m => (nomatch m)
  | p :: r, h, m => by
    have h' : (p.1 :: tnames r).Nodup := h
    rw [List.nodup_cons] at h'
    show (if p.1 = x then some p.2 else tget r x) = some K
    rcases List.mem_cons.mp m with e | m
    · rw [← e]; exact if_pos rfl
    · rw [if_neg, tget_nd h'.2 m]
      intro e
      exact h'.1 (List.mem_map.mpr ⟨(x, K), m, e.symm⟩)
theorem sn_get {E : TD Kd} {p : Tx × Kd} (m : p ∈ snTx E) : tget E p.1 = some p.2 := by
  obtain ⟨a, b⟩ := sn_step (E := E) (D := []) List.nodup_nil
  have := b p.1
  rw [show tget (E.foldl _ []) p.1 = some p.2 from tget_nd a m] at this
  exact this.symm
theorem sn_in {E : TD Kd} {p : Tx × Kd} (m : p ∈ snTx E) : p ∈ E := by
  have := tget_in (sn_get m)
  exact this
theorem sn_len : ∀ {E D : TD Kd}, (E.foldl (fun d p => if p.1 ∈ tnames d then d else d ++ [p]) D).length ≤ D.length + E.length
  | [], D => Nat.le_refl _
  | p :: r, D => by
    rw [List.foldl_cons, List.length_cons]
    split
    · have := sn_len (E := r) (D := D); omega
    · have := sn_len (E := r) (D := D ++ [p])
      rw [List.length_append, List.length_singleton] at this
      omega
theorem lts_pair {p q : Tx × Kd} (h : p.1 = q.1 → p = q) : (PV.lt (kfPv p) (kfPv q)).isSome = true := by
  show (PV.lts [.str p.1, p.2.pv] [.str q.1, q.2.pv]).isSome = true
  unfold PV.lts
  by_cases e : p.1 = q.1
  · have := h e
    subst this
    rw [if_pos rfl]
    unfold PV.lts
    rw [if_pos rfl]
    unfold PV.lts
    rfl
  · rw [if_neg (fun z => e (PV.str.inj z))]
    rfl
theorem kf_sortable {l : TD Kd} (hn : (tnames l).Nodup) (h : ∀ p ∈ l, nmTx p.1 = true ∧ KO p.2) (hl : l.length ≤ 1000) : sortable (l.map kfPv) = true := by
  have pd : ∀ {l : TD Kd}, (∀ p ∈ l, nmTx p.1 = true ∧ KO p.2) → PV.plains (l.map kfPv) = true ∧ PV.depths (l.map kfPv) ≤ 12 := by
    intro l
    induction l with
    | nil => intro _; exact ⟨rfl, Nat.zero_le _⟩
    | cons p r ih =>
      intro h
      obtain ⟨a, b⟩ := h p List.mem_cons_self
      obtain ⟨c, d⟩ := ih fun q m => h q (List.mem_cons_of_mem _ m)
      have e : PV.plain (.tup [.str p.1, p.2.pv]) = true := two_dat (nm_dat a) (Kd.plain b.good)
      refine ⟨?_, ?_⟩
      · show (PV.plain (.tup [.str p.1, p.2.pv]) && PV.plains (r.map kfPv)) = true
        rw [e, c]; rfl
      · have := b.pd
        show max (max 0 (max p.2.pv.depth 0) + 1) (PV.depths (r.map kfPv)) ≤ 12
        omega
  obtain ⟨a, b⟩ := pd h
  have uniq : ∀ p ∈ l, ∀ q ∈ l, p.1 = q.1 → p = q := by
    intro p hp q hq e
    have e1 := tget_nd hn (show (p.1, p.2) ∈ l from hp)
    have e2 := tget_nd hn (show (q.1, q.2) ∈ l from hq)
    rw [e, e2] at e1
    injection e1 with e1
    exact Prod.ext e e1.symm
  unfold sortable
  rw [a, decide_eq_true (show (l.map kfPv).length ≤ sizeL from by rw [List.length_map]; exact Nat.le_trans hl (by decide)), decide_eq_true (show PV.depths (l.map kfPv) ≤ 100 by omega)]
  rw [Bool.true_and, Bool.true_and, Bool.true_and, Bool.and_eq_true, List.all_eq_true, List.all_eq_true]
  refine ⟨?_, ?_⟩
  · intro x hx
    obtain ⟨p, hp, rfl⟩ := List.mem_map.mp hx
    have e : (PV.head (kfPv p)) = 2 := rfl
    cases l with
    | nil => cases hp
    | cons q r => rfl
  · intro x hx
    obtain ⟨p, hp, rfl⟩ := List.mem_map.mp hx
    rw [List.all_eq_true]
    intro y hy
    obtain ⟨q, hq, rfl⟩ := List.mem_map.mp hy
    exact lts_pair (uniq p hp q hq)
theorem perm_map {α β : Type} {f : α → β} : ∀ {l : List α} {m : List β}, m.Perm (l.map f) → ∃ l' : List α, l'.Perm l ∧ m = l'.map f := by
  intro l m h
  have : ∀ {n m : List β}, m.Perm n → ∀ l : List α, n = l.map f → ∃ l' : List α, l'.Perm l ∧ m = l'.map f := by
    intro n m h
    induction h with
    | nil => intro l e; exact ⟨[], by
        have : l = [] := by
          cases l with
          | nil => rfl
          | cons => cases e
        rw [this], rfl⟩
    | cons x _ ih =>
      intro l e
      cases l with
      | nil => cases e
      | cons a r =>
        injection e with e1 e2
        obtain ⟨l', p, q⟩ := ih r e2
        exact ⟨a :: l', p.cons a, by rw [q, e1]; rfl⟩
    | swap x y t =>
      intro l e
      cases l with
      | nil => cases e
      | cons a r =>
        cases r with
        | nil => cases e
        | cons b s =>
          injection e with e1 e2
          injection e2 with e2 e3
          exact ⟨b :: a :: s, .swap a b s, by rw [e1, e2, e3]; rfl⟩
    | trans _ _ ih1 ih2 =>
      intro l e
      obtain ⟨l1, p1, q1⟩ := ih2 l e
      obtain ⟨l2, p2, q2⟩ := ih1 l1 q1
      exact ⟨l2, p2.trans p1, q2⟩
  exact this h l rfl
/-- the names seen, in order -/
def seenL (E L : TD Kd) : Prop := (∀ p ∈ L, p ∈ E ∧ tget E p.1 = some p.2) ∧ L.length ≤ E.length
theorem seen_ok {k n : Nat} {mu : List Obj} {E : TD Kd} (h : EOk E n) (hn : n ≤ 100) :
    wp (callK fns tabs (k + 1) 10 [.own (.lst (E.map kfPv))] mu) fun v st => ∃ L : TD Kd, seenL E L ∧ v = .own (.lst (L.map kfPv)) ∧ st = ⟨[some (.own (.lst (E.map kfPv)))], mu⟩ := by
  have hl := h.len
  refine c_run (fn := f_law_seen) rfl rfl rfl ?_; dsimp only [f_law_seen, List.map, List.cons_append, List.nil_append, List.replicate_succ, List.replicate_zero, keepIx_t, keepIx_f, keepIx_n, Nat.reduceSub, Nat.reduceAdd, St.put, List.set_cons_succ, List.set_cons_zero, Int.reduceToNat, if_true, Bool.false_eq_true, if_false, srcSlots]
  repeat' (first | walk_at "kva" | walk_at "kvs")
  refine l_for (fun ys st => ∃ (rs dn : TD Kd) (o2 o3 : Option SV), ys = rs.map kfPv ∧ E = dn ++ rs ∧ st = ⟨[some (.own (.lst (E.map kfPv))), some (.own (.dic (tdic Kd.pv (snTx dn)))), o2, o3], mu⟩) ?_ ?_ ?_ _ _ ⟨E, [], none, none, rfl, rfl, rfl⟩
  · rintro ys st ⟨rs, dn, o2, o3, e1, e2, rfl⟩
    exact stands_slot rfl
  · rintro y ys st ⟨rs, dn, o2, o3, e1, e2, rfl⟩
    cases rs with
    | nil => cases e1
    | cons p rs =>
      injection e1 with e3 e4
      subst e3 e4
      have sl := sn_len (E := dn) (D := [])
      have dl : dn.length ≤ E.length := by rw [e2, List.length_append]; omega
      have sn : snTx (dn ++ [p]) = if p.1 ∈ tnames (snTx dn) then snTx dn else snTx dn ++ [p] := by
        unfold snTx
        rw [List.foldl_append]; rfl
      have ni : cmpall .NotIn (.pv (.str p.1)) (.own (.dic (tdic Kd.pv (snTx dn)))) = some (!decide (p.1 ∈ tnames (snTx dn))) := by
        show (if (PV.str p.1).isKey then some (dlook (tdic Kd.pv (snTx dn)) (.str p.1)).isSome else none).map (!·) = _
        rw [if_pos (show (PV.str p.1).isKey = true from rfl), tdic_look]
        by_cases c : p.1 ∈ tnames (snTx dn)
        · obtain ⟨v, hv, _⟩ := tget_mem c
          rw [hv, decide_eq_true c]; rfl
        · have : tget (snTx dn) p.1 = none := by
            cases hv : tget (snTx dn) p.1 with
            | none => rfl
            | some v => exact absurd (List.mem_map.mpr ⟨_, tget_in hv, rfl⟩) c
          rw [this, decide_eq_false c]; rfl
      refine s_store rfl rfl ?_
      dsimp only [List.map, List.cons_append, List.nil_append, List.replicate_succ, List.replicate_zero, keepIx_t, keepIx_f, keepIx_n, Nat.reduceSub, Nat.reduceAdd, St.put, List.set_cons_succ, List.set_cons_zero, Int.reduceToNat, if_true, Bool.false_eq_true, if_false, srcSlots]
      repeat' (first | walk_at "kva" | (with_reducible refine' has_mk ni ?_) | (with_reducible refine' has_mk (kd_cn _ _) ?_) | walk_at "kvs")
      · refine s_setAt (ob := .dic (tdic Kd.pv (snTx dn))) rfl (tset_ok (by show _ < 16777216; unfold snTx; simp only [List.length_nil] at sl; omega)) ?_
        dsimp only [List.map, List.cons_append, List.nil_append, List.replicate_succ, List.replicate_zero, keepIx_t, keepIx_f, keepIx_n, Nat.reduceSub, Nat.reduceAdd, St.put, List.set_cons_succ, List.set_cons_zero, Int.reduceToNat, if_true, Bool.false_eq_true, if_false, srcSlots]
        repeat' (first | walk_at "kva" | walk_at "kvs")
        have c : p.1 ∉ tnames (snTx dn) := by simpa using hb
        rw [if_neg c] at sn
        refine ⟨rs, dn ++ [p], some (.pv (.str p.1)), some (.pv p.2.pv), rfl, by rw [e2]; simp, ?_⟩
        rw [sn]
        unfold tput
        rw [if_neg c]
      · have c : p.1 ∈ tnames (snTx dn) := by simpa using hb
        rw [if_pos c] at sn
        refine ⟨rs, dn ++ [p], some (.pv (.str p.1)), some (.pv p.2.pv), rfl, by rw [e2]; simp, ?_⟩
        rw [sn]
  · rintro st ⟨rs, dn, o2, o3, e1, e2, rfl⟩
    have hr : rs = [] := by cases rs with
      | nil => rfl
      | cons => cases e1
    subst hr
    rw [List.append_nil] at e2
    subst e2
    have nd := (sn_step (E := E) (D := []) List.nodup_nil).1
    have sl := sn_len (E := E) (D := [])
    have so : sortable ((tdic Kd.pv (snTx E)).map fun p => PV.tup [p.1, p.2]) = true := by
      have e : ((tdic Kd.pv (snTx E)).map fun p => PV.tup [p.1, p.2]) = (snTx E).map kfPv := by
        unfold tdic
        rw [List.map_map]; rfl
      rw [e]
      exact kf_sortable nd (fun p m => ⟨(h.ok p (sn_in m)).1, (h.ok p (sn_in m)).2.2⟩) (by unfold snTx; simp only [List.length_nil] at sl; omega)
    have si : sitOf (.own (.dic (tdic Kd.pv (snTx E)))) = some (.own (.lst (sortPV ((snTx E).map kfPv)))) := by
      have e : ((tdic Kd.pv (snTx E)).map fun p => PV.tup [p.1, p.2]) = (snTx E).map kfPv := by
        unfold tdic
        rw [List.map_map]; rfl
      show (if _ then some (SV.own (.lst (sortPV _))) else none) = _
      rw [so, if_pos rfl, e]
    obtain ⟨L, pL, eL⟩ := perm_map (sortPV_perm ((snTx E).map kfPv))
    repeat' (first | walk_at "kva" | (with_reducible refine' has_mk si ?_) | walk_at "kvs")
    refine ⟨L, ⟨fun p m => ?_, ?_⟩, by rw [eL], rfl⟩
    · have m' := pL.mem_iff.mp m
      exact ⟨sn_in m', sn_get m'⟩
    · rw [pL.length_eq]
      unfold snTx
      simp only [List.length_nil] at sl
      omega
end K30

set_option Elab.async false
set_option linter.all false
set_option maxRecDepth 100000
set_option hygiene false
local macro_rules | `(tactic| walk_at "kvs") => `(tactic| (first | ((with_reducible refine has_mod ?_ (fun r hr0 hr1 hre => ?_)); (first | decide | assumption | omega)) | ((with_reducible refine has_div ?_ ?_ (fun q hq hq1 => ?_)); (first | decide | assumption | omega); (first | decide | assumption | omega)) | ((with_reducible refine has_mul ?_ ?_ (fun p hp => ?_)); omega; omega) | (with_reducible refine has_pick ?_) | (with_reducible refine has_nei ?_) | ((with_reducible refine has_mulB ?_ ?_ (fun p hp => ?_)); omega; omega) | (with_reducible refine' has_mk pow_10_8 ?_) | (with_reducible refine' has_mk pow_10_9 ?_) | (with_reducible refine' has_mk pow_10_11 ?_) | (with_reducible refine' has_mk pow_10_12 ?_) | (with_reducible refine' has_mk pow_10_18 ?_) | (with_reducible refine' has_mk pow_10_20 ?_) | (with_reducible refine' has_mk pow_10_30 ?_) | (with_reducible refine' has_mk (cmp_eq _ _ ▸ eq_int _ _) ?_) | (with_reducible refine' has_mk (cmp_ge _ _) ?_) | (with_reducible refine' has_mk (cmp_gt _ _) ?_) | (with_reducible refine' has_mk (cmp_lt _ _) ?_) | (with_reducible refine' has_mk (cmp_le _ _) ?_) | ((with_reducible apply has_mk); exact rfl) | (with_reducible refine two_dec (fun hb => ?_) (fun hb => ?_)) | (with_reducible refine two_mk (fun hb => ?_) (fun hb => ?_)) | ((with_reducible apply s_setAt); exact rfl; exact rfl; try dsimp only [List.map, List.cons_append, List.nil_append, List.replicate_succ, List.replicate_zero, keepIx_t, keepIx_f, keepIx_n, Nat.reduceSub, Nat.reduceAdd, St.put, List.set_cons_succ, List.set_cons_zero, Int.reduceToNat, if_true, Bool.false_eq_true, if_false, srcSlots]) | ((with_reducible apply s_aug1); exact rfl) | ((with_reducible apply s_reto); exact rfl; exact rfl; try dsimp only [List.map, List.cons_append, List.nil_append, List.replicate_succ, List.replicate_zero, keepIx_t, keepIx_f, keepIx_n, Nat.reduceSub, Nat.reduceAdd, St.put, List.set_cons_succ, List.set_cons_zero, Int.reduceToNat, if_true, Bool.false_eq_true, if_false, srcSlots]) | ((with_reducible apply c_call); exact rfl; exact rfl) | ((with_reducible apply c_make); exact rfl; exact rfl) | ((with_reducible apply s_setF); exact rfl; decide; try dsimp only [fput, List.map, List.cons_append, List.nil_append, List.replicate_succ, List.replicate_zero, keepIx_t, keepIx_f, keepIx_n, Nat.reduceSub, Nat.reduceAdd, St.put, List.set_cons_succ, List.set_cons_zero, Int.reduceToNat, if_true, Bool.false_eq_true, if_false, srcSlots]) | ((with_reducible refine has_range1 ?_ ?_ ?_); omega; omega) | (with_reducible refine w_bmg ?_) | (with_reducible refine w_me ?_) | ((with_reducible apply dic_mk); decide; exact rfl; dsimp only [dmk, List.zip_cons_cons, List.zip_nil_left, List.map_cons, List.map_nil]) | (with_reducible refine w_getd ?_) | (with_reducible refine w_get1 ?_)))
set_option hygiene true
namespace K30
open Kv
/-- what is held in a scope -/
def hW (E : TD Kd) (K : Kd) (q : Qn) : Prop := (∃ x, nmTx x = true ∧ tget E x = some K ∧ q = q0 wVar (.tx x)) ∨ (∃ x f ks, nmTx x = true ∧ nmTx f = true ∧ tget E x = some (.row ks) ∧ (f, K) ∈ ks.l ∧ q = q1 wAt (.tx f) (q0 wVar (.tx x)))
theorem var_sz {x : Tx} (h : nmTx x = true) : Sz (q0 wVar (.tx x)) 1 2 := q0_sz (p := .tx x) (show (_, 119, 0) ∈ shapes from by decide) h (Nat.le_refl _)
theorem hW.sz {E : TD Kd} {K : Kd} {q : Qn} (h : hW E K q) : Sz q 2 4 := by
  rcases h with ⟨x, a, b, rfl⟩ | ⟨x, f, ks, a, a2, b, c, rfl⟩
  · exact (var_sz a).mono (by decide) (by decide)
  · exact q1_sz (p := .tx f) (show (_, 119, 1) ∈ shapes from by decide) a2 (Nat.le_refl _) (var_sz a)
theorem hW.ty {E : TD Kd} {K : Kd} {q : Qn} (h : hW E K q) : QT E q K := by
  rcases h with ⟨x, a, b, rfl⟩ | ⟨x, f, ks, a, a2, b, c, rfl⟩
  · exact .var b
  · exact .at (.var b) c
abbrev heldSt (E : TD Kd) (K : Kd) (L : List Qn) (o3 o4 : Option SV) (mu : List Obj) : Kv.St := ⟨[some (.pv K.pv), some (.own (.lst (E.map kfPv))), some (.own (.lst (L.map Qn.pv))), o3, o4, none, none], mu⟩
theorem held_comp {N : Env} {mu : List Obj} {E : TD Kd} {K : Kd} {x : Tx} {fs : Kfs} {L : List Qn} (hx : nmTx x = true) (hK : KO K) (hg : tget E x = some (.row fs)) (hr : KO (.row fs))
    {Q : List PV → Kv.St → Prop} (q : ∀ A : List Qn, (∀ q ∈ A, hW E K q) → A.length ≤ 4 → Q (A.map Qn.pv) (heldSt E K L (some (.pv (.str x))) (some (.pv (Kd.row fs).pv)) mu)) :
    wp (compL (evAnd N [.e (.cmp .Eq (.var 6) (.var 0))]) (ev N (.tup [.c (.str [97, 116]), .var 5, .tup [.c (.str [118, 97, 114]), .var 3]])) (.tup [.nm 5, .nm 6]) (stands [.val (.pv (.tup fs.pvs))] [.pv (.tup fs.pvs)]) [5, 6] fs.pvs [] (heldSt E K L (some (.pv (.str x))) (some (.pv (Kd.row fs).pv)) mu)) Q := by
  have hp := fs.pvs_l
  have ll := fs.l_len
  have h' : (fs.kk && decide (fs.len ≤ 4) && risTx (tnames fs.l)) = true := hr.1
  simp only [Bool.and_eq_true, decide_eq_true_eq] at h'
  have hd : fs.depth + 1 ≤ 3 := hr.2
  have d2 := hK.pd
  refine l_comp (fun ys acc st => ∃ (dn rs : TD Kd) (A : List Qn) (y z : Option SV), fs.l = dn ++ rs ∧ ys = rs.map kfPv ∧ acc = A.map Qn.pv ∧ (∀ q ∈ A, hW E K q) ∧ A.length ≤ dn.length ∧ st = ⟨[some (.pv K.pv), some (.own (.lst (E.map kfPv))), some (.own (.lst (L.map Qn.pv))), some (.pv (.str x)), some (.pv (Kd.row fs).pv), y, z], mu⟩) ?_ ?_ ?_ _ _ _ ⟨[], fs.l, [], none, none, rfl, hp, rfl, fun q m => (nomatch m), Nat.le_refl _, rfl⟩
  · rintro ys acc st ⟨dn, rs, A, y, z, e1, e2, e3, e4, e5, rfl⟩
    exact stands_tup
  · rintro q ys acc st ⟨dn, rs, A, y, z, e1, e2, rfl, e4, e5, rfl⟩
    cases rs with
    | nil => cases e2
    | cons p rs =>
      have e2' : q :: ys = kfPv p :: rs.map kfPv := e2
      injection e2' with e3 e4'
      subst e3 e4'
      have pin : p ∈ fs.l := by rw [e1]; exact List.mem_append_right _ List.mem_cons_self
      obtain ⟨g1, g2, g3⟩ := Kfs.kk_in h'.1.1 p pin
      have kp : KO p.2 := ⟨g2, by omega⟩
      have d1 := kp.pd
      have dl : dn.length + 1 ≤ 4 := by
        have := congrArg List.length e1
        rw [List.length_append, List.length_cons] at this
        omega
      dsimp only [St.wipe, wipeS, List.map, List.cons_append, List.nil_append, List.replicate_succ, List.replicate_zero, keepIx_t, keepIx_f, keepIx_n, Nat.reduceSub, Nat.reduceAdd, St.put, List.set_cons_succ, List.set_cons_zero, Int.reduceToNat, if_true, Bool.false_eq_true, if_false, srcSlots]
      refine has_mk rfl ?_
      dsimp only [List.map, List.cons_append, List.nil_append, List.replicate_succ, List.replicate_zero, keepIx_t, keepIx_f, keepIx_n, Nat.reduceSub, Nat.reduceAdd, St.put, List.set_cons_succ, List.set_cons_zero, Int.reduceToNat, if_true, Bool.false_eq_true, if_false, srcSlots]
      repeat' (first | walk_at "kva" | (with_reducible refine has_eqp (Kd.plain kp.good) (Kd.plain hK.good) (by omega) (by omega) (kd_nb _) ?_) | (with_reducible refine' has_mk (kd_cn _ _) ?_) | walk_at "kvs")
      · refine ⟨?_, dn ++ [p], rs, A ++ [q1 wAt (.tx p.1) (q0 wVar (.tx x))], _, _, by rw [e1]; simp, rfl, ?_, ?_, ?_, rfl⟩
        · rw [List.length_map]
          show _ < 16777216
          omega
        · rw [List.map_append]; rfl
        · intro q m
          rcases List.mem_append.mp m with m | m
          · exact e4 q m
          · rw [List.mem_singleton.mp m]
            exact .inr ⟨x, p.1, fs, hx, g1, hg, by rw [← Kd.pv_inj hb]; exact pin, rfl⟩
        · rw [List.length_append, List.length_append]; simp; exact e5
      · refine ⟨dn ++ [p], rs, A, _, _, by rw [e1]; simp, rfl, rfl, e4, ?_, rfl⟩
        rw [List.length_append]; omega
  · rintro acc st ⟨dn, rs, A, y, z, e1, e2, rfl, e4, e5, rfl⟩
    have hr : rs = [] := by cases rs with
      | nil => rfl
      | cons => cases e2
    subst hr
    rw [List.append_nil] at e1
    refine q A e4 ?_
    rw [← e1, ll] at e5
    omega
theorem held_ok {k n : Nat} {mu : List Obj} {E : TD Kd} {K : Kd} (h : EOk E n) (hn : n ≤ 100) (hK : KO K) :
    wp (callK fns tabs (k + 2) 11 [.pv K.pv, .own (.lst (E.map kfPv))] mu) fun v st => ∃ L : List Qn, (∀ q ∈ L, hW E K q) ∧ L.length ≤ 500 ∧ v = .own (.lst (L.map Qn.pv)) ∧ st = ⟨[some (.pv K.pv), some (.own (.lst (E.map kfPv)))], mu⟩ := by
  have hl := h.len
  have d2 := hK.pd
  refine c_run (fn := f_law_held) rfl rfl rfl ?_; dsimp only [f_law_held, List.map, List.cons_append, List.nil_append, List.replicate_succ, List.replicate_zero, keepIx_t, keepIx_f, keepIx_n, Nat.reduceSub, Nat.reduceAdd, St.put, List.set_cons_succ, List.set_cons_zero, Int.reduceToNat, if_true, Bool.false_eq_true, if_false, srcSlots]
  repeat' (first | walk_at "kva" | walk_at "kvs")
  refine wp_mono (seen_ok h hn) ?_
  rintro _ _ ⟨S, ⟨s1, s2⟩, rfl, rfl⟩
  repeat' (first | walk_at "kva" | walk_at "kvs")
  refine l_for (fun ys st => ∃ (rs : TD Kd) (L : List Qn) (o3 o4 : Option SV), ys = rs.map kfPv ∧ (∀ p ∈ rs, p ∈ S) ∧ (∀ q ∈ L, hW E K q) ∧ L.length + 5 * rs.length ≤ 500 ∧ st = heldSt E K L o3 o4 mu) ?_ ?_ ?_ _ _ ⟨S, [], none, none, rfl, fun p m => m, fun q m => (nomatch m), ?_, rfl⟩
  · rintro ys st ⟨rs, L, o3, o4, e1, e2, e3, e4, rfl⟩
    exact stands_own
  · rintro y ys st ⟨rs, L, o3, o4, e1, e2, e3, e4, rfl⟩
    cases rs with
    | nil => cases e1
    | cons p rs =>
      injection e1 with e5 e6
      subst e5 e6
      rw [List.length_cons] at e4
      obtain ⟨m1, m2⟩ := s1 p (e2 p List.mem_cons_self)
      obtain ⟨g1, g2, g3⟩ := h.ok p m1
      have d1 := g3.pd
      have e2' : ∀ q ∈ rs, q ∈ S := fun q m => e2 q (List.mem_cons_of_mem _ m)
      obtain ⟨x, K'⟩ := p
      have m2' : tget E x = some K' := m2
      replace g1 : nmTx x = true := g1
      replace g3 : KO K' := g3
      replace d1 : K'.pv.depth ≤ 10 := d1
      have eS : ∀ q ∈ L ++ [q0 wVar (.tx x)], K' = K → hW E K q := by
        intro q m ek
        rcases List.mem_append.mp m with m | m
        · exact e3 q m
        · rw [List.mem_singleton.mp m]; exact .inl ⟨x, g1, ek ▸ m2', rfl⟩
      refine s_store rfl rfl ?_
      dsimp only [List.map, List.cons_append, List.nil_append, List.replicate_succ, List.replicate_zero, keepIx_t, keepIx_f, keepIx_n, Nat.reduceSub, Nat.reduceAdd, St.put, List.set_cons_succ, List.set_cons_zero, Int.reduceToNat, if_true, Bool.false_eq_true, if_false, srcSlots]
      cases K' with
      | num =>
        repeat' (first | walk_at "kva" | (with_reducible refine has_eqp (Kd.plain g3.good) (Kd.plain hK.good) (by omega) (by omega) (kd_nb _) ?_) | (with_reducible refine' has_mk (kd_cn _ _) ?_) | walk_at "kvs")
        · refine m_append (xs := L.map Qn.pv) rfl rfl (by rw [List.length_map]; show _ < 16777216; omega) ?_
          dsimp only [List.map, List.cons_append, List.nil_append, List.replicate_succ, List.replicate_zero, keepIx_t, keepIx_f, keepIx_n, Nat.reduceSub, Nat.reduceAdd, St.put, List.set_cons_succ, List.set_cons_zero, Int.reduceToNat, if_true, Bool.false_eq_true, if_false, srcSlots]
          repeat' (first | walk_at "kva" | (with_reducible refine' has_mk (kd_cn _ _) ?_) | walk_at "kvs")
          exact ⟨rs, L ++ [q0 wVar (.tx x)], _, _, rfl, e2', fun q m => eS q m (Kd.pv_inj hb), by rw [List.length_append, List.length_singleton]; omega, by unfold heldSt; rw [List.map_append]; rfl⟩
        · exact ⟨rs, L, _, _, rfl, e2', e3, by omega, rfl⟩
      | word =>
        repeat' (first | walk_at "kva" | (with_reducible refine has_eqp (Kd.plain g3.good) (Kd.plain hK.good) (by omega) (by omega) (kd_nb _) ?_) | (with_reducible refine' has_mk (kd_cn _ _) ?_) | walk_at "kvs")
        · refine m_append (xs := L.map Qn.pv) rfl rfl (by rw [List.length_map]; show _ < 16777216; omega) ?_
          dsimp only [List.map, List.cons_append, List.nil_append, List.replicate_succ, List.replicate_zero, keepIx_t, keepIx_f, keepIx_n, Nat.reduceSub, Nat.reduceAdd, St.put, List.set_cons_succ, List.set_cons_zero, Int.reduceToNat, if_true, Bool.false_eq_true, if_false, srcSlots]
          repeat' (first | walk_at "kva" | (with_reducible refine' has_mk (kd_cn _ _) ?_) | walk_at "kvs")
          exact ⟨rs, L ++ [q0 wVar (.tx x)], _, _, rfl, e2', fun q m => eS q m (Kd.pv_inj hb), by rw [List.length_append, List.length_singleton]; omega, by unfold heldSt; rw [List.map_append]; rfl⟩
        · exact ⟨rs, L, _, _, rfl, e2', e3, by omega, rfl⟩
      | bag K2 =>
        repeat' (first | walk_at "kva" | (with_reducible refine has_eqp (Kd.plain g3.good) (Kd.plain hK.good) (by omega) (by omega) (kd_nb _) ?_) | (with_reducible refine' has_mk (kd_cn _ _) ?_) | walk_at "kvs")
        · refine m_append (xs := L.map Qn.pv) rfl rfl (by rw [List.length_map]; show _ < 16777216; omega) ?_
          dsimp only [List.map, List.cons_append, List.nil_append, List.replicate_succ, List.replicate_zero, keepIx_t, keepIx_f, keepIx_n, Nat.reduceSub, Nat.reduceAdd, St.put, List.set_cons_succ, List.set_cons_zero, Int.reduceToNat, if_true, Bool.false_eq_true, if_false, srcSlots]
          repeat' (first | walk_at "kva" | (with_reducible refine' has_mk (kd_cn _ _) ?_) | walk_at "kvs")
          exact ⟨rs, L ++ [q0 wVar (.tx x)], _, _, rfl, e2', fun q m => eS q m (Kd.pv_inj hb), by rw [List.length_append, List.length_singleton]; omega, by unfold heldSt; rw [List.map_append]; rfl⟩
        · exact ⟨rs, L, _, _, rfl, e2', e3, by omega, rfl⟩
      | row fs =>
        repeat' (first | walk_at "kva" | (with_reducible refine has_eqp (Kd.plain g3.good) (Kd.plain hK.good) (by omega) (by omega) (kd_nb _) ?_) | (with_reducible refine' has_mk (kd_cn _ _) ?_) | walk_at "kvs")
        · refine m_append (xs := L.map Qn.pv) rfl rfl (by rw [List.length_map]; show _ < 16777216; omega) ?_
          dsimp only [List.map, List.cons_append, List.nil_append, List.replicate_succ, List.replicate_zero, keepIx_t, keepIx_f, keepIx_n, Nat.reduceSub, Nat.reduceAdd, St.put, List.set_cons_succ, List.set_cons_zero, Int.reduceToNat, if_true, Bool.false_eq_true, if_false, srcSlots]
          repeat' (first | walk_at "kva" | (with_reducible refine' has_mk (kd_cn _ _) ?_) | walk_at "kvs")
          have ea : L.map Qn.pv ++ [PV.tup [.str [118, 97, 114], .str x]] = (L ++ [q0 wVar (.tx x)]).map Qn.pv := by rw [List.map_append]; rfl
          rw [ea]
          refine l_end (held_comp g1 hK m2' g3 ?_)
          intro A hA lA
          dsimp only [layBack, List.map, List.cons_append, List.nil_append, List.replicate_succ, List.replicate_zero, keepIx_t, keepIx_f, keepIx_n, Nat.reduceSub, Nat.reduceAdd, St.put, List.set_cons_succ, List.set_cons_zero, Int.reduceToNat, if_true, Bool.false_eq_true, if_false, srcSlots]
          repeat' (first | walk_at "kva" | walk_at "kvs")
          refine has_addl (by rw [List.length_map, List.length_map, List.length_append, List.length_singleton]; show _ ≤ 16777216; omega) ?_
          repeat' (first | walk_at "kva" | walk_at "kvs")
          refine ⟨rs, L ++ [q0 wVar (.tx x)] ++ A, some (.pv (.str x)), some (.pv (Kd.row fs).pv), rfl, e2', ?_, by rw [List.length_append, List.length_append, List.length_singleton]; omega, by unfold heldSt; rw [List.map_append (l₁ := L ++ [q0 wVar (.tx x)])]; rfl⟩
          intro q m
          rcases List.mem_append.mp m with m | m
          · exact eS q m (Kd.pv_inj hb)
          · exact hA q m
        · refine l_end (held_comp g1 hK m2' g3 ?_)
          intro A hA lA
          dsimp only [layBack, List.map, List.cons_append, List.nil_append, List.replicate_succ, List.replicate_zero, keepIx_t, keepIx_f, keepIx_n, Nat.reduceSub, Nat.reduceAdd, St.put, List.set_cons_succ, List.set_cons_zero, Int.reduceToNat, if_true, Bool.false_eq_true, if_false, srcSlots]
          repeat' (first | walk_at "kva" | walk_at "kvs")
          refine has_addl (by rw [List.length_map, List.length_map]; show _ ≤ 16777216; omega) ?_
          repeat' (first | walk_at "kva" | walk_at "kvs")
          refine ⟨rs, L ++ A, some (.pv (.str x)), some (.pv (Kd.row fs).pv), rfl, e2', ?_, by rw [List.length_append]; omega, by unfold heldSt; rw [List.map_append]; rfl⟩
          intro q m
          rcases List.mem_append.mp m with m | m
          · exact e3 q m
          · exact hA q m
  · rintro st ⟨rs, L, o3, o4, e1, e2, e3, e4, rfl⟩
    repeat' (first | walk_at "kva" | walk_at "kvs")
    exact ⟨L, e3, by omega, rfl, rfl⟩
  · simp only [List.length_nil]
    omega
end K30

set_option Elab.async false
set_option linter.all false
set_option maxRecDepth 100000
set_option hygiene false
set_option hygiene true
namespace K30
open Kv
abbrev SdOk (m : Int) : Prop := 0 ≤ m ∧ m < 2000000000
abbrev CnOk (c : Int) (P : Nat) : Prop := 0 ≤ c ∧ c + (P : Int) ≤ 100000000000
abbrev askA (E : TD Kd) (K : Kd) (e b m a c : Int) : List SV := [.pv K.pv, .own (.lst (E.map kfPv)), .pv (.int e), sd b m a c]
abbrev AskP (E : TD Kd) (K : Kd) (e b m c : Int) (mu : List Obj) (D P : Nat) : SV → Kv.St → Prop := fun v st => ∃ (Q : Qn) (a' c' : Int), QT E Q K ∧ Sz Q D P ∧ c ≤ c' ∧ c' ≤ c + P ∧ v = .pv Q.pv ∧ st = ⟨[some (.pv K.pv), some (.own (.lst (E.map kfPv))), some (.pv (.int e)), some (sd b m a' c')], mu⟩
/-- asked for of a kind -/
def AskK (k f : Nat) (e : Int) (n : Nat) (K : Kd) (D P : Nat) : Prop := ∀ ⦃mu : List Obj⦄ ⦃E : TD Kd⦄ ⦃b m a c : Int⦄, SdOk m → CnOk c P → EOk E n → wp (callK fns tabs k f (askA E K e b m a c) mu) (AskP E K e b m c mu D P)
theorem AskK.mono {k f : Nat} {e : Int} {n n' : Nat} {K : Kd} {D P D' P' : Nat} (h : AskK k f e n K D P) (hn : n' ≤ n) (hD : D ≤ D') (hP : P ≤ P') : AskK k f e n' K D' P' := by
  intro mu E b m a c hm hc hE
  refine wp_mono (h hm ⟨hc.1, by have := hc.2; omega⟩ (hE.mono hn)) ?_
  rintro _ _ ⟨Q, a', c', g1, g2, g3, g4, rfl, rfl⟩
  exact ⟨Q, a', c', g1, g2.mono hD hP, g3, by omega, rfl, rfl⟩
theorem hw_pl {E : TD Kd} {K : Kd} : ∀ {L : List Qn}, (∀ q ∈ L, hW E K q) → PV.plains (L.map Qn.pv) = true ∧ PV.depths (L.map Qn.pv) ≤ 40
  | [], _ => ⟨rfl, Nat.zero_le _⟩
  | q :: r, h => by
    have z := (h q List.mem_cons_self).sz
    obtain ⟨a, b⟩ := Qn.dd z.g
    obtain ⟨c, d⟩ := hw_pl fun p m => h p (List.mem_cons_of_mem _ m)
    have := z.d
    refine ⟨?_, ?_⟩
    · show (PV.plain q.pv && PV.plains (r.map Qn.pv)) = true
      rw [a, c]; rfl
    · show max q.pv.depth (PV.depths (r.map Qn.pv)) ≤ 40
      omega
def smallR : List S := [.iff (.e (.cmp .Eq (.idx (.var 0) (.c (.int 0))) (.c (.str [98, 97, 103])))) [.ret (.call 16 [.var 0, .var 1, .bin .Sub (.var 2) (.c (.int 1)), .var 3])] [], .iff (.e (.cmp .Eq (.idx (.var 0) (.c (.int 0))) (.c (.str [114, 111, 119])))) [.ret (.tup [.c (.str [114, 111, 119]), .bi .tuple [.comp (.tup [.var 6, .call 16 [.var 7, .var 1, .bin .Sub (.var 2) (.c (.int 1)), .var 3]]) (.tup [.nm 6, .nm 7]) .it [.idx (.var 0) (.c (.int 1))] [] [6, 7]]])] [], .iff (.and [.e (.cmp .Eq (.idx (.var 0) (.c (.int 0))) (.c (.str [110, 117, 109]))), .e (.cmp .Gt (.var 2) (.c (.int 0))), .e (.cmp .Eq (.call 5 [.var 3, .c (.int 3)]) (.c (.int 0)))]) [.asg (.nm 5) (.call 12 [.var 0, .var 1, .bin .Sub (.var 2) (.c (.int 1)), .var 3]), .ret (.tup [.idx (.lst [.c (.str [97, 100, 100]), .c (.str [109, 117, 108])]) (.call 5 [.var 3, .c (.int 2)]), .var 5, .call 12 [.var 0, .var 1, .bin .Sub (.var 2) (.c (.int 1)), .var 3]])] [], .ret (.call 8 [.var 0, .var 3, .c (.int 1)])]
theorem small_body : f_law_small.body = .asg (.nm 4) (.call 11 [.var 0, .var 1]) :: .iff (.and [.e (.cmp .NotEq (.var 4) (.lst [])), .e (.cmp .Gt (.call 5 [.var 3, .c (.int 4)]) (.c (.int 0)))]) [.ret (.idx (.var 4) (.call 5 [.var 3, .bi .len [.var 4]]))] [] :: smallR := rfl
abbrev smSt (E : TD Kd) (K : Kd) (e b m a c : Int) (L : List Qn) (mu : List Obj) : Kv.St := ⟨[some (.pv K.pv), some (.own (.lst (E.map kfPv))), some (.pv (.int e)), some (sd b m a c), some (.own (.lst (L.map Qn.pv))), none, none, none], mu⟩
abbrev outQ (E : TD Kd) (K : Kd) (e b m c : Int) (mu : List Obj) (D P : Nat) : Fl → Kv.St → Prop := fun f st => ∃ v, f = .ret v ∧ AskP E K e b m c mu D P v ⟨keeps [true, true, true, true] st.sg, st.mu⟩
theorem small_pre {k n : Nat} {e : Int} {K : Kd} {D P : Nat} {mu : List Obj} {E : TD Kd} {b m a c : Int} (hK : KO K) (hD : 2 ≤ D) (hP : 4 ≤ P) (hm : SdOk m) (hc : CnOk c P) (hE : EOk E n) (hn : n ≤ 60)
    (rest : ∀ (L : List Qn) (a' c' : Int), c ≤ c' → c' ≤ c + 1 → wp (evSs ⟨fns, tabs, callK fns tabs (k + 2), 4⟩ smallR [0, 1, 2, 3] (smSt E K e b m a' c' L mu)) (outQ E K e b m c mu D P)) :
    wp (callK fns tabs (k + 3) 12 (askA E K e b m a c) mu) (AskP E K e b m c mu D P) := by
  obtain ⟨hc0, hc1⟩ := hc
  have up : ∀ {st : Kv.St} {f : Fl}, outQ E K e b m c mu D P f st → (match f with | .ret v => AskP E K e b m c mu D P v { st with sg := keeps f_law_small.keep st.sg } | .nx => AskP E K e b m c mu D P (.pv .non) { st with sg := keeps f_law_small.keep st.sg } | _ => False) := by
    rintro st f ⟨v, rfl, h⟩
    exact h
  refine c_run (fn := f_law_small) rfl rfl rfl (wp_mono (P := outQ E K e b m c mu D P) ?_ fun f st h => up h)
  rw [small_body]
  dsimp only [show f_law_small.np = 4 from rfl, show f_law_small.ns = 8 from rfl, show f_law_small.keep = [true, true, true, true] from rfl, List.map, List.cons_append, List.nil_append, List.replicate_succ, List.replicate_zero, keepIx_t, keepIx_f, keepIx_n, Nat.reduceSub, Nat.reduceAdd, St.put, List.set_cons_succ, List.set_cons_zero, Int.reduceToNat, if_true, Bool.false_eq_true, if_false, srcSlots]
  repeat' (first | walk_at "kva" | (with_reducible refine' has_mk (kd_cn _ _) ?_) | walk_at "kvs")
  refine wp_mono (held_ok hE (by omega) hK) ?_
  rintro _ _ ⟨L, hL, lL, rfl, rfl⟩
  obtain ⟨p1, p2⟩ := hw_pl hL
  repeat' (first | walk_at "kva" | (with_reducible refine has_nel p1 rfl (by omega) (by decide) ?_) | walk_at "kvs")
  · refine wp_mono (draw_ok hm (by omega) (by decide) (by decide)) ?_
    rintro _ _ ⟨x, a1, x0, x1, rfl, rfl⟩
    repeat' (first | walk_at "kva" | walk_at "kvs")
    · have ne : 0 < L.length := by
        cases L with
        | nil => exact absurd hb (by decide)
        | cons q r => exact Nat.succ_pos _
      refine wp_mono (draw_ok hm (by omega) (by rw [List.length_map]; omega) (by rw [List.length_map]; omega)) ?_
      rintro _ _ ⟨y, a2, y0, y1, rfl, rfl⟩
      repeat' (first | walk_at "kva" | walk_at "kvs")
      refine has_ixL (fun p => ∃ q ∈ L, p = Qn.pv q) y0 (by exact y1) (fun p hp => by
        obtain ⟨q, hq, rfl⟩ := List.mem_map.mp hp
        exact ⟨q, hq, rfl⟩) ?_
      rintro _ ⟨q, hq, rfl⟩
      have w := hL q hq
      repeat' (first | walk_at "kva" | (with_reducible refine' has_mk (q_cn _ _) ?_) | walk_at "kvs")
      exact ⟨_, rfl, q, a2, c + 1 + 1, w.ty, w.sz.mono hD hP, by omega, by omega, rfl, rfl⟩
    · exact rest L a1 (c + 1) (by omega) (by omega)
  · exact rest L a c (by omega) (by omega)
/-- a number, a word: a leaf -/
theorem sVal.ty {E : TD Kd} {Q : Qn} {K : Kd} (h : sVal Q K) : QT E Q K := by
  rcases h with ⟨i, hi, rfl, rfl⟩ | ⟨t, ht, rfl, rfl⟩
  · exact .num
  · exact .word
theorem sVal.sz {Q : Qn} {K : Kd} (h : sVal Q K) : Sz Q 1 2 := by
  rcases h with ⟨i, hi, rfl, rfl⟩ | ⟨t, ht, rfl, rfl⟩
  · exact q0_sz (p := .int i) (show (_, 110, 0) ∈ shapes from by decide) (pint_good hi) (Nat.le_refl _)
  · exact q0_sz (p := .tx t) (show (_, 119, 0) ∈ shapes from by decide) ht (Nat.le_refl _)
theorem sm_word {k n : Nat} {e : Int} (hn : n ≤ 60) : AskK (k + 4) 12 e n .word 2 10 := by
  intro mu E b m a c hm hc hE
  refine small_pre (k := k + 1) (K := .word) ⟨rfl, by decide⟩ (by decide) (by decide) hm hc hE hn ?_
  intro L a' c' h1 h2
  obtain ⟨hc0, hc1⟩ := hc
  unfold smallR
  repeat' (first | walk_at "kva" | (with_reducible refine' has_mk (kd_cn _ _) ?_) | walk_at "kvs")
  refine wp_mono (value_word hm (by omega)) ?_
  rintro _ _ ⟨Q, a2, c2, g1, g2, g3, rfl, rfl⟩
  repeat' (first | walk_at "kva" | walk_at "kvs")
  exact ⟨_, rfl, Q, a2, c2, g1.ty, g1.sz.mono (by decide) (by decide), by omega, by omega, rfl, rfl⟩
theorem sm_num0 {k n : Nat} {e : Int} (he : e ≤ 0) (hn : n ≤ 60) : AskK (k + 4) 12 e n .num 2 10 := by
  intro mu E b m a c hm hc hE
  refine small_pre (k := k + 1) (K := .num) ⟨rfl, by decide⟩ (by decide) (by decide) hm hc hE hn ?_
  intro L a' c' h1 h2
  obtain ⟨hc0, hc1⟩ := hc
  unfold smallR
  repeat' (first | walk_at "kva" | (with_reducible refine' has_mk (kd_cn _ _) ?_) | walk_at "kvs")
  · exfalso; omega
  · refine wp_mono (value_num hm (by omega)) ?_
    rintro _ _ ⟨Q, a2, c2, g1, g2, g3, rfl, rfl⟩
    repeat' (first | walk_at "kva" | walk_at "kvs")
    exact ⟨_, rfl, Q, a2, c2, g1.ty, g1.sz.mono (by decide) (by decide), by omega, by omega, rfl, rfl⟩
theorem sm_num {k n : Nat} {e : Int} {D P : Nat} (hn : n ≤ 60) (hk : 2 ≤ k) (ih : AskK (k + 2) 12 (e - 1) n .num D P) (hD : 1 ≤ D) : AskK (k + 3) 12 e n .num (D + 1) (2 * P + 10) := by
  intro mu E b m a c hm hc hE
  refine small_pre (k := k) (K := .num) ⟨rfl, by decide⟩ (by omega) (by omega) hm hc hE hn ?_
  intro L a' c' h1 h2
  obtain ⟨hc0, hc1⟩ := hc
  unfold smallR
  repeat' (first | walk_at "kva" | (with_reducible refine' has_mk (kd_cn _ _) ?_) | walk_at "kvs")
  · refine wp_mono (draw_ok hm (by omega) (by decide) (by decide)) ?_
    rintro _ _ ⟨x, a1, x0, x1, rfl, rfl⟩
    repeat' (first | walk_at "kva" | (with_reducible refine' has_mk (kd_cn _ _) ?_) | walk_at "kvs")
    · refine wp_mono (ih hm ⟨by omega, by omega⟩ hE) ?_
      rintro _ _ ⟨A, a2, c2, g1, g2, g3, g4, rfl, rfl⟩
      repeat' (first | walk_at "kva" | walk_at "kvs")
      refine wp_mono (draw_ok hm (by omega) (by decide) (by decide)) ?_
      rintro _ _ ⟨y, a3, y0, y1, rfl, rfl⟩
      repeat' (first | walk_at "kva" | walk_at "kvs")
      refine has_ixL (fun p => ∃ w : Tx, (w = wAdd ∨ w = wMul) ∧ p = .str w) y0 (by exact y1) (fun p hp => by
        simp only [List.mem_cons, List.not_mem_nil, or_false] at hp
        rcases hp with rfl | rfl
        · exact ⟨_, .inl rfl, rfl⟩
        · exact ⟨_, .inr rfl, rfl⟩) ?_
      rintro _ ⟨w, hw, rfl⟩
      repeat' (first | walk_at "kva" | walk_at "kvs")
      refine wp_mono (ih hm ⟨by omega, by omega⟩ hE) ?_
      rintro _ _ ⟨B, a4, c4, i1, i2, i3, i4, rfl, rfl⟩
      repeat' (first | walk_at "kva" | (with_reducible refine' has_mk (q_cn _ _) ?_) | walk_at "kvs")
      have sh : (w, Pre.no.code, 2) ∈ shapes := by
        rcases hw with rfl | rfl
        · decide
        · decide
      exact ⟨_, rfl, q2 w .no A B, a4, c4, .op hw g1 i1, (q2_sz sh rfl (by decide) g2 i2).mono (by omega) (by omega), by omega, by omega, rfl, rfl⟩
    · refine wp_mono (value_num (k := k) hm (by omega)) ?_
      rintro _ _ ⟨Q, a2, c2, g1, g2, g3, rfl, rfl⟩
      repeat' (first | walk_at "kva" | walk_at "kvs")
      exact ⟨_, rfl, Q, a2, c2, g1.ty, g1.sz.mono (by omega) (by omega), by omega, by omega, rfl, rfl⟩
  · refine wp_mono (value_num (k := k) hm (by omega)) ?_
    rintro _ _ ⟨Q, a2, c2, g1, g2, g3, rfl, rfl⟩
    repeat' (first | walk_at "kva" | walk_at "kvs")
    exact ⟨_, rfl, Q, a2, c2, g1.ty, g1.sz.mono (by omega) (by omega), by omega, by omega, rfl, rfl⟩
theorem sm_bag {k n : Nat} {e : Int} {K : Kd} {D P : Nat} (hn : n ≤ 60) (hK : KO (.bag K)) (ih : AskK (k + 2) 16 (e - 1) n (.bag K) D P) (hD : 2 ≤ D) (hP : 4 ≤ P) : AskK (k + 3) 12 e n (.bag K) D (P + 1) := by
  intro mu E b m a c hm hc hE
  refine small_pre (k := k) hK hD (by omega) hm hc hE hn ?_
  intro L a' c' h1 h2
  obtain ⟨hc0, hc1⟩ := hc
  unfold smallR
  repeat' (first | walk_at "kva" | (with_reducible refine' has_mk (kd_cn _ _) ?_) | walk_at "kvs")
  refine wp_mono (ih hm ⟨by omega, by omega⟩ hE) ?_
  rintro _ _ ⟨A, a2, c2, g1, g2, g3, g4, rfl, rfl⟩
  repeat' (first | walk_at "kva" | walk_at "kvs")
  exact ⟨_, rfl, A, a2, c2, g1, g2.mono (Nat.le_refl _) (by omega), by omega, by omega, rfl, rfl⟩
inductive F2 {α β : Type} (R : α → β → Prop) : List α → List β → Prop
  | nil : F2 R [] []
  | cons {x : α} {y : β} {l : List α} {m : List β} : R x y → F2 R l m → F2 R (x :: l) (y :: m)
/-- fields beside their kinds -/
theorem ft_of {E : TD Kd} : ∀ {l : TD Qn} {ks : Kfs}, F2 (fun p q => p.1 = q.1 ∧ QT E p.2 q.2) l ks.l → FT E (Qfs.ofL l) ks
  | [], .nil, _ => .nil
  | [], .cons _ _ _, h => (nomatch h)
  | _ :: _, .nil, h => (nomatch h)
  | p :: r, .cons f K s, h => by
    cases h with
    | cons h1 h2 =>
      obtain ⟨e, t⟩ := h1
      have e' : p.1 = f := e
      show FT E (.cons p.1 p.2 (Qfs.ofL r)) (.cons f K s)
      rw [e']
      exact .cons t (ft_of h2)
theorem f2_snoc {α β : Type} {R : α → β → Prop} {x : α} {y : β} : ∀ {l : List α} {m : List β}, F2 R l m → R x y → F2 R (l ++ [x]) (m ++ [y])
  | [], [], _, h => .cons h .nil
  | _ :: _, _ :: _, .cons a b, h => .cons a (f2_snoc b h)
theorem f2_len {α β : Type} {R : α → β → Prop} : ∀ {l : List α} {m : List β}, F2 R l m → l.length = m.length
  | [], [], _ => rfl
  | _ :: _, _ :: _, .cons _ b => congrArg (· + 1) (f2_len b)
theorem sm_row {k n : Nat} {e : Int} {fs : Kfs} {D P : Nat} (hn : n ≤ 60) (hK : KO (.row fs)) (ih : ∀ K, KO K → K.depth + 1 ≤ (Kd.row fs).depth → AskK (k + 2) 16 (e - 1) n K D P) (hD : 2 ≤ D) (hP : 4 ≤ P) : AskK (k + 3) 12 e n (.row fs) (D + 1) (4 * P + 10) := by
  intro mu E b m a c hm hc hE
  refine small_pre (k := k) hK (by omega) (by omega) hm hc hE hn ?_
  intro L a' c' h1 h2
  obtain ⟨hc0, hc1⟩ := hc
  have h' : (fs.kk && decide (fs.len ≤ 4) && risTx (tnames fs.l)) = true := hK.1
  simp only [Bool.and_eq_true, decide_eq_true_eq] at h'
  have hd : fs.depth + 1 ≤ 3 := hK.2
  have ll := fs.l_len
  unfold smallR
  repeat' (first | walk_at "kva" | (with_reducible refine' has_mk (kd_cn _ _) ?_) | walk_at "kvs")
  refine l_end (l_comp (fun ys acc st => ∃ (dn rs : TD Kd) (A : TD Qn) (a2 c2 : Int) (y z : Option SV), fs.l = dn ++ rs ∧ ys = rs.map kfPv ∧ acc = A.map qfPv ∧ F2 (fun p q => p.1 = q.1 ∧ QT E p.2 q.2) A dn ∧ (∀ p ∈ A, nmTx p.1 = true ∧ Sz p.2 D P) ∧ c ≤ c2 ∧ c2 + rs.length * P ≤ c + 1 + 4 * P ∧ st = ⟨[some (.pv (Kd.row fs).pv), some (.own (.lst (E.map kfPv))), some (.pv (.int e)), some (sd b m a2 c2), some (.own (.lst (L.map Qn.pv))), none, y, z], mu⟩) ?_ ?_ ?_ _ _ _ ⟨[], fs.l, [], a', c', none, none, rfl, fs.pvs_l, rfl, .nil, fun p m => (nomatch m), h1, ?_, rfl⟩)
  · rintro ys acc st ⟨dn, rs, A, a2, c2, y, z, e1, e2, e3, e4, e5, e6, e7, rfl⟩
    exact stands_tup
  · rintro q ys acc st ⟨dn, rs, A, a2, c2, y, z, e1, e2, rfl, e4, e5, e6, e7, rfl⟩
    cases rs with
    | nil => cases e2
    | cons p rs =>
      injection e2 with e3 e4'
      subst e3 e4'
      obtain ⟨f, K⟩ := p
      have pin : (f, K) ∈ fs.l := by rw [e1]; exact List.mem_append_right _ List.mem_cons_self
      obtain ⟨g1, g2, g3⟩ := Kfs.kk_in h'.1.1 (f, K) pin
      replace g1 : nmTx f = true := g1
      replace g2 : K.kk = true := g2
      replace g3 : K.depth ≤ fs.depth := g3
      have al := f2_len e4
      have dl : dn.length + 1 ≤ 4 := by
        have := congrArg List.length e1
        rw [List.length_append, List.length_cons] at this
        omega
      have e7' : c2 + (rs.length * P : Nat) + P ≤ c + 1 + 4 * P := by
        have : (((rs.length + 1 : Nat) : Int)) * P = (rs.length * P : Nat) + P := by
          rw [Int.natCast_add, Int.add_mul, Int.natCast_mul]; simp
        rw [List.length_cons, this] at e7
        omega
      dsimp only [St.wipe, wipeS, List.map, List.cons_append, List.nil_append, List.replicate_succ, List.replicate_zero, keepIx_t, keepIx_f, keepIx_n, Nat.reduceSub, Nat.reduceAdd, St.put, List.set_cons_succ, List.set_cons_zero, Int.reduceToNat, if_true, Bool.false_eq_true, if_false, srcSlots]
      refine has_mk rfl ?_
      dsimp only [List.map, List.cons_append, List.nil_append, List.replicate_succ, List.replicate_zero, keepIx_t, keepIx_f, keepIx_n, Nat.reduceSub, Nat.reduceAdd, St.put, List.set_cons_succ, List.set_cons_zero, Int.reduceToNat, if_true, Bool.false_eq_true, if_false, srcSlots]
      repeat' (first | walk_at "kva" | walk_at "kvs")
      refine wp_mono (ih K ⟨g2, by omega⟩ (by show K.depth + 1 ≤ fs.depth + 1; omega) hm ⟨by omega, by omega⟩ hE) ?_
      rintro _ _ ⟨B, a3, c3, i1, i2, i3, i4, rfl, rfl⟩
      repeat' (first | walk_at "kva" | (with_reducible refine' has_mk (q_cn _ _) ?_) | walk_at "kvs")
      refine ⟨by rw [List.length_map]; show _ < 16777216; omega, dn ++ [(f, K)], rs, A ++ [(f, B)], a3, c3, _, _, by rw [e1]; simp, rfl, by rw [List.map_append]; rfl, f2_snoc e4 ⟨rfl, i1⟩, ?_, by omega, by rw [← Int.natCast_mul]; omega, rfl⟩
      intro p m
      rcases List.mem_append.mp m with m | m
      · exact e5 p m
      · rw [List.mem_singleton.mp m]; exact ⟨g1, i2⟩
  · rintro acc st ⟨dn, rs, A, a2, c2, y, z, e1, e2, rfl, e4, e5, e6, e7, rfl⟩
    have hr : rs = [] := by cases rs with
      | nil => rfl
      | cons => cases e2
    subst hr
    rw [List.append_nil] at e1
    subst e1
    have al := f2_len e4
    have e7' : c2 ≤ c + 1 + 4 * P := by simpa using e7
    have z4 : A.length * (P + 1) ≤ 4 * (P + 1) := Nat.mul_le_mul_right _ (by omega)
    dsimp only [St.wipe, wipeS, layBack, List.map, List.cons_append, List.nil_append, List.replicate_succ, List.replicate_zero, keepIx_t, keepIx_f, keepIx_n, Nat.reduceSub, Nat.reduceAdd, St.put, List.set_cons_succ, List.set_cons_zero, Int.reduceToNat, if_true, Bool.false_eq_true, if_false, srcSlots]
    repeat' (first | walk_at "kva" | walk_at "kvs")
    refine ⟨_, rfl, .row (Qfs.ofL A), a2, c2, .row (ft_of e4) h'.2 (Kfs.kk_one h'.1.1), (row_sz (fun p m => (e5 p m).1) (fun p m => (e5 p m).2) (by omega)).mono (Nat.le_refl _) (by omega), by omega, by omega, by rw [row_pv], rfl⟩
  · have : (fs.l.length : Int) * P ≤ 4 * P := by
      have : fs.l.length * P ≤ 4 * P := Nat.mul_le_mul_right _ (by omega)
      have e : (fs.l.length : Int) * P = ((fs.l.length * P : Nat) : Int) := by rw [Int.natCast_mul]
      rw [e]; omega
    omega
end K30

set_option Elab.async false
set_option linter.all false
set_option maxRecDepth 100000
set_option hygiene false
local macro_rules | `(tactic| walk_at "kvs") => `(tactic| (first | (with_reducible refine' has_mk eqnum ?_) | (with_reducible refine' has_mk eqword ?_) | ((with_reducible refine has_mod ?_ (fun r hr0 hr1 hre => ?_)); (first | decide | assumption | omega)) | ((with_reducible refine has_div ?_ ?_ (fun q hq hq1 => ?_)); (first | decide | assumption | omega); (first | decide | assumption | omega)) | ((with_reducible refine has_mul ?_ ?_ (fun p hp => ?_)); omega; omega) | (with_reducible refine has_pick ?_) | (with_reducible refine has_nei ?_) | ((with_reducible refine has_mulB ?_ ?_ (fun p hp => ?_)); omega; omega) | (with_reducible refine' has_mk pow_10_8 ?_) | (with_reducible refine' has_mk pow_10_9 ?_) | (with_reducible refine' has_mk pow_10_11 ?_) | (with_reducible refine' has_mk pow_10_12 ?_) | (with_reducible refine' has_mk pow_10_18 ?_) | (with_reducible refine' has_mk pow_10_20 ?_) | (with_reducible refine' has_mk pow_10_30 ?_) | (with_reducible refine' has_mk (cmp_eq _ _ ▸ eq_int _ _) ?_) | (with_reducible refine' has_mk (cmp_ge _ _) ?_) | (with_reducible refine' has_mk (cmp_gt _ _) ?_) | (with_reducible refine' has_mk (cmp_lt _ _) ?_) | (with_reducible refine' has_mk (cmp_le _ _) ?_) | ((with_reducible apply has_mk); exact rfl) | (with_reducible refine two_dec (fun hb => ?_) (fun hb => ?_)) | (with_reducible refine two_mk (fun hb => ?_) (fun hb => ?_)) | ((with_reducible apply s_setAt); exact rfl; exact rfl; try dsimp only [List.map, List.cons_append, List.nil_append, List.replicate_succ, List.replicate_zero, keepIx_t, keepIx_f, keepIx_n, Nat.reduceSub, Nat.reduceAdd, St.put, List.set_cons_succ, List.set_cons_zero, Int.reduceToNat, if_true, Bool.false_eq_true, if_false, srcSlots]) | ((with_reducible apply s_aug1); exact rfl) | ((with_reducible apply s_reto); exact rfl; exact rfl; try dsimp only [List.map, List.cons_append, List.nil_append, List.replicate_succ, List.replicate_zero, keepIx_t, keepIx_f, keepIx_n, Nat.reduceSub, Nat.reduceAdd, St.put, List.set_cons_succ, List.set_cons_zero, Int.reduceToNat, if_true, Bool.false_eq_true, if_false, srcSlots]) | ((with_reducible apply c_call); exact rfl; exact rfl) | ((with_reducible apply c_make); exact rfl; exact rfl) | ((with_reducible apply s_setF); exact rfl; decide; try dsimp only [fput, List.map, List.cons_append, List.nil_append, List.replicate_succ, List.replicate_zero, keepIx_t, keepIx_f, keepIx_n, Nat.reduceSub, Nat.reduceAdd, St.put, List.set_cons_succ, List.set_cons_zero, Int.reduceToNat, if_true, Bool.false_eq_true, if_false, srcSlots]) | ((with_reducible refine has_range1 ?_ ?_ ?_); omega; omega) | (with_reducible refine w_bmg ?_) | (with_reducible refine w_me ?_) | ((with_reducible apply dic_mk); decide; exact rfl; dsimp only [dmk, List.zip_cons_cons, List.zip_nil_left, List.map_cons, List.map_nil]) | (with_reducible refine w_getd ?_) | (with_reducible refine w_get1 ?_)))
set_option hygiene true
namespace K30
open Kv
/-- more names -/
def Ext (E E' : TD Kd) : Prop := ∀ x K, tget E x = some K → tget E' x = some K
theorem Ext.cons {E E' : TD Kd} {x : Tx} {K : Kd} (h : Ext E E') : Ext ((x, K) :: E) ((x, K) :: E') := by
  intro y L e
  have e' : (if x = y then some K else tget E y) = some L := e
  show (if x = y then some K else tget E' y) = some L
  by_cases c : x = y
  · rw [if_pos c] at e' ⊢; exact e'
  · rw [if_neg c] at e' ⊢; exact h y L e'
theorem Ext.add {E : TD Kd} {x : Tx} {K : Kd} (h : tget E x = none) : Ext E ((x, K) :: E) := by
  intro y L e
  show (if x = y then some K else tget E y) = some L
  by_cases c : x = y
  · subst c; rw [h] at e; cases e
  · rw [if_neg c]; exact e
mutual
theorem QT.ext : ∀ {E E' : TD Kd} {Q : Qn} {K : Kd}, Ext E E' → QT E Q K → QT E' Q K
  | _, _, _, _, _, .num => .num
  | _, _, _, _, _, .word => .word
  | _, _, _, _, h, .var g => .var (h _ _ g)
  | _, _, _, _, _, .tab g => .tab g
  | _, _, _, _, h, .row g r o => .row (FT.ext h g) r o
  | _, _, _, _, h, .at g m => .at (QT.ext h g) m
  | _, _, _, _, h, .op w a b => .op w (QT.ext h a) (QT.ext h b)
  | _, _, _, _, _, .non g => .non g
  | _, _, _, _, h, .one a => .one (QT.ext h a)
  | _, _, _, _, h, .both a b => .both (QT.ext h a) (QT.ext h b)
  | _, _, _, _, h, .times a => .times (QT.ext h a)
  | _, _, _, _, h, .whn c a => .whn (QC.ext h c) (QT.ext h a)
  | _, _, _, _, h, .fr a b => .fr (QT.ext h a) (QT.ext h.cons b)
  | _, _, _, _, h, .lt a b => .lt (QT.ext h a) (QT.ext h.cons b)
theorem QC.ext : ∀ {E E' : TD Kd} {Q : Qn}, Ext E E' → QC E Q → QC E' Q
  | _, _, _, h, .same k a b => .same k (QT.ext h a) (QT.ext h b)
  | _, _, _, h, .under a b => .under (QT.ext h a) (QT.ext h b)
  | _, _, _, h, .and w a b => .and w (QC.ext h a) (QC.ext h b)
  | _, _, _, h, .not a => .not (QC.ext h a)
theorem FT.ext : ∀ {E E' : TD Kd} {fs : Qfs} {ks : Kfs}, Ext E E' → FT E fs ks → FT E' fs ks
  | _, _, _, _, _, .nil => .nil
  | _, _, _, _, h, .cons a r => .cons (QT.ext h a) (FT.ext h r)
end
theorem no_w {n : Nat} : ∀ {E : TD Kd}, EOk E n → tget E [119] = none
  | [], _ => rfl
  | p :: r, h => by
    show (if p.1 = [119] then some p.2 else tget r [119]) = none
    rw [if_neg (h.ok p List.mem_cons_self).2.1]
    exact no_w (n := n) ⟨fun q m => h.ok q (List.mem_cons_of_mem _ m), by have := h.len; rw [List.length_cons] at this; omega⟩
theorem eqnum : cmpall .Eq (.pv Kd.num.pv) (.pv (.tup [.str [110, 117, 109]])) = some true := by decide
theorem eqword : cmpall .Eq (.pv Kd.word.pv) (.pv (.tup [.str [110, 117, 109]])) = some false := by decide
abbrev ClP (E : TD Kd) (e b m c : Int) (mu : List Obj) (D P : Nat) : SV → Kv.St → Prop := fun v st => ∃ (Q : Qn) (a' c' : Int), QC E Q ∧ Sz Q D P ∧ c ≤ c' ∧ c' ≤ c + P ∧ v = .pv Q.pv ∧ st = ⟨[some (.own (.lst (E.map kfPv))), some (.pv (.int e)), some (sd b m a' c')], mu⟩
/-- a claim asked for -/
def ClK (k : Nat) (e : Int) (n : Nat) (D P : Nat) : Prop := ∀ ⦃mu : List Obj⦄ ⦃E : TD Kd⦄ ⦃b m a c : Int⦄, SdOk m → CnOk c P → EOk E n → wp (callK fns tabs k 13 [.own (.lst (E.map kfPv)), .pv (.int e), sd b m a c] mu) (ClP E e b m c mu D P)
theorem tab_sz {x : Tx} (h : nmTx x = true) : Sz (q0 wTab (.tx x)) 1 2 := q0_sz (p := .tx x) (show (_, 119, 0) ∈ shapes from by decide) h (Nat.le_refl _)
abbrev oneAt (A : Qn) : Qn := q1 wAt (.tx [97]) (.row (Qfs.ofL [([97], A), ([98], q0 wTab (.tx [116]))]))
abbrev oneLet (A : Qn) : Qn := q2 wLet (.tx [119]) (q0 wTab (.tx [117])) A
theorem oneAt_ty {E : TD Kd} {A : Qn} (h : QT E A .num) : QT E (oneAt A) .num := by
  refine .at (ks := .cons [97] .num (.cons [98] (.bag .num) .nil)) (.row ?_ (by decide) (by decide)) (by show _ ∈ [_, _]; exact List.mem_cons_self)
  exact .cons h (.cons (.tab (show tget KT [116] = some Kd.num from rfl)) .nil)
theorem oneAt_sz {A : Qn} (h : Sz A 2 10) : Sz (oneAt A) 4 30 := by
  refine (q1_sz (p := .tx [97]) (d := 3) (n := 28) (show (_, 119, 1) ∈ shapes from by decide) (by decide) (Nat.le_refl _) ?_).mono (by decide) (by decide)
  refine (row_sz (d := 2) (n := 10) ?_ ?_ (by show 2 ≤ 14; omega)).mono (by decide) (by show 2 * (10 + 1) + 2 ≤ 28; omega)
  · intro p m
    simp only [List.mem_cons, List.not_mem_nil, or_false] at m
    rcases m with rfl | rfl
    · exact (by decide : nmTx [97] = true)
    · exact (by decide : nmTx [98] = true)
  · intro p m
    simp only [List.mem_cons, List.not_mem_nil, or_false] at m
    rcases m with rfl | rfl
    · exact h
    · exact (tab_sz (by decide)).mono (by decide) (by decide)
theorem oneLet_ty {E : TD Kd} {n : Nat} {A : Qn} (hE : EOk E n) (h : QT E A .num) : QT E (oneLet A) .num :=
  .lt (K := .bag deepK) (.tab (show tget KT [117] = some deepK from rfl)) (h.ext (Ext.add (no_w hE)))
theorem oneLet_sz {A : Qn} (h : Sz A 2 10) : Sz (oneLet A) 4 30 :=
  (q2_sz (p := .tx [119]) (show (_, 119, 2) ∈ shapes from by decide) (by decide) (Nat.le_refl _) (tab_sz (by decide)) h).mono (by decide) (by decide)
def claimR : List S := [.asg (.nm 5) (.idx (.lst [.tup [.c (.str [110, 117, 109])], .tup [.c (.str [110, 117, 109])], .tup [.c (.str [119, 111, 114, 100])]]) (.call 5 [.var 2, .c (.int 3)])), .asg (.nm 4) (.call 12 [.var 5, .var 0, .c (.int 0), .var 2]), .iff (.and [.e (.cmp .Eq (.var 5) (.tup [.c (.str [110, 117, 109])])), .e (.cmp .Eq (.call 5 [.var 2, .c (.int 8)]) (.c (.int 0)))]) [.asg (.nm 4) (.idx (.lst [.tup [.c (.str [97, 116]), .c (.str [97]), .tup [.c (.str [114, 111, 119]), .tup [.tup [.c (.str [97]), .var 4], .tup [.c (.str [98]), .tup [.c (.str [116, 97, 98, 108, 101]), .c (.str [116])]]]]], .tup [.c (.str [108, 101, 116]), .c (.str [119]), .tup [.c (.str [116, 97, 98, 108, 101]), .c (.str [117])], .var 4]]) (.bin .Mod (.var 3) (.c (.int 2))))] [], .asg (.nm 6) (.idx (.lst [.c (.str [115, 97, 109, 101]), .c (.str [117, 110, 100, 101, 114])]) (.bi .int [.and [.cmp .Eq (.var 5) (.tup [.c (.str [110, 117, 109])]), .cmp .Gt (.var 3) (.c (.int 3))]])), .ret (.tup [.var 6, .var 4, .call 12 [.var 5, .var 0, .c (.int 0), .var 2]])]
theorem claim_body : f_law_claim.body = .asg (.nm 3) (.call 5 [.var 2, .c (.int 6)]) :: .iff (.and [.e (.cmp .Gt (.var 1) (.c (.int 0))), .e (.cmp .Eq (.var 3) (.c (.int 0)))]) [.ret (.tup [.c (.str [110, 111, 116]), .call 13 [.var 0, .bin .Sub (.var 1) (.c (.int 1)), .var 2]])] [] :: .iff (.and [.e (.cmp .Gt (.var 1) (.c (.int 0))), .e (.cmp .Eq (.var 3) (.c (.int 1)))]) [.asg (.nm 4) (.call 13 [.var 0, .bin .Sub (.var 1) (.c (.int 1)), .var 2]), .ret (.tup [.idx (.lst [.c (.str [97, 110, 100]), .c (.str [111, 114])]) (.call 5 [.var 2, .c (.int 2)]), .var 4, .call 13 [.var 0, .bin .Sub (.var 1) (.c (.int 1)), .var 2]])] [] :: claimR := rfl
theorem same_fin {E : TD Kd} {A B : Qn} {K : Kd} (h : K = .num ∨ K = .word) (tA : QT E A K) (sA : Sz A 4 30) (tB : QT E B K) (sB : Sz B 2 10) : QC E (q2 wSame .no A B) ∧ Sz (q2 wSame .no A B) 5 60 :=
  ⟨.same h tA tB, (q2_sz (show (_, 0, 2) ∈ shapes from by decide) rfl (by decide) sA sB).mono (by decide) (by decide)⟩
theorem under_fin {E : TD Kd} {A B : Qn} (tA : QT E A .num) (sA : Sz A 4 30) (tB : QT E B .num) (sB : Sz B 2 10) : QC E (q2 wUnder .no A B) ∧ Sz (q2 wUnder .no A B) 5 60 :=
  ⟨.under tA tB, (q2_sz (show (_, 0, 2) ∈ shapes from by decide) rfl (by decide) sA sB).mono (by decide) (by decide)⟩
abbrev outC (E : TD Kd) (e b m c : Int) (mu : List Obj) (D P : Nat) : Fl → Kv.St → Prop := fun f st => ∃ v, f = .ret v ∧ ClP E e b m c mu D P v ⟨keeps [true, true, true] st.sg, st.mu⟩
/-- behind what is drawn -/
theorem claim_end {k n : Nat} {e : Int} {mu : List Obj} {E : TD Kd} {b m a c x : Int} {y4 : Option SV} (hm : SdOk m) (hc : CnOk c 60) (hE : EOk E n) (hn : n ≤ 60) (x0 : 0 ≤ x) :
    wp (evSs ⟨fns, tabs, callK fns tabs (k + 4), 3⟩ claimR [0, 1, 2] ⟨[some (.own (.lst (E.map kfPv))), some (.pv (.int e)), some (sd b m a c), some (.pv (.int x)), y4, none, none], mu⟩) (outC E e b m c mu 5 60) := by
  obtain ⟨hc0, hc1⟩ := hc
  unfold claimR
  repeat' (first | walk_at "kva" | walk_at "kvs")
  refine wp_mono (draw_ok hm (by omega) (by decide) (by decide)) ?_
  rintro _ _ ⟨y, a1, y0, y1, rfl, rfl⟩
  repeat' (first | walk_at "kva" | walk_at "kvs")
  refine has_ixL (fun p => p = Kd.num.pv ∨ p = Kd.word.pv) y0 (by exact y1) (fun p hp => by
    simp only [List.mem_cons, List.not_mem_nil, or_false] at hp
    rcases hp with rfl | rfl | rfl
    · exact .inl rfl
    · exact .inl rfl
    · exact .inr rfl) ?_
  rintro _ (rfl | rfl)
  · repeat' (first | walk_at "kva" | (with_reducible refine' has_mk (kd_cn _ _) ?_) | walk_at "kvs")
    refine wp_mono (sm_num0 (k := k) (e := 0) (Int.le_refl _) hn hm ⟨by omega, by omega⟩ hE) ?_
    rintro _ _ ⟨A, a2, c2, g1, g2, g3, g4, rfl, rfl⟩
    repeat' (first | walk_at "kva" | (with_reducible refine' has_mk (kd_cn _ _) ?_) | walk_at "kvs")
    refine wp_mono (draw_ok hm (by omega) (by decide) (by decide)) ?_
    rintro _ _ ⟨z, a3, z0, z1, rfl, rfl⟩
    repeat' (first | walk_at "kva" | (with_reducible refine' has_mk (kd_cn _ _) ?_) | (with_reducible refine has_pick2 (fun hp => ?_) (fun hp => ?_)) | walk_at "kvs")
    · refine has_ixL (fun p => ∃ A' : Qn, QT E A' .num ∧ Sz A' 4 30 ∧ p = A'.pv) (by assumption) (by assumption) (fun p hp => by
        simp only [List.mem_cons, List.not_mem_nil, or_false] at hp
        rcases hp with rfl | rfl
        · exact ⟨oneAt A, oneAt_ty g1, oneAt_sz g2, rfl⟩
        · exact ⟨oneLet A, oneLet_ty hE g1, oneLet_sz g2, rfl⟩) ?_
      rintro _ ⟨A', tA, sA, rfl⟩
      repeat' (first | walk_at "kva" | (with_reducible refine' has_mk (q_cn _ _) ?_) | (with_reducible refine has_pick2 (fun hp => ?_) (fun hp => ?_)) | walk_at "kvs")
      · refine wp_mono (sm_num0 (k := k) (e := 0) (Int.le_refl _) hn hm ⟨by omega, by omega⟩ hE) ?_
        rintro _ _ ⟨B, a5, c5, i1, i2, i3, i4, rfl, rfl⟩
        repeat' (first | walk_at "kva" | (with_reducible refine' has_mk (q_cn _ _) ?_) | walk_at "kvs")
        obtain ⟨f1, f2⟩ := under_fin tA sA i1 i2
        exact ⟨_, rfl, _, a5, c5, f1, f2, by omega, by omega, rfl, rfl⟩
      · refine wp_mono (sm_num0 (k := k) (e := 0) (Int.le_refl _) hn hm ⟨by omega, by omega⟩ hE) ?_
        rintro _ _ ⟨B, a5, c5, i1, i2, i3, i4, rfl, rfl⟩
        repeat' (first | walk_at "kva" | (with_reducible refine' has_mk (q_cn _ _) ?_) | walk_at "kvs")
        obtain ⟨f1, f2⟩ := same_fin (.inl rfl) tA sA i1 i2
        exact ⟨_, rfl, _, a5, c5, f1, f2, by omega, by omega, rfl, rfl⟩
    · refine wp_mono (sm_num0 (k := k) (e := 0) (Int.le_refl _) hn hm ⟨by omega, by omega⟩ hE) ?_
      rintro _ _ ⟨B, a5, c5, i1, i2, i3, i4, rfl, rfl⟩
      repeat' (first | walk_at "kva" | (with_reducible refine' has_mk (q_cn _ _) ?_) | walk_at "kvs")
      obtain ⟨f1, f2⟩ := under_fin g1 (g2.mono (by decide) (by decide)) i1 i2
      exact ⟨_, rfl, _, a5, c5, f1, f2, by omega, by omega, rfl, rfl⟩
    · refine wp_mono (sm_num0 (k := k) (e := 0) (Int.le_refl _) hn hm ⟨by omega, by omega⟩ hE) ?_
      rintro _ _ ⟨B, a5, c5, i1, i2, i3, i4, rfl, rfl⟩
      repeat' (first | walk_at "kva" | (with_reducible refine' has_mk (q_cn _ _) ?_) | walk_at "kvs")
      obtain ⟨f1, f2⟩ := same_fin (.inl rfl) g1 (g2.mono (by decide) (by decide)) i1 i2
      exact ⟨_, rfl, _, a5, c5, f1, f2, by omega, by omega, rfl, rfl⟩
  · repeat' (first | walk_at "kva" | (with_reducible refine' has_mk (kd_cn _ _) ?_) | walk_at "kvs")
    refine wp_mono (sm_word (k := k) (e := 0) hn hm ⟨by omega, by omega⟩ hE) ?_
    rintro _ _ ⟨A, a2, c2, g1, g2, g3, g4, rfl, rfl⟩
    repeat' (first | walk_at "kva" | (with_reducible refine' has_mk (kd_cn _ _) ?_) | walk_at "kvs")
    refine wp_mono (sm_word (k := k) (e := 0) hn hm ⟨by omega, by omega⟩ hE) ?_
    rintro _ _ ⟨B, a5, c5, i1, i2, i3, i4, rfl, rfl⟩
    repeat' (first | walk_at "kva" | (with_reducible refine' has_mk (q_cn _ _) ?_) | walk_at "kvs")
    obtain ⟨f1, f2⟩ := same_fin (.inr rfl) g1 (g2.mono (by decide) (by decide)) i1 i2
    exact ⟨_, rfl, _, a5, c5, f1, f2, by omega, by omega, rfl, rfl⟩
theorem cl_up {E : TD Kd} {e b m c : Int} {mu : List Obj} {D P : Nat} {st : Kv.St} {f : Fl} : outC E e b m c mu D P f st → (match f with | .ret v => ClP E e b m c mu D P v { st with sg := keeps f_law_claim.keep st.sg } | .nx => ClP E e b m c mu D P (.pv .non) { st with sg := keeps f_law_claim.keep st.sg } | _ => False) := by
  rintro ⟨v, rfl, h⟩
  exact h
theorem outC.up {E : TD Kd} {e b m c c1 : Int} {mu : List Obj} {D P D' P' : Nat} {f : Fl} {st : Kv.St} (h : outC E e b m c1 mu D P f st) (h1 : c ≤ c1) (h2 : c1 + P ≤ c + P') (hD : D ≤ D') (hP : P ≤ P') : outC E e b m c mu D' P' f st := by
  obtain ⟨v, rfl, Q, a', c', g1, g2, g3, g4, rfl, g5⟩ := h
  exact ⟨_, rfl, Q, a', c', g1, g2.mono hD hP, by omega, by omega, rfl, g5⟩
theorem claim0 {k n : Nat} {e : Int} (he : e ≤ 0) (hn : n ≤ 60) : ClK (k + 5) e n 5 61 := by
  intro mu E b m a c hm hc hE
  obtain ⟨hc0, hc1⟩ := hc
  refine c_run (fn := f_law_claim) rfl rfl rfl (wp_mono (P := outC E e b m c mu 5 61) ?_ fun f st h => cl_up h)
  rw [claim_body]
  dsimp only [show f_law_claim.np = 3 from rfl, show f_law_claim.ns = 7 from rfl, show f_law_claim.keep = [true, true, true] from rfl, List.map, List.cons_append, List.nil_append, List.replicate_succ, List.replicate_zero, keepIx_t, keepIx_f, keepIx_n, Nat.reduceSub, Nat.reduceAdd, St.put, List.set_cons_succ, List.set_cons_zero, Int.reduceToNat, if_true, Bool.false_eq_true, if_false, srcSlots]
  repeat' (first | walk_at "kva" | walk_at "kvs")
  refine wp_mono (draw_ok hm (by omega) (by decide) (by decide)) ?_
  rintro _ _ ⟨x, a1, x0, x1, rfl, rfl⟩
  repeat' (first | walk_at "kva" | walk_at "kvs")
  all_goals first
    | (exfalso; omega)
    | exact wp_mono (claim_end hm ⟨by omega, by omega⟩ hE hn x0) fun f st h => h.up (by omega) (by omega) (by decide) (by decide)
theorem claim1 {k n : Nat} (hn : n ≤ 60) : ClK (k + 6) 1 n 6 130 := by
  intro mu E b m a c hm hc hE
  obtain ⟨hc0, hc1⟩ := hc
  have ih : ClK (k + 5) 0 n 5 61 := claim0 (Int.le_refl _) hn
  refine c_run (fn := f_law_claim) rfl rfl rfl (wp_mono (P := outC E 1 b m c mu 6 130) ?_ fun f st h => cl_up h)
  rw [claim_body]
  dsimp only [show f_law_claim.np = 3 from rfl, show f_law_claim.ns = 7 from rfl, show f_law_claim.keep = [true, true, true] from rfl, List.map, List.cons_append, List.nil_append, List.replicate_succ, List.replicate_zero, keepIx_t, keepIx_f, keepIx_n, Nat.reduceSub, Nat.reduceAdd, St.put, List.set_cons_succ, List.set_cons_zero, Int.reduceToNat, if_true, Bool.false_eq_true, if_false, srcSlots]
  repeat' (first | walk_at "kva" | walk_at "kvs")
  refine wp_mono (draw_ok hm (by omega) (by decide) (by decide)) ?_
  rintro _ _ ⟨x, a1, x0, x1, rfl, rfl⟩
  repeat' (first | walk_at "kva" | walk_at "kvs")
  · refine wp_mono (ih hm ⟨by omega, by omega⟩ hE) ?_
    rintro _ _ ⟨A, a2, c2, g1, g2, g3, g4, rfl, rfl⟩
    repeat' (first | walk_at "kva" | (with_reducible refine' has_mk (q_cn _ _) ?_) | walk_at "kvs")
    exact ⟨_, rfl, q1 wNot .no A, a2, c2, .not g1, (q1_sz (show (_, 0, 1) ∈ shapes from by decide) rfl (by decide) g2).mono (by decide) (by decide), by omega, by omega, rfl, rfl⟩
  · refine wp_mono (ih hm ⟨by omega, by omega⟩ hE) ?_
    rintro _ _ ⟨A, a2, c2, g1, g2, g3, g4, rfl, rfl⟩
    repeat' (first | walk_at "kva" | walk_at "kvs")
    refine wp_mono (draw_ok hm (by omega) (by decide) (by decide)) ?_
    rintro _ _ ⟨y, a3, y0, y1, rfl, rfl⟩
    repeat' (first | walk_at "kva" | walk_at "kvs")
    refine has_ixL (fun p => ∃ w : Tx, (w = wAnd ∨ w = wOr) ∧ p = .str w) y0 (by exact y1) (fun p hp => by
      simp only [List.mem_cons, List.not_mem_nil, or_false] at hp
      rcases hp with rfl | rfl
      · exact ⟨_, .inl rfl, rfl⟩
      · exact ⟨_, .inr rfl, rfl⟩) ?_
    rintro _ ⟨w, hw, rfl⟩
    repeat' (first | walk_at "kva" | walk_at "kvs")
    refine wp_mono (ih hm ⟨by omega, by omega⟩ hE) ?_
    rintro _ _ ⟨B, a4, c4, i1, i2, i3, i4, rfl, rfl⟩
    repeat' (first | walk_at "kva" | (with_reducible refine' has_mk (q_cn _ _) ?_) | walk_at "kvs")
    have sh : (w, Pre.no.code, 2) ∈ shapes := by
      rcases hw with rfl | rfl
      · decide
      · decide
    exact ⟨_, rfl, q2 w .no A B, a4, c4, .and hw g1 i1, (q2_sz sh rfl (by decide) g2 i2).mono (by omega) (by omega), by omega, by omega, rfl, rfl⟩
  · exact wp_mono (claim_end hm ⟨by omega, by omega⟩ hE hn x0) fun f st h => h.up (by omega) (by omega) (by decide) (by decide)
end K30

set_option Elab.async false
set_option linter.all false
set_option maxRecDepth 100000
set_option hygiene false
set_option hygiene true
namespace K30
open Kv
theorem has_eql {a b : List PV} {f : Bool → Prop} (ha : PV.plains a = true) (hb : PV.plains b = true) (da : PV.depths a ≤ 149) (db : PV.depths b ≤ 149) (k : f (decide (a = b))) : Has (cmpall .Eq (.own (.lst a)) (.own (.lst b))) f := by
  refine ⟨_, ?_, k⟩
  rw [cmp_eq]
  show (if PV.plains a && PV.plains b && decide (PV.depths a ≤ 149) && decide (PV.depths b ≤ 149) then some (decide (a = b)) else none) = _
  rw [ha, hb, decide_eq_true da, decide_eq_true db]; rfl
/-- what may be told at once -/
abbrev wW (E : TD Kd) (K : Kd) (q : Qn) : Prop := QT E q K ∧ Sz q 2 4
theorem ww_pl {E : TD Kd} {K : Kd} : ∀ {L : List Qn}, (∀ q ∈ L, wW E K q) → PV.plains (L.map Qn.pv) = true ∧ PV.depths (L.map Qn.pv) ≤ 40
  | [], _ => ⟨rfl, Nat.zero_le _⟩
  | q :: r, h => by
    have z := (h q List.mem_cons_self).2
    obtain ⟨a, b⟩ := Qn.dd z.g
    obtain ⟨c, d⟩ := ww_pl fun p m => h p (List.mem_cons_of_mem _ m)
    have := z.d
    refine ⟨?_, ?_⟩
    · show (PV.plain q.pv && PV.plains (r.map Qn.pv)) = true
      rw [a, c]; rfl
    · show max q.pv.depth (PV.depths (r.map Qn.pv)) ≤ 40
      omega
def wayB : List S := [.iff (.and [.e (.cmp .Eq (.var 5) (.lst [])), .e (.cmp .Eq (.call 5 [.var 3, .c (.int 2)]) (.c (.int 0)))]) [.ret (.tup [.c (.str [111, 110, 101]), .call 12 [.idx (.var 0) (.c (.int 1)), .var 1, .c (.int 0), .var 3]])] [], .iff (.e (.cmp .Eq (.var 5) (.lst []))) [.ret (.tup [.c (.str [110, 111, 110, 101]), .idx (.var 0) (.c (.int 1))])] [], .ret (.idx (.var 5) (.call 5 [.var 3, .bi .len [.var 5]]))]
abbrev asSt (E : TD Kd) (K : Kd) (e b m a c x : Int) (N W : List Qn) (o7 o8 : Option SV) (mu : List Obj) : Kv.St := ⟨[some (.pv K.pv), some (.own (.lst (E.map kfPv))), some (.pv (.int e)), some (sd b m a c), some (.own (.lst (N.map Qn.pv))), some (.own (.lst (W.map Qn.pv))), some (.pv (.int x)), o7, o8, none, none], mu⟩
theorem outQ.up {E : TD Kd} {K : Kd} {e b m c c1 : Int} {mu : List Obj} {D P D' P' : Nat} {f : Fl} {st : Kv.St} (h : outQ E K e b m c1 mu D P f st) (h1 : c ≤ c1) (h2 : c1 + P ≤ c + P') (hD : D ≤ D') (hP : P ≤ P') : outQ E K e b m c mu D' P' f st := by
  obtain ⟨v, rfl, Q, a', c', g1, g2, g3, g4, rfl, g5⟩ := h
  exact ⟨_, rfl, Q, a', c', g1, g2.mono hD hP, by omega, by omega, rfl, g5⟩
theorem none_sz {K : Kd} (h : KO (.bag K)) : Sz (q0 wNone (.kd K)) 1 512 := by
  refine q0_sz (p := .kd K) (show (_, 107, 0) ∈ shapes from by decide) ?_ ?_
  · show (K.good && decide (K.depth ≤ 8)) = true
    rw [h.bag.good, decide_eq_true (by have := h.bag.2; omega)]; rfl
  · have a := Kd.wd_len h.bag.1
    have h2 : K.depth + 1 ≤ 3 := h.2
    have b : 8 ^ (K.depth + 1) ≤ 8 ^ 3 := Nat.pow_le_pow_right (by decide) h2
    have c : 8 ^ 3 = 512 := by decide
    show K.wd.length + 1 ≤ 512
    omega
/-- at the end of the fuel -/
theorem way_ok {k n : Nat} {e : Int} {K : Kd} {D P : Nat} {mu : List Obj} {E : TD Kd} {b m a c x : Int} {N W : List Qn} {pr : List Nat} (hK : KO (.bag K)) (hD : 2 ≤ D) (hP : 4 ≤ P) (hm : SdOk m) (hc : CnOk c (P + 515)) (hE : EOk E n) (hW : ∀ q ∈ W, wW E (.bag K) q) (lW : W.length ≤ 1000) (ih : AskK (k + 1) 12 0 n K D P) :
    wp (evSs ⟨fns, tabs, callK fns tabs (k + 1), 4⟩ wayB pr (asSt E (.bag K) e b m a c x N W none none mu)) (outQ E (.bag K) e b m c mu (D + 1) (P + 515)) := by
  obtain ⟨hc0, hc1⟩ := hc
  obtain ⟨p1, p2⟩ := ww_pl hW
  unfold wayB
  have pick : ∀ (a c1 : Int), c ≤ c1 → c1 ≤ c + 1 → 0 < W.length → wp (callK fns tabs (k + 1) 5 [sd b m a c1, .pv (.int ((W.map Qn.pv).length : Nat))] mu) fun v st => ∃ (y a2 : Int), 0 ≤ y ∧ y < ((W.map Qn.pv).length : Nat) ∧ v = .pv (.int y) ∧ st = ⟨[some (sd b m a2 (c1 + 1)), some (.pv (.int ((W.map Qn.pv).length : Nat)))], mu⟩ := by
    intro a c1 h1 h2 ne
    exact draw_ok hm (by omega) (by rw [List.length_map]; omega) (by rw [List.length_map]; omega)
  have fin : ∀ {y : Int} {f : PV → Prop}, 0 ≤ y → y < ((W.map Qn.pv).length : Nat) → (∀ q ∈ W, f q.pv) → Has (index (.own (.lst (W.map Qn.pv))) (.pv (.int y))) f := by
    intro y f y0 y1 hf
    refine has_ixL (fun p => ∃ q ∈ W, p = Qn.pv q) y0 y1 (fun p hp => by
      obtain ⟨q, hq, rfl⟩ := List.mem_map.mp hp
      exact ⟨q, hq, rfl⟩) ?_
    rintro _ ⟨q, hq, rfl⟩
    exact hf q hq
  have ne : decide (W.map Qn.pv = []) = false → 0 < W.length := by
    intro h
    have h := of_decide_eq_false h
    cases W with
    | nil => exact absurd rfl h
    | cons q r => exact Nat.succ_pos _
  repeat' (first | walk_at "kva" | (with_reducible refine' has_mk (kd_cn _ _) ?_) | (with_reducible refine has_eql p1 rfl (by omega) (by decide) ?_) | walk_at "kvs")
  · refine wp_mono (draw_ok hm (by omega) (by decide) (by decide)) ?_
    rintro _ _ ⟨z, a1, z0, z1, rfl, rfl⟩
    repeat' (first | walk_at "kva" | (with_reducible refine' has_mk (kd_cn _ _) ?_) | (with_reducible refine has_eql p1 rfl (by omega) (by decide) ?_) | walk_at "kvs")
    · refine wp_mono (ih hm ⟨by omega, by omega⟩ hE) ?_
      rintro _ _ ⟨A, a2, c2, g1, g2, g3, g4, rfl, rfl⟩
      repeat' (first | walk_at "kva" | (with_reducible refine' has_mk (q_cn _ _) ?_) | walk_at "kvs")
      exact ⟨_, rfl, q1 wOne .no A, a2, c2, .one g1, (q1_sz (show (_, 0, 1) ∈ shapes from by decide) rfl (by decide) g2).mono (by omega) (by omega), by omega, by omega, rfl, rfl⟩
    · exact ⟨_, rfl, q0 wNone (.kd K), a1, c + 1, .non hK, (none_sz hK).mono (by omega) (by omega), by omega, by omega, rfl, rfl⟩
    · refine wp_mono (pick _ _ (by omega) (by omega) (ne (by assumption))) ?_
      rintro _ _ ⟨y, a2, y0, y1, rfl, rfl⟩
      repeat' (first | walk_at "kva" | (with_reducible refine fin y0 y1 (fun q hq => ?_)) | walk_at "kvs")
      have w := hW q hq
      repeat' (first | walk_at "kva" | (with_reducible refine' has_mk (q_cn _ _) ?_) | walk_at "kvs")
      exact ⟨_, rfl, q, a2, c + 1 + 1, w.1, w.2.mono (by omega) (by omega), by omega, by omega, rfl, rfl⟩
  · exact ⟨_, rfl, q0 wNone (.kd K), a, c, .non hK, (none_sz hK).mono (by omega) (by omega), by omega, by omega, rfl, rfl⟩
  · refine wp_mono (pick _ _ (by omega) (by omega) (ne (by assumption))) ?_
    rintro _ _ ⟨y, a2, y0, y1, rfl, rfl⟩
    repeat' (first | walk_at "kva" | (with_reducible refine fin y0 y1 (fun q hq => ?_)) | walk_at "kvs")
    have w := hW q hq
    repeat' (first | walk_at "kva" | (with_reducible refine' has_mk (q_cn _ _) ?_) | walk_at "kvs")
    exact ⟨_, rfl, q, a2, c + 1, w.1, w.2.mono (by omega) (by omega), by omega, by omega, rfl, rfl⟩
def askedR2 : List S := [.iff (.e (.cmp .Eq (.var 6) (.c (.int 2)))) [.ret (.tup [.c (.str [98, 111, 116, 104]), .call 16 [.var 0, .var 1, .bin .Sub (.var 2) (.c (.int 1)), .var 3], .call 16 [.var 0, .var 1, .bin .Sub (.var 2) (.c (.int 1)), .var 3]])] [], .iff (.e (.cmp .Eq (.var 6) (.c (.int 3)))) [.ret (.tup [.c (.str [116, 105, 109, 101, 115]), .bin .Sub (.call 5 [.var 3, .c (.int 7)]) (.c (.int 3)), .call 16 [.var 0, .var 1, .bin .Sub (.var 2) (.c (.int 1)), .var 3]])] [], .iff (.e (.cmp .Eq (.var 6) (.c (.int 4)))) [.ret (.tup [.c (.str [119, 104, 101, 110]), .call 13 [.var 1, .c (.int 1), .var 3], .call 16 [.var 0, .var 1, .bin .Sub (.var 2) (.c (.int 1)), .var 3]])] [], .iff (.e (.cmp .Eq (.var 6) (.c (.int 5)))) [.ret (.tup [.c (.str [111, 110, 101]), .call 12 [.idx (.var 0) (.c (.int 1)), .var 1, .bin .Sub (.var 2) (.c (.int 1)), .var 3]])] [], .iff (.e (.cmp .Eq (.var 6) (.c (.int 7)))) [.ret (.call 15 [.var 0, .var 1, .var 2, .var 3])] [], .iff (.and [.e (.cmp .Eq (.var 6) (.c (.int 8))), .e (.cmp .Eq (.call 5 [.var 3, .c (.int 2)]) (.c (.int 0)))]) [.ret (.tup [.c (.str [110, 111, 110, 101]), .idx (.var 0) (.c (.int 1))])] [], .asg (.nm 7) (.idx (.lst [.c (.str [116]), .c (.str [115]), .c (.str [122])]) (.call 5 [.var 3, .c (.int 3)])), .iff (.e (.cmp .Eq (.var 6) (.c (.int 6)))) [.asg (.nm 8) (.idx (.lst [.tup [.c (.str [110, 117, 109])], .tup [.c (.str [98, 97, 103]), .tup [.c (.str [110, 117, 109])]]]) (.call 5 [.var 3, .c (.int 2)])), .asg (.nm 9) (.call 16 [.var 8, .var 1, .bin .Sub (.var 2) (.c (.int 2)), .var 3]), .ret (.tup [.c (.str [108, 101, 116]), .var 7, .var 9, .call 16 [.var 0, .bin .Add (.lst [.tup [.var 7, .var 8]]) (.var 1), .bin .Sub (.var 2) (.c (.int 1)), .var 3]])] [], .asg (.tup [.nm 10, .nm 8]) (.call 14 [.var 1, .bin .Sub (.var 2) (.c (.int 1)), .var 3]), .ret (.tup [.c (.str [102, 111, 114]), .var 7, .var 10, .call 16 [.var 0, .bin .Add (.lst [.tup [.var 7, .idx (.var 8) (.c (.int 1))]]) (.var 1), .bin .Sub (.var 2) (.c (.int 1)), .var 3]])]
theorem asked_body : f_law_asked.body = .iff (.e (.cmp .NotEq (.idx (.var 0) (.c (.int 0))) (.c (.str [98, 97, 103])))) [.ret (.call 12 [.var 0, .var 1, .var 2, .var 3])] [] :: .asg (.nm 4) (.comp (.tup [.c (.str [116, 97, 98, 108, 101]), .var 7]) (.tup [.nm 7, .nm 8]) .it [.sit (.call 9 [])] [.e (.cmp .Eq (.tup [.c (.str [98, 97, 103]), .var 8]) (.var 0))] [7, 8]) :: .asg (.nm 5) (.bin .Add (.bin .Add (.call 11 [.var 0, .var 1]) (.var 4)) (.var 4)) :: .asg (.nm 6) (.call 5 [.var 3, .c (.int 12)]) :: .iff (.or [.e (.cmp .LtE (.var 2) (.c (.int 0))), .e (.cmp .Lt (.var 6) (.c (.int 2)))]) wayB [] :: askedR2 := rfl
theorem as_up {E : TD Kd} {K : Kd} {e b m c : Int} {mu : List Obj} {D P : Nat} {st : Kv.St} {f : Fl} : outQ E K e b m c mu D P f st → (match f with | .ret v => AskP E K e b m c mu D P v { st with sg := keeps f_law_asked.keep st.sg } | .nx => AskP E K e b m c mu D P (.pv .non) { st with sg := keeps f_law_asked.keep st.sg } | _ => False) := by
  rintro ⟨v, rfl, h⟩
  exact h
/-- of no bag -/
theorem as_nb {k n : Nat} {e : Int} {K : Kd} {D P : Nat} (hK : KO K) (nb : ∀ K', K ≠ .bag K') (ih : AskK (k + 1) 12 e n K D P) : AskK (k + 2) 16 e n K D P := by
  intro mu E b m a c hm hc hE
  refine c_run (fn := f_law_asked) rfl rfl rfl (wp_mono (P := outQ E K e b m c mu D P) ?_ fun f st h => as_up h)
  rw [asked_body]
  dsimp only [show f_law_asked.np = 4 from rfl, show f_law_asked.ns = 11 from rfl, show f_law_asked.keep = [true, true, true, true] from rfl, List.map, List.cons_append, List.nil_append, List.replicate_succ, List.replicate_zero, keepIx_t, keepIx_f, keepIx_n, Nat.reduceSub, Nat.reduceAdd, St.put, List.set_cons_succ, List.set_cons_zero, Int.reduceToNat, if_true, Bool.false_eq_true, if_false, srcSlots]
  cases K with
  | bag K' => exact absurd rfl (nb K')
  | num =>
    repeat' (first | walk_at "kva" | (with_reducible refine' has_mk (kd_cn _ _) ?_) | walk_at "kvs")
    refine wp_mono (ih hm hc hE) ?_
    rintro _ _ ⟨A, a2, c2, g1, g2, g3, g4, rfl, rfl⟩
    repeat' (first | walk_at "kva" | walk_at "kvs")
    exact ⟨_, rfl, A, a2, c2, g1, g2, g3, g4, rfl, rfl⟩
  | word =>
    repeat' (first | walk_at "kva" | (with_reducible refine' has_mk (kd_cn _ _) ?_) | walk_at "kvs")
    refine wp_mono (ih hm hc hE) ?_
    rintro _ _ ⟨A, a2, c2, g1, g2, g3, g4, rfl, rfl⟩
    repeat' (first | walk_at "kva" | walk_at "kvs")
    exact ⟨_, rfl, A, a2, c2, g1, g2, g3, g4, rfl, rfl⟩
  | row fs =>
    repeat' (first | walk_at "kva" | (with_reducible refine' has_mk (kd_cn _ _) ?_) | walk_at "kvs")
    refine wp_mono (ih hm hc hE) ?_
    rintro _ _ ⟨A, a2, c2, g1, g2, g3, g4, rfl, rfl⟩
    repeat' (first | walk_at "kva" | walk_at "kvs")
    exact ⟨_, rfl, A, a2, c2, g1, g2, g3, g4, rfl, rfl⟩
/-- the tables of a kind -/
theorem tab_comp {N : Env} {mu : List Obj} {E : TD Kd} {K : Kd} {e b m a c : Int} (hK : KO K) {Q : List PV → Kv.St → Prop}
    (q : ∀ A : List Qn, (∀ q ∈ A, wW E K q) → A.length ≤ 5 → Q (A.map Qn.pv) ⟨[some (.pv K.pv), some (.own (.lst (E.map kfPv))), some (.pv (.int e)), some (sd b m a c), none, none, none, none, none, none, none], mu⟩) :
    wp (compL (evAnd N [.e (.cmp .Eq (.tup [.c (.str [98, 97, 103]), .var 8]) (.var 0))]) (ev N (.tup [.c (.str [116, 97, 98, 108, 101]), .var 7])) (.tup [.nm 7, .nm 8]) (stands [.val (.own (.lst (KT.map kfPv)))] [.own (.lst (KT.map kfPv))]) [7, 8] (KT.map kfPv) [] ⟨[some (.pv K.pv), some (.own (.lst (E.map kfPv))), some (.pv (.int e)), some (sd b m a c), none, none, none, none, none, none, none], mu⟩) Q := by
  refine l_comp (fun ys acc st => ∃ (dn rs : TD Kd) (A : List Qn) (y z : Option SV), KT = dn ++ rs ∧ ys = rs.map kfPv ∧ acc = A.map Qn.pv ∧ (∀ q ∈ A, wW E K q) ∧ A.length ≤ dn.length ∧ st = ⟨[some (.pv K.pv), some (.own (.lst (E.map kfPv))), some (.pv (.int e)), some (sd b m a c), none, none, none, y, z, none, none], mu⟩) ?_ ?_ ?_ _ _ _ ⟨[], KT, [], none, none, rfl, rfl, rfl, fun q m => (nomatch m), Nat.le_refl _, rfl⟩
  · rintro ys acc st ⟨dn, rs, A, y, z, e1, e2, e3, e4, e5, rfl⟩
    exact stands_own
  · rintro q ys acc st ⟨dn, rs, A, y, z, e1, e2, rfl, e4, e5, rfl⟩
    cases rs with
    | nil => cases e2
    | cons p rs =>
      injection e2 with e3 e4'
      subst e3 e4'
      obtain ⟨x, K0⟩ := p
      have pin : (x, K0) ∈ KT := by rw [e1]; exact List.mem_append_right _ List.mem_cons_self
      have hx := KT_ok _ pin
      have hg : tget KT x = some K0 := tget_nd (by decide) pin
      have kb : KO (.bag K0) := ⟨hx.2.1, by have : K0.depth ≤ 2 := hx.2.2; show K0.depth + 1 ≤ 3; omega⟩
      have dl : dn.length + 1 ≤ 5 := by
        have := congrArg List.length e1
        rw [List.length_append, List.length_cons] at this
        have l5 : KT.length = 5 := rfl
        omega
      have pl : PV.plain (.tup [.str [98, 97, 103], K0.pv]) = true := Kd.plain kb.good
      have pd : (PV.tup [.str [98, 97, 103], K0.pv]).depth ≤ 10 := kb.pd
      have d2 := hK.pd
      dsimp only [St.wipe, wipeS, List.map, List.cons_append, List.nil_append, List.replicate_succ, List.replicate_zero, keepIx_t, keepIx_f, keepIx_n, Nat.reduceSub, Nat.reduceAdd, St.put, List.set_cons_succ, List.set_cons_zero, Int.reduceToNat, if_true, Bool.false_eq_true, if_false, srcSlots]
      refine has_mk rfl ?_
      dsimp only [List.map, List.cons_append, List.nil_append, List.replicate_succ, List.replicate_zero, keepIx_t, keepIx_f, keepIx_n, Nat.reduceSub, Nat.reduceAdd, St.put, List.set_cons_succ, List.set_cons_zero, Int.reduceToNat, if_true, Bool.false_eq_true, if_false, srcSlots]
      repeat' (first | walk_at "kva" | (with_reducible refine has_eqp pl (Kd.plain hK.good) (by omega) (by omega) (fun b h => nomatch h) ?_) | (with_reducible refine' has_mk (kd_cn _ _) ?_) | walk_at "kvs")
      · have eK : Kd.bag K0 = K := Kd.pv_inj hb
        refine ⟨?_, dn ++ [(x, K0)], rs, A ++ [q0 wTab (.tx x)], _, _, by rw [e1]; simp, rfl, ?_, ?_, ?_, rfl⟩
        · rw [List.length_map]
          show _ < 16777216
          omega
        · rw [List.map_append]; rfl
        · intro q m
          rcases List.mem_append.mp m with m | m
          · exact e4 q m
          · rw [List.mem_singleton.mp m]
            exact ⟨eK ▸ .tab hg, (tab_sz hx.1).mono (by decide) (by decide)⟩
        · rw [List.length_append, List.length_append]; simp; exact e5
      · refine ⟨dn ++ [(x, K0)], rs, A, _, _, by rw [e1]; simp, rfl, rfl, e4, ?_, rfl⟩
        rw [List.length_append]; omega
  · rintro acc st ⟨dn, rs, A, y, z, e1, e2, rfl, e4, e5, rfl⟩
    have hr : rs = [] := by cases rs with
      | nil => rfl
      | cons => cases e2
    subst hr
    rw [List.append_nil] at e1
    refine q A e4 ?_
    rw [← e1] at e5
    exact e5
theorem kt_sit : sitOf (.own (.dic (tdic Kd.pv KT))) = some (.own (.lst (KT.map kfPv))) := by decide +kernel
/-- up to the first parting -/
theorem as_pre {k n : Nat} {e : Int} {K : Kd} {D P : Nat} {mu : List Obj} {E : TD Kd} {b m a c : Int} (hK : KO (.bag K)) (hm : SdOk m) (hc : CnOk c P) (hP : 1 ≤ P) (hE : EOk E n) (hn : n ≤ 60)
    (rest : ∀ (N W : List Qn) (a' x : Int), (∀ q ∈ W, wW E (.bag K) q) → W.length ≤ 1000 → 0 ≤ x → x < 12 → wp (evSs ⟨fns, tabs, callK fns tabs (k + 2), 4⟩ (.iff (.or [.e (.cmp .LtE (.var 2) (.c (.int 0))), .e (.cmp .Lt (.var 6) (.c (.int 2)))]) wayB [] :: askedR2) [0, 1, 2, 3] (asSt E (.bag K) e b m a' (c + 1) x N W none none mu)) (outQ E (.bag K) e b m c mu D P)) :
    wp (callK fns tabs (k + 3) 16 (askA E (.bag K) e b m a c) mu) (AskP E (.bag K) e b m c mu D P) := by
  obtain ⟨hc0, hc1⟩ := hc
  refine c_run (fn := f_law_asked) rfl rfl rfl (wp_mono (P := outQ E (.bag K) e b m c mu D P) ?_ fun f st h => as_up h)
  rw [asked_body]
  generalize hR : (S.iff (.or [.e (.cmp .LtE (.var 2) (.c (.int 0))), .e (.cmp .Lt (.var 6) (.c (.int 2)))]) wayB [] :: askedR2) = R at rest ⊢
  dsimp only [show f_law_asked.np = 4 from rfl, show f_law_asked.ns = 11 from rfl, show f_law_asked.keep = [true, true, true, true] from rfl, List.map, List.cons_append, List.nil_append, List.replicate_succ, List.replicate_zero, keepIx_t, keepIx_f, keepIx_n, Nat.reduceSub, Nat.reduceAdd, St.put, List.set_cons_succ, List.set_cons_zero, Int.reduceToNat, if_true, Bool.false_eq_true, if_false, srcSlots]
  repeat' (first | walk_at "kva" | (with_reducible refine' has_mk (kd_cn _ _) ?_) | walk_at "kvs")
  refine wp_mono kinds_ok ?_
  rintro _ _ ⟨rfl, rfl⟩
  repeat' (first | walk_at "kva" | (with_reducible refine' has_mk kt_sit ?_) | walk_at "kvs")
  refine l_end (tab_comp hK ?_)
  intro A hA lA
  dsimp only [layBack, List.map, List.cons_append, List.nil_append, List.replicate_succ, List.replicate_zero, keepIx_t, keepIx_f, keepIx_n, Nat.reduceSub, Nat.reduceAdd, St.put, List.set_cons_succ, List.set_cons_zero, Int.reduceToNat, if_true, Bool.false_eq_true, if_false, srcSlots]
  repeat' (first | walk_at "kva" | walk_at "kvs")
  refine wp_mono (held_ok hE (by omega) hK) ?_
  rintro _ _ ⟨L, hL, lL, rfl, rfl⟩
  repeat' (first | walk_at "kva" | walk_at "kvs")
  refine has_addl (by rw [List.length_map, List.length_map]; show _ ≤ 16777216; omega) ?_
  repeat' (first | walk_at "kva" | walk_at "kvs")
  refine has_addl (by rw [List.length_append, List.length_map, List.length_map]; show _ ≤ 16777216; omega) ?_
  repeat' (first | walk_at "kva" | walk_at "kvs")
  refine wp_mono (draw_ok hm (by omega) (by decide) (by decide)) ?_
  rintro _ _ ⟨x, a1, x0, x1, rfl, rfl⟩
  repeat' (first | walk_at "kva" | walk_at "kvs")
  have eW : L.map Qn.pv ++ A.map Qn.pv ++ A.map Qn.pv = (L ++ A ++ A).map Qn.pv := by rw [List.map_append, List.map_append]
  rw [eW]
  refine rest A (L ++ A ++ A) a1 x ?_ (by rw [List.length_append, List.length_append]; omega) x0 x1
  intro q m
  rcases List.mem_append.mp m with m | m
  · rcases List.mem_append.mp m with m | m
    · exact ⟨(hL q m).ty, (hL q m).sz⟩
    · exact hA q m
  · exact hA q m
/-- no fuel -/
theorem as_0 {k n : Nat} {e : Int} {K : Kd} {D P : Nat} (he : e ≤ 0) (hn : n ≤ 60) (hK : KO (.bag K)) (hD : 2 ≤ D) (hP : 4 ≤ P) (ih : AskK (k + 2) 12 0 n K D P) : AskK (k + 3) 16 e n (.bag K) (D + 1) (P + 520) := by
  intro mu E b m a c hm hc hE
  refine as_pre hK hm hc (by omega) hE hn ?_
  intro N W a' x hW lW x0 x1
  obtain ⟨hc0, hc1⟩ := hc
  have z := way_ok (k := k + 1) (b := b) (e := e) (x := x) (N := N) (pr := [0, 1, 2, 3]) (mu := mu) (a := a') (c := c + 1) hK hD hP hm ⟨by omega, by omega⟩ hE hW lW ih
  generalize hR : wayB = R at z ⊢
  repeat' (first | walk_at "kva" | walk_at "kvs")
  all_goals first
    | (exfalso; omega)
    | skip
  refine wp_mono z ?_
  rintro f st ⟨v, rfl, h⟩
  repeat' (first | walk_at "kva" | walk_at "kvs")
  exact outQ.up ⟨v, rfl, h⟩ (by omega) (by omega) (Nat.le_refl _) (by omega)
end K30

set_option Elab.async false
set_option linter.all false
set_option maxRecDepth 100000
set_option hygiene false
local macro_rules | `(tactic| walk_at "kvs") => `(tactic| (first | (with_reducible refine has_tget ktu ?_) | ((with_reducible refine has_mod ?_ (fun r hr0 hr1 hre => ?_)); (first | decide | assumption | omega)) | ((with_reducible refine has_div ?_ ?_ (fun q hq hq1 => ?_)); (first | decide | assumption | omega); (first | decide | assumption | omega)) | ((with_reducible refine has_mul ?_ ?_ (fun p hp => ?_)); omega; omega) | (with_reducible refine has_pick ?_) | (with_reducible refine has_nei ?_) | ((with_reducible refine has_mulB ?_ ?_ (fun p hp => ?_)); omega; omega) | (with_reducible refine' has_mk pow_10_8 ?_) | (with_reducible refine' has_mk pow_10_9 ?_) | (with_reducible refine' has_mk pow_10_11 ?_) | (with_reducible refine' has_mk pow_10_12 ?_) | (with_reducible refine' has_mk pow_10_18 ?_) | (with_reducible refine' has_mk pow_10_20 ?_) | (with_reducible refine' has_mk pow_10_30 ?_) | (with_reducible refine' has_mk (cmp_eq _ _ ▸ eq_int _ _) ?_) | (with_reducible refine' has_mk (cmp_ge _ _) ?_) | (with_reducible refine' has_mk (cmp_gt _ _) ?_) | (with_reducible refine' has_mk (cmp_lt _ _) ?_) | (with_reducible refine' has_mk (cmp_le _ _) ?_) | ((with_reducible apply has_mk); exact rfl) | (with_reducible refine two_dec (fun hb => ?_) (fun hb => ?_)) | (with_reducible refine two_mk (fun hb => ?_) (fun hb => ?_)) | ((with_reducible apply s_setAt); exact rfl; exact rfl; try dsimp only [List.map, List.cons_append, List.nil_append, List.replicate_succ, List.replicate_zero, keepIx_t, keepIx_f, keepIx_n, Nat.reduceSub, Nat.reduceAdd, St.put, List.set_cons_succ, List.set_cons_zero, Int.reduceToNat, if_true, Bool.false_eq_true, if_false, srcSlots]) | ((with_reducible apply s_aug1); exact rfl) | ((with_reducible apply s_reto); exact rfl; exact rfl; try dsimp only [List.map, List.cons_append, List.nil_append, List.replicate_succ, List.replicate_zero, keepIx_t, keepIx_f, keepIx_n, Nat.reduceSub, Nat.reduceAdd, St.put, List.set_cons_succ, List.set_cons_zero, Int.reduceToNat, if_true, Bool.false_eq_true, if_false, srcSlots]) | ((with_reducible apply c_call); exact rfl; exact rfl) | ((with_reducible apply c_make); exact rfl; exact rfl) | ((with_reducible apply s_setF); exact rfl; decide; try dsimp only [fput, List.map, List.cons_append, List.nil_append, List.replicate_succ, List.replicate_zero, keepIx_t, keepIx_f, keepIx_n, Nat.reduceSub, Nat.reduceAdd, St.put, List.set_cons_succ, List.set_cons_zero, Int.reduceToNat, if_true, Bool.false_eq_true, if_false, srcSlots]) | ((with_reducible refine has_range1 ?_ ?_ ?_); omega; omega) | (with_reducible refine w_bmg ?_) | (with_reducible refine w_me ?_) | ((with_reducible apply dic_mk); decide; exact rfl; dsimp only [dmk, List.zip_cons_cons, List.zip_nil_left, List.map_cons, List.map_nil]) | (with_reducible refine w_getd ?_) | (with_reducible refine w_get1 ?_)))
set_option hygiene true
namespace K30
open Kv
def Pd : Nat → Nat
  | 0 => 10
  | d + 1 => 4 * Pd d + 600
theorem Pd_ge : ∀ d, 10 ≤ Pd d
  | 0 => Nat.le_refl _
  | d + 1 => by show 10 ≤ 4 * Pd d + 600; omega
theorem base {n : Nat} (hn : n ≤ 60) : ∀ (d : Nat) {K : Kd} {k : Nat}, KO K → K.depth ≤ d → 6 + 2 * d ≤ k → (∀ e : Int, e ≤ 0 → AskK k 16 e n K (2 + d) (Pd d)) ∧ (∀ e : Int, e ≤ 0 → AskK k 12 e n K (2 + d) (Pd d)) := by
  have lf : ∀ {K : Kd} {k : Nat} {d : Nat}, KO K → K = .num ∨ K = .word → 6 ≤ k → (∀ e : Int, e ≤ 0 → AskK k 16 e n K (2 + d) (Pd d)) ∧ (∀ e : Int, e ≤ 0 → AskK k 12 e n K (2 + d) (Pd d)) := by
    intro K k d hK h hk
    obtain ⟨k, rfl⟩ : ∃ i, k = i + 6 := ⟨k - 6, by omega⟩
    have pg := Pd_ge d
    have sm : ∀ j, ∀ e : Int, e ≤ 0 → AskK (j + 4) 12 e n K 2 10 := by
      intro j e he
      rcases h with rfl | rfl
      · exact sm_num0 he hn
      · exact sm_word hn
    refine ⟨fun e he => ?_, fun e he => (sm (k + 2) e he).mono (Nat.le_refl _) (by omega) pg⟩
    refine (as_nb (k := k + 4) hK ?_ (sm (k + 1) e he)).mono (Nat.le_refl _) (by omega) pg
    intro K' e
    rcases h with rfl | rfl <;> cases e
  intro d
  induction d with
  | zero =>
    intro K k hK hd hk
    cases K with
    | num => exact lf hK (.inl rfl) hk
    | word => exact lf hK (.inr rfl) hk
    | row fs => exact absurd (show fs.depth + 1 ≤ 0 from hd) (by omega)
    | bag K => exact absurd (show K.depth + 1 ≤ 0 from hd) (by omega)
  | succ d ih =>
    intro K k hK hd hk
    have pg := Pd_ge d
    have pe : Pd (d + 1) = 4 * Pd d + 600 := rfl
    cases K with
    | num => exact lf hK (.inl rfl) (by omega)
    | word => exact lf hK (.inr rfl) (by omega)
    | row fs =>
      have hd' : fs.depth + 1 ≤ d + 1 := hd
      have sm : ∀ j, 7 + 2 * d ≤ j → ∀ e : Int, e ≤ 0 → AskK j 12 e n (.row fs) (2 + (d + 1)) (Pd (d + 1)) := by
        intro j hj e he
        obtain ⟨j, rfl⟩ : ∃ i, j = i + 3 := ⟨j - 3, by omega⟩
        refine (sm_row (D := 2 + d) (P := Pd d) hn hK (fun K' h1 h2 => ?_) (by omega) (by omega)).mono (Nat.le_refl _) (by omega) (by omega)
        have h2' : K'.depth + 1 ≤ fs.depth + 1 := h2
        exact (ih (k := j + 2) h1 (by omega) (by omega)).1 (e - 1) (by omega)
      refine ⟨fun e he => ?_, sm k (by omega)⟩
      obtain ⟨k, rfl⟩ : ∃ i, k = i + 2 := ⟨k - 2, by omega⟩
      exact as_nb hK (fun K' e => nomatch e) (sm (k + 1) (by omega) e he)
    | bag K =>
      have hd' : K.depth + 1 ≤ d + 1 := hd
      have as : ∀ j, 7 + 2 * d ≤ j → ∀ e : Int, e ≤ 0 → AskK j 16 e n (.bag K) (2 + (d + 1)) (4 * Pd d + 550) := by
        intro j hj e he
        obtain ⟨j, rfl⟩ : ∃ i, j = i + 3 := ⟨j - 3, by omega⟩
        exact (as_0 he hn hK (by omega) (by omega) ((ih (k := j + 2) hK.bag (by omega) (by omega)).2 0 (Int.le_refl _))).mono (Nat.le_refl _) (by omega) (by omega)
      refine ⟨fun e he => (as k (by omega) e he).mono (Nat.le_refl _) (Nat.le_refl _) (by omega), fun e he => ?_⟩
      obtain ⟨k, rfl⟩ : ∃ i, k = i + 3 := ⟨k - 3, by omega⟩
      exact (sm_bag hn hK (as (k + 2) (by omega) (e - 1) (by omega)) (by omega) (by omega)).mono (Nat.le_refl _) (Nat.le_refl _) (by omega)
/-! over what a for goes -/
theorem ktu : tget KT [117] = some deepK := rfl
abbrev iPv (p : Qn × Kd) : PV := .tup [p.1.pv, p.2.pv]
def iOk (E : TD Kd) (p : Qn × Kd) : Prop := ∃ K, p.2 = .bag K ∧ QT E p.1 (.bag K) ∧ KO (.bag K) ∧ Sz p.1 2 4
theorem i_pl {E : TD Kd} : ∀ {L : List (Qn × Kd)}, (∀ q ∈ L, iOk E q) → PV.plains (L.map iPv) = true ∧ PV.depths (L.map iPv) ≤ 50
  | [], _ => ⟨rfl, Nat.zero_le _⟩
  | q :: r, h => by
    obtain ⟨K, e, t, ko, z⟩ := h q List.mem_cons_self
    obtain ⟨a, b⟩ := Qn.dd z.g
    obtain ⟨c, d⟩ := i_pl fun p m => h p (List.mem_cons_of_mem _ m)
    have := z.d
    have pk := Kd.plain ko.good
    have pd := ko.pd
    rw [← e] at pk pd
    refine ⟨?_, ?_⟩
    · show (PV.plain (.tup [q.1.pv, q.2.pv]) && PV.plains (r.map iPv)) = true
      rw [two_dat a pk, c]; rfl
    · show max (max q.1.pv.depth (max q.2.pv.depth 0) + 1) (PV.depths (r.map iPv)) ≤ 50
      omega
abbrev ovSt (E : TD Kd) (e b m a c : Int) (t : Tx) (K : Kd) (o6 o7 o8 : Option SV) (mu : List Obj) : Kv.St := ⟨[some (.own (.lst (E.map kfPv))), some (.pv (.int e)), some (sd b m a c), some (.own (.dic (tdic Kd.pv KT))), some (.pv (.str t)), some (.pv (Kd.bag K).pv), o6, o7, o8], mu⟩
theorem inner_comp {N : Env} {mu : List Obj} {E : TD Kd} {n : Nat} {e b m a c : Int} {t : Tx} {K : Kd} {S : TD Kd} (hE : EOk E n) (hS : ∀ p ∈ S, p ∈ E ∧ tget E p.1 = some p.2) (lS : S.length ≤ 100) {Q : List PV → Kv.St → Prop}
    (q : ∀ A : List (Qn × Kd), (∀ q ∈ A, iOk E q) → A.length ≤ 100 → Q (A.map iPv) (ovSt E e b m a c t K none none none mu)) :
    wp (compL (evAnd N [.e (.cmp .Eq (.idx (.var 8) (.c (.int 0))) (.c (.str [98, 97, 103])))]) (ev N (.tup [.tup [.c (.str [118, 97, 114]), .var 7], .var 8])) (.tup [.nm 7, .nm 8]) (stands [.val (.own (.lst (S.map kfPv)))] [.own (.lst (S.map kfPv))]) [7, 8] (S.map kfPv) [] (ovSt E e b m a c t K none none none mu)) Q := by
  refine l_comp (fun ys acc st => ∃ (dn rs : TD Kd) (A : List (Qn × Kd)) (y z : Option SV), S = dn ++ rs ∧ ys = rs.map kfPv ∧ acc = A.map iPv ∧ (∀ q ∈ A, iOk E q) ∧ A.length ≤ dn.length ∧ st = ovSt E e b m a c t K none y z mu) ?_ ?_ ?_ _ _ _ ⟨[], S, [], none, none, rfl, rfl, rfl, fun q m => (nomatch m), Nat.le_refl _, rfl⟩
  · rintro ys acc st ⟨dn, rs, A, y, z, e1, e2, e3, e4, e5, rfl⟩
    exact stands_own
  · rintro q ys acc st ⟨dn, rs, A, y, z, e1, e2, rfl, e4, e5, rfl⟩
    cases rs with
    | nil => cases e2
    | cons p rs =>
      injection e2 with e3 e4'
      subst e3 e4'
      obtain ⟨x, K'⟩ := p
      obtain ⟨m1, m2⟩ := hS (x, K') (by rw [e1]; exact List.mem_append_right _ List.mem_cons_self)
      obtain ⟨g1, g2, g3⟩ := hE.ok _ m1
      replace g1 : nmTx x = true := g1
      replace g3 : KO K' := g3
      replace m2 : tget E x = some K' := m2
      have dl : dn.length + 1 ≤ 100 := by
        have := congrArg List.length e1
        rw [List.length_append, List.length_cons] at this
        omega
      dsimp only [St.wipe, wipeS, List.map, List.cons_append, List.nil_append, List.replicate_succ, List.replicate_zero, keepIx_t, keepIx_f, keepIx_n, Nat.reduceSub, Nat.reduceAdd, St.put, List.set_cons_succ, List.set_cons_zero, Int.reduceToNat, if_true, Bool.false_eq_true, if_false, srcSlots]
      refine has_mk rfl ?_
      dsimp only [List.map, List.cons_append, List.nil_append, List.replicate_succ, List.replicate_zero, keepIx_t, keepIx_f, keepIx_n, Nat.reduceSub, Nat.reduceAdd, St.put, List.set_cons_succ, List.set_cons_zero, Int.reduceToNat, if_true, Bool.false_eq_true, if_false, srcSlots]
      cases K' with
      | num =>
        repeat' (first | walk_at "kva" | walk_at "kvs")
        exact ⟨dn ++ [(x, .num)], rs, A, _, _, by rw [e1]; simp, rfl, rfl, e4, by rw [List.length_append]; omega, rfl⟩
      | word =>
        repeat' (first | walk_at "kva" | walk_at "kvs")
        exact ⟨dn ++ [(x, .word)], rs, A, _, _, by rw [e1]; simp, rfl, rfl, e4, by rw [List.length_append]; omega, rfl⟩
      | row fs =>
        repeat' (first | walk_at "kva" | walk_at "kvs")
        exact ⟨dn ++ [(x, .row fs)], rs, A, _, _, by rw [e1]; simp, rfl, rfl, e4, by rw [List.length_append]; omega, rfl⟩
      | bag K' =>
        repeat' (first | walk_at "kva" | (with_reducible refine' has_mk (kd_cn _ _) ?_) | walk_at "kvs")
        refine ⟨?_, dn ++ [(x, .bag K')], rs, A ++ [(q0 wVar (.tx x), .bag K')], _, _, by rw [e1]; simp, rfl, by rw [List.map_append]; rfl, ?_, by rw [List.length_append, List.length_append]; simp; exact e5, rfl⟩
        · rw [List.length_map]
          show _ < 16777216
          omega
        · intro q m
          rcases List.mem_append.mp m with m | m
          · exact e4 q m
          · rw [List.mem_singleton.mp m]
            exact ⟨K', rfl, .var m2, g3, (var_sz g1).mono (by decide) (by decide)⟩
  · rintro acc st ⟨dn, rs, A, y, z, e1, e2, rfl, e4, e5, rfl⟩
    have hr : rs = [] := by cases rs with
      | nil => rfl
      | cons => cases e2
    subst hr
    rw [List.append_nil] at e1
    refine q A e4 ?_
    rw [← e1] at e5
    omega
end K30

set_option Elab.async false
set_option linter.all false
set_option maxRecDepth 100000
set_option hygiene false
set_option hygiene true
namespace K30
open Kv
abbrev OvP (E : TD Kd) (e b m c : Int) (mu : List Obj) (D P : Nat) : SV → Kv.St → Prop := fun v st => ∃ (Q : Qn) (K : Kd) (a' c' : Int), QT E Q (.bag K) ∧ KO (.bag K) ∧ Sz Q D P ∧ c ≤ c' ∧ c' ≤ c + P ∧ v = .pv (.tup [Q.pv, (Kd.bag K).pv]) ∧ st = ⟨[some (.own (.lst (E.map kfPv))), some (.pv (.int e)), some (sd b m a' c')], mu⟩
theorem over_ok {k n : Nat} {e : Int} {D P : Nat} {mu : List Obj} {E : TD Kd} {b m a c : Int} (hn : n ≤ 60) (hD : 2 ≤ D) (hP : 4 ≤ P) (hm : SdOk m) (hc : CnOk c (P + 10)) (hE : EOk E n) (ih : 0 < e → ∀ K, KO K → AskK (k + 3) 16 (e - 1) n K D P) :
    wp (callK fns tabs (k + 4) 14 [.own (.lst (E.map kfPv)), .pv (.int e), sd b m a c] mu) (OvP E e b m c mu D (P + 10)) := by
  obtain ⟨hc0, hc1⟩ := hc
  refine c_run (fn := f_law_over) rfl rfl rfl ?_; dsimp only [f_law_over, List.map, List.cons_append, List.nil_append, List.replicate_succ, List.replicate_zero, keepIx_t, keepIx_f, keepIx_n, Nat.reduceSub, Nat.reduceAdd, St.put, List.set_cons_succ, List.set_cons_zero, Int.reduceToNat, if_true, Bool.false_eq_true, if_false, srcSlots]
  repeat' (first | walk_at "kva" | walk_at "kvs")
  refine wp_mono kinds_ok ?_
  rintro _ _ ⟨rfl, rfl⟩
  repeat' (first | walk_at "kva" | walk_at "kvs")
  refine wp_mono (draw_ok hm (by omega) (by decide) (by decide)) ?_
  rintro _ _ ⟨x, a1, x0, x1, rfl, rfl⟩
  repeat' (first | walk_at "kva" | walk_at "kvs")
  refine has_ixL (fun p => ∃ t K, tget KT t = some K ∧ nmTx t = true ∧ KO (.bag K) ∧ p = .str t) x0 (by exact x1) (fun p hp => by
    simp only [List.mem_cons, List.not_mem_nil, or_false] at hp
    rcases hp with rfl | rfl | rfl | rfl | rfl
    · exact ⟨_, _, rfl, by decide, ⟨by decide, by decide⟩, rfl⟩
    · exact ⟨_, _, rfl, by decide, ⟨by decide, by decide⟩, rfl⟩
    · exact ⟨_, _, rfl, by decide, ⟨by decide, by decide⟩, rfl⟩
    · exact ⟨_, _, rfl, by decide, ⟨by decide, by decide⟩, rfl⟩
    · exact ⟨_, _, rfl, by decide, ⟨by decide, by decide⟩, rfl⟩) ?_
  rintro _ ⟨t, K, hg, ht, hK, rfl⟩
  repeat' (first | walk_at "kva" | (with_reducible refine has_tget hg ?_) | (with_reducible refine' has_mk (kd_cn _ _) ?_) | walk_at "kvs")
  refine wp_mono (seen_ok hE (by omega)) ?_
  rintro _ _ ⟨S, ⟨s1, s2⟩, rfl, rfl⟩
  have lE := hE.len
  repeat' (first | walk_at "kva" | walk_at "kvs")
  refine l_end (inner_comp hE s1 (by omega) ?_)
  intro A hA lA
  dsimp only [layBack, List.map, List.cons_append, List.nil_append, List.replicate_succ, List.replicate_zero, keepIx_t, keepIx_f, keepIx_n, Nat.reduceSub, Nat.reduceAdd, St.put, List.set_cons_succ, List.set_cons_zero, Int.reduceToNat, if_true, Bool.false_eq_true, if_false, srcSlots]
  repeat' (first | walk_at "kva" | walk_at "kvs")
  refine wp_mono (seen_ok hE (by omega)) ?_
  rintro _ _ ⟨S2, ⟨s3, s4⟩, rfl, rfl⟩
  repeat' (first | walk_at "kva" | walk_at "kvs")
  refine l_for (fun ys st => ∃ (rs : TD Kd) (A : List (Qn × Kd)) (o7 o8 : Option SV), ys = rs.map kfPv ∧ (∀ p ∈ rs, p ∈ S2) ∧ (∀ q ∈ A, iOk E q) ∧ A.length + rs.length ≤ 200 ∧ st = ovSt E e b m a1 (c + 1) t K (some (.own (.lst (A.map iPv)))) o7 o8 mu) ?_ ?_ ?_ _ _ ⟨S2, A, none, none, rfl, fun p m => m, hA, by omega, rfl⟩
  · rintro ys st ⟨rs, A, o7, o8, e1, e2, e3, e4, rfl⟩
    exact stands_own
  · rintro y ys st ⟨rs, A, o7, o8, e1, e2, e3, e4, rfl⟩
    cases rs with
    | nil => cases e1
    | cons p rs =>
      injection e1 with e5 e6
      subst e5 e6
      rw [List.length_cons] at e4
      obtain ⟨y, K'⟩ := p
      obtain ⟨m1, m2⟩ := s3 (y, K') (e2 _ List.mem_cons_self)
      obtain ⟨g1, g2, g3⟩ := hE.ok _ m1
      replace g1 : nmTx y = true := g1
      replace g3 : KO K' := g3
      replace m2 : tget E y = some K' := m2
      have d1 := g3.pd
      have e2' : ∀ q ∈ rs, q ∈ S2 := fun q m => e2 q (List.mem_cons_of_mem _ m)
      refine s_store rfl rfl ?_
      dsimp only [List.map, List.cons_append, List.nil_append, List.replicate_succ, List.replicate_zero, keepIx_t, keepIx_f, keepIx_n, Nat.reduceSub, Nat.reduceAdd, St.put, List.set_cons_succ, List.set_cons_zero, Int.reduceToNat, if_true, Bool.false_eq_true, if_false, srcSlots]
      repeat' (first | walk_at "kva" | (with_reducible refine has_eqp (Kd.plain g3.good) (Kd.plain (K := deepK) (by decide)) (by omega) (by decide) (kd_nb _) ?_) | (with_reducible refine' has_mk (kd_cn _ _) ?_) | walk_at "kvs")
      · have eK : K' = deepK := Kd.pv_inj hb
        subst eK
        refine m_append (xs := A.map iPv) rfl rfl (by rw [List.length_map]; show _ < 16777216; omega) ?_
        dsimp only [List.map, List.cons_append, List.nil_append, List.replicate_succ, List.replicate_zero, keepIx_t, keepIx_f, keepIx_n, Nat.reduceSub, Nat.reduceAdd, St.put, List.set_cons_succ, List.set_cons_zero, Int.reduceToNat, if_true, Bool.false_eq_true, if_false, srcSlots]
        repeat' (first | walk_at "kva" | walk_at "kvs")
        refine ⟨rs, A ++ [(q1 wAt (.tx [116]) (q0 wVar (.tx y)), .bag .num)], _, _, rfl, e2', ?_, by rw [List.length_append, List.length_singleton]; omega, by unfold ovSt; rw [List.map_append]; rfl⟩
        intro q m
        rcases List.mem_append.mp m with m | m
        · exact e3 q m
        · rw [List.mem_singleton.mp m]
          refine ⟨.num, rfl, .at (.var m2) (show _ ∈ [_, _, _, _] from List.mem_cons_of_mem _ (List.mem_cons_of_mem _ List.mem_cons_self)), ⟨by decide, by decide⟩, q1_sz (p := .tx [116]) (show (_, 119, 1) ∈ shapes from by decide) (by decide) (Nat.le_refl _) (var_sz g1)⟩
      · exact ⟨rs, A, _, _, rfl, e2', e3, by omega, rfl⟩
  · rintro st ⟨rs, A, o7, o8, e1, e2, e3, e4, rfl⟩
    obtain ⟨p1, p2⟩ := i_pl e3
    have lA : A.length ≤ 200 := by omega
    have tail : ∀ (a c1 : Int), c1 ≤ c + 3 → c ≤ c1 → ∀ {Q : Fl → Kv.St → Prop}, (∀ (q : Qn) (K2 : Kd) (a' c' : Int), QT E q (.bag K2) → KO (.bag K2) → Sz q D (P + 10) → c ≤ c' → c' ≤ c + (P + 10 : Nat) → Q (.ret (.pv (.tup [q.pv, (Kd.bag K2).pv]))) (ovSt E e b m a' c' t K (some (.own (.lst (A.map iPv)))) o7 o8 mu)) →
        wp (evSs ⟨fns, tabs, callK fns tabs (k + 3), 3⟩ [.iff (.and [.e (.cmp .Gt (.var 1) (.c (.int 0))), .e (.cmp .Eq (.call 5 [.var 2, .c (.int 4)]) (.c (.int 0)))]) [.ret (.tup [.call 16 [.var 5, .var 0, .bin .Sub (.var 1) (.c (.int 1)), .var 2], .var 5])] [], .ret (.tup [.tup [.c (.str [116, 97, 98, 108, 101]), .var 4], .var 5])] [0, 1, 2] (ovSt E e b m a c1 t K (some (.own (.lst (A.map iPv)))) o7 o8 mu)) Q := by
      intro a c1 h1 h2 Q fin
      have tb : ∀ a c1, c ≤ c1 → c1 ≤ c + 10 → Q (.ret (.pv (.tup [(q0 wTab (.tx t)).pv, (Kd.bag K).pv]))) (ovSt E e b m a c1 t K (some (.own (.lst (A.map iPv)))) o7 o8 mu) := fun a c1 h1 h2 => fin (q0 wTab (.tx t)) K a c1 (.tab hg) hK ((tab_sz ht).mono (by omega) (by omega)) h1 (by omega)
      repeat' (first | walk_at "kva" | (with_reducible refine' has_mk (kd_cn _ _) ?_) | walk_at "kvs")
      · refine wp_mono (draw_ok hm (by omega) (by decide) (by decide)) ?_
        rintro _ _ ⟨y, a2, y0, y1, rfl, rfl⟩
        repeat' (first | walk_at "kva" | (with_reducible refine' has_mk (kd_cn _ _) ?_) | walk_at "kvs")
        · refine wp_mono (ih (by omega) (.bag K) hK hm ⟨by omega, by omega⟩ hE) ?_
          rintro _ _ ⟨B, a3, c3, g1, g2, g3, g4, rfl, rfl⟩
          repeat' (first | walk_at "kva" | (with_reducible refine' has_mk (kd_cn _ _) ?_) | (with_reducible refine' has_mk (q_cn _ _) ?_) | walk_at "kvs")
          exact fin B K a3 c3 g1 hK (g2.mono (Nat.le_refl _) (by omega)) (by omega) (by omega)
        · exact tb _ _ (by omega) (by omega)
      · exact tb _ _ (by omega) (by omega)
    generalize hT : ([.iff (.and [.e (.cmp .Gt (.var 1) (.c (.int 0))), .e (.cmp .Eq (.call 5 [.var 2, .c (.int 4)]) (.c (.int 0)))]) [.ret (.tup [.call 16 [.var 5, .var 0, .bin .Sub (.var 1) (.c (.int 1)), .var 2], .var 5])] [], .ret (.tup [.tup [.c (.str [116, 97, 98, 108, 101]), .var 4], .var 5])] : List Kv.S) = T at tail ⊢
    repeat' (first | walk_at "kva" | (with_reducible refine has_nel p1 rfl (by omega) (by decide) ?_) | walk_at "kvs")
    · refine wp_mono (draw_ok hm (by omega) (by decide) (by decide)) ?_
      rintro _ _ ⟨y, a2, y0, y1, rfl, rfl⟩
      repeat' (first | walk_at "kva" | walk_at "kvs")
      · have ne : 0 < A.length := by
          cases A with
          | nil => exact absurd (by assumption) (by decide)
          | cons q r => exact Nat.succ_pos _
        refine wp_mono (draw_ok hm (by omega) (by rw [List.length_map]; omega) (by rw [List.length_map]; omega)) ?_
        rintro _ _ ⟨z, a3, z0, z1, rfl, rfl⟩
        repeat' (first | walk_at "kva" | walk_at "kvs")
        refine has_ixL (fun p => ∃ q ∈ A, p = iPv q) z0 (by exact z1) (fun p hp => by
          obtain ⟨q, hq, rfl⟩ := List.mem_map.mp hp
          exact ⟨q, hq, rfl⟩) ?_
        rintro _ ⟨q, hq, rfl⟩
        obtain ⟨K2, i1, i2, i3, i4⟩ := e3 q hq
        repeat' (first | walk_at "kva" | walk_at "kvs")
        exact ⟨q.1, K2, a3, c + 1 + 1 + 1, i2, i3, i4.mono hD (by omega), by omega, by omega, by rw [← i1], rfl⟩
      · refine tail _ _ (by omega) (by omega) ?_
        intro q K2 a' c' h1 h2 h3 h4 h5
        exact ⟨q, K2, a', c', h1, h2, h3, h4, h5, rfl, rfl⟩
    · refine tail _ _ (by omega) (by omega) ?_
      intro q K2 a' c' h1 h2 h3 h4 h5
      exact ⟨q, K2, a', c', h1, h2, h3, h4, h5, rfl, rfl⟩
end K30

set_option Elab.async false
set_option linter.all false
set_option maxRecDepth 100000
set_option hygiene false
set_option hygiene true
namespace K30
open Kv
theorem fwl_set {p : Tx × Qn} : ∀ {l : TD Qn} {i : Nat}, fwl (l.set i p) ≤ fwl l + (p.2.wd.length + 1)
  | [], _ => Nat.zero_le _
  | q :: r, 0 => by
    show (p.2.wd.length + 1) + fwl r ≤ (q.2.wd.length + 1) + fwl r + _
    omega
  | q :: r, i + 1 => by
    have := fwl_set (p := p) (l := r) (i := i)
    show (q.2.wd.length + 1) + fwl (r.set i p) ≤ (q.2.wd.length + 1) + fwl r + _
    omega
theorem row_szF {l : TD Qn} {d n : Nat} (hn : ∀ p ∈ l, nmTx p.1 = true) (h : ∀ p ∈ l, p.2.good = true ∧ p.2.depth ≤ d) (hl : l.length ≤ 14) (hw : fwl l ≤ n) : Sz (.row (Qfs.ofL l)) (d + 1) (n + 2) := by
  refine ⟨?_, ?_, ?_⟩
  · show ((Qfs.ofL l).good && decide ((Qfs.ofL l).len ≤ 14)) = true
    rw [Qfs.of_good fun p m => ⟨hn p m, (h p m).1⟩, Qfs.of_len, decide_eq_true hl]; rfl
  · show (Qfs.ofL l).depth + 1 ≤ d + 1
    have := Qfs.of_dep (d := d) fun p m => (h p m).2
    omega
  · show (Qfs.ofL l).wd.length + 1 + 1 ≤ n + 2
    rw [Qfs.of_wd]; omega
theorem Kfs.ofL_l : ∀ l : TD Kd, (Kfs.ofL l).l = l
  | [] => rfl
  | p :: r => congrArg (p :: ·) (Kfs.ofL_l r)
theorem f2_set {α β : Type} {R : α → β → Prop} {x : α} {y : β} : ∀ {l : List α} {m : List β} {i : Nat}, F2 R l m → R x y → F2 R (l.set i x) (m.set i y)
  | [], [], _, _, _ => .nil
  | _ :: _, _ :: _, 0, .cons _ b, h => .cons h b
  | _ :: _, _ :: _, i + 1, .cons a b, h => .cons a (f2_set b h)
theorem mem_set {α : Type} {p x : α} : ∀ {l : List α} {i : Nat}, p ∈ l.set i x → p = x ∨ p ∈ l
  | [], _, m => (nomatch m)
  | q :: r, 0, m => by
    rcases List.mem_cons.mp m with e | m
    · exact .inl e
    · exact .inr (List.mem_cons_of_mem _ m)
  | q :: r, i + 1, m => by
    rcases List.mem_cons.mp m with rfl | m
    · exact .inr List.mem_cons_self
    · rcases mem_set m with e | m
      · exact .inl e
      · exact .inr (List.mem_cons_of_mem _ m)
abbrev num1 : Qn := q0 wNum (.int 1)
def taken (fs : List Tx) (i : Nat) (f : Tx) (Q : Qn) : TD Qn := (fs.map fun t => (t, num1)).set i (f, Q)
theorem taken_ty {E : TD Kd} {fs : List Tx} {i : Nat} {f : Tx} {Q : Qn} {K : Kd} (h1 : ∀ t ∈ fs, t.length = 1) (hr : risTx fs = true) (hi : fs[i]? = some f) (h : QT E Q K) : QT E (q1 wAt (.tx f) (.row (Qfs.ofL (taken fs i f Q)))) K := by
  have hl : i < fs.length := (List.getElem?_eq_some_iff.mp hi).1
  have nm : tnames ((fs.map fun t => (t, Kd.num)).set i (f, K)) = fs := by
    unfold tnames
    rw [List.map_set, List.map_map]
    have e : fs.map ((fun x : Tx × Kd => x.1) ∘ fun t => (t, Kd.num)) = fs := by
      have : ((fun x : Tx × Kd => x.1) ∘ fun t => (t, Kd.num)) = id := rfl
      rw [this, List.map_id]
    rw [e]
    apply List.ext_getElem?
    intro j
    rw [List.getElem?_set]
    split
    · rename_i h
      subst h
      rw [hi]
    · rfl
  refine .at (ks := Kfs.ofL ((fs.map fun t => (t, Kd.num)).set i (f, K))) (.row (ft_of ?_) ?_ ?_) ?_
  · rw [Kfs.ofL_l]
    refine f2_set ?_ ⟨rfl, h⟩
    clear hr hi hl nm h1
    induction fs with
    | nil => exact .nil
    | cons t r ih => exact .cons ⟨rfl, .num⟩ ih
  · rw [Kfs.ofL_l, nm]; exact hr
  · rw [Kfs.ofL_l]
    intro p m
    exact h1 p.1 (nm ▸ List.mem_map_of_mem m)
  · rw [Kfs.ofL_l]
    refine List.mem_of_getElem? (i := i) ?_
    rw [List.getElem?_set, if_pos rfl, if_pos (by rw [List.length_map]; exact hl)]
theorem taken_sz {fs : List Tx} {i : Nat} {f : Tx} {Q : Qn} {D P : Nat} (hf : ∀ t ∈ fs, nmTx t = true) (hl : fs.length ≤ 5) (hi : fs[i]? = some f) (h : Sz Q D P) (hD : 1 ≤ D) : Sz (q1 wAt (.tx f) (.row (Qfs.ofL (taken fs i f Q)))) (D + 2) (P + 30) := by
  have hm : f ∈ fs := List.mem_of_getElem? hi
  have n1 : num1.good = true := by decide
  have w0 : fwl (fs.map fun t => (t, num1)) ≤ 3 * fs.length := by
    clear hf hl hi hm
    induction fs with
    | nil => exact Nat.zero_le _
    | cons t r ih =>
      show (num1.wd.length + 1) + fwl (r.map fun t => (t, num1)) ≤ 3 * (r.length + 1)
      have : num1.wd.length = 2 := rfl
      omega
  have w1 := fwl_set (p := (f, Q)) (l := fs.map fun t => (t, num1)) (i := i)
  have hw := h.w
  refine (q1_sz (p := .tx f) (show (_, 119, 1) ∈ shapes from by decide) (hf f hm) (Nat.le_refl _) (row_szF (d := D) (n := P + 20) ?_ ?_ ?_ ?_)).mono (Nat.le_refl _) (by omega)
  · intro p m
    rcases mem_set m with rfl | m
    · exact hf f hm
    · obtain ⟨t, ht, rfl⟩ := List.mem_map.mp m
      exact hf t ht
  · intro p m
    rcases mem_set m with rfl | m
    · exact ⟨h.g, h.d⟩
    · obtain ⟨t, ht, rfl⟩ := List.mem_map.mp m
      exact ⟨n1, hD⟩
  · unfold taken
    rw [List.length_set, List.length_map]; omega
  · unfold taken
    have w1' : fwl ((fs.map fun t => (t, num1)).set i (f, Q)) ≤ fwl (fs.map fun t => (t, num1)) + (Q.wd.length + 1) := w1
    omega
abbrev FL : List Tx := [[97], [99], [116], [117], [119]]
theorem fl_cut {x : Int} (h0 : 0 ≤ x) (h1 : x < 5) : ∃ fs : List Tx, cut [PV.str [97], .str [99], .str [116], .str [117], .str [119]] none (some (1 + x)) = fs.map PV.str ∧ 1 ≤ fs.length ∧ fs.length ≤ 5 ∧ risTx fs = true ∧ (∀ t ∈ fs, nmTx t = true) ∧ ∀ t ∈ fs, t.length = 1 := by
  have : x = 0 ∨ x = 1 ∨ x = 2 ∨ x = 3 ∨ x = 4 := by omega
  rcases this with rfl | rfl | rfl | rfl | rfl
  · exact ⟨FL.take 1, rfl, by decide, by decide, by decide, by decide, by decide⟩
  · exact ⟨FL.take 2, rfl, by decide, by decide, by decide, by decide, by decide⟩
  · exact ⟨FL.take 3, rfl, by decide, by decide, by decide, by decide, by decide⟩
  · exact ⟨FL.take 4, rfl, by decide, by decide, by decide, by decide, by decide⟩
  · exact ⟨FL.take 5, rfl, by decide, by decide, by decide, by decide, by decide⟩
theorem taken_ok {k n : Nat} {e : Int} {K : Kd} {D P : Nat} (hD : 1 ≤ D) (ih : AskK (k + 1) 16 (e - 1) n K D P) : AskK (k + 2) 15 e n K (D + 2) (P + 30) := by
  intro mu E b m a c hm hc hE
  obtain ⟨hc0, hc1⟩ := hc
  refine c_run (fn := f_law_taken) rfl rfl rfl ?_; dsimp only [f_law_taken, List.map, List.cons_append, List.nil_append, List.replicate_succ, List.replicate_zero, keepIx_t, keepIx_f, keepIx_n, Nat.reduceSub, Nat.reduceAdd, St.put, List.set_cons_succ, List.set_cons_zero, Int.reduceToNat, if_true, Bool.false_eq_true, if_false, srcSlots]
  repeat' (first | walk_at "kva" | walk_at "kvs")
  refine wp_mono (draw_ok hm (by omega) (by decide) (by decide)) ?_
  rintro _ _ ⟨x, a1, x0, x1, rfl, rfl⟩
  obtain ⟨fs, ef, f1, f2, f3, f4, f5⟩ := fl_cut x0 x1
  repeat' (first | walk_at "kva" | walk_at "kvs")
  rw [ef]
  repeat' (first | walk_at "kva" | walk_at "kvs")
  refine wp_mono (draw_ok hm (by omega) (by rw [List.length_map]; omega) (by rw [List.length_map]; omega)) ?_
  rintro _ _ ⟨y, a2, y0, y1, rfl, rfl⟩
  rw [List.length_map] at y1
  obtain ⟨i, rfl⟩ : ∃ i : Nat, y = (i : Int) := ⟨y.toNat, by omega⟩
  have hi : i < fs.length := by omega
  have gi : fs[i]? = some fs[i] := List.getElem?_eq_getElem hi
  have gs : (fs.map PV.str)[i]? = some (.str fs[i]) := by rw [List.getElem?_map, gi]; rfl
  rw [List.length_map]
  repeat' (first | walk_at "kva" | walk_at "kvs")
  refine l_end (l_comp (fun ys acc st => ∃ (dn rs : List Tx) (o7 : Option SV), fs = dn ++ rs ∧ ys = rs.map PV.str ∧ acc = dn.map (fun t => qfPv (t, num1)) ∧ st = ⟨[some (.pv K.pv), some (.own (.lst (E.map kfPv))), some (.pv (.int e)), some (sd b m a2 (c + 1 + 1)), some (.own (.lst (fs.map PV.str))), some (.pv (.int (i : Int))), none, o7], mu⟩) ?_ ?_ ?_ _ _ _ ⟨[], fs, none, rfl, rfl, rfl, rfl⟩)
  · rintro ys acc st ⟨dn, rs, o7, e1, e2, e3, rfl⟩
    exact stands_slot rfl
  · rintro q ys acc st ⟨dn, rs, o7, e1, e2, rfl, rfl⟩
    cases rs with
    | nil => cases e2
    | cons t rs =>
      injection e2 with e3 e4
      subst e3 e4
      have dl : dn.length + 1 ≤ 5 := by
        have := congrArg List.length e1
        rw [List.length_append, List.length_cons] at this
        omega
      dsimp only [St.wipe, wipeS, List.map, List.cons_append, List.nil_append, List.replicate_succ, List.replicate_zero, keepIx_t, keepIx_f, keepIx_n, Nat.reduceSub, Nat.reduceAdd, St.put, List.set_cons_succ, List.set_cons_zero, Int.reduceToNat, if_true, Bool.false_eq_true, if_false, srcSlots]
      refine has_mk rfl ?_
      dsimp only [List.map, List.cons_append, List.nil_append, List.replicate_succ, List.replicate_zero, keepIx_t, keepIx_f, keepIx_n, Nat.reduceSub, Nat.reduceAdd, St.put, List.set_cons_succ, List.set_cons_zero, Int.reduceToNat, if_true, Bool.false_eq_true, if_false, srcSlots]
      repeat' (first | walk_at "kva" | walk_at "kvs")
      refine ⟨by rw [List.length_map]; show _ < 16777216; omega, dn ++ [t], rs, _, by rw [e1]; simp, rfl, by rw [List.map_append]; rfl, rfl⟩
  · rintro acc st ⟨dn, rs, o7, e1, e2, rfl, rfl⟩
    have hr : rs = [] := by cases rs with
      | nil => rfl
      | cons => cases e2
    subst hr
    rw [List.append_nil] at e1
    subst e1
    have sx : ∀ v, setix (.lst (fs.map fun t => qfPv (t, num1))) (.int (i : Int)) v = some (.lst ((fs.map fun t => qfPv (t, num1)).set i v)) := fun v => setN (by rw [List.length_map]; exact hi)
    dsimp only [St.wipe, wipeS, layBack, List.map, List.cons_append, List.nil_append, List.replicate_succ, List.replicate_zero, keepIx_t, keepIx_f, keepIx_n, Nat.reduceSub, Nat.reduceAdd, St.put, List.set_cons_succ, List.set_cons_zero, Int.reduceToNat, if_true, Bool.false_eq_true, if_false, srcSlots]
    repeat' (first | walk_at "kva" | (with_reducible refine has_ixN gs ?_) | walk_at "kvs")
    refine wp_mono (ih hm ⟨by omega, by omega⟩ hE) ?_
    rintro _ _ ⟨Q, a3, c3, g1, g2, g3, g4, rfl, rfl⟩
    repeat' (first | walk_at "kva" | (with_reducible refine has_ixN gs ?_) | (with_reducible refine' has_mk (q_cn _ _) ?_) | walk_at "kvs")
    refine s_setAt (ob := .lst (fs.map fun t => qfPv (t, num1))) rfl (sx _) ?_
    dsimp only [List.map, List.cons_append, List.nil_append, List.replicate_succ, List.replicate_zero, keepIx_t, keepIx_f, keepIx_n, Nat.reduceSub, Nat.reduceAdd, St.put, List.set_cons_succ, List.set_cons_zero, Int.reduceToNat, if_true, Bool.false_eq_true, if_false, srcSlots]
    repeat' (first | walk_at "kva" | (with_reducible refine has_ixN gs ?_) | walk_at "kvs")
    have fin : (fs.map fun t => qfPv (t, num1)).set i (.tup [.str fs[i], Q.pv]) = (taken fs i fs[i] Q).map qfPv := by
      unfold taken
      rw [List.map_set, List.map_map]; rfl
    refine ⟨q1 wAt (.tx fs[i]) (.row (Qfs.ofL (taken fs i fs[i] Q))), a3, c3, taken_ty f5 f3 gi g1, taken_sz f4 f2 gi g2 hD, by omega, by omega, ?_, rfl⟩
    rw [fin]
    show SV.pv (.tup [.str wAt, .str fs[i], _]) = SV.pv (.tup [.str wAt, .str fs[i], (Qn.row (Qfs.ofL (taken fs i fs[i] Q))).pv])
    rw [row_pv]
end K30

set_option Elab.async false
set_option linter.all false
set_option maxRecDepth 100000
set_option hygiene false
set_option hygiene true
namespace K30
open Kv
def askedR3 : List S := [.asg (.nm 7) (.idx (.lst [.c (.str [116]), .c (.str [115]), .c (.str [122])]) (.call 5 [.var 3, .c (.int 3)])), .iff (.e (.cmp .Eq (.var 6) (.c (.int 6)))) [.asg (.nm 8) (.idx (.lst [.tup [.c (.str [110, 117, 109])], .tup [.c (.str [98, 97, 103]), .tup [.c (.str [110, 117, 109])]]]) (.call 5 [.var 3, .c (.int 2)])), .asg (.nm 9) (.call 16 [.var 8, .var 1, .bin .Sub (.var 2) (.c (.int 2)), .var 3]), .ret (.tup [.c (.str [108, 101, 116]), .var 7, .var 9, .call 16 [.var 0, .bin .Add (.lst [.tup [.var 7, .var 8]]) (.var 1), .bin .Sub (.var 2) (.c (.int 1)), .var 3]])] [], .asg (.tup [.nm 10, .nm 8]) (.call 14 [.var 1, .bin .Sub (.var 2) (.c (.int 1)), .var 3]), .ret (.tup [.c (.str [102, 111, 114]), .var 7, .var 10, .call 16 [.var 0, .bin .Add (.lst [.tup [.var 7, .idx (.var 8) (.c (.int 1))]]) (.var 1), .bin .Sub (.var 2) (.c (.int 1)), .var 3]])]
theorem askedR2_eq : askedR2 = .iff (.e (.cmp .Eq (.var 6) (.c (.int 2)))) [.ret (.tup [.c (.str [98, 111, 116, 104]), .call 16 [.var 0, .var 1, .bin .Sub (.var 2) (.c (.int 1)), .var 3], .call 16 [.var 0, .var 1, .bin .Sub (.var 2) (.c (.int 1)), .var 3]])] [] :: .iff (.e (.cmp .Eq (.var 6) (.c (.int 3)))) [.ret (.tup [.c (.str [116, 105, 109, 101, 115]), .bin .Sub (.call 5 [.var 3, .c (.int 7)]) (.c (.int 3)), .call 16 [.var 0, .var 1, .bin .Sub (.var 2) (.c (.int 1)), .var 3]])] [] :: .iff (.e (.cmp .Eq (.var 6) (.c (.int 4)))) [.ret (.tup [.c (.str [119, 104, 101, 110]), .call 13 [.var 1, .c (.int 1), .var 3], .call 16 [.var 0, .var 1, .bin .Sub (.var 2) (.c (.int 1)), .var 3]])] [] :: .iff (.e (.cmp .Eq (.var 6) (.c (.int 5)))) [.ret (.tup [.c (.str [111, 110, 101]), .call 12 [.idx (.var 0) (.c (.int 1)), .var 1, .bin .Sub (.var 2) (.c (.int 1)), .var 3]])] [] :: .iff (.e (.cmp .Eq (.var 6) (.c (.int 7)))) [.ret (.call 15 [.var 0, .var 1, .var 2, .var 3])] [] :: .iff (.and [.e (.cmp .Eq (.var 6) (.c (.int 8))), .e (.cmp .Eq (.call 5 [.var 3, .c (.int 2)]) (.c (.int 0)))]) [.ret (.tup [.c (.str [110, 111, 110, 101]), .idx (.var 0) (.c (.int 1))])] [] :: askedR3 := rfl
/-- bound, or gone over -/
theorem as_tail {k n : Nat} {e : Int} {K : Kd} {D P : Nat} {mu : List Obj} {E : TD Kd} {b m a c x : Int} {N W : List Qn} (he : 1 ≤ e) (hn : n + 1 ≤ 60) (hK : KO (.bag K)) (hD : 6 ≤ D) (hP : 600 ≤ P) (hm : SdOk m) (hc : CnOk c (2 * P + 50)) (hE : EOk E n)
    (i1 : ∀ i : Int, i ≤ e - 1 → ∀ K, KO K → AskK (k + 5) 16 i (n + 1) K D P)
    (i2 : ∀ i : Int, i ≤ e - 1 → ∀ K, KO K → AskK (k + 6) 16 i (n + 1) K D P) :
    wp (evSs ⟨fns, tabs, callK fns tabs (k + 6), 4⟩ askedR3 [0, 1, 2, 3] (asSt E (.bag K) e b m a c x N W none none mu)) (outQ E (.bag K) e b m c mu (D + 1) (2 * P + 50)) := by
  obtain ⟨hc0, hc1⟩ := hc
  have hE1 : EOk E (n + 1) := hE.mono (by omega)
  have lE := hE.len
  unfold askedR3
  repeat' (first | walk_at "kva" | walk_at "kvs")
  refine wp_mono (draw_ok hm (by omega) (by decide) (by decide)) ?_
  rintro _ _ ⟨y, a1, y0, y1, rfl, rfl⟩
  repeat' (first | walk_at "kva" | walk_at "kvs")
  refine has_ixL (fun p => ∃ t : Tx, nmTx t = true ∧ t ≠ [119] ∧ p = .str t) y0 (by exact y1) (fun p hp => by
    simp only [List.mem_cons, List.not_mem_nil, or_false] at hp
    rcases hp with rfl | rfl | rfl <;> exact ⟨_, by decide, by decide, rfl⟩) ?_
  rintro _ ⟨t, ht, hw, rfl⟩
  repeat' (first | walk_at "kva" | walk_at "kvs")
  · refine wp_mono (draw_ok hm (by omega) (by decide) (by decide)) ?_
    rintro _ _ ⟨y, a2, y0, y1, rfl, rfl⟩
    repeat' (first | walk_at "kva" | walk_at "kvs")
    refine has_ixL (fun p => ∃ K2 : Kd, KO K2 ∧ p = K2.pv) y0 (by exact y1) (fun p hp => by
      simp only [List.mem_cons, List.not_mem_nil, or_false] at hp
      rcases hp with rfl | rfl
      · exact ⟨.num, ⟨by decide, by decide⟩, rfl⟩
      · exact ⟨.bag .num, ⟨by decide, by decide⟩, rfl⟩) ?_
    rintro _ ⟨K2, hK2, rfl⟩
    repeat' (first | walk_at "kva" | (with_reducible refine' has_mk (kd_cn _ _) ?_) | walk_at "kvs")
    refine wp_mono (i2 (e - 2) (by omega) K2 hK2 hm ⟨by omega, by omega⟩ hE1) ?_
    rintro _ _ ⟨A, a3, c3, g1, g2, g3, g4, rfl, rfl⟩
    repeat' (first | walk_at "kva" | (with_reducible refine' has_mk (kd_cn _ _) ?_) | walk_at "kvs")
    refine has_addl (by rw [List.length_map]; show 1 + _ ≤ 16777216; omega) ?_
    rw [show ([PV.tup [PV.str t, K2.pv]] ++ E.map kfPv) = ((t, K2) :: E).map kfPv from rfl]
    repeat' (first | walk_at "kva" | (with_reducible refine' has_mk (kd_cn _ _) ?_) | walk_at "kvs")
    have q : wp (callK fns tabs (k + 6) 16 (askA ((t, K2) :: E) (.bag K) (e - 1) b m a3 c3) mu) (AskP ((t, K2) :: E) (.bag K) (e - 1) b m c3 mu D P) := i2 (e - 1) (by omega) (.bag K) hK hm ⟨by omega, by omega⟩ (EOk.cons hE ht hw hK2)
    refine wp_mono q ?_
    rintro _ _ ⟨B, a4, c4, j1, j2, j3, j4, rfl, rfl⟩
    repeat' (first | walk_at "kva" | (with_reducible refine' has_mk (q_cn _ _) ?_) | walk_at "kvs")
    exact ⟨_, rfl, q2 wLet (.tx t) A B, a4, c4, .lt g1 j1, (q2_sz (p := .tx t) (show (_, 119, 2) ∈ shapes from by decide) ht (Nat.le_refl _) g2 j2).mono (by omega) (by omega), by omega, by omega, rfl, rfl⟩
  · refine wp_mono (over_ok (k := k + 2) (n := n + 1) (D := D) (P := P) (by omega) (by omega) (by omega) hm ⟨by omega, by omega⟩ hE1 (fun _ K hK => i1 (e - 1 - 1) (by omega) K hK)) ?_
    rintro _ _ ⟨A, K2, a3, c3, g1, gK, g2, g3, g4, rfl, rfl⟩
    repeat' (first | walk_at "kva" | (with_reducible refine' has_mk (kd_cn _ _) ?_) | walk_at "kvs")
    refine has_addl (by rw [List.length_map]; show 1 + _ ≤ 16777216; omega) ?_
    rw [show ([PV.tup [PV.str t, K2.pv]] ++ E.map kfPv) = ((t, K2) :: E).map kfPv from rfl]
    repeat' (first | walk_at "kva" | (with_reducible refine' has_mk (kd_cn _ _) ?_) | walk_at "kvs")
    have q : wp (callK fns tabs (k + 6) 16 (askA ((t, K2) :: E) (.bag K) (e - 1) b m a3 c3) mu) (AskP ((t, K2) :: E) (.bag K) (e - 1) b m c3 mu D P) := i2 (e - 1) (by omega) (.bag K) hK hm ⟨by omega, by omega⟩ (EOk.cons hE ht hw gK.bag)
    refine wp_mono q ?_
    rintro _ _ ⟨B, a4, c4, j1, j2, j3, j4, rfl, rfl⟩
    repeat' (first | walk_at "kva" | (with_reducible refine' has_mk (q_cn _ _) ?_) | walk_at "kvs")
    exact ⟨_, rfl, q2 wFor (.tx t) A B, a4, c4, .fr g1 j1, (q2_sz (p := .tx t) (show (_, 119, 2) ∈ shapes from by decide) ht (Nat.le_refl _) g2 j2).mono (by omega) (by omega), by omega, by omega, rfl, rfl⟩
/-- one more of fuel, a bag -/
theorem as_bag {k n : Nat} {e : Int} {K : Kd} {D P : Nat} (hk : 4 ≤ k) (he : 1 ≤ e) (hn : n + 1 ≤ 60) (hK : KO (.bag K)) (hD : 6 ≤ D) (hP : 600 ≤ P)
    (i1 : ∀ i : Int, i ≤ e - 1 → ∀ K, KO K → AskK (k + 1) 16 i (n + 1) K D P)
    (i2 : ∀ i : Int, i ≤ e - 1 → ∀ K, KO K → AskK (k + 2) 16 i (n + 1) K D P)
    (i3 : ∀ i : Int, i ≤ e - 1 → ∀ K, KO K → AskK (k + 2) 12 i (n + 1) K D P) : AskK (k + 3) 16 e n (.bag K) (D + 3) (5 * P) := by
  obtain ⟨k, rfl⟩ : ∃ i, k = i + 4 := ⟨k - 4, by omega⟩
  intro mu E b m a c hm hc hE
  have hE1 : EOk E (n + 1) := hE.mono (by omega)
  refine as_pre hK hm hc (by omega) hE (by omega) ?_
  intro N W a' x hW lW x0 x1
  obtain ⟨hc0, hc1⟩ := hc
  have z := way_ok (k := k + 5) (b := b) (e := e) (x := x) (N := N) (pr := [0, 1, 2, 3]) (mu := mu) (a := a') (c := c + 1) hK (D := D) (P := P) (by omega) (by omega) hm ⟨by omega, by omega⟩ hE hW lW ((i3 0 (by omega) K hK.bag).mono (by omega) (Nat.le_refl _) (Nat.le_refl _))
  have tl : ∀ (a2 c2 : Int), c ≤ c2 → c2 ≤ c + 3 → wp (evSs ⟨fns, tabs, callK fns tabs (k + 6), 4⟩ askedR3 [0, 1, 2, 3] (asSt E (.bag K) e b m a2 c2 x N W none none mu)) (outQ E (.bag K) e b m c mu (D + 3) (5 * P)) := by
    intro a2 c2 h1 h2
    refine wp_mono (as_tail he hn hK hD hP hm ⟨by omega, by omega⟩ hE i1 i2) fun f st h => h.up (by omega) (by omega) (by omega) (by omega)
  generalize hR : wayB = R at z ⊢
  rw [askedR2_eq]
  repeat' (first | walk_at "kva" | (with_reducible refine' has_mk (kd_cn _ _) ?_) | walk_at "kvs")
  · exfalso; omega
  · refine wp_mono z ?_
    rintro f st ⟨v, rfl, h⟩
    repeat' (first | walk_at "kva" | walk_at "kvs")
    exact outQ.up ⟨v, rfl, h⟩ (by omega) (by omega) (by omega) (by omega)
  · refine wp_mono (i2 (e - 1) (by omega) (.bag K) hK hm ⟨by omega, by omega⟩ hE1) ?_
    rintro _ _ ⟨A, a3, c3, g1, g2, g3, g4, rfl, rfl⟩
    repeat' (first | walk_at "kva" | (with_reducible refine' has_mk (kd_cn _ _) ?_) | walk_at "kvs")
    refine wp_mono (i2 (e - 1) (by omega) (.bag K) hK hm ⟨by omega, by omega⟩ hE1) ?_
    rintro _ _ ⟨B, a4, c4, j1, j2, j3, j4, rfl, rfl⟩
    repeat' (first | walk_at "kva" | (with_reducible refine' has_mk (q_cn _ _) ?_) | walk_at "kvs")
    exact ⟨_, rfl, q2 wBoth .no A B, a4, c4, .both g1 j1, (q2_sz (show (_, 0, 2) ∈ shapes from by decide) rfl (by decide) g2 j2).mono (by omega) (by omega), by omega, by omega, rfl, rfl⟩
  · refine wp_mono (draw_ok hm (by omega) (by decide) (by decide)) ?_
    rintro _ _ ⟨y, a2, y0, y1, rfl, rfl⟩
    repeat' (first | walk_at "kva" | (with_reducible refine' has_mk (kd_cn _ _) ?_) | walk_at "kvs")
    refine wp_mono (i2 (e - 1) (by omega) (.bag K) hK hm ⟨by omega, by omega⟩ hE1) ?_
    rintro _ _ ⟨B, a4, c4, j1, j2, j3, j4, rfl, rfl⟩
    repeat' (first | walk_at "kva" | (with_reducible refine' has_mk (q_cn _ _) ?_) | walk_at "kvs")
    exact ⟨_, rfl, q1 wTimes (.int (y - 3)) B, a4, c4, .times j1, (q1_sz (p := .int (y - 3)) (show (_, 110, 1) ∈ shapes from by decide) (pint_good (by omega)) (Nat.le_refl _) j2).mono (by omega) (by omega), by omega, by omega, rfl, rfl⟩
  · refine wp_mono (claim1 (k := k) (n := n) (by omega) hm ⟨by omega, by omega⟩ hE) ?_
    rintro _ _ ⟨A, a3, c3, g1, g2, g3, g4, rfl, rfl⟩
    repeat' (first | walk_at "kva" | (with_reducible refine' has_mk (kd_cn _ _) ?_) | walk_at "kvs")
    refine wp_mono (i2 (e - 1) (by omega) (.bag K) hK hm ⟨by omega, by omega⟩ hE1) ?_
    rintro _ _ ⟨B, a4, c4, j1, j2, j3, j4, rfl, rfl⟩
    repeat' (first | walk_at "kva" | (with_reducible refine' has_mk (q_cn _ _) ?_) | walk_at "kvs")
    exact ⟨_, rfl, q2 wWhen .no A B, a4, c4, .whn g1 j1, (q2_sz (show (_, 0, 2) ∈ shapes from by decide) rfl (by decide) g2 j2).mono (by omega) (by omega), by omega, by omega, rfl, rfl⟩
  · refine wp_mono (i3 (e - 1) (by omega) K hK.bag hm ⟨by omega, by omega⟩ hE1) ?_
    rintro _ _ ⟨B, a4, c4, j1, j2, j3, j4, rfl, rfl⟩
    repeat' (first | walk_at "kva" | (with_reducible refine' has_mk (q_cn _ _) ?_) | walk_at "kvs")
    exact ⟨_, rfl, q1 wOne .no B, a4, c4, .one j1, (q1_sz (show (_, 0, 1) ∈ shapes from by decide) rfl (by decide) j2).mono (by omega) (by omega), by omega, by omega, rfl, rfl⟩
  · refine wp_mono (taken_ok (k := k + 4) (n := n + 1) (D := D) (P := P) (by omega) (i1 (e - 1) (Int.le_refl _) (.bag K) hK) hm ⟨by omega, by omega⟩ hE1) ?_
    rintro _ _ ⟨B, a4, c4, j1, j2, j3, j4, rfl, rfl⟩
    repeat' (first | walk_at "kva" | (with_reducible refine' has_mk (q_cn _ _) ?_) | walk_at "kvs")
    exact ⟨_, rfl, B, a4, c4, j1, j2.mono (by omega) (by omega), by omega, by omega, rfl, rfl⟩
  · refine wp_mono (draw_ok hm (by omega) (by decide) (by decide)) ?_
    rintro _ _ ⟨y, a2, y0, y1, rfl, rfl⟩
    repeat' (first | walk_at "kva" | (with_reducible refine' has_mk (kd_cn _ _) ?_) | walk_at "kvs")
    · exact ⟨_, rfl, q0 wNone (.kd K), a2, c + 1 + 1, .non hK, (none_sz hK).mono (by omega) (by omega), by omega, by omega, rfl, rfl⟩
    · exact tl _ _ (by omega) (by omega)
  · exact tl _ _ (by omega) (by omega)
/-- a level of fuel -/
def Lev (k0 : Nat) (e : Int) (n D P : Nat) : Prop := ∀ j, k0 ≤ j → ∀ i : Int, i ≤ e → ∀ K, KO K → AskK j 16 i n K D P ∧ AskK j 12 i n K D P
theorem lev0 : Lev 12 0 60 6 14000 := by
  intro j hj i hi K hK
  obtain ⟨a, b⟩ := base (n := 60) (Nat.le_refl _) 3 hK hK.2 (by omega : 6 + 2 * 3 ≤ j)
  have e : Pd 3 ≤ 14000 := by decide
  exact ⟨(a i hi).mono (Nat.le_refl _) (by decide) e, (b i hi).mono (Nat.le_refl _) (by decide) e⟩
theorem lev1 {k0 n D P : Nat} {e : Int} (he : 0 ≤ e) (hk : 8 ≤ k0) (hn : n + 1 ≤ 60) (hD : 6 ≤ D) (hP : 600 ≤ P) (h : Lev k0 e (n + 1) D P) : Lev (k0 + 4) (e + 1) n (D + 3) (5 * P) := by
  intro j hj i hi K hK
  by_cases hi' : i ≤ e
  · obtain ⟨a, b⟩ := h j (by omega) i hi' K hK
    exact ⟨a.mono (by omega) (by omega) (by omega), b.mono (by omega) (by omega) (by omega)⟩
  · obtain rfl : i = e + 1 := by omega
    have sm : ∀ j, k0 + 3 ≤ j → ∀ K, KO K → AskK j 12 (e + 1) n K (D + 3) (5 * P) := by
      intro j hj K hK
      obtain ⟨j, rfl⟩ : ∃ i, j = i + 4 := ⟨j - 4, by omega⟩
      have h1 : ∀ K, KO K → AskK (j + 3) 16 (e + 1 - 1) n K D P := fun K hK => (h (j + 3) (by omega) _ (by omega) K hK).1.mono (by omega) (Nat.le_refl _) (Nat.le_refl _)
      cases K with
      | num => exact (sm_num (k := j + 1) (by omega) (by omega) ((h (j + 3) (by omega) (e + 1 - 1) (by omega) .num hK).2.mono (n' := n) (by omega) (Nat.le_refl _) (Nat.le_refl _)) (by omega)).mono (Nat.le_refl _) (by omega) (by omega)
      | word => exact (sm_word (k := j) (n := n) (by omega)).mono (Nat.le_refl _) (by omega) (by omega)
      | row fs => exact (sm_row (k := j + 1) (D := D) (P := P) (by omega) hK (fun K' hK' _ => h1 K' hK') (by omega) (by omega)).mono (Nat.le_refl _) (by omega) (by omega)
      | bag K => exact (sm_bag (k := j + 1) (by omega) hK (h1 _ hK) (by omega) (by omega)).mono (Nat.le_refl _) (by omega) (by omega)
    refine ⟨?_, sm j (by omega) K hK⟩
    obtain ⟨j, rfl⟩ : ∃ i, j = i + 3 := ⟨j - 3, by omega⟩
    by_cases nb : ∃ K', K = .bag K'
    · obtain ⟨K', rfl⟩ := nb
      exact as_bag (by omega) (by omega) hn hK hD hP (fun i hi K hK => (h (j + 1) (by omega) i (by omega) K hK).1) (fun i hi K hK => (h (j + 2) (by omega) i (by omega) K hK).1) (fun i hi K hK => (h (j + 2) (by omega) i (by omega) K hK).2)
    · exact as_nb (k := j + 1) hK (fun K' e => nb ⟨K', e⟩) (sm (j + 2) (by omega) K hK)
theorem lev3 : Lev 24 3 57 15 1750000 := lev1 (by decide) (by decide) (by decide) (by decide) (by decide) (lev1 (by decide) (by decide) (by decide) (by decide) (by decide) (lev1 (by decide) (by decide) (by decide) (by decide) (by decide) lev0))
end K30

set_option Elab.async false
set_option linter.all false
set_option maxRecDepth 100000
set_option hygiene false
set_option hygiene true
namespace K30
open Kv
/-! what stands below -/
def Qn.kids : Qn → List Qn
  | .nd _ _ ks => ks.l
  | .row fs => fs.fl.map (·.2)
theorem Qs.l_in : ∀ {qs : Qs}, qs.good = true → ∀ q ∈ qs.l, q.good = true ∧ q.depth ≤ qs.depth
  | .nil, _, p, m => (nomatch m)
  | .cons q r, h, p, m => by
    have h' : (q.good && r.good) = true := h
    rw [Bool.and_eq_true] at h'
    show _ ∧ _ ≤ max q.depth r.depth
    rcases List.mem_cons.mp m with rfl | m
    · exact ⟨h'.1, by omega⟩
    · have := Qs.l_in h'.2 p m
      exact ⟨this.1, by omega⟩
theorem Qfs.fl_in : ∀ {qs : Qfs}, qs.good = true → ∀ p ∈ qs.fl, p.2.good = true ∧ p.2.depth ≤ qs.depth
  | .nil, _, p, m => (nomatch m)
  | .cons f q r, h, p, m => by
    have h' : (nmTx f && q.good && r.good) = true := h
    simp only [Bool.and_eq_true] at h'
    show _ ∧ _ ≤ max q.depth r.depth
    rcases List.mem_cons.mp m with rfl | m
    · exact ⟨h'.1.2, by show q.depth ≤ _; omega⟩
    · have := Qfs.fl_in h'.2 p m
      exact ⟨this.1, by omega⟩
/-- how many words, of a list of questions -/
def qsz (l : List Qn) : Nat := (l.map fun q => q.wd.length).sum
theorem qsz_cons {q : Qn} {l : List Qn} : qsz (q :: l) = q.wd.length + qsz l := by unfold qsz; rw [List.map_cons, List.sum_cons]
theorem qsz_app {l k : List Qn} : qsz (l ++ k) = qsz l + qsz k := by unfold qsz; rw [List.map_append, List.sum_append]
theorem Qs.sz : ∀ qs : Qs, qsz qs.l = qs.wd.length
  | .nil => rfl
  | .cons q r => by
    show qsz (q :: r.l) = (q.wd ++ r.wd).length
    rw [qsz_cons, List.length_append, r.sz]
theorem Qfs.sz : ∀ fs : Qfs, qsz (fs.fl.map (·.2)) ≤ fs.wd.length
  | .nil => Nat.le_refl _
  | .cons f q r => by
    show qsz (q :: r.fl.map (·.2)) ≤ (f :: (q.wd ++ r.wd)).length
    rw [qsz_cons, List.length_cons, List.length_append]
    have := r.sz
    omega
theorem kids_sz {q : Qn} : qsz q.kids + 1 ≤ q.wd.length := by
  cases q with
  | nd w p ks =>
    show qsz ks.l + 1 ≤ (p.wd ++ ks.wd).length + 1
    rw [ks.sz, List.length_append]; omega
  | row fs =>
    show qsz (fs.fl.map (·.2)) + 1 ≤ fs.wd.length + 1 + 1
    have := fs.sz
    omega
theorem kids_in {q : Qn} (h : q.good = true) : ∀ p ∈ q.kids, p.good = true ∧ p.depth + 1 ≤ q.depth := by
  cases q with
  | nd w p0 ks =>
    have h' : (decide ((w, p0.code, ks.len) ∈ shapes) && p0.good && ks.good) = true := h
    simp only [Bool.and_eq_true, decide_eq_true_eq] at h'
    intro p m
    have := Qs.l_in h'.2 p m
    exact ⟨this.1, by show p.depth + 1 ≤ ks.depth + 1; omega⟩
  | row fs =>
    have h' : (fs.good && decide (fs.len ≤ 14)) = true := h
    simp only [Bool.and_eq_true, decide_eq_true_eq] at h'
    intro p m
    obtain ⟨r, hr, rfl⟩ := List.mem_map.mp m
    have := Qfs.fl_in h'.1 r hr
    exact ⟨this.1, by show r.2.depth + 1 ≤ fs.depth + 1; omega⟩
theorem kids_len {q : Qn} (h : q.good = true) : q.kids.length ≤ 14 := by
  cases q with
  | nd w p0 ks =>
    have h' : (decide ((w, p0.code, ks.len) ∈ shapes) && p0.good && ks.good) = true := h
    simp only [Bool.and_eq_true, decide_eq_true_eq] at h'
    show ks.l.length ≤ 14
    rw [Qs.l_len]
    exact (by decide : ∀ s ∈ shapes, s.2.2 ≤ 14) _ h'.1.1
  | row fs =>
    have h' : (fs.good && decide (fs.len ≤ 14)) = true := h
    simp only [Bool.and_eq_true, decide_eq_true_eq] at h'
    show (fs.fl.map (·.2)).length ≤ 14
    rw [List.length_map, Qfs.fl_len]
    exact h'.2
/-- the comprehension over a row's fields -/
theorem row_comp {N : Env} {fs : Qfs} {a b : Nat} {st0 : Kv.St} {P : List PV → Kv.St → Prop} (Inv : Kv.St → Prop) (h0 : Inv st0) (hl : fs.len ≤ 14)
    (hs : ∀ s, Inv s → ∀ (x y : PV), ∃ sg, bindT (.tup [.nm a, .nm b]) (.pv (.tup [x, y])) (s.wipe [a, b]).sg = some sg ∧ (Kv.St.get ⟨sg, (s.wipe [a, b]).mu⟩ b) = some (.pv y) ∧ Inv ⟨sg, (s.wipe [a, b]).mu⟩)
    (hP : ∀ s, Inv s → P (fs.fl.map fun p => p.2.pv) (s.wipe [a, b])) : wp (compL (evAnd N []) (ev N (.var b)) (.tup [.nm a, .nm b]) (stands [.val (.pv (.tup fs.pvs))] [.pv (.tup fs.pvs)]) [a, b] fs.pvs [] st0) P := by
  refine l_comp (fun ys acc st => ∃ dn rs : TD Qn, fs.fl = dn ++ rs ∧ ys = rs.map qfPv ∧ acc = dn.map (fun p => p.2.pv) ∧ Inv st) ?_ ?_ ?_ _ _ _ ⟨[], fs.fl, rfl, fs.pvs_fl, rfl, h0⟩
  · rintro ys acc st ⟨dn, rs, e1, e2, e3, e4⟩
    exact stands_tup
  · rintro q ys acc st ⟨dn, rs, e1, e2, rfl, e4⟩
    cases rs with
    | nil => cases e2
    | cons p rs =>
      have e2' : q :: ys = qfPv p :: rs.map qfPv := e2
      injection e2' with e3 e4'
      subst e3 e4'
      have dl : dn.length + 1 ≤ 14 := by
        have := congrArg List.length e1
        rw [List.length_append, List.length_cons, fs.fl_len] at this
        omega
      obtain ⟨sg, b1, b2, b3⟩ := hs st e4 (.str p.1) p.2.pv
      refine has_mk b1 ?_
      refine t_andn (two_t rfl ?_)
      refine w_var (varp b2 (w_box ⟨?_, dn ++ [p], rs, by rw [e1]; simp, rfl, by rw [List.map_append]; rfl, b3⟩))
      rw [List.length_map]
      show _ < 16777216
      omega
  · rintro acc st ⟨dn, rs, e1, e2, rfl, e4⟩
    have hr : rs = [] := by cases rs with
      | nil => rfl
      | cons => cases e2
    subst hr
    rw [List.append_nil] at e1
    rw [← e1]
    exact hP st e4
theorem nd_0 {w : Tx} {p : Pre} {ks : Qs} : index (.pv (Qn.nd w p ks).pv) (.pv (.int 0)) = some (.str w) := by
  show atOf (PV.str w :: (p.pvs ++ ks.pvs)) ((0 : Nat) : Int) = _
  exact at_nat rfl
theorem cut_from {α : Type} {xs : List α} {n : Nat} (h : n ≤ xs.length) : cut xs (some (n : Int)) none = xs.drop n := by
  unfold cut sbnd
  simp only
  rw [if_neg (by omega), Int.toNat_natCast, Nat.min_eq_left h, List.take_of_length_le]
  rw [List.length_drop]
  exact Nat.le_refl _
theorem nd_s {w : Tx} {p : Pre} {ks : Qs} : slice (.pv (Qn.nd w p ks).pv) (some 1) none = some (.pv (.tup (p.pvs ++ ks.pvs))) := by
  have e : cut (PV.str w :: (p.pvs ++ ks.pvs)) (some ((1 : Nat) : Int)) none = p.pvs ++ ks.pvs := by rw [cut_from (by simp)]; rfl
  show some (SV.pv (.tup (cut (PV.str w :: (p.pvs ++ ks.pvs)) (some 1) none))) = _
  exact congrArg (fun l => some (SV.pv (.tup l))) e
/-- the parts whose letter is q or t -/
def sel : Tx → List PV → List PV
  | [], _ => []
  | _, [] => []
  | c :: r, p :: ps => if c = 113 ∨ c = 116 then p :: sel r ps else sel r ps
theorem sel_cons {c : Nat} {r : Tx} {p : PV} {ps : List PV} : sel (c :: r) (p :: ps) = if c = 113 ∨ c = 116 then p :: sel r ps else sel r ps := rfl
def isQt (c : Nat) : Bool := [113, 116].contains c
theorem isQt_iff {c : Nat} : isQt c = true ↔ c = 113 ∨ c = 116 := by unfold isQt; simp
theorem sel_all : ∀ {fs : Tx} {ps : List PV}, fs.all isQt = true → fs.length = ps.length → sel fs ps = ps
  | [], [], _, _ => rfl
  | [], _ :: _, _, h => by cases h
  | _ :: _, [], _, h => by cases h
  | c :: r, p :: ps, h, hl => by
    rw [List.all_cons, Bool.and_eq_true] at h
    rw [sel_cons, if_pos (isQt_iff.mp h.1), sel_all h.2 (by simpa using hl)]
def forms : List (PV × PV) := match tabs with
  | [.own (.tdic l)] => l
  | _ => []
theorem tabs_eq : tabs = [.own (.tdic forms)] := rfl
def formOf (w : Tx) : Tx := match dlook forms (.str w) with
  | some (.str t) => t
  | _ => []
def kf (w : Tx) : Tx := (formOf w).filter isQt
def preC (c : Nat) : Tx := if c = 0 then [] else [c]
theorem form_ok : ∀ s ∈ shapes, dlook forms (.str s.1) = some (.str (preC s.2.1 ++ kf s.1)) ∧ (preC s.2.1 ++ kf s.1).all (fun c => decide (c < 128)) = true ∧ (kf s.1).length = s.2.2 ∧ (kf s.1).all isQt = true := by decide
theorem sel_form {w : Tx} {p : Pre} {ks : Qs} (h : (w, p.code, ks.len) ∈ shapes) : sel (preC p.code ++ kf w) (p.pvs ++ ks.pvs) = ks.pvs := by
  obtain ⟨_, _, a, b⟩ := form_ok _ h
  have k : sel (kf w) ks.pvs = ks.pvs := sel_all b (by rw [ks.pvs_l, List.length_map, ks.l_len]; exact a)
  cases p with
  | no => exact k
  | int i => exact k
  | tx t => exact k
  | kd K => exact k
theorem inqt {c : Nat} : cmpall .In (.pv (.str [c])) (.pv (.str [113, 116])) = some (isQt c) := rfl
theorem under_comp {N : Env} {q : PV} {ws : Tx} {rest : List PV} {mu : List Obj} (hr : ws.length ≤ 6) : wp (compL (evAnd N [.e (.cmp .In (.var 1) (.c (.str [113, 116])))]) (ev N (.var 2)) (.tup [.nm 1, .nm 2]) (stands [.val (.pv (.str ws)), .val (.pv (.tup rest))] [.pv (.str ws), .pv (.tup rest)]) [1, 2] (((ws.map fun c => PV.str [c]).zip rest).map fun p => .tup [p.1, p.2]) [] ⟨[some (.pv q), none, none, none, none], mu⟩) fun ps st => ps = sel ws rest ∧ st = ⟨[some (.pv q), none, none, none, none], mu⟩ := by
  refine l_comp (fun ys acc st => ∃ (cs : Tx) (ps : List PV) (y z : Option SV), ys = ((cs.map fun c => PV.str [c]).zip ps).map (fun p => PV.tup [p.1, p.2]) ∧ acc ++ sel cs ps = sel ws rest ∧ acc.length + cs.length ≤ 6 ∧ st = ⟨[some (.pv q), y, z, none, none], mu⟩) ?_ ?_ ?_ _ _ _ ⟨ws, rest, none, none, rfl, rfl, by simpa using hr, rfl⟩
  · rintro ys acc st ⟨cs, ps, y, z, e1, e2, e3, rfl⟩
    unfold stands
    exact decide_eq_true rfl
  · rintro y0 ys acc st ⟨cs, ps, y, z, e1, e2, e3, rfl⟩
    cases cs with
    | nil => cases e1
    | cons c cs =>
      cases ps with
      | nil => cases e1
      | cons p ps =>
        have e1' : y0 :: ys = .tup [.str [c], p] :: ((cs.map fun c => PV.str [c]).zip ps).map (fun p => PV.tup [p.1, p.2]) := e1
        injection e1' with e4 e5
        subst e4 e5
        rw [List.length_cons] at e3
        dsimp only [St.wipe, wipeS, List.map, List.cons_append, List.nil_append, List.replicate_succ, List.replicate_zero, keepIx_t, keepIx_f, keepIx_n, Nat.reduceSub, Nat.reduceAdd, St.put, List.set_cons_succ, List.set_cons_zero, Int.reduceToNat, if_true, Bool.false_eq_true, if_false, srcSlots]
        refine has_mk rfl ?_
        dsimp only [List.map, List.cons_append, List.nil_append, List.replicate_succ, List.replicate_zero, keepIx_t, keepIx_f, keepIx_n, Nat.reduceSub, Nat.reduceAdd, St.put, List.set_cons_succ, List.set_cons_zero, Int.reduceToNat, if_true, Bool.false_eq_true, if_false, srcSlots]
        rw [sel_cons] at e2
        repeat' (first | walk_at "kva" | (with_reducible refine' has_mk inqt ?_) | walk_at "kvs")
        · rw [if_pos (isQt_iff.mp hb)] at e2
          refine ⟨by show _ < 16777216; omega, cs, ps, _, _, rfl, by rw [← e2]; simp, by rw [List.length_append, List.length_singleton]; omega, rfl⟩
        · rw [if_neg (by rw [← isQt_iff, hb]; decide)] at e2
          exact ⟨cs, ps, _, _, rfl, e2, by omega, rfl⟩
  · rintro acc st ⟨cs, ps, y, z, e1, e2, e3, rfl⟩
    have : sel cs ps = [] := by
      cases cs with
      | nil => rfl
      | cons => cases ps with
        | nil => rfl
        | cons => cases e1
    rw [this, List.append_nil] at e2
    exact ⟨e2, rfl⟩
theorem under_ok {k : Nat} {mu : List Obj} {q : Qn} (h : q.good = true) : wp (callK fns tabs (k + 1) 0 [.pv q.pv] mu) fun v st => v = .pv (.tup (q.kids.map Qn.pv)) ∧ st = ⟨[some (.pv q.pv)], mu⟩ := by
  cases q with
  | row fs =>
    have h' : (fs.good && decide (fs.len ≤ 14)) = true := h
    simp only [Bool.and_eq_true, decide_eq_true_eq] at h'
    refine c_run (fn := f_under) rfl rfl rfl ?_; dsimp only [f_under, List.map, List.cons_append, List.nil_append, List.replicate_succ, List.replicate_zero, keepIx_t, keepIx_f, keepIx_n, Nat.reduceSub, Nat.reduceAdd, St.put, List.set_cons_succ, List.set_cons_zero, Int.reduceToNat, if_true, Bool.false_eq_true, if_false, srcSlots]
    repeat' (first | walk_at "kva" | walk_at "kvs")
    refine l_end (row_comp (fun st => ∃ y z : Option SV, st = ⟨[some (.pv (Qn.row fs).pv), none, none, y, z], mu⟩) ⟨none, none, rfl⟩ h'.2 ?_ ?_)
    · rintro s ⟨y, z, rfl⟩ a b
      exact ⟨_, rfl, rfl, _, _, rfl⟩
    · rintro s ⟨y, z, rfl⟩
      dsimp only [St.wipe, wipeS, layBack, List.map, List.cons_append, List.nil_append, List.replicate_succ, List.replicate_zero, keepIx_t, keepIx_f, keepIx_n, Nat.reduceSub, Nat.reduceAdd, St.put, List.set_cons_succ, List.set_cons_zero, Int.reduceToNat, if_true, Bool.false_eq_true, if_false, srcSlots]
      repeat' (first | walk_at "kva" | walk_at "kvs")
      refine ⟨?_, rfl⟩
      show _ = SV.pv (.tup ((fs.fl.map (·.2)).map Qn.pv))
      rw [List.map_map]; rfl
  | nd w p ks =>
    have h' : (decide ((w, p.code, ks.len) ∈ shapes) && p.good && ks.good) = true := h
    simp only [Bool.and_eq_true, decide_eq_true_eq] at h'
    have w1 : cmpall .Eq (.pv (.str w)) (.pv (.str [114, 111, 119])) = some false := (by decide : ∀ s ∈ shapes, cmpall .Eq (.pv (.str s.1)) (.pv (.str [114, 111, 119])) = some false) _ h'.1.1
    obtain ⟨f1, f2, f3, _⟩ := form_ok _ h'.1.1
    have w2 : index (.own (.tdic forms)) (.pv (.str w)) = some (.str (preC p.code ++ kf w)) := f1
    have hl : (preC p.code ++ kf w).length ≤ 6 := (by decide : ∀ s ∈ shapes, (preC s.2.1 ++ kf s.1).length ≤ 6) _ h'.1.1
    refine c_run (fn := f_under) rfl rfl rfl ?_; dsimp only [f_under, List.map, List.cons_append, List.nil_append, List.replicate_succ, List.replicate_zero, keepIx_t, keepIx_f, keepIx_n, Nat.reduceSub, Nat.reduceAdd, St.put, List.set_cons_succ, List.set_cons_zero, Int.reduceToNat, if_true, Bool.false_eq_true, if_false, srcSlots]
    rw [tabs_eq]
    repeat' (first | walk_at "kva" | (with_reducible refine' has_mk nd_0 ?_) | (with_reducible refine' has_mk w1 ?_) | (with_reducible refine' has_mk w2 ?_) | (with_reducible refine' has_mk nd_s ?_) | walk_at "kvs")
    refine ⟨_, if_pos f2, ?_⟩
    refine l_end (wp_mono (under_comp (N := _) (q := (Qn.nd w p ks).pv) (ws := preC p.code ++ kf w) (rest := p.pvs ++ ks.pvs) (mu := mu) hl) ?_)
    rintro ps st ⟨rfl, rfl⟩
    rw [sel_form h'.1.1]
    dsimp only [St.wipe, wipeS, layBack, List.map, List.cons_append, List.nil_append, List.replicate_succ, List.replicate_zero, keepIx_t, keepIx_f, keepIx_n, Nat.reduceSub, Nat.reduceAdd, St.put, List.set_cons_succ, List.set_cons_zero, Int.reduceToNat, if_true, Bool.false_eq_true, if_false, srcSlots]
    repeat' (first | walk_at "kva" | walk_at "kvs")
    refine ⟨?_, rfl⟩
    rw [ks.pvs_l]; rfl
end K30

set_option Elab.async false
set_option linter.all false
set_option maxRecDepth 100000
set_option hygiene false
set_option hygiene true
namespace K30
open Kv
theorem question_ok {k : Nat} {mu : List Obj} {b m a : Int} (hk : 25 ≤ k) (hm : SdOk m) : wp (callK fns tabs k 18 [sd b m a 0] mu) fun v st => ∃ (Q : Qn) (K : Kd) (a' c' : Int), QT [] Q (.bag K) ∧ Sz Q 15 1750000 ∧ 0 ≤ c' ∧ c' ≤ 2000000 ∧ v = .pv Q.pv ∧ st = ⟨[some (sd b m a' c')], mu⟩ := by
  obtain ⟨k, rfl⟩ : ∃ i, k = i + 1 := ⟨k - 1, by omega⟩
  obtain ⟨j, rfl⟩ : ∃ i, k = i + 1 := ⟨k - 1, by omega⟩
  refine c_run (fn := f_law_question) rfl rfl rfl ?_; dsimp only [f_law_question, List.map, List.cons_append, List.nil_append, List.replicate_succ, List.replicate_zero, keepIx_t, keepIx_f, keepIx_n, Nat.reduceSub, Nat.reduceAdd, St.put, List.set_cons_succ, List.set_cons_zero, Int.reduceToNat, if_true, Bool.false_eq_true, if_false, srcSlots]
  repeat' (first | walk_at "kva" | walk_at "kvs")
  refine wp_mono kinds_ok ?_
  rintro _ _ ⟨rfl, rfl⟩
  repeat' (first | walk_at "kva" | walk_at "kvs")
  refine wp_mono (draw_ok hm (by omega) (by decide) (by decide)) ?_
  rintro _ _ ⟨x, a1, x0, x1, rfl, rfl⟩
  repeat' (first | walk_at "kva" | walk_at "kvs")
  refine has_ixL (fun p => ∃ t K, tget KT t = some K ∧ KO (.bag K) ∧ p = .str t) x0 (by exact x1) (fun p hp => by
    simp only [List.mem_cons, List.not_mem_nil, or_false] at hp
    rcases hp with rfl | rfl | rfl | rfl
    · exact ⟨_, _, rfl, ⟨by decide, by decide⟩, rfl⟩
    · exact ⟨_, _, rfl, ⟨by decide, by decide⟩, rfl⟩
    · exact ⟨_, _, rfl, ⟨by decide, by decide⟩, rfl⟩
    · exact ⟨_, _, rfl, ⟨by decide, by decide⟩, rfl⟩) ?_
  rintro _ ⟨t, K, hg, hK, rfl⟩
  repeat' (first | walk_at "kva" | (with_reducible refine has_tget hg ?_) | (with_reducible refine' has_mk (kd_cn _ _) ?_) | walk_at "kvs")
  refine wp_mono (draw_ok hm (by omega) (by decide) (by decide)) ?_
  rintro _ _ ⟨y, a2, y0, y1, rfl, rfl⟩
  repeat' (first | walk_at "kva" | (with_reducible refine' has_mk (kd_cn _ _) ?_) | walk_at "kvs")
  have e0 : EOk [] 57 := ⟨fun p m => (nomatch m), Nat.zero_le _⟩
  have q : wp (callK fns tabs (j + 1) 16 (askA [] (.bag K) (2 + y) b m a2 (0 + 1 + 1)) mu) (AskP [] (.bag K) (2 + y) b m (0 + 1 + 1) mu 15 1750000) := (lev3 (j + 1) (by omega) (2 + y) (by omega) (.bag K) hK).1 hm ⟨by omega, by omega⟩ e0
  refine wp_mono q ?_
  rintro _ _ ⟨Q, a3, c3, g1, g2, g3, g4, rfl, rfl⟩
  repeat' (first | walk_at "kva" | walk_at "kvs")
  exact ⟨Q, K, a3, c3, g1, g2, by omega, by omega, rfl, rfl⟩
/-- names for some tables -/
theorem names_ok {k : Nat} {mu : List Obj} {b m a c : Int} {t : Tx} (hm : SdOk m) (hc : 0 ≤ c ∧ c ≤ 5000000) (ht : t.length ≤ 5) : wp (callK fns tabs (k + 2) 17 [sd b m a c, .pv (.str t)] mu) fun v st => ∃ (l : TD PV) (a' c' : Int), l.length ≤ 5 ∧ (∀ p ∈ l, p.1 ∈ tnames KT) ∧ v = .own (.dic (tdic id l)) ∧ st = ⟨[some (sd b m a' c'), some (.pv (.str t))], mu⟩ := by
  refine c_run (fn := f_law_names) rfl rfl rfl ?_; dsimp only [f_law_names, List.map, List.cons_append, List.nil_append, List.replicate_succ, List.replicate_zero, keepIx_t, keepIx_f, keepIx_n, Nat.reduceSub, Nat.reduceAdd, St.put, List.set_cons_succ, List.set_cons_zero, Int.reduceToNat, if_true, Bool.false_eq_true, if_false, srcSlots]
  repeat' (first | walk_at "kva" | walk_at "kvs")
  refine l_for (fun ys st => ∃ (rs : List Tx) (l : TD PV) (a' c' : Int) (o3 : Option SV), ys = rs.map PV.str ∧ (∀ r ∈ rs, r ∈ tnames KT) ∧ l.length + rs.length ≤ 5 ∧ (∀ p ∈ l, p.1 ∈ tnames KT) ∧ 0 ≤ c' ∧ c' + rs.length ≤ 5000005 ∧ st = ⟨[some (sd b m a' c'), some (.pv (.str t)), some (.own (.dic (tdic id l))), o3], mu⟩) ?_ ?_ ?_ _ _ ⟨[[114], [115], [116], [117], [118]], [], a, c, none, rfl, by decide, by decide, fun p m => (nomatch m), by omega, by show c + 5 ≤ _; omega, rfl⟩
  · rintro ys st ⟨rs, l, a', c', o3, e1, e2, e3, e4, e5, e6, rfl⟩
    exact stands_own
  · rintro y ys st ⟨rs, l, a', c', o3, e1, e2, e3, e4, e5, e6, rfl⟩
    cases rs with
    | nil => cases e1
    | cons r rs =>
      injection e1 with e7 e8
      subst e7 e8
      rw [List.length_cons] at e3 e6
      have hr := e2 r List.mem_cons_self
      have hrl : r.length ≤ 5 := (by decide : ∀ r ∈ tnames KT, r.length ≤ 5) r hr
      have e2' : ∀ q ∈ rs, q ∈ tnames KT := fun q m => e2 q (List.mem_cons_of_mem _ m)
      refine s_store rfl rfl ?_
      dsimp only [List.map, List.cons_append, List.nil_append, List.replicate_succ, List.replicate_zero, keepIx_t, keepIx_f, keepIx_n, Nat.reduceSub, Nat.reduceAdd, St.put, List.set_cons_succ, List.set_cons_zero, Int.reduceToNat, if_true, Bool.false_eq_true, if_false, srcSlots]
      repeat' (first | walk_at "kva" | walk_at "kvs")
      refine wp_mono (draw_ok hm (by omega) (by decide) (by decide)) ?_
      rintro _ _ ⟨x, a1, x0, x1, rfl, rfl⟩
      repeat' (first | walk_at "kva" | walk_at "kvs")
      · refine has_adds (by show t.length + r.length ≤ 16777216; omega) ?_
        repeat' (first | walk_at "kva" | walk_at "kvs")
        refine s_setAt (ob := .dic (tdic id l)) rfl (tset_ok (f := id) (v := PV.str (t ++ r)) (by omega)) ?_
        dsimp only [List.map, List.cons_append, List.nil_append, List.replicate_succ, List.replicate_zero, keepIx_t, keepIx_f, keepIx_n, Nat.reduceSub, Nat.reduceAdd, St.put, List.set_cons_succ, List.set_cons_zero, Int.reduceToNat, if_true, Bool.false_eq_true, if_false, srcSlots]
        repeat' (first | walk_at "kva" | walk_at "kvs")
        have tl := tput_len (l := l) (t := r) (v := PV.str (t ++ r))
        exact ⟨rs, tput l r (.str (t ++ r)), a1, c' + 1, _, rfl, e2', by omega, tput_all (P := fun y _ => y ∈ tnames KT) hr e4, by omega, by omega, rfl⟩
      · exact ⟨rs, l, a1, c' + 1, _, rfl, e2', by omega, e4, by omega, by omega, rfl⟩
  · rintro st ⟨rs, l, a', c', o3, e1, e2, e3, e4, e5, e6, rfl⟩
    repeat' (first | walk_at "kva" | walk_at "kvs")
    exact ⟨l, a', c', by omega, e4, rfl, rfl⟩
/-! tables within -/
mutual
def Qn.hasT : Qn → Bool
  | .nd w _ ks => decide (w = wTab) || ks.hasT
  | .row fs => fs.hasT
def Qs.hasT : Qs → Bool
  | .nil => false
  | .cons q r => q.hasT || r.hasT
def Qfs.hasT : Qfs → Bool
  | .nil => false
  | .cons _ q r => q.hasT || r.hasT
end
theorem Qs.hasT_l : ∀ ks : Qs, ks.hasT = ks.l.any Qn.hasT
  | .nil => rfl
  | .cons q r => by
    show (q.hasT || r.hasT) = (q.hasT || r.l.any Qn.hasT)
    rw [r.hasT_l]
theorem Qfs.hasT_l : ∀ fs : Qfs, fs.hasT = (fs.fl.map (·.2)).any Qn.hasT
  | .nil => rfl
  | .cons f q r => by
    show (q.hasT || r.hasT) = (q.hasT || (r.fl.map (·.2)).any Qn.hasT)
    rw [r.hasT_l]
theorem wait_pl : ∀ {l : List Qn}, (∀ q ∈ l, q.good = true ∧ q.depth ≤ 40) → PV.plains (l.map Qn.pv) = true ∧ PV.depths (l.map Qn.pv) ≤ 149
  | [], _ => ⟨rfl, Nat.zero_le _⟩
  | q :: r, h => by
    obtain ⟨g, d⟩ := h q List.mem_cons_self
    obtain ⟨a, b⟩ := Qn.dd g
    obtain ⟨c, e⟩ := wait_pl fun p m => h p (List.mem_cons_of_mem _ m)
    refine ⟨?_, ?_⟩
    · show (PV.plain q.pv && PV.plains (r.map Qn.pv)) = true
      rw [a, c]; rfl
    · show max q.pv.depth (PV.depths (r.map Qn.pv)) ≤ 149
      omega
theorem has_wait {l : List Qn} {f : Bool → Prop} (h : ∀ q ∈ l, q.good = true ∧ q.depth ≤ 40) (k : f (!decide (l.map Qn.pv = []))) : Has (cmpall .NotEq (.own (.lst (l.map Qn.pv))) (.own (.lst []))) f := by
  obtain ⟨a, b⟩ := wait_pl h
  exact has_nel a rfl b (by decide) k
theorem wait_ne {l : List Qn} (h : (!decide (l.map Qn.pv = [])) = true) : ∃ ini one, l = ini ++ [one] := by
  have ne : l ≠ [] := by
    rintro rfl
    exact absurd h (by decide)
  exact ⟨l.dropLast, l.getLast ne, (List.dropLast_concat_getLast ne).symm⟩
theorem wait_nil {l : List Qn} (h : (!decide (l.map Qn.pv = [])) = false) : l = [] := by
  cases l with
  | nil => rfl
  | cons a r =>
    have : (!decide (((a :: r).map Qn.pv) = [])) = true := by rw [decide_eq_false (by simp)]; rfl
    rw [this] at h; cases h
theorem wd_pos {q : Qn} : 1 ≤ q.wd.length := by
  have := kids_sz (q := q)
  omega
theorem qsz_len : ∀ {l : List Qn}, l.length ≤ qsz l
  | [] => Nat.zero_le _
  | q :: r => by
    have a := qsz_len (l := r)
    have b := wd_pos (q := q)
    rw [qsz_cons, List.length_cons]; omega
theorem tab_or {q : Qn} (h : q.good = true) : ∃ w : Tx, index (.pv q.pv) (.pv (.int 0)) = some (.str w) ∧ ((∃ t, q = q0 wTab (.tx t)) ∨ (cmpall .Eq (.pv (.str w)) (.pv (.str [116, 97, 98, 108, 101])) = some false ∧ q.hasT = q.kids.any Qn.hasT)) := by
  cases q with
  | row fs => exact ⟨[114, 111, 119], rfl, .inr ⟨by decide, fs.hasT_l⟩⟩
  | nd w p ks =>
    have h' : (decide ((w, p.code, ks.len) ∈ shapes) && p.good && ks.good) = true := h
    simp only [Bool.and_eq_true, decide_eq_true_eq] at h'
    refine ⟨w, nd_0, ?_⟩
    by_cases e : w = wTab
    · subst e
      have z : (p.code, ks.len) = (119, 0) := (by decide : ∀ s ∈ shapes, s.1 = wTab → s.2 = (119, 0)) _ h'.1.1 rfl
      injection z with z1 z2
      left
      cases ks with
      | cons q r => exact absurd z2 (Nat.succ_ne_zero _)
      | nil =>
        cases p with
        | tx t => exact ⟨t, rfl⟩
        | no => exact absurd z1 (by decide)
        | int i => exact absurd z1 (show (110 : Nat) ≠ 119 by decide)
        | kd K => exact absurd z1 (show (107 : Nat) ≠ 119 by decide)
    · right
      refine ⟨?_, ?_⟩
      · have : decide (w = wTab) = false := decide_eq_false e
        exact (by decide : ∀ s ∈ shapes, s.1 ≠ wTab → cmpall .Eq (.pv (.str s.1)) (.pv (.str [116, 97, 98, 108, 101])) = some false) _ h'.1.1 e
      · show (decide (w = wTab) || ks.hasT) = ks.l.any Qn.hasT
        rw [decide_eq_false e, Bool.false_or, ks.hasT_l]
theorem any_app {l k : List Qn} : (l ++ k).any Qn.hasT = (l.any Qn.hasT || k.any Qn.hasT) := List.any_append
theorem tables_ok {k : Nat} {mu : List Obj} {Q : Qn} (hg : Q.good = true) (hd : Q.depth ≤ 40) (hw : Q.wd.length ≤ 10000000) : wp (callK fns tabs (k + 2) 1 [.pv Q.pv] mu) fun v st => ∃ ts : List Tx, decide (ts = []) = !Q.hasT ∧ (∀ t ∈ ts, nmTx t = true) ∧ v = .own (.lst (ts.map PV.str)) ∧ st = ⟨[some (.pv Q.pv)], mu⟩ := by
  refine c_run (fn := f_tables) rfl rfl rfl ?_; dsimp only [f_tables, List.map, List.cons_append, List.nil_append, List.replicate_succ, List.replicate_zero, keepIx_t, keepIx_f, keepIx_n, Nat.reduceSub, Nat.reduceAdd, St.put, List.set_cons_succ, List.set_cons_zero, Int.reduceToNat, if_true, Bool.false_eq_true, if_false, srcSlots]
  repeat' (first | walk_at "kva" | (with_reducible refine' has_mk (q_cn _ _) ?_) | walk_at "kvs")
  refine s_while (l_while (fun m st => ∃ (ws : List Qn) (d : TD PV) (o3 : Option SV), qsz ws = m ∧ (∀ q ∈ ws, q.good = true ∧ q.depth ≤ 40) ∧ d.length + qsz ws ≤ Q.wd.length ∧ (!d.isEmpty || ws.any Qn.hasT) = Q.hasT ∧ (∀ p ∈ d, nmTx p.1 = true) ∧ st = ⟨[some (.pv Q.pv), some (.own (.dic (tdic id d))), some (.own (.lst (ws.map Qn.pv))), o3], mu⟩) ?_ _ (qsz [Q]) _ ?_ ⟨[Q], [], none, rfl, ?_, ?_, ?_, fun p m => (nomatch m), rfl⟩)
  · rintro m st ⟨ws, d, o3, rfl, e2, e4, e5, e8, rfl⟩
    repeat' (first | walk_at "kva" | (with_reducible refine has_wait e2 ?_) | walk_at "kvs")
    · obtain ⟨ini, q, rfl⟩ := wait_ne hb
      repeat' (first | walk_at "kva" | walk_at "kvs")
      refine m_pop (xs := ini.map Qn.pv) (y := q.pv) (by rw [List.map_append]; rfl) ?_
      dsimp only [List.map, List.cons_append, List.nil_append, List.replicate_succ, List.replicate_zero, keepIx_t, keepIx_f, keepIx_n, Nat.reduceSub, Nat.reduceAdd, St.put, List.set_cons_succ, List.set_cons_zero, Int.reduceToNat, if_true, Bool.false_eq_true, if_false, srcSlots]
      obtain ⟨g1, g2⟩ := e2 q (List.mem_append_right _ List.mem_cons_self)
      have ki := kids_in g1
      have ks := kids_sz (q := q)
      have l1 := qsz_len (l := ini)
      have l2 := qsz_len (l := q.kids)
      rw [qsz_app, qsz_cons] at e4
      have e0 : qsz [] = 0 := rfl
      have em : qsz (ini ++ [q]) = qsz ini + q.wd.length := by rw [qsz_app, qsz_cons]; omega
      have e6 : ∀ p ∈ ini ++ q.kids, p.good = true ∧ p.depth ≤ 40 := by
        intro p m
        rcases List.mem_append.mp m with m | m
        · exact e2 p (List.mem_append_left _ m)
        · have := ki p m
          exact ⟨this.1, by omega⟩
      rw [any_app] at e5
      obtain ⟨w, i0, c⟩ := tab_or g1
      rcases c with ⟨t, rfl⟩ | ⟨c2, c3⟩
      · have hw1 : (q0 wTab (.tx t)).wd.length = 2 := rfl
        have l3 := tput_len (l := d) (t := t) (v := PV.bl true)
        repeat' (first | walk_at "kva" | (with_reducible refine' has_mk (q_cn _ _) ?_) | walk_at "kvs")
        refine s_setAt (ob := .dic (tdic id d)) rfl (tset_ok (f := id) (v := PV.bl true) (by omega)) ?_
        dsimp only [List.map, List.cons_append, List.nil_append, List.replicate_succ, List.replicate_zero, keepIx_t, keepIx_f, keepIx_n, Nat.reduceSub, Nat.reduceAdd, St.put, List.set_cons_succ, List.set_cons_zero, Int.reduceToNat, if_true, Bool.false_eq_true, if_false, srcSlots]
        repeat' (first | walk_at "kva" | walk_at "kvs")
        refine wp_mono (under_ok g1) ?_
        rintro _ _ ⟨rfl, rfl⟩
        repeat' (first | walk_at "kva" | walk_at "kvs")
        refine m_extend (ys := []) (xs := ini.map Qn.pv) rfl rfl (by rw [List.length_map]; show _ + 0 ≤ 16777216; omega) ?_
        dsimp only [List.map, List.cons_append, List.nil_append, List.replicate_succ, List.replicate_zero, keepIx_t, keepIx_f, keepIx_n, Nat.reduceSub, Nat.reduceAdd, St.put, List.set_cons_succ, List.set_cons_zero, Int.reduceToNat, if_true, Bool.false_eq_true, if_false, srcSlots]
        repeat' (first | walk_at "kva" | walk_at "kvs")
        refine ⟨qsz ini, by omega, ini, tput d t (.bl true), _, rfl, fun p m => e6 p (List.mem_append_left _ m), by omega, ?_, tput_all (P := fun y _ => nmTx y = true) (by
          have g : (decide (_ ∈ shapes) && (Pre.tx t).good && true) = true := g1
          simp only [Bool.and_eq_true] at g
          exact g.1.2) e8, by rw [List.append_nil]⟩
        have h1 : Q.hasT = true := by
          rw [← e5]
          show (!d.isEmpty || (ini.any Qn.hasT || (true || false))) = true
          simp
        have h2 : (tput d t (PV.bl true)).isEmpty = false := by
          unfold tput
          split
          · rename_i h
            cases d with
            | nil => cases h
            | cons p r => rfl
          · cases d <;> rfl
        rw [h1, h2]; rfl
      · repeat' (first | walk_at "kva" | (with_reducible refine' has_mk (q_cn _ _) ?_) | (with_reducible refine' has_mk i0 ?_) | (with_reducible refine' has_mk c2 ?_) | walk_at "kvs")
        refine wp_mono (under_ok g1) ?_
        rintro _ _ ⟨rfl, rfl⟩
        repeat' (first | walk_at "kva" | walk_at "kvs")
        refine m_extend (ys := q.kids.map Qn.pv) (xs := ini.map Qn.pv) rfl rfl (by rw [List.length_map, List.length_map]; show _ ≤ 16777216; omega) ?_
        dsimp only [List.map, List.cons_append, List.nil_append, List.replicate_succ, List.replicate_zero, keepIx_t, keepIx_f, keepIx_n, Nat.reduceSub, Nat.reduceAdd, St.put, List.set_cons_succ, List.set_cons_zero, Int.reduceToNat, if_true, Bool.false_eq_true, if_false, srcSlots]
        repeat' (first | walk_at "kva" | walk_at "kvs")
        refine ⟨qsz (ini ++ q.kids), by rw [qsz_app]; omega, ini ++ q.kids, d, _, rfl, e6, by rw [qsz_app]; omega, ?_, e8, by rw [List.map_append]⟩
        have z : [q].any Qn.hasT = q.hasT := by
          show (q.hasT || false) = _
          rw [Bool.or_false]
        rw [← e5, any_app, z, c3]
    · have := wait_nil hb
      subst this
      have dl : d.length ≤ 16777216 := by omega
      repeat' (first | walk_at "kva" | walk_at "kvs")
      refine has_sorted (f := id) dl ?_
      repeat' (first | walk_at "kva" | walk_at "kvs")
      refine ⟨sortTx (tnames d), ?_, fun t m => by
        obtain ⟨p, hp, rfl⟩ := List.mem_map.mp (sort_perm.mem_iff.mp m)
        exact e8 p hp, rfl, rfl⟩
      rw [← e5]
      have sl := (sort_perm (l := tnames d)).length_eq
      cases d with
      | nil => rfl
      | cons p r =>
        have : sortTx (tnames (p :: r)) ≠ [] := by
          intro h
          rw [h] at sl
          cases sl
        rw [decide_eq_false this]; rfl
  · show Q.wd.length + 0 < 1000000000
    omega
  · intro q m
    rw [List.mem_singleton.mp m]
    exact ⟨hg, hd⟩
  · show 0 + (Q.wd.length + 0) ≤ _
    omega
  · show (!([] : TD PV).isEmpty || (Q.hasT || false)) = _
    rw [Bool.or_false]; rfl
end K30

set_option Elab.async false
set_option linter.all false
set_option maxRecDepth 100000
set_option hygiene false
set_option hygiene true
namespace K30
open Kv
/-! even, and the degree: what they are -/
def Qs.hd : Qs → Bool
  | .nil => false
  | .cons q _ => q.hasT
mutual
def Qn.ev : Qn → Bool
  | .nd w p ks => if (w = wOne ∨ w = wAt) ∧ ks.hasT = true then false else if w = wLet ∧ ks.hd = true then false else ks.ev
  | .row fs => fs.ev
def Qs.ev : Qs → Bool
  | .nil => true
  | .cons q r => q.ev && r.ev
def Qfs.ev : Qfs → Bool
  | .nil => true
  | .cons _ q r => q.ev && r.ev
end
theorem Qs.ev_l : ∀ ks : Qs, ks.ev = ks.l.all Qn.ev
  | .nil => rfl
  | .cons q r => by
    show (q.ev && r.ev) = (q.ev && r.l.all Qn.ev)
    rw [r.ev_l]
theorem Qfs.ev_l : ∀ fs : Qfs, fs.ev = (fs.fl.map (·.2)).all Qn.ev
  | .nil => rfl
  | .cons f q r => by
    show (q.ev && r.ev) = (q.ev && (r.fl.map (·.2)).all Qn.ev)
    rw [r.ev_l]
/-- a node, by its parts -/
inductive Vw : Qn → Prop
  | tab (t : Tx) : Vw (q0 wTab (.tx t))
  | lt (t : Tx) (a b : Qn) : Vw (q2 wLet (.tx t) a b)
  | fr (t : Tx) (a b : Qn) : Vw (q2 wFor (.tx t) a b)
  | at (t : Tx) (a : Qn) : Vw (q1 wAt (.tx t) a)
  | times (i : Int) (a : Qn) : Vw (q1 wTimes (.int i) a)
  | one (a : Qn) : Vw (q1 wOne .no a)
  | both (a b : Qn) : Vw (q2 wBoth .no a b)
  | whn (a b : Qn) : Vw (q2 wWhen .no a b)
  | oth (w : Tx) (p : Pre) (ks : Qs) : (w, p.code, ks.len) ∈ shapes → w ∉ [wTab, wLet, wFor, wAt, wTimes, wOne, wBoth, wWhen] → Vw (.nd w p ks)
  | row (fs : Qfs) : Vw (.row fs)
theorem code_tx {p : Pre} (h : p.code = 119) : ∃ t, p = .tx t := by
  cases p with
  | tx t => exact ⟨t, rfl⟩
  | no => exact absurd h (show (0 : Nat) ≠ 119 by decide)
  | int i => exact absurd h (show (110 : Nat) ≠ 119 by decide)
  | kd K => exact absurd h (show (107 : Nat) ≠ 119 by decide)
theorem code_int {p : Pre} (h : p.code = 110) : ∃ t, p = .int t := by
  cases p with
  | int t => exact ⟨t, rfl⟩
  | no => exact absurd h (show (0 : Nat) ≠ 110 by decide)
  | tx i => exact absurd h (show (119 : Nat) ≠ 110 by decide)
  | kd K => exact absurd h (show (107 : Nat) ≠ 110 by decide)
theorem code_no {p : Pre} (h : p.code = 0) : p = .no := by
  cases p with
  | no => rfl
  | int t => exact absurd h (show (110 : Nat) ≠ 0 by decide)
  | tx i => exact absurd h (show (119 : Nat) ≠ 0 by decide)
  | kd K => exact absurd h (show (107 : Nat) ≠ 0 by decide)
theorem len0 {ks : Qs} (h : ks.len = 0) : ks = .nil := by
  cases ks with
  | nil => rfl
  | cons => exact absurd h (Nat.succ_ne_zero _)
theorem len1 {ks : Qs} (h : ks.len = 1) : ∃ a, ks = .cons a .nil := by
  cases ks with
  | nil => cases h
  | cons a r => exact ⟨a, by rw [len0 (ks := r) (Nat.succ.inj h)]⟩
theorem len2 {ks : Qs} (h : ks.len = 2) : ∃ a b, ks = .cons a (.cons b .nil) := by
  cases ks with
  | nil => cases h
  | cons a r =>
    obtain ⟨b, rfl⟩ := len1 (ks := r) (Nat.succ.inj h)
    exact ⟨a, b, rfl⟩
theorem view {q : Qn} (h : q.good = true) : Vw q := by
  cases q with
  | row fs => exact .row fs
  | nd w p ks =>
    have h' : (decide ((w, p.code, ks.len) ∈ shapes) && p.good && ks.good) = true := h
    simp only [Bool.and_eq_true, decide_eq_true_eq] at h'
    have sh := h'.1.1
    by_cases c : w ∈ [wTab, wLet, wFor, wAt, wTimes, wOne, wBoth, wWhen]
    · simp only [List.mem_cons, List.not_mem_nil, or_false] at c
      rcases c with rfl | rfl | rfl | rfl | rfl | rfl | rfl | rfl
      · have z := (by decide : ∀ s ∈ shapes, s.1 = wTab → s.2 = (119, 0)) _ sh rfl
        injection z with z1 z2
        obtain ⟨t, rfl⟩ := code_tx z1
        obtain rfl := len0 z2
        exact .tab t
      · have z := (by decide : ∀ s ∈ shapes, s.1 = wLet → s.2 = (119, 2)) _ sh rfl
        injection z with z1 z2
        obtain ⟨t, rfl⟩ := code_tx z1
        obtain ⟨a, b, rfl⟩ := len2 z2
        exact .lt t a b
      · have z := (by decide : ∀ s ∈ shapes, s.1 = wFor → s.2 = (119, 2)) _ sh rfl
        injection z with z1 z2
        obtain ⟨t, rfl⟩ := code_tx z1
        obtain ⟨a, b, rfl⟩ := len2 z2
        exact .fr t a b
      · have z := (by decide : ∀ s ∈ shapes, s.1 = wAt → s.2 = (119, 1)) _ sh rfl
        injection z with z1 z2
        obtain ⟨t, rfl⟩ := code_tx z1
        obtain ⟨a, rfl⟩ := len1 z2
        exact .at t a
      · have z := (by decide : ∀ s ∈ shapes, s.1 = wTimes → s.2 = (110, 1)) _ sh rfl
        injection z with z1 z2
        obtain ⟨t, rfl⟩ := code_int z1
        obtain ⟨a, rfl⟩ := len1 z2
        exact .times t a
      · have z := (by decide : ∀ s ∈ shapes, s.1 = wOne → s.2 = (0, 1)) _ sh rfl
        injection z with z1 z2
        obtain rfl := code_no z1
        obtain ⟨a, rfl⟩ := len1 z2
        exact .one a
      · have z := (by decide : ∀ s ∈ shapes, s.1 = wBoth → s.2 = (0, 2)) _ sh rfl
        injection z with z1 z2
        obtain rfl := code_no z1
        obtain ⟨a, b, rfl⟩ := len2 z2
        exact .both a b
      · have z := (by decide : ∀ s ∈ shapes, s.1 = wWhen → s.2 = (0, 2)) _ sh rfl
        injection z with z1 z2
        obtain rfl := code_no z1
        obtain ⟨a, b, rfl⟩ := len2 z2
        exact .whn a b
    · exact .oth w p ks sh c
/-! the degree -/
mutual
def Qn.deg (ns : List Tx) : Qn → Int
  | .nd w p ks => if w = wTab then (match p with | .tx t => if ns.contains t = true then 1 else 0 | _ => 0) else if w = wBoth then (if ks.deg1 ns > ks.deg0 ns then ks.deg1 ns else ks.deg0 ns) else if w = wTimes then ks.deg0 ns else if w = wWhen then ks.deg1 ns else if w = wFor then ks.deg0 ns + ks.deg1 ns else if w = wLet then ks.deg1 ns else 0
  | .row _ => 0
def Qs.deg0 (ns : List Tx) : Qs → Int
  | .nil => 0
  | .cons q _ => q.deg ns
def Qs.deg1 (ns : List Tx) : Qs → Int
  | .nil => 0
  | .cons _ r => r.deg0 ns
end
theorem oth_eq {w : Tx} {p : Pre} {ks : Qs} (h : (w, p.code, ks.len) ∈ shapes) (n : w ∉ [wTab, wLet, wFor, wAt, wTimes, wOne, wBoth, wWhen]) : ∀ u ∈ [wTab, wLet, wFor, wAt, wTimes, wOne, wBoth, wWhen], w ≠ u ∧ cmpall .Eq (.pv (.str w)) (.pv (.str u)) = some false := by
  intro u hu
  refine ⟨fun e => n (e ▸ hu), ?_⟩
  exact (by decide : ∀ s ∈ shapes, s.1 ∉ [wTab, wLet, wFor, wAt, wTimes, wOne, wBoth, wWhen] → ∀ u ∈ [wTab, wLet, wFor, wAt, wTimes, wOne, wBoth, wWhen], cmpall .Eq (.pv (.str s.1)) (.pv (.str u)) = some false) _ h n u hu
theorem kid1 {w : Tx} {p : Pre} {a : Qn} (h : (q1 w p a).good = true) : a.good = true ∧ a.depth + 1 ≤ (q1 w p a).depth := kids_in h a (List.mem_cons_self)
theorem kid2 {w : Tx} {p : Pre} {a b : Qn} (h : (q2 w p a b).good = true) : (a.good = true ∧ a.depth + 1 ≤ (q2 w p a b).depth) ∧ (b.good = true ∧ b.depth + 1 ≤ (q2 w p a b).depth) := ⟨kids_in h a (List.mem_cons_self), kids_in h b (List.mem_cons_of_mem _ List.mem_cons_self)⟩
theorem inT_str {c : Tx} {xs : List Tx} : cmpall .In (.pv (.str c)) (.own (.lst (xs.map PV.str))) = some (xs.contains c) := by
  show (match asTx (xs.map PV.str) with | some ts => some (ts.contains c) | none => none) = _
  rw [asTx_map]
theorem int_bl {b : Bool} : biFn .int [.pv (.bl b)] = some (.pv (.int (if b = true then 1 else 0))) := rfl
theorem tab_deg {t : Tx} {ns : List Tx} : (q0 wTab (.tx t)).deg ns = if ns.contains t = true then 1 else 0 := rfl
theorem oth_deg {w : Tx} {p : Pre} {ks : Qs} {ns : List Tx} (h : ∀ u ∈ [wTab, wLet, wFor, wAt, wTimes, wOne, wBoth, wWhen], w ≠ u ∧ cmpall .Eq (.pv (.str w)) (.pv (.str u)) = some false) : (Qn.nd w p ks).deg ns = 0 := by
  have a := fun u hu => (h u hu).1
  show (if w = wTab then _ else if w = wBoth then _ else if w = wTimes then _ else if w = wWhen then _ else if w = wFor then _ else if w = wLet then _ else 0) = (0 : Int)
  rw [if_neg (a wTab (by decide)), if_neg (a wBoth (by decide)), if_neg (a wTimes (by decide)), if_neg (a wWhen (by decide)), if_neg (a wFor (by decide)), if_neg (a wLet (by decide))]
theorem inq_oth {w : Tx} {xs : List PV} {ts : List Tx} (e : xs = ts.map PV.str) (h : ∀ u ∈ ts, w ≠ u) : cmpall .In (.pv (.str w)) (.pv (.tup xs)) = some false := by
  subst e
  show (match asTx (ts.map PV.str) with | some ts => some (ts.contains w) | none => none) = _
  rw [asTx_map]
  show some (ts.contains w) = some false
  congr 1
  cases c : ts.contains w with
  | false => rfl
  | true => exact absurd rfl (h w (by simpa using c))
set_option maxHeartbeats 1000000 in
theorem degree_ok : ∀ (d : Nat) {k : Nat} {mu : List Obj} {Q : Qn} {ns : List Tx}, Q.good = true → Q.depth ≤ d → d + 1 ≤ k → wp (callK fns tabs k 3 [.pv Q.pv, .own (.lst (ns.map PV.str))] mu) fun v st => v = .pv (.int (Q.deg ns)) ∧ st = ⟨[some (.pv Q.pv), some (.own (.lst (ns.map PV.str)))], mu⟩
  | 0, k, mu, Q, ns, hg, hd, hk => absurd hd (by cases Q <;> exact Nat.not_succ_le_zero _)
  | d + 1, k, mu, Q, ns, hg, hd, hk => by
    obtain ⟨k, rfl⟩ : ∃ i, k = i + 1 := ⟨k - 1, by omega⟩
    have ih := fun (Q : Qn) (h : Q.good = true) (h2 : Q.depth ≤ d) => degree_ok d (k := k) (mu := mu) (Q := Q) (ns := ns) h h2 (by omega)
    have hv := view hg
    cases hv with
    | tab t =>
      refine c_run (fn := f_degree) rfl rfl rfl ?_; dsimp only [f_degree, List.map, List.cons_append, List.nil_append, List.replicate_succ, List.replicate_zero, keepIx_t, keepIx_f, keepIx_n, Nat.reduceSub, Nat.reduceAdd, St.put, List.set_cons_succ, List.set_cons_zero, Int.reduceToNat, if_true, Bool.false_eq_true, if_false, srcSlots]
      repeat' (first | walk_at "kva" | (with_reducible refine' has_mk inT_str ?_) | (with_reducible refine' has_mk int_bl ?_) | walk_at "kvs")
      exact ⟨rfl, rfl⟩
    | lt t a b =>
      obtain ⟨⟨a1, a2⟩, b1, b2⟩ := kid2 hg
      refine c_run (fn := f_degree) rfl rfl rfl ?_; dsimp only [f_degree, List.map, List.cons_append, List.nil_append, List.replicate_succ, List.replicate_zero, keepIx_t, keepIx_f, keepIx_n, Nat.reduceSub, Nat.reduceAdd, St.put, List.set_cons_succ, List.set_cons_zero, Int.reduceToNat, if_true, Bool.false_eq_true, if_false, srcSlots]
      repeat' (first | walk_at "kva" | (with_reducible refine' has_mk (q_cn _ _) ?_) | walk_at "kvs")
      refine wp_mono (ih b b1 (by omega)) ?_
      rintro _ _ ⟨rfl, rfl⟩
      repeat' (first | walk_at "kva" | walk_at "kvs")
      exact ⟨rfl, rfl⟩
    | fr t a b =>
      obtain ⟨⟨a1, a2⟩, b1, b2⟩ := kid2 hg
      refine c_run (fn := f_degree) rfl rfl rfl ?_; dsimp only [f_degree, List.map, List.cons_append, List.nil_append, List.replicate_succ, List.replicate_zero, keepIx_t, keepIx_f, keepIx_n, Nat.reduceSub, Nat.reduceAdd, St.put, List.set_cons_succ, List.set_cons_zero, Int.reduceToNat, if_true, Bool.false_eq_true, if_false, srcSlots]
      repeat' (first | walk_at "kva" | (with_reducible refine' has_mk (q_cn _ _) ?_) | walk_at "kvs")
      refine wp_mono (ih a a1 (by omega)) ?_
      rintro _ _ ⟨rfl, rfl⟩
      repeat' (first | walk_at "kva" | (with_reducible refine' has_mk (q_cn _ _) ?_) | walk_at "kvs")
      refine wp_mono (ih b b1 (by omega)) ?_
      rintro _ _ ⟨rfl, rfl⟩
      repeat' (first | walk_at "kva" | walk_at "kvs")
      exact ⟨rfl, rfl⟩
    | «at» t a =>
      refine c_run (fn := f_degree) rfl rfl rfl ?_; dsimp only [f_degree, List.map, List.cons_append, List.nil_append, List.replicate_succ, List.replicate_zero, keepIx_t, keepIx_f, keepIx_n, Nat.reduceSub, Nat.reduceAdd, St.put, List.set_cons_succ, List.set_cons_zero, Int.reduceToNat, if_true, Bool.false_eq_true, if_false, srcSlots]
      repeat' (first | walk_at "kva" | (with_reducible refine' has_mk (q_cn _ _) ?_) | walk_at "kvs")
      exact ⟨rfl, rfl⟩
    | times i a =>
      obtain ⟨a1, a2⟩ := kid1 hg
      refine c_run (fn := f_degree) rfl rfl rfl ?_; dsimp only [f_degree, List.map, List.cons_append, List.nil_append, List.replicate_succ, List.replicate_zero, keepIx_t, keepIx_f, keepIx_n, Nat.reduceSub, Nat.reduceAdd, St.put, List.set_cons_succ, List.set_cons_zero, Int.reduceToNat, if_true, Bool.false_eq_true, if_false, srcSlots]
      repeat' (first | walk_at "kva" | (with_reducible refine' has_mk (q_cn _ _) ?_) | walk_at "kvs")
      refine wp_mono (ih a a1 (by omega)) ?_
      rintro _ _ ⟨rfl, rfl⟩
      repeat' (first | walk_at "kva" | walk_at "kvs")
      exact ⟨rfl, rfl⟩
    | one a =>
      refine c_run (fn := f_degree) rfl rfl rfl ?_; dsimp only [f_degree, List.map, List.cons_append, List.nil_append, List.replicate_succ, List.replicate_zero, keepIx_t, keepIx_f, keepIx_n, Nat.reduceSub, Nat.reduceAdd, St.put, List.set_cons_succ, List.set_cons_zero, Int.reduceToNat, if_true, Bool.false_eq_true, if_false, srcSlots]
      repeat' (first | walk_at "kva" | (with_reducible refine' has_mk (q_cn _ _) ?_) | walk_at "kvs")
      exact ⟨rfl, rfl⟩
    | both a b =>
      obtain ⟨⟨a1, a2⟩, b1, b2⟩ := kid2 hg
      refine c_run (fn := f_degree) rfl rfl rfl ?_; dsimp only [f_degree, List.map, List.cons_append, List.nil_append, List.replicate_succ, List.replicate_zero, keepIx_t, keepIx_f, keepIx_n, Nat.reduceSub, Nat.reduceAdd, St.put, List.set_cons_succ, List.set_cons_zero, Int.reduceToNat, if_true, Bool.false_eq_true, if_false, srcSlots]
      repeat' (first | walk_at "kva" | (with_reducible refine' has_mk (q_cn _ _) ?_) | walk_at "kvs")
      refine wp_mono (ih a a1 (by omega)) ?_
      rintro _ _ ⟨rfl, rfl⟩
      repeat' (first | walk_at "kva" | (with_reducible refine' has_mk (q_cn _ _) ?_) | walk_at "kvs")
      refine wp_mono (ih b b1 (by omega)) ?_
      rintro _ _ ⟨rfl, rfl⟩
      repeat' (first | walk_at "kva" | walk_at "kvs")
      exact ⟨rfl, rfl⟩
    | whn a b =>
      obtain ⟨⟨a1, a2⟩, b1, b2⟩ := kid2 hg
      refine c_run (fn := f_degree) rfl rfl rfl ?_; dsimp only [f_degree, List.map, List.cons_append, List.nil_append, List.replicate_succ, List.replicate_zero, keepIx_t, keepIx_f, keepIx_n, Nat.reduceSub, Nat.reduceAdd, St.put, List.set_cons_succ, List.set_cons_zero, Int.reduceToNat, if_true, Bool.false_eq_true, if_false, srcSlots]
      repeat' (first | walk_at "kva" | (with_reducible refine' has_mk (q_cn _ _) ?_) | walk_at "kvs")
      refine wp_mono (ih b b1 (by omega)) ?_
      rintro _ _ ⟨rfl, rfl⟩
      repeat' (first | walk_at "kva" | walk_at "kvs")
      exact ⟨rfl, rfl⟩
    | oth w p ks sh n =>
      have e := oth_eq sh n
      have t2 : cmpall .In (.pv (.str w)) (.pv (.tup [.str wTimes, .str wWhen])) = some false := inq_oth (ts := [wTimes, wWhen]) rfl (by
        intro u hu
        simp only [List.mem_cons, List.not_mem_nil, or_false] at hu
        rcases hu with rfl | rfl
        · exact (e wTimes (by decide)).1
        · exact (e wWhen (by decide)).1)
      have e1 := (e wTab (by decide)).2
      have e2 := (e wBoth (by decide)).2
      have e3 := (e wFor (by decide)).2
      have e4 := (e wLet (by decide)).2
      refine c_run (fn := f_degree) rfl rfl rfl ?_; dsimp only [f_degree, List.map, List.cons_append, List.nil_append, List.replicate_succ, List.replicate_zero, keepIx_t, keepIx_f, keepIx_n, Nat.reduceSub, Nat.reduceAdd, St.put, List.set_cons_succ, List.set_cons_zero, Int.reduceToNat, if_true, Bool.false_eq_true, if_false, srcSlots]
      repeat' (first | walk_at "kva" | (with_reducible refine' has_mk nd_0 ?_) | (with_reducible refine' has_mk e1 ?_) | (with_reducible refine' has_mk e2 ?_) | (with_reducible refine' has_mk e3 ?_) | (with_reducible refine' has_mk e4 ?_) | (with_reducible refine' has_mk t2 ?_) | (with_reducible refine' has_mk (q_cn _ _) ?_) | walk_at "kvs")
      exact ⟨by rw [oth_deg e], rfl⟩
    | row fs =>
      refine c_run (fn := f_degree) rfl rfl rfl ?_; dsimp only [f_degree, List.map, List.cons_append, List.nil_append, List.replicate_succ, List.replicate_zero, keepIx_t, keepIx_f, keepIx_n, Nat.reduceSub, Nat.reduceAdd, St.put, List.set_cons_succ, List.set_cons_zero, Int.reduceToNat, if_true, Bool.false_eq_true, if_false, srcSlots]
      repeat' (first | walk_at "kva" | (with_reducible refine' has_mk (q_cn _ _) ?_) | walk_at "kvs")
      exact ⟨rfl, rfl⟩
end K30

set_option Elab.async false
set_option linter.all false
set_option maxRecDepth 100000
set_option hygiene false
set_option hygiene true
namespace K30
open Kv
set_option maxHeartbeats 1000000 in
theorem law_degree_ok : ∀ (d : Nat) {k : Nat} {mu : List Obj} {Q : Qn} {ns : List Tx}, Q.good = true → Q.depth ≤ d → d + 1 ≤ k → wp (callK fns tabs k 21 [.pv Q.pv, .own (.lst (ns.map PV.str))] mu) fun v st => v = .pv (.int (Q.deg ns)) ∧ st = ⟨[some (.pv Q.pv), some (.own (.lst (ns.map PV.str)))], mu⟩
  | 0, k, mu, Q, ns, hg, hd, hk => absurd hd (by cases Q <;> exact Nat.not_succ_le_zero _)
  | d + 1, k, mu, Q, ns, hg, hd, hk => by
    obtain ⟨k, rfl⟩ : ∃ i, k = i + 1 := ⟨k - 1, by omega⟩
    have ih := fun (Q : Qn) (h : Q.good = true) (h2 : Q.depth ≤ d) => law_degree_ok d (k := k) (mu := mu) (Q := Q) (ns := ns) h h2 (by omega)
    have hv := view hg
    cases hv with
    | tab t =>
      refine c_run (fn := f_law_degree) rfl rfl rfl ?_; dsimp only [f_law_degree, List.map, List.cons_append, List.nil_append, List.replicate_succ, List.replicate_zero, keepIx_t, keepIx_f, keepIx_n, Nat.reduceSub, Nat.reduceAdd, St.put, List.set_cons_succ, List.set_cons_zero, Int.reduceToNat, if_true, Bool.false_eq_true, if_false, srcSlots]
      repeat' (first | walk_at "kva" | (with_reducible refine' has_mk inT_str ?_) | (with_reducible refine' has_mk int_bl ?_) | walk_at "kvs")
      exact ⟨rfl, rfl⟩
    | lt t a b =>
      obtain ⟨⟨a1, a2⟩, b1, b2⟩ := kid2 hg
      refine c_run (fn := f_law_degree) rfl rfl rfl ?_; dsimp only [f_law_degree, List.map, List.cons_append, List.nil_append, List.replicate_succ, List.replicate_zero, keepIx_t, keepIx_f, keepIx_n, Nat.reduceSub, Nat.reduceAdd, St.put, List.set_cons_succ, List.set_cons_zero, Int.reduceToNat, if_true, Bool.false_eq_true, if_false, srcSlots]
      repeat' (first | walk_at "kva" | (with_reducible refine' has_mk (q_cn _ _) ?_) | walk_at "kvs")
      refine wp_mono (ih b b1 (by omega)) ?_
      rintro _ _ ⟨rfl, rfl⟩
      repeat' (first | walk_at "kva" | walk_at "kvs")
      exact ⟨rfl, rfl⟩
    | fr t a b =>
      obtain ⟨⟨a1, a2⟩, b1, b2⟩ := kid2 hg
      refine c_run (fn := f_law_degree) rfl rfl rfl ?_; dsimp only [f_law_degree, List.map, List.cons_append, List.nil_append, List.replicate_succ, List.replicate_zero, keepIx_t, keepIx_f, keepIx_n, Nat.reduceSub, Nat.reduceAdd, St.put, List.set_cons_succ, List.set_cons_zero, Int.reduceToNat, if_true, Bool.false_eq_true, if_false, srcSlots]
      repeat' (first | walk_at "kva" | (with_reducible refine' has_mk (q_cn _ _) ?_) | walk_at "kvs")
      refine wp_mono (ih a a1 (by omega)) ?_
      rintro _ _ ⟨rfl, rfl⟩
      repeat' (first | walk_at "kva" | (with_reducible refine' has_mk (q_cn _ _) ?_) | walk_at "kvs")
      refine wp_mono (ih b b1 (by omega)) ?_
      rintro _ _ ⟨rfl, rfl⟩
      repeat' (first | walk_at "kva" | walk_at "kvs")
      exact ⟨rfl, rfl⟩
    | «at» t a =>
      refine c_run (fn := f_law_degree) rfl rfl rfl ?_; dsimp only [f_law_degree, List.map, List.cons_append, List.nil_append, List.replicate_succ, List.replicate_zero, keepIx_t, keepIx_f, keepIx_n, Nat.reduceSub, Nat.reduceAdd, St.put, List.set_cons_succ, List.set_cons_zero, Int.reduceToNat, if_true, Bool.false_eq_true, if_false, srcSlots]
      repeat' (first | walk_at "kva" | (with_reducible refine' has_mk (q_cn _ _) ?_) | walk_at "kvs")
      exact ⟨rfl, rfl⟩
    | times i a =>
      obtain ⟨a1, a2⟩ := kid1 hg
      refine c_run (fn := f_law_degree) rfl rfl rfl ?_; dsimp only [f_law_degree, List.map, List.cons_append, List.nil_append, List.replicate_succ, List.replicate_zero, keepIx_t, keepIx_f, keepIx_n, Nat.reduceSub, Nat.reduceAdd, St.put, List.set_cons_succ, List.set_cons_zero, Int.reduceToNat, if_true, Bool.false_eq_true, if_false, srcSlots]
      repeat' (first | walk_at "kva" | (with_reducible refine' has_mk (q_cn _ _) ?_) | walk_at "kvs")
      refine wp_mono (ih a a1 (by omega)) ?_
      rintro _ _ ⟨rfl, rfl⟩
      repeat' (first | walk_at "kva" | walk_at "kvs")
      exact ⟨rfl, rfl⟩
    | one a =>
      refine c_run (fn := f_law_degree) rfl rfl rfl ?_; dsimp only [f_law_degree, List.map, List.cons_append, List.nil_append, List.replicate_succ, List.replicate_zero, keepIx_t, keepIx_f, keepIx_n, Nat.reduceSub, Nat.reduceAdd, St.put, List.set_cons_succ, List.set_cons_zero, Int.reduceToNat, if_true, Bool.false_eq_true, if_false, srcSlots]
      repeat' (first | walk_at "kva" | (with_reducible refine' has_mk (q_cn _ _) ?_) | walk_at "kvs")
      exact ⟨rfl, rfl⟩
    | both a b =>
      obtain ⟨⟨a1, a2⟩, b1, b2⟩ := kid2 hg
      refine c_run (fn := f_law_degree) rfl rfl rfl ?_; dsimp only [f_law_degree, List.map, List.cons_append, List.nil_append, List.replicate_succ, List.replicate_zero, keepIx_t, keepIx_f, keepIx_n, Nat.reduceSub, Nat.reduceAdd, St.put, List.set_cons_succ, List.set_cons_zero, Int.reduceToNat, if_true, Bool.false_eq_true, if_false, srcSlots]
      repeat' (first | walk_at "kva" | (with_reducible refine' has_mk (q_cn _ _) ?_) | walk_at "kvs")
      refine wp_mono (ih a a1 (by omega)) ?_
      rintro _ _ ⟨rfl, rfl⟩
      repeat' (first | walk_at "kva" | (with_reducible refine' has_mk (q_cn _ _) ?_) | walk_at "kvs")
      refine wp_mono (ih b b1 (by omega)) ?_
      rintro _ _ ⟨rfl, rfl⟩
      repeat' (first | walk_at "kva" | walk_at "kvs")
      exact ⟨rfl, rfl⟩
    | whn a b =>
      obtain ⟨⟨a1, a2⟩, b1, b2⟩ := kid2 hg
      refine c_run (fn := f_law_degree) rfl rfl rfl ?_; dsimp only [f_law_degree, List.map, List.cons_append, List.nil_append, List.replicate_succ, List.replicate_zero, keepIx_t, keepIx_f, keepIx_n, Nat.reduceSub, Nat.reduceAdd, St.put, List.set_cons_succ, List.set_cons_zero, Int.reduceToNat, if_true, Bool.false_eq_true, if_false, srcSlots]
      repeat' (first | walk_at "kva" | (with_reducible refine' has_mk (q_cn _ _) ?_) | walk_at "kvs")
      refine wp_mono (ih b b1 (by omega)) ?_
      rintro _ _ ⟨rfl, rfl⟩
      repeat' (first | walk_at "kva" | walk_at "kvs")
      exact ⟨rfl, rfl⟩
    | oth w p ks sh n =>
      have e := oth_eq sh n
      have t2 : cmpall .In (.pv (.str w)) (.pv (.tup [.str wTimes, .str wWhen])) = some false := inq_oth (ts := [wTimes, wWhen]) rfl (by
        intro u hu
        simp only [List.mem_cons, List.not_mem_nil, or_false] at hu
        rcases hu with rfl | rfl
        · exact (e wTimes (by decide)).1
        · exact (e wWhen (by decide)).1)
      have e1 := (e wTab (by decide)).2
      have e2 := (e wBoth (by decide)).2
      have e3 := (e wFor (by decide)).2
      have e4 := (e wLet (by decide)).2
      refine c_run (fn := f_law_degree) rfl rfl rfl ?_; dsimp only [f_law_degree, List.map, List.cons_append, List.nil_append, List.replicate_succ, List.replicate_zero, keepIx_t, keepIx_f, keepIx_n, Nat.reduceSub, Nat.reduceAdd, St.put, List.set_cons_succ, List.set_cons_zero, Int.reduceToNat, if_true, Bool.false_eq_true, if_false, srcSlots]
      repeat' (first | walk_at "kva" | (with_reducible refine' has_mk nd_0 ?_) | (with_reducible refine' has_mk e1 ?_) | (with_reducible refine' has_mk e2 ?_) | (with_reducible refine' has_mk e3 ?_) | (with_reducible refine' has_mk e4 ?_) | (with_reducible refine' has_mk t2 ?_) | (with_reducible refine' has_mk (q_cn _ _) ?_) | walk_at "kvs")
      exact ⟨by rw [oth_deg e], rfl⟩
    | row fs =>
      refine c_run (fn := f_law_degree) rfl rfl rfl ?_; dsimp only [f_law_degree, List.map, List.cons_append, List.nil_append, List.replicate_succ, List.replicate_zero, keepIx_t, keepIx_f, keepIx_n, Nat.reduceSub, Nat.reduceAdd, St.put, List.set_cons_succ, List.set_cons_zero, Int.reduceToNat, if_true, Bool.false_eq_true, if_false, srcSlots]
      repeat' (first | walk_at "kva" | (with_reducible refine' has_mk (q_cn _ _) ?_) | walk_at "kvs")
      exact ⟨rfl, rfl⟩
theorem asBools_map {l : List Bool} : asBools (l.map PV.bl) = some l := by
  induction l with
  | nil => rfl
  | cons b r ih =>
    show (asBools (r.map PV.bl)).map (b :: ·) = _
    rw [ih]; rfl
theorem has_all {l : List Qn} {g : Qn → Bool} {f : SV → Prop} (k : f (.pv (.bl (l.all g)))) : Has (biFn .all [.own (.lst (l.map fun q => PV.bl (g q)))]) f := by
  refine ⟨_, ?_, k⟩
  have e : (l.map fun q => PV.bl (g q)) = (l.map g).map PV.bl := by rw [List.map_map]; rfl
  show (asBools (l.map fun q => PV.bl (g q))).map (fun ns => SV.pv (.bl (ns.all id))) = _
  rw [e, asBools_map]
  show some (SV.pv (.bl ((l.map g).all id))) = _
  rw [List.all_map]; rfl
theorem strs_pl : ∀ {ts : List Tx}, (∀ t ∈ ts, nmTx t = true) → PV.plains (ts.map PV.str) = true ∧ PV.depths (ts.map PV.str) = 0
  | [], _ => ⟨rfl, rfl⟩
  | t :: r, h => by
    obtain ⟨a, b⟩ := strs_pl fun u m => h u (List.mem_cons_of_mem _ m)
    refine ⟨?_, ?_⟩
    · show (PV.plain (.str t) && PV.plains (r.map PV.str)) = true
      rw [nm_dat (h t List.mem_cons_self), a]; rfl
    · show max 0 (PV.depths (r.map PV.str)) = 0
      rw [b]; rfl
theorem has_tsn {ts : List Tx} {f : Bool → Prop} (h : ∀ t ∈ ts, nmTx t = true) (k : f (!decide (ts = []))) : Has (cmpall .NotEq (.own (.lst (ts.map PV.str))) (.own (.lst []))) f := by
  obtain ⟨a, b⟩ := strs_pl h
  refine has_nel a rfl (by omega) (by decide) ?_
  have e : decide (ts.map PV.str = []) = decide (ts = []) := by
    cases ts with
    | nil => rfl
    | cons a r => rfl
  rw [e]; exact k
def EvK (k d : Nat) : Prop := ∀ ⦃mu : List Obj⦄ ⦃Q : Qn⦄, Q.good = true → Q.depth ≤ d → Q.wd.length ≤ 10000000 → wp (callK fns tabs k 2 [.pv Q.pv] mu) fun v st => v = .pv (.bl Q.ev) ∧ st = ⟨[some (.pv Q.pv)], mu⟩
theorem ev_rest {k d : Nat} {mu : List Obj} {Q : Qn} {pr : List Nat} (hg : Q.good = true) (hd : Q.depth ≤ d + 1) (hw : Q.wd.length ≤ 10000000) (ih : EvK (k + 1) d) : wp (evSs ⟨fns, tabs, callK fns tabs (k + 1), 1⟩ [.ret (.bi .all [.comp (.call 2 [.var 1]) (.nm 1) .it [.call 0 [.var 0]] [] [1]])] pr ⟨[some (.pv Q.pv), none], mu⟩) fun f st => f = .ret (.pv (.bl (Q.kids.all Qn.ev))) ∧ st = ⟨[some (.pv Q.pv), none], mu⟩ := by
  have ki := kids_in hg
  have kl := kids_len hg
  have ks := kids_sz (q := Q)
  repeat' (first | walk_at "kva" | (with_reducible refine' has_mk (q_cn _ _) ?_) | walk_at "kvs")
  refine wp_mono (under_ok hg) ?_
  rintro _ _ ⟨rfl, rfl⟩
  repeat' (first | walk_at "kva" | walk_at "kvs")
  refine l_end (l_comp (fun ys acc st => ∃ (dn rs : List Qn) (o1 : Option SV), Q.kids = dn ++ rs ∧ ys = rs.map Qn.pv ∧ acc = dn.map (fun q => PV.bl q.ev) ∧ st = ⟨[some (.pv Q.pv), o1], mu⟩) ?_ ?_ ?_ _ _ _ ⟨[], Q.kids, none, rfl, rfl, rfl, rfl⟩)
  · rintro ys acc st ⟨dn, rs, o1, e1, e2, e3, rfl⟩
    exact stands_tup
  · rintro q ys acc st ⟨dn, rs, o1, e1, e2, rfl, rfl⟩
    cases rs with
    | nil => cases e2
    | cons p rs =>
      injection e2 with e3 e4
      subst e3 e4
      have pin : p ∈ Q.kids := by rw [e1]; exact List.mem_append_right _ List.mem_cons_self
      obtain ⟨g1, g2⟩ := ki p pin
      have dl : dn.length + 1 ≤ 14 := by
        have := congrArg List.length e1
        rw [List.length_append, List.length_cons] at this
        omega
      have pw : p.wd.length ≤ qsz Q.kids := by
        rw [e1, qsz_app, qsz_cons]; omega
      dsimp only [St.wipe, wipeS, List.map, List.cons_append, List.nil_append, List.replicate_succ, List.replicate_zero, keepIx_t, keepIx_f, keepIx_n, Nat.reduceSub, Nat.reduceAdd, St.put, List.set_cons_succ, List.set_cons_zero, Int.reduceToNat, if_true, Bool.false_eq_true, if_false, srcSlots]
      refine has_mk rfl ?_
      dsimp only [List.map, List.cons_append, List.nil_append, List.replicate_succ, List.replicate_zero, keepIx_t, keepIx_f, keepIx_n, Nat.reduceSub, Nat.reduceAdd, St.put, List.set_cons_succ, List.set_cons_zero, Int.reduceToNat, if_true, Bool.false_eq_true, if_false, srcSlots]
      repeat' (first | walk_at "kva" | (with_reducible refine' has_mk (q_cn _ _) ?_) | walk_at "kvs")
      refine wp_mono (ih g1 (by omega) (by omega)) ?_
      rintro _ _ ⟨rfl, rfl⟩
      repeat' (first | walk_at "kva" | walk_at "kvs")
      exact ⟨by rw [List.length_map]; show _ < 16777216; omega, dn ++ [p], rs, _, by rw [e1]; simp, rfl, by rw [List.map_append]; rfl, rfl⟩
  · rintro acc st ⟨dn, rs, o1, e1, e2, rfl, rfl⟩
    have hr : rs = [] := by cases rs with
      | nil => rfl
      | cons => cases e2
    subst hr
    rw [List.append_nil] at e1
    rw [← e1]
    dsimp only [St.wipe, wipeS, layBack, List.map, List.cons_append, List.nil_append, List.replicate_succ, List.replicate_zero, keepIx_t, keepIx_f, keepIx_n, Nat.reduceSub, Nat.reduceAdd, St.put, List.set_cons_succ, List.set_cons_zero, Int.reduceToNat, if_true, Bool.false_eq_true, if_false, srcSlots]
    repeat' (first | walk_at "kva" | walk_at "kvs")
    refine has_all ?_
    repeat' (first | walk_at "kva" | walk_at "kvs")
    exact ⟨rfl, rfl⟩
theorem even_body : f_is_even.body = .iff (.and [.e (.cmp .In (.idx (.var 0) (.c (.int 0))) (.tup [.c (.str [111, 110, 101]), .c (.str [97, 116])])), .e (.cmp .NotEq (.call 1 [.var 0]) (.lst []))]) [.ret (.c (.bl false))] [] :: .iff (.and [.e (.cmp .Eq (.idx (.var 0) (.c (.int 0))) (.c (.str [108, 101, 116]))), .e (.cmp .NotEq (.call 1 [.idx (.var 0) (.c (.int 2))]) (.lst []))]) [.ret (.c (.bl false))] [] :: [.ret (.bi .all [.comp (.call 2 [.var 1]) (.nm 1) .it [.call 0 [.var 0]] [] [1]])] := rfl
theorem nd_ev {w : Tx} {p : Pre} {ks : Qs} : (Qn.nd w p ks).ev = if (w = wOne ∨ w = wAt) ∧ ks.hasT = true then false else if w = wLet ∧ ks.hd = true then false else ks.l.all Qn.ev := by
  rw [← ks.ev_l]; rfl
set_option maxHeartbeats 1000000 in
theorem is_even_ok : ∀ (d : Nat) {k : Nat}, d ≤ 40 → d + 3 ≤ k → EvK k d
  | 0, k, _, hk => by
    intro mu Q hg hd hw
    exact absurd hd (by cases Q <;> exact Nat.not_succ_le_zero _)
  | d + 1, k, hd4, hk => by
    intro mu Q hg hd hw
    obtain ⟨k, rfl⟩ : ∃ i, k = i + 3 := ⟨k - 3, by omega⟩
    have ih : EvK (k + 2) d := is_even_ok d (by omega) (by omega)
    have z := ev_rest (k := k + 1) (mu := mu) (pr := [0]) hg hd hw ih
    have hv := view hg
    refine c_run (fn := f_is_even) rfl rfl rfl ?_
    rw [even_body]
    generalize hR : ([.ret (.bi .all [.comp (.call 2 [.var 1]) (.nm 1) .it [.call 0 [.var 0]] [] [1]])] : List Kv.S) = R at z ⊢
    dsimp only [show f_is_even.np = 1 from rfl, show f_is_even.ns = 2 from rfl, show f_is_even.keep = [true] from rfl, List.map, List.cons_append, List.nil_append, List.replicate_succ, List.replicate_zero, keepIx_t, keepIx_f, keepIx_n, Nat.reduceSub, Nat.reduceAdd, St.put, List.set_cons_succ, List.set_cons_zero, Int.reduceToNat, if_true, Bool.false_eq_true, if_false, srcSlots]
    have plain : (Q.ev = Q.kids.all Qn.ev) → wp (evSs ⟨fns, tabs, callK fns tabs (k + 2), 1⟩ R [0] ⟨[some (.pv Q.pv), none], mu⟩) fun f st => match f with | .ret v => v = .pv (.bl Q.ev) ∧ (⟨keeps [true] st.sg, st.mu⟩ : Kv.St) = ⟨[some (.pv Q.pv)], mu⟩ | .nx => SV.pv .non = .pv (.bl Q.ev) ∧ (⟨keeps [true] st.sg, st.mu⟩ : Kv.St) = ⟨[some (.pv Q.pv)], mu⟩ | _ => False := by
      intro he
      refine wp_mono z ?_
      rintro f st ⟨rfl, rfl⟩
      exact ⟨by rw [he], rfl⟩
    cases hv with
    | lt t a b =>
      obtain ⟨⟨a1, a2⟩, b1, b2⟩ := kid2 hg
      have aw : a.wd.length ≤ 10000000 := by
        have := kids_sz (q := q2 wLet (.tx t) a b)
        have e : qsz (q2 wLet (.tx t) a b).kids = a.wd.length + qsz [b] := qsz_cons
        omega
      have ev : (q2 wLet (.tx t) a b).ev = if a.hasT = true then false else (q2 wLet (.tx t) a b).kids.all Qn.ev := by
        rw [nd_ev, if_neg (by rintro ⟨h | h, _⟩ <;> exact absurd h (by decide))]
        show (if wLet = wLet ∧ a.hasT = true then false else _) = _
        by_cases c : a.hasT = true
        · rw [if_pos ⟨rfl, c⟩, if_pos c]
        · rw [if_neg (fun h => c h.2), if_neg c]; rfl
      repeat' (first | walk_at "kva" | (with_reducible refine' has_mk (q_cn _ _) ?_) | walk_at "kvs")
      refine wp_mono (tables_ok a1 (by omega) aw) ?_
      rintro _ _ ⟨ts, e1, e2, rfl, rfl⟩
      repeat' (first | walk_at "kva" | (with_reducible refine has_tsn e2 ?_) | walk_at "kvs")
      · refine ⟨?_, rfl⟩
        rw [e1, Bool.not_not] at hb
        rw [ev, if_pos hb]
      · refine plain ?_
        rw [e1, Bool.not_not] at hb
        rw [ev, if_neg (by rw [hb]; decide)]
    | «at» t a =>
      have ev : (q1 wAt (.tx t) a).ev = if (q1 wAt (.tx t) a).hasT = true then false else (q1 wAt (.tx t) a).kids.all Qn.ev := by
        rw [nd_ev]
        by_cases c : a.hasT = true
        · have c1 : (q1 wAt (.tx t) a).hasT = true := by show (false || (a.hasT || false)) = true; rw [c]; rfl
          have c2 : (Qs.cons a .nil).hasT = true := by show (a.hasT || false) = true; rw [c]; rfl
          rw [if_pos ⟨.inr rfl, c2⟩, if_pos c1]
        · have c0 : a.hasT = false := by simpa using c
          have c1 : (q1 wAt (.tx t) a).hasT = false := by show (false || (a.hasT || false)) = false; rw [c0]; rfl
          have c2 : (Qs.cons a .nil).hasT = false := by show (a.hasT || false) = false; rw [c0]; rfl
          have n1 : ¬((wAt = wOne ∨ wAt = wAt) ∧ (Qs.cons a .nil).hasT = true) := by rw [c2]; exact fun h => absurd h.2 (by decide)
          have n2 : ¬(wAt = wLet ∧ (Qs.cons a .nil).hd = true) := fun h => absurd h.1 (by decide)
          have n3 : ¬(q1 wAt (.tx t) a).hasT = true := by rw [c1]; decide
          rw [if_neg n1, if_neg n2, if_neg n3]; rfl
      repeat' (first | walk_at "kva" | (with_reducible refine' has_mk (q_cn _ _) ?_) | walk_at "kvs")
      refine wp_mono (tables_ok hg (by omega) hw) ?_
      rintro _ _ ⟨ts, e1, e2, rfl, rfl⟩
      repeat' (first | walk_at "kva" | (with_reducible refine has_tsn e2 ?_) | walk_at "kvs")
      · refine ⟨?_, rfl⟩
        rw [e1, Bool.not_not] at hb
        rw [ev, if_pos hb]
      · refine plain ?_
        rw [e1, Bool.not_not] at hb
        rw [ev, if_neg (by rw [hb]; decide)]
    | one a =>
      have ev : (q1 wOne .no a).ev = if (q1 wOne .no a).hasT = true then false else (q1 wOne .no a).kids.all Qn.ev := by
        rw [nd_ev]
        by_cases c : a.hasT = true
        · have c1 : (q1 wOne .no a).hasT = true := by show (false || (a.hasT || false)) = true; rw [c]; rfl
          have c2 : (Qs.cons a .nil).hasT = true := by show (a.hasT || false) = true; rw [c]; rfl
          rw [if_pos ⟨.inl rfl, c2⟩, if_pos c1]
        · have c0 : a.hasT = false := by simpa using c
          have c1 : (q1 wOne .no a).hasT = false := by show (false || (a.hasT || false)) = false; rw [c0]; rfl
          have c2 : (Qs.cons a .nil).hasT = false := by show (a.hasT || false) = false; rw [c0]; rfl
          have n1 : ¬((wOne = wOne ∨ wOne = wAt) ∧ (Qs.cons a .nil).hasT = true) := by rw [c2]; exact fun h => absurd h.2 (by decide)
          have n2 : ¬(wOne = wLet ∧ (Qs.cons a .nil).hd = true) := fun h => absurd h.1 (by decide)
          have n3 : ¬(q1 wOne .no a).hasT = true := by rw [c1]; decide
          rw [if_neg n1, if_neg n2, if_neg n3]; rfl
      repeat' (first | walk_at "kva" | (with_reducible refine' has_mk (q_cn _ _) ?_) | walk_at "kvs")
      refine wp_mono (tables_ok hg (by omega) hw) ?_
      rintro _ _ ⟨ts, e1, e2, rfl, rfl⟩
      repeat' (first | walk_at "kva" | (with_reducible refine has_tsn e2 ?_) | walk_at "kvs")
      · refine ⟨?_, rfl⟩
        rw [e1, Bool.not_not] at hb
        rw [ev, if_pos hb]
      · refine plain ?_
        rw [e1, Bool.not_not] at hb
        rw [ev, if_neg (by rw [hb]; decide)]
    | tab t =>
      repeat' (first | walk_at "kva" | (with_reducible refine' has_mk (q_cn _ _) ?_) | walk_at "kvs")
      exact plain rfl
    | fr t a b =>
      repeat' (first | walk_at "kva" | (with_reducible refine' has_mk (q_cn _ _) ?_) | walk_at "kvs")
      refine plain ?_
      rw [nd_ev, if_neg (by rintro ⟨h | h, _⟩ <;> exact absurd h (by decide)), if_neg (by rintro ⟨h, _⟩; exact absurd h (by decide))]; rfl
    | times i a =>
      repeat' (first | walk_at "kva" | (with_reducible refine' has_mk (q_cn _ _) ?_) | walk_at "kvs")
      refine plain ?_
      rw [nd_ev, if_neg (by rintro ⟨h | h, _⟩ <;> exact absurd h (by decide)), if_neg (by rintro ⟨h, _⟩; exact absurd h (by decide))]; rfl
    | both a b =>
      repeat' (first | walk_at "kva" | (with_reducible refine' has_mk (q_cn _ _) ?_) | walk_at "kvs")
      refine plain ?_
      rw [nd_ev, if_neg (by rintro ⟨h | h, _⟩ <;> exact absurd h (by decide)), if_neg (by rintro ⟨h, _⟩; exact absurd h (by decide))]; rfl
    | whn a b =>
      repeat' (first | walk_at "kva" | (with_reducible refine' has_mk (q_cn _ _) ?_) | walk_at "kvs")
      refine plain ?_
      rw [nd_ev, if_neg (by rintro ⟨h | h, _⟩ <;> exact absurd h (by decide)), if_neg (by rintro ⟨h, _⟩; exact absurd h (by decide))]; rfl
    | oth w p ks sh n =>
      have e := oth_eq sh n
      have e1 := (e wLet (by decide)).2
      have t2 : cmpall .In (.pv (.str w)) (.pv (.tup [.str wOne, .str wAt])) = some false := inq_oth (ts := [wOne, wAt]) rfl (by
        intro u hu
        simp only [List.mem_cons, List.not_mem_nil, or_false] at hu
        rcases hu with rfl | rfl
        · exact (e wOne (by decide)).1
        · exact (e wAt (by decide)).1)
      repeat' (first | walk_at "kva" | (with_reducible refine' has_mk nd_0 ?_) | (with_reducible refine' has_mk e1 ?_) | (with_reducible refine' has_mk t2 ?_) | (with_reducible refine' has_mk (q_cn _ _) ?_) | walk_at "kvs")
      refine plain ?_
      rw [nd_ev, if_neg (by rintro ⟨h | h, _⟩; exact absurd h (e wOne (by decide)).1; exact absurd h (e wAt (by decide)).1), if_neg (by rintro ⟨h, _⟩; exact absurd h (e wLet (by decide)).1)]; rfl
    | row fs =>
      repeat' (first | walk_at "kva" | (with_reducible refine' has_mk (q_cn _ _) ?_) | walk_at "kvs")
      exact plain fs.ev_l
end K30

set_option Elab.async false
set_option linter.all false
set_option maxRecDepth 100000
set_option hygiene false
set_option hygiene true
namespace K30
open Kv
/-! the law's own going -/
def isTab : List PV → Bool
  | .str t :: _ => decide (t = wTab)
  | _ => false
def isOA : List PV → Bool
  | .str t :: _ => [wOne, wAt].contains t
  | _ => false
def isLet : List PV → Bool
  | .str t :: _ => decide (t = wLet)
  | _ => false
mutual
def hp : PV → Bool
  | .tup xs => (decide (xs.length = 2) && isTab xs) || hps xs
  | _ => false
def hps : List PV → Bool
  | [] => false
  | x :: r => hp x || hps r
end
def hp2 : List PV → Bool
  | _ :: _ :: c :: _ => hp c
  | _ => false
mutual
def evp : PV → Bool
  | .tup xs => if decide (1 < xs.length) && isOA xs && hp (.tup xs) then false else if decide (xs.length = 4) && isLet xs && hp2 xs then false else evps xs
  | _ => true
def evps : List PV → Bool
  | [] => true
  | x :: r => evp x && evps r
end
theorem hps_any : ∀ xs : List PV, hps xs = xs.any hp
  | [] => rfl
  | x :: r => by
    show (hp x || hps r) = (hp x || r.any hp)
    rw [hps_any r]
theorem evps_all : ∀ xs : List PV, evps xs = xs.all evp
  | [] => rfl
  | x :: r => by
    show (evp x && evps r) = (evp x && r.all evp)
    rw [evps_all r]
/-- what may be gone along: no tuple begins with a number -/
def hdOk : List PV → Bool
  | .int _ :: _ => false
  | _ => true
mutual
def sh : PV → Bool
  | .int _ => true
  | .str s => s.all fun c => decide (c < 1114112)
  | .tup xs => decide (xs.length ≤ 20) && hdOk xs && shs xs
  | _ => false
def shs : List PV → Bool
  | [] => true
  | x :: r => sh x && shs r
end
mutual
theorem sh_pl : ∀ {p : PV}, sh p = true → p.plain = true
  | .int _, _ => rfl
  | .str _, h => h
  | .tup xs, h => by
    have h' : (decide (xs.length ≤ 20) && hdOk xs && shs xs) = true := h
    simp only [Bool.and_eq_true] at h'
    exact shs_pl (xs := xs) h'.2
  | .non, h => by cases h
  | .bl _, h => by cases h
  | .loc _, h => by cases h
  | .fn _, h => by cases h
theorem shs_pl : ∀ {xs : List PV}, shs xs = true → PV.plains xs = true
  | [], _ => rfl
  | x :: r, h => by
    have h' : (sh x && shs r) = true := h
    rw [Bool.and_eq_true] at h'
    show (x.plain && PV.plains r) = true
    rw [sh_pl h'.1, shs_pl h'.2]; rfl
end
theorem shs_in : ∀ {xs : List PV}, shs xs = true → ∀ x ∈ xs, sh x = true
  | [], _, x, m => (nomatch m)
  | y :: r, h, x, m => by
    have h' : (sh y && shs r) = true := h
    rw [Bool.and_eq_true] at h'
    rcases List.mem_cons.mp m with rfl | m
    · exact h'.1
    · exact shs_in h'.2 x m
theorem deps_in : ∀ {xs : List PV}, ∀ x ∈ xs, x.depth ≤ PV.depths xs
  | [], x, m => (nomatch m)
  | y :: r, x, m => by
    show _ ≤ max y.depth (PV.depths r)
    rcases List.mem_cons.mp m with rfl | m
    · omega
    · have := deps_in (xs := r) x m
      omega
theorem sh_cn {p : PV} (h : sh p = true) (s : Kv.St) : cont (.val (.pv p)) s = some (.pv p) := by
  cases p with
  | loc n => cases h
  | _ => rfl
theorem sh_nb {p : PV} (h : sh p = true) : ∀ b, p ≠ .bl b := by
  rintro b rfl
  cases h
theorem filt_pl {g : PV → Bool} : ∀ {xs : List PV}, shs xs = true → PV.plains (xs.filter g) = true ∧ PV.depths (xs.filter g) ≤ PV.depths xs
  | [], _ => ⟨rfl, Nat.le_refl _⟩
  | x :: r, h => by
    have h' : (sh x && shs r) = true := h
    rw [Bool.and_eq_true] at h'
    obtain ⟨a, b⟩ := filt_pl (g := g) h'.2
    show _ ∧ _ ≤ max x.depth (PV.depths r)
    cases c : g x with
    | true =>
      rw [List.filter_cons_of_pos c]
      refine ⟨?_, ?_⟩
      · show (x.plain && PV.plains (r.filter g)) = true
        rw [sh_pl h'.1, a]; rfl
      · show max x.depth (PV.depths (r.filter g)) ≤ _
        omega
    | false =>
      rw [List.filter_cons_of_neg (by rw [c]; decide)]
      exact ⟨a, by omega⟩
theorem filt_nil {g : PV → Bool} : ∀ {xs : List PV}, decide (xs.filter g = []) = !(xs.any g)
  | [] => rfl
  | x :: r => by
    cases c : g x with
    | true =>
      rw [List.filter_cons_of_pos c, List.any_cons, c]; rfl
    | false =>
      rw [List.filter_cons_of_neg (by rw [c]; decide), List.any_cons, c, filt_nil]; rfl
def HasK (k d : Nat) : Prop := ∀ ⦃mu : List Obj⦄ ⦃p : PV⦄, sh p = true → p.depth ≤ d → wp (callK fns tabs k 19 [.pv p] mu) fun v st => v = .pv (.bl (hp p)) ∧ st = ⟨[some (.pv p)], mu⟩
theorem ix0 {a : PV} {r : List PV} : index (.pv (.tup (a :: r))) (.pv (.int 0)) = some a := by
  show atOf (a :: r) ((0 : Nat) : Int) = _
  exact at_nat rfl
theorem ix2 {a b c : PV} {r : List PV} : index (.pv (.tup (a :: b :: c :: r))) (.pv (.int 2)) = some c := by
  show atOf (a :: b :: c :: r) ((2 : Nat) : Int) = _
  exact at_nat rfl
theorem len_eq2 {xs : List PV} (h : xs.length = 2) : ∃ a b, xs = [a, b] := by
  match xs, h with
  | [a, b], _ => exact ⟨a, b, rfl⟩
theorem has_rest {k d : Nat} {mu : List Obj} {xs : List PV} {pr : List Nat} (hs : shs xs = true) (hl : xs.length ≤ 20) (hd : PV.depths xs ≤ d) (hd4 : d ≤ 140) (ih : HasK k d) : wp (evSs ⟨fns, tabs, callK fns tabs k, 1⟩ [.ret (.cmp .NotEq (.comp (.var 1) (.nm 1) .it [.var 0] [.e (.call 19 [.var 1])] [1]) (.lst []))] pr ⟨[some (.pv (.tup xs)), none], mu⟩) fun f st => f = .ret (.pv (.bl (hps xs))) ∧ st = ⟨[some (.pv (.tup xs)), none], mu⟩ := by
  repeat' (first | walk_at "kva" | walk_at "kvs")
  refine l_end (l_comp (fun ys acc st => ∃ (dn rs : List PV) (o1 : Option SV), xs = dn ++ rs ∧ ys = rs ∧ acc = dn.filter hp ∧ st = ⟨[some (.pv (.tup xs)), o1], mu⟩) ?_ ?_ ?_ _ _ _ ⟨[], xs, none, rfl, rfl, rfl, rfl⟩)
  · rintro ys acc st ⟨dn, rs, o1, e1, e2, e3, rfl⟩
    exact stands_tup
  · rintro q ys acc st ⟨dn, rs, o1, e1, e2, rfl, rfl⟩
    cases rs with
    | nil => cases e2
    | cons p rs =>
      injection e2 with e3 e4
      subst e3 e4
      have pin : q ∈ xs := by rw [e1]; exact List.mem_append_right _ List.mem_cons_self
      have sp := shs_in hs q pin
      have dp := deps_in q pin
      have fl : (dn.filter hp).length ≤ 20 := by
        have a := congrArg List.length e1
        rw [List.length_append] at a
        have b := List.length_filter_le hp dn
        omega
      dsimp only [St.wipe, wipeS, List.map, List.cons_append, List.nil_append, List.replicate_succ, List.replicate_zero, keepIx_t, keepIx_f, keepIx_n, Nat.reduceSub, Nat.reduceAdd, St.put, List.set_cons_succ, List.set_cons_zero, Int.reduceToNat, if_true, Bool.false_eq_true, if_false, srcSlots]
      refine has_mk rfl ?_
      dsimp only [List.map, List.cons_append, List.nil_append, List.replicate_succ, List.replicate_zero, keepIx_t, keepIx_f, keepIx_n, Nat.reduceSub, Nat.reduceAdd, St.put, List.set_cons_succ, List.set_cons_zero, Int.reduceToNat, if_true, Bool.false_eq_true, if_false, srcSlots]
      repeat' (first | walk_at "kva" | (with_reducible refine' has_mk (sh_cn sp _) ?_) | walk_at "kvs")
      refine wp_mono (ih sp (by omega)) ?_
      rintro _ _ ⟨rfl, rfl⟩
      repeat' (first | walk_at "kva" | (with_reducible refine' has_mk (sh_cn sp _) ?_) | (with_reducible refine two_mk (fun hb => ?_) (fun hb => ?_)) | walk_at "kvs")
      · refine ⟨by show _ < 16777216; omega, dn ++ [q], ys, _, by rw [e1]; simp, rfl, ?_, rfl⟩
        rw [List.filter_append, List.filter_cons_of_pos hb]; rfl
      · refine ⟨dn ++ [q], ys, _, by rw [e1]; simp, rfl, ?_, rfl⟩
        rw [List.filter_append, List.filter_cons_of_neg (by rw [hb]; decide)]; simp
  · rintro acc st ⟨dn, rs, o1, e1, e2, rfl, rfl⟩
    subst e2
    rw [List.append_nil] at e1
    subst e1
    obtain ⟨p1, p2⟩ := filt_pl (g := hp) hs
    dsimp only [St.wipe, wipeS, layBack, List.map, List.cons_append, List.nil_append, List.replicate_succ, List.replicate_zero, keepIx_t, keepIx_f, keepIx_n, Nat.reduceSub, Nat.reduceAdd, St.put, List.set_cons_succ, List.set_cons_zero, Int.reduceToNat, if_true, Bool.false_eq_true, if_false, srcSlots]
    repeat' (first | walk_at "kva" | (with_reducible refine has_nel p1 rfl (by omega) (by decide) ?_) | walk_at "kvs")
    refine ⟨?_, rfl⟩
    rw [filt_nil, Bool.not_not, hps_any]
theorem has_body : f_law_has.body = .iff (.not (.e (.isi .tuple (.var 0)))) [.ret (.c (.bl false))] [] :: .iff (.and [.e (.cmp .Eq (.bi .len [.var 0]) (.c (.int 2))), .e (.cmp .Eq (.idx (.var 0) (.c (.int 0))) (.c (.str [116, 97, 98, 108, 101])))]) [.ret (.c (.bl true))] [] :: [.ret (.cmp .NotEq (.comp (.var 1) (.nm 1) .it [.var 0] [.e (.call 19 [.var 1])] [1]) (.lst []))] := rfl
theorem has_ok : ∀ (d : Nat) {k : Nat}, d ≤ 140 → d + 1 ≤ k → HasK k d
  | d, 0, _, h => absurd h (by omega)
  | d, k + 1, hd4, hk => by
    intro mu p hs hd
    cases p with
    | non => cases hs
    | bl _ => cases hs
    | loc _ => cases hs
    | fn _ => cases hs
    | int i =>
      refine c_run (fn := f_law_has) rfl rfl rfl ?_; dsimp only [f_law_has, List.map, List.cons_append, List.nil_append, List.replicate_succ, List.replicate_zero, keepIx_t, keepIx_f, keepIx_n, Nat.reduceSub, Nat.reduceAdd, St.put, List.set_cons_succ, List.set_cons_zero, Int.reduceToNat, if_true, Bool.false_eq_true, if_false, srcSlots]
      repeat' (first | walk_at "kva" | walk_at "kvs")
      exact ⟨rfl, rfl⟩
    | str i =>
      refine c_run (fn := f_law_has) rfl rfl rfl ?_; dsimp only [f_law_has, List.map, List.cons_append, List.nil_append, List.replicate_succ, List.replicate_zero, keepIx_t, keepIx_f, keepIx_n, Nat.reduceSub, Nat.reduceAdd, St.put, List.set_cons_succ, List.set_cons_zero, Int.reduceToNat, if_true, Bool.false_eq_true, if_false, srcSlots]
      repeat' (first | walk_at "kva" | walk_at "kvs")
      exact ⟨rfl, rfl⟩
    | tup xs =>
      have h' : (decide (xs.length ≤ 20) && hdOk xs && shs xs) = true := hs
      simp only [Bool.and_eq_true, decide_eq_true_eq] at h'
      have hd' : PV.depths xs + 1 ≤ d := hd
      have ih : HasK k (d - 1) := has_ok (d - 1) (by omega) (by omega)
      have z := has_rest (mu := mu) (pr := [0]) h'.2 h'.1.1 (d := d - 1) (by omega) (by omega) ih
      refine c_run (fn := f_law_has) rfl rfl rfl ?_
      rw [has_body]
      generalize hR : ([.ret (.cmp .NotEq (.comp (.var 1) (.nm 1) .it [.var 0] [.e (.call 19 [.var 1])] [1]) (.lst []))] : List Kv.S) = R at z ⊢
      dsimp only [show f_law_has.np = 1 from rfl, show f_law_has.ns = 2 from rfl, show f_law_has.keep = [true] from rfl, List.map, List.cons_append, List.nil_append, List.replicate_succ, List.replicate_zero, keepIx_t, keepIx_f, keepIx_n, Nat.reduceSub, Nat.reduceAdd, St.put, List.set_cons_succ, List.set_cons_zero, Int.reduceToNat, if_true, Bool.false_eq_true, if_false, srcSlots]
      by_cases c : xs.length = 2
      · obtain ⟨a, b, rfl⟩ := len_eq2 c
        have sa := shs_in h'.2 a List.mem_cons_self
        have da := deps_in (xs := [a, b]) a List.mem_cons_self
        repeat' (first | walk_at "kva" | (with_reducible refine' has_mk (sh_cn sa _) ?_) | (with_reducible refine' has_mk ix0 ?_) | (with_reducible refine has_eqp (sh_pl sa) (by decide) (by omega) (by decide) (sh_nb sa) ?_) | walk_at "kvs")
        · subst hb
          exact ⟨rfl, rfl⟩
        · refine wp_mono z ?_
          rintro f st ⟨rfl, rfl⟩
          refine ⟨?_, rfl⟩
          have e : isTab [a, b] = false := by
            cases a with
            | str t => exact decide_eq_false fun e => hb (by rw [e])
            | _ => rfl
          show SV.pv (.bl (hps [a, b])) = SV.pv (.bl ((decide ([a, b].length = 2) && isTab [a, b]) || hps [a, b]))
          rw [e, Bool.and_false, Bool.false_or]
      · repeat' (first | walk_at "kva" | walk_at "kvs")
        · exfalso; omega
        · refine wp_mono z ?_
          rintro f st ⟨rfl, rfl⟩
          refine ⟨?_, rfl⟩
          show SV.pv (.bl (hps xs)) = SV.pv (.bl ((decide (xs.length = 2) && isTab xs) || hps xs))
          rw [decide_eq_false c, Bool.false_and, Bool.false_or]
def EvpK (k d : Nat) : Prop := ∀ ⦃mu : List Obj⦄ ⦃p : PV⦄, sh p = true → p.depth ≤ d → wp (callK fns tabs k 20 [.pv p] mu) fun v st => v = .pv (.bl (evp p)) ∧ st = ⟨[some (.pv p)], mu⟩
theorem filt_nall {g : PV → Bool} : ∀ {xs : List PV}, decide (xs.filter (fun x => !g x) = []) = xs.all g
  | [] => rfl
  | x :: r => by
    cases c : g x with
    | true =>
      rw [List.filter_cons_of_neg (by rw [c]; decide), List.all_cons, c, filt_nall]; rfl
    | false =>
      rw [List.filter_cons_of_pos (by rw [c]; rfl), List.all_cons, c]; rfl
theorem even_rest {k d : Nat} {mu : List Obj} {xs : List PV} {pr : List Nat} (hs : shs xs = true) (hl : xs.length ≤ 20) (hd : PV.depths xs ≤ d) (hd4 : d ≤ 140) (ih : EvpK k d) : wp (evSs ⟨fns, tabs, callK fns tabs k, 1⟩ [.ret (.cmp .Eq (.comp (.var 1) (.nm 1) .it [.var 0] [.not (.e (.call 20 [.var 1]))] [1]) (.lst []))] pr ⟨[some (.pv (.tup xs)), none], mu⟩) fun f st => f = .ret (.pv (.bl (evps xs))) ∧ st = ⟨[some (.pv (.tup xs)), none], mu⟩ := by
  repeat' (first | walk_at "kva" | walk_at "kvs")
  refine l_end (l_comp (fun ys acc st => ∃ (dn rs : List PV) (o1 : Option SV), xs = dn ++ rs ∧ ys = rs ∧ acc = dn.filter (fun x => !evp x) ∧ st = ⟨[some (.pv (.tup xs)), o1], mu⟩) ?_ ?_ ?_ _ _ _ ⟨[], xs, none, rfl, rfl, rfl, rfl⟩)
  · rintro ys acc st ⟨dn, rs, o1, e1, e2, e3, rfl⟩
    exact stands_tup
  · rintro q ys acc st ⟨dn, rs, o1, e1, e2, rfl, rfl⟩
    cases rs with
    | nil => cases e2
    | cons p rs =>
      injection e2 with e3 e4
      subst e3 e4
      have pin : q ∈ xs := by rw [e1]; exact List.mem_append_right _ List.mem_cons_self
      have sp := shs_in hs q pin
      have dp := deps_in q pin
      have fl : (dn.filter (fun x => !evp x)).length ≤ 20 := by
        have a := congrArg List.length e1
        rw [List.length_append] at a
        have b := List.length_filter_le (fun x => !evp x) dn
        omega
      dsimp only [St.wipe, wipeS, List.map, List.cons_append, List.nil_append, List.replicate_succ, List.replicate_zero, keepIx_t, keepIx_f, keepIx_n, Nat.reduceSub, Nat.reduceAdd, St.put, List.set_cons_succ, List.set_cons_zero, Int.reduceToNat, if_true, Bool.false_eq_true, if_false, srcSlots]
      refine has_mk rfl ?_
      dsimp only [List.map, List.cons_append, List.nil_append, List.replicate_succ, List.replicate_zero, keepIx_t, keepIx_f, keepIx_n, Nat.reduceSub, Nat.reduceAdd, St.put, List.set_cons_succ, List.set_cons_zero, Int.reduceToNat, if_true, Bool.false_eq_true, if_false, srcSlots]
      repeat' (first | walk_at "kva" | (with_reducible refine' has_mk (sh_cn sp _) ?_) | walk_at "kvs")
      refine wp_mono (ih sp (by omega)) ?_
      rintro _ _ ⟨rfl, rfl⟩
      repeat' (first | walk_at "kva" | (with_reducible refine' has_mk (sh_cn sp _) ?_) | (with_reducible refine two_mk (fun hb => ?_) (fun hb => ?_)) | walk_at "kvs")
      · refine ⟨by show _ < 16777216; omega, dn ++ [q], ys, _, by rw [e1]; simp, rfl, ?_, rfl⟩
        rw [List.filter_append, List.filter_cons_of_pos (p := fun x => !evp x) hb]; rfl
      · refine ⟨dn ++ [q], ys, _, by rw [e1]; simp, rfl, ?_, rfl⟩
        rw [List.filter_append, List.filter_cons_of_neg (p := fun x => !evp x) (by show ¬(!evp q) = true; rw [hb]; decide)]; simp
  · rintro acc st ⟨dn, rs, o1, e1, e2, rfl, rfl⟩
    subst e2
    rw [List.append_nil] at e1
    subst e1
    obtain ⟨p1, p2⟩ := filt_pl (g := fun x => !evp x) hs
    dsimp only [St.wipe, wipeS, layBack, List.map, List.cons_append, List.nil_append, List.replicate_succ, List.replicate_zero, keepIx_t, keepIx_f, keepIx_n, Nat.reduceSub, Nat.reduceAdd, St.put, List.set_cons_succ, List.set_cons_zero, Int.reduceToNat, if_true, Bool.false_eq_true, if_false, srcSlots]
    repeat' (first | walk_at "kva" | (with_reducible refine has_eql p1 rfl (by omega) (by decide) ?_) | walk_at "kvs")
    refine ⟨?_, rfl⟩
    rw [filt_nall, evps_all]
end K30

set_option Elab.async false
set_option linter.all false
set_option maxRecDepth 100000
set_option hygiene false
set_option hygiene true
namespace K30
open Kv
theorem leven_body : f_law_even.body = .iff (.not (.e (.isi .tuple (.var 0)))) [.ret (.c (.bl true))] [] :: .iff (.and [.e (.cmp .Gt (.bi .len [.var 0]) (.c (.int 1))), .e (.cmp .In (.idx (.var 0) (.c (.int 0))) (.tup [.c (.str [111, 110, 101]), .c (.str [97, 116])])), .e (.call 19 [.var 0])]) [.ret (.c (.bl false))] [] :: .iff (.and [.e (.cmp .Eq (.bi .len [.var 0]) (.c (.int 4))), .e (.cmp .Eq (.idx (.var 0) (.c (.int 0))) (.c (.str [108, 101, 116]))), .e (.call 19 [.idx (.var 0) (.c (.int 2))])]) [.ret (.c (.bl false))] [] :: [.ret (.cmp .Eq (.comp (.var 1) (.nm 1) .it [.var 0] [.not (.e (.call 20 [.var 1]))] [1]) (.lst []))] := rfl
theorem in_oa {a : PV} {r : List PV} (h : sh a = true) (hd : a.depth ≤ 60) (h0 : hdOk (a :: r) = true) : cmpall .In (.pv a) (.pv (.tup [.str [111, 110, 101], .str [97, 116]])) = some (isOA (a :: r)) := by
  cases a with
  | int i => cases h0
  | str t => rfl
  | tup ys =>
    show (if (PV.tup ys).plain && PV.plains _ && decide ((PV.tup ys).depth ≤ 60) && decide (PV.depths _ ≤ 60) then some (decide (PV.tup ys ∈ _)) else none) = some false
    rw [sh_pl h, decide_eq_true hd, show PV.plains [PV.str [111, 110, 101], PV.str [97, 116]] = true from by decide, show decide (PV.depths [PV.str [111, 110, 101], PV.str [97, 116]] ≤ 60) = true from by decide]
    show some (decide (PV.tup ys ∈ [PV.str [111, 110, 101], PV.str [97, 116]])) = some false
    rw [decide_eq_false (by simp)]
  | non => cases h
  | bl _ => cases h
  | loc _ => cases h
  | fn _ => cases h
theorem eq_let {a : PV} {r : List PV} (h : sh a = true) (hd : a.depth ≤ 150) : cmpall .Eq (.pv a) (.pv (.str [108, 101, 116])) = some (isLet (a :: r)) := by
  rw [cmp_eq, eq_pv (sh_pl h) (by decide) hd (by decide) (sh_nb h)]
  cases a with
  | str t =>
    show some (decide (PV.str t = PV.str [108, 101, 116])) = some (decide (t = [108, 101, 116]))
    congr 1
    by_cases c : t = [108, 101, 116]
    · subst c; rfl
    · rw [decide_eq_false c, decide_eq_false fun e => c (PV.str.inj e)]
  | int i => rw [decide_eq_false (by simp)]; rfl
  | tup i => rw [decide_eq_false (by simp)]; rfl
  | non => cases h
  | bl _ => cases h
  | loc _ => cases h
  | fn _ => cases h
theorem len_eq4 {xs : List PV} (h : xs.length = 4) : ∃ a b c d, xs = [a, b, c, d] := by
  match xs, h with
  | [a, b, c, d], _ => exact ⟨a, b, c, d, rfl⟩
theorem len_ge2 {xs : List PV} (h : 1 < xs.length) : ∃ a b r, xs = a :: b :: r := by
  match xs, h with
  | a :: b :: r, _ => exact ⟨a, b, r, rfl⟩
theorem isLet_cons {a : PV} {r s : List PV} : isLet (a :: r) = isLet (a :: s) := by cases a <;> rfl
theorem isOA_cons {a : PV} {r s : List PV} : isOA (a :: r) = isOA (a :: s) := by cases a <;> rfl
theorem law_even_ok : ∀ (d : Nat) {k : Nat}, d ≤ 60 → d + 2 ≤ k → EvpK k d
  | d, 0, _, h => absurd h (by omega)
  | d, k + 1, hd4, hk => by
    intro mu p hs hd
    cases p with
    | non => cases hs
    | bl _ => cases hs
    | loc _ => cases hs
    | fn _ => cases hs
    | int i =>
      refine c_run (fn := f_law_even) rfl rfl rfl ?_; dsimp only [f_law_even, List.map, List.cons_append, List.nil_append, List.replicate_succ, List.replicate_zero, keepIx_t, keepIx_f, keepIx_n, Nat.reduceSub, Nat.reduceAdd, St.put, List.set_cons_succ, List.set_cons_zero, Int.reduceToNat, if_true, Bool.false_eq_true, if_false, srcSlots]
      repeat' (first | walk_at "kva" | walk_at "kvs")
      exact ⟨rfl, rfl⟩
    | str i =>
      refine c_run (fn := f_law_even) rfl rfl rfl ?_; dsimp only [f_law_even, List.map, List.cons_append, List.nil_append, List.replicate_succ, List.replicate_zero, keepIx_t, keepIx_f, keepIx_n, Nat.reduceSub, Nat.reduceAdd, St.put, List.set_cons_succ, List.set_cons_zero, Int.reduceToNat, if_true, Bool.false_eq_true, if_false, srcSlots]
      repeat' (first | walk_at "kva" | walk_at "kvs")
      exact ⟨rfl, rfl⟩
    | tup xs =>
      have h' : (decide (xs.length ≤ 20) && hdOk xs && shs xs) = true := hs
      simp only [Bool.and_eq_true, decide_eq_true_eq] at h'
      have hd' : PV.depths xs + 1 ≤ d := hd
      have ih : EvpK k (d - 1) := law_even_ok (d - 1) (by omega) (by omega)
      have hk1 : HasK k d := has_ok d (by omega) (by omega)
      have z := even_rest (mu := mu) (pr := [0]) h'.2 h'.1.1 (d := d - 1) (by omega) (by omega) ih
      refine c_run (fn := f_law_even) rfl rfl rfl ?_
      rw [leven_body]
      generalize hR : ([.ret (.cmp .Eq (.comp (.var 1) (.nm 1) .it [.var 0] [.not (.e (.call 20 [.var 1]))] [1]) (.lst []))] : List Kv.S) = R at z ⊢
      have z2 : wp (evSs ⟨fns, tabs, callK fns tabs k, 1⟩ (.iff (.and [.e (.cmp .Eq (.bi .len [.var 0]) (.c (.int 4))), .e (.cmp .Eq (.idx (.var 0) (.c (.int 0))) (.c (.str [108, 101, 116]))), .e (.call 19 [.idx (.var 0) (.c (.int 2))])]) [.ret (.c (.bl false))] [] :: R) [0] ⟨[some (.pv (.tup xs)), none], mu⟩) fun f st => f = .ret (.pv (.bl (if decide (xs.length = 4) && isLet xs && hp2 xs then false else evps xs))) ∧ st = ⟨[some (.pv (.tup xs)), none], mu⟩ := by
        by_cases c : xs.length = 4
        · obtain ⟨a, b, e, f, rfl⟩ := len_eq4 c
          have sa := shs_in h'.2 a List.mem_cons_self
          have da := deps_in (xs := [a, b, e, f]) a List.mem_cons_self
          have me : e ∈ [a, b, e, f] := List.mem_cons_of_mem _ (List.mem_cons_of_mem _ List.mem_cons_self)
          have se := shs_in h'.2 e me
          have de := deps_in (xs := [a, b, e, f]) e me
          have t3 := eq_let (r := [b, e, f]) sa (by omega)
          have fin : (decide ([a, b, e, f].length = 4) && isLet [a, b, e, f] && hp2 [a, b, e, f]) = (isLet [a, b, e, f] && hp e) := rfl
          rw [fin]
          repeat' (first | walk_at "kva" | (with_reducible refine' has_mk (sh_cn sa _) ?_) | (with_reducible refine' has_mk (sh_cn se _) ?_) | (with_reducible refine' has_mk ix0 ?_) | (with_reducible refine' has_mk ix2 ?_) | (with_reducible refine' has_mk t3 ?_) | (with_reducible refine two_mk (fun hb => ?_) (fun hb => ?_)) | walk_at "kvs")
          · refine wp_mono (hk1 se (by omega)) ?_
            rintro _ _ ⟨rfl, rfl⟩
            repeat' (first | walk_at "kva" | (with_reducible refine two_mk (fun hb2 => ?_) (fun hb2 => ?_)) | walk_at "kvs")
            · refine ⟨?_, rfl⟩
              rw [hb, hb2]; rfl
            · rw [hb, hb2]
              exact z
          · rw [hb]
            exact z
        · have e : (decide (xs.length = 4) && isLet xs && hp2 xs) = false := by rw [decide_eq_false c, Bool.false_and, Bool.false_and]
          rw [e]
          repeat' (first | walk_at "kva" | walk_at "kvs")
          · exfalso; omega
          · exact z
      have fin2 : evp (.tup xs) = if decide (1 < xs.length) && isOA xs && hp (.tup xs) then false else if decide (xs.length = 4) && isLet xs && hp2 xs then false else evps xs := rfl
      generalize hT : ((.iff (.and [.e (.cmp .Eq (.bi .len [.var 0]) (.c (.int 4))), .e (.cmp .Eq (.idx (.var 0) (.c (.int 0))) (.c (.str [108, 101, 116]))), .e (.call 19 [.idx (.var 0) (.c (.int 2))])]) [.ret (.c (.bl false))] [] :: R) : List Kv.S) = T at z2 ⊢
      have rest : (decide (1 < xs.length) && isOA xs && hp (.tup xs)) = false → wp (evSs ⟨fns, tabs, callK fns tabs k, 1⟩ T [0] ⟨[some (.pv (.tup xs)), none], mu⟩) fun f st => match f with | .ret v => v = .pv (.bl (evp (.tup xs))) ∧ (⟨keeps [true] st.sg, st.mu⟩ : Kv.St) = ⟨[some (.pv (.tup xs))], mu⟩ | .nx => SV.pv .non = .pv (.bl (evp (.tup xs))) ∧ (⟨keeps [true] st.sg, st.mu⟩ : Kv.St) = ⟨[some (.pv (.tup xs))], mu⟩ | _ => False := by
        intro he
        refine wp_mono z2 ?_
        rintro f st ⟨rfl, rfl⟩
        refine ⟨?_, rfl⟩
        rw [fin2, he]; rfl
      dsimp only [show f_law_even.np = 1 from rfl, show f_law_even.ns = 2 from rfl, show f_law_even.keep = [true] from rfl, List.map, List.cons_append, List.nil_append, List.replicate_succ, List.replicate_zero, keepIx_t, keepIx_f, keepIx_n, Nat.reduceSub, Nat.reduceAdd, St.put, List.set_cons_succ, List.set_cons_zero, Int.reduceToNat, if_true, Bool.false_eq_true, if_false, srcSlots]
      by_cases c : 1 < xs.length
      · obtain ⟨a, b, r, rfl⟩ := len_ge2 c
        have sa := shs_in h'.2 a List.mem_cons_self
        have da := deps_in (xs := a :: b :: r) a List.mem_cons_self
        have t2 := in_oa (r := b :: r) sa (by omega) h'.1.2
        have len : (decide (1 < (a :: b :: r).length)) = true := decide_eq_true c
        repeat' (first | walk_at "kva" | (with_reducible refine' has_mk (sh_cn sa _) ?_) | (with_reducible refine' has_mk ix0 ?_) | (with_reducible refine' has_mk t2 ?_) | (with_reducible refine two_mk (fun hb => ?_) (fun hb => ?_)) | walk_at "kvs")
        · refine wp_mono (hk1 hs hd) ?_
          rintro _ _ ⟨rfl, rfl⟩
          repeat' (first | walk_at "kva" | (with_reducible refine two_mk (fun hb2 => ?_) (fun hb2 => ?_)) | walk_at "kvs")
          · refine ⟨?_, rfl⟩
            rw [fin2, len, hb, hb2]; rfl
          · exact rest (by rw [hb2, Bool.and_false])
        · exact rest (by rw [hb, Bool.and_false, Bool.false_and])
        · have hb' := of_decide_eq_false hb
          exfalso; omega
      · have e : (decide (1 < xs.length) && isOA xs && hp (.tup xs)) = false := by rw [decide_eq_false c, Bool.false_and, Bool.false_and]
        repeat' (first | walk_at "kva" | walk_at "kvs")
        · exfalso; omega
        · exact rest e
end K30

set_option Elab.async false
set_option linter.all false
set_option maxRecDepth 100000
namespace K30
open Kv
/-! a question as data -/
theorem hp_tup {xs : List PV} : hp (.tup xs) = ((decide (xs.length = 2) && isTab xs) || hps xs) := rfl
theorem evp_tup {xs : List PV} : evp (.tup xs) = if decide (1 < xs.length) && isOA xs && hp (.tup xs) then false else if decide (xs.length = 4) && isLet xs && hp2 xs then false else evps xs := rfl
structure Fl1 (f : Tx) : Prop where
  a : decide (f = wTab) = false
  b : [wOne, wAt].contains f = false
  c : decide (f = wLet) = false
theorem fl1 {f : Tx} (h : f.length = 1) : Fl1 f := by
  refine ⟨decide_eq_false ?_, ?_, decide_eq_false ?_⟩
  · rintro rfl; exact absurd h (by decide)
  · cases c : [wOne, wAt].contains f with
    | false => rfl
    | true =>
      have m : f ∈ [wOne, wAt] := by simpa using c
      simp only [List.mem_cons, List.not_mem_nil, or_false] at m
      rcases m with rfl | rfl <;> exact absurd h (by decide)
  · rintro rfl; exact absurd h (by decide)
theorem pair_hp {f : Tx} {x : PV} (h : f.length = 1) : hp (.tup [.str f, x]) = hp x := by
  have z := fl1 h
  show ((true && decide (f = wTab)) || (false || (hp x || false))) = hp x
  rw [z.a, Bool.or_false]; rfl
theorem pair_evp {f : Tx} {x : PV} (h : f.length = 1) : evp (.tup [.str f, x]) = evp x := by
  have z := fl1 h
  show (if (true && [wOne, wAt].contains f && hp (.tup [.str f, x])) = true then false else if (false && decide (f = wLet) && hp2 [.str f, x]) = true then false else (true && (evp x && true))) = evp x
  rw [z.b]
  show (true && (evp x && true)) = evp x
  rw [Bool.and_true]; rfl
theorem nm_sh {t : Tx} (h : nmTx t = true) : sh (.str t) = true := nm_dat h
theorem pair_sh {f : Tx} {x : PV} (h : nmTx f = true) (hx : sh x = true) : sh (.tup [.str f, x]) = true := by
  show (true && true && (sh (.str f) && (sh x && true))) = true
  rw [nm_sh h, hx]; rfl
/-- fields laid: they begin with no text -/
def tups : List PV → Bool
  | .tup _ :: _ => true
  | [] => true
  | _ => false
theorem tups_no {xs : List PV} (h : tups xs = true) : isTab xs = false ∧ isOA xs = false ∧ isLet xs = false ∧ hdOk xs = true := by
  cases xs with
  | nil => exact ⟨rfl, rfl, rfl, rfl⟩
  | cons x r => cases x with
    | tup ys => exact ⟨rfl, rfl, rfl, rfl⟩
    | _ => cases h
theorem tup_hp {xs : List PV} (h : tups xs = true) : hp (.tup xs) = hps xs := by
  rw [hp_tup, (tups_no h).1, Bool.and_false, Bool.false_or]
theorem tup_evp {xs : List PV} (h : tups xs = true) : evp (.tup xs) = evps xs := by
  obtain ⟨a, b, c, d⟩ := tups_no h
  rw [evp_tup, b, c, Bool.and_false, Bool.and_false, Bool.false_and, Bool.false_and]; rfl
theorem row_hp {xs : List PV} (h : tups xs = true) : hp (.tup [.str [114, 111, 119], .tup xs]) = hps xs := by
  show ((true && false) || (false || (hp (.tup xs) || false))) = hps xs
  rw [tup_hp h, Bool.or_false]; rfl
theorem row_evp {xs : List PV} (h : tups xs = true) : evp (.tup [.str [114, 111, 119], .tup xs]) = evps xs := by
  show (true && (evp (.tup xs) && true)) = evps xs
  rw [tup_evp h, Bool.and_true]; rfl
theorem row_sh {xs : List PV} (h : tups xs = true) (hl : xs.length ≤ 20) (hs : shs xs = true) : sh (.tup [.str [114, 111, 119], .tup xs]) = true := by
  show (true && true && (true && ((decide (xs.length ≤ 20) && hdOk xs && shs xs) && true))) = true
  rw [decide_eq_true hl, (tups_no h).2.2.2, hs]; rfl
mutual
theorem Kd.fa : ∀ {K : Kd}, K.kk = true → sh K.pv = true ∧ hp K.pv = false ∧ evp K.pv = true
  | .num, _ => ⟨by decide, by decide, by decide⟩
  | .word, _ => ⟨by decide, by decide, by decide⟩
  | .bag k, h => by
    obtain ⟨a, b, c⟩ := Kd.fa (K := k) h
    refine ⟨?_, ?_, ?_⟩
    · show (true && true && (true && (sh k.pv && true))) = true
      rw [a]; rfl
    · show ((true && false) || (false || (hp k.pv || false))) = false
      rw [b]; rfl
    · show (true && (evp k.pv && true)) = true
      rw [c]; rfl
  | .row fs, h => by
    have h' : (fs.kk && decide (fs.len ≤ 4) && risTx (tnames fs.l)) = true := h
    simp only [Bool.and_eq_true, decide_eq_true_eq] at h'
    obtain ⟨a, b, c, d⟩ := Kfs.fa h'.1.1
    have l : fs.pvs.length ≤ 4 := by rw [fs.pvs_l, List.length_map, fs.l_len]; exact h'.1.2
    exact ⟨row_sh d (by omega) a, (row_hp d).trans b, (row_evp d).trans c⟩
theorem Kfs.fa : ∀ {fs : Kfs}, fs.kk = true → shs fs.pvs = true ∧ hps fs.pvs = false ∧ evps fs.pvs = true ∧ tups fs.pvs = true
  | .nil, _ => ⟨rfl, rfl, rfl, rfl⟩
  | .cons f k r, h => by
    have h' : (nmTx f && decide (f.length = 1) && k.kk && r.kk) = true := h
    simp only [Bool.and_eq_true, decide_eq_true_eq] at h'
    obtain ⟨a, b, c⟩ := Kd.fa h'.1.2
    obtain ⟨a2, b2, c2, _⟩ := Kfs.fa h'.2
    refine ⟨?_, ?_, ?_, rfl⟩
    · show (sh (.tup [.str f, k.pv]) && shs r.pvs) = true
      rw [pair_sh h'.1.1.1 a, a2]; rfl
    · show (hp (.tup [.str f, k.pv]) || hps r.pvs) = false
      rw [pair_hp h'.1.1.2, b, b2]; rfl
    · show (evp (.tup [.str f, k.pv]) && evps r.pvs) = true
      rw [pair_evp h'.1.1.2, c, c2]; rfl
end
structure Fq (Q : Qn) : Prop where
  s : sh Q.pv = true
  h : hp Q.pv = Q.hasT
  e : evp Q.pv = Q.ev
  d : Q.pv.depth ≤ 3 * Q.depth + 8
structure Ff (fs : Qfs) : Prop where
  s : shs fs.pvs = true
  h : hps fs.pvs = fs.hasT
  e : evps fs.pvs = fs.ev
  t : tups fs.pvs = true
  d : PV.depths fs.pvs ≤ 3 * fs.depth + 9
theorem n1_ev {w : Tx} {p : Pre} {a : Qn} (h1 : ¬(w = wOne ∨ w = wAt)) (h2 : w ≠ wLet) : (q1 w p a).ev = (a.ev && true) := by
  show (if (w = wOne ∨ w = wAt) ∧ (Qs.cons a .nil).hasT = true then false else if w = wLet ∧ (Qs.cons a .nil).hd = true then false else (Qs.cons a .nil).ev) = _
  rw [if_neg (fun h => h1 h.1), if_neg (fun h => h2 h.1)]; rfl
theorem n2_ev {w : Tx} {p : Pre} {a b : Qn} (h1 : ¬(w = wOne ∨ w = wAt)) (h2 : w ≠ wLet) : (q2 w p a b).ev = (a.ev && (b.ev && true)) := by
  show (if (w = wOne ∨ w = wAt) ∧ (Qs.cons a (.cons b .nil)).hasT = true then false else if w = wLet ∧ (Qs.cons a (.cons b .nil)).hd = true then false else (Qs.cons a (.cons b .nil)).ev) = _
  rw [if_neg (fun h => h1 h.1), if_neg (fun h => h2 h.1)]; rfl
theorem oa_ev {w : Tx} {p : Pre} {a : Qn} (h1 : w = wOne ∨ w = wAt) (h2 : w ≠ wLet) : (q1 w p a).ev = if a.hasT = true then false else (a.ev && true) := by
  show (if (w = wOne ∨ w = wAt) ∧ (a.hasT || false) = true then false else if w = wLet ∧ (Qs.cons a .nil).hd = true then false else (Qs.cons a .nil).ev) = _
  rw [Bool.or_false]
  by_cases c : a.hasT = true
  · rw [if_pos ⟨h1, c⟩, if_pos c]
  · rw [if_neg (fun h => c h.2), if_neg (fun h => h2 h.1), if_neg c]; rfl
theorem lt_ev {p : Pre} {a b : Qn} : (q2 wLet p a b).ev = if a.hasT = true then false else (a.ev && (b.ev && true)) := by
  show (if (wLet = wOne ∨ wLet = wAt) ∧ (Qs.cons a (.cons b .nil)).hasT = true then false else if wLet = wLet ∧ a.hasT = true then false else (Qs.cons a (.cons b .nil)).ev) = _
  rw [if_neg (fun h => absurd h.1 (by decide))]
  by_cases c : a.hasT = true
  · rw [if_pos ⟨rfl, c⟩, if_pos c]
  · rw [if_neg (fun h => c h.2), if_neg c]; rfl
/-- a node of one part; what stands ahead of it is no question -/
theorem f1_no {w : Tx} {a : Qn} (hw : sh (.str w) = true) (h0 : decide (w = wTab) = false) (h1 : [wOne, wAt].contains w = false) (h1' : ¬(w = wOne ∨ w = wAt)) (h2 : w ≠ wLet) (ha : Fq a) : Fq (q1 w .no a) := by
  have e0 : (q1 w .no a).pv = .tup [.str w, a.pv] := rfl
  refine ⟨?_, ?_, ?_, ?_⟩
  · show (true && true && (sh (.str w) && (sh a.pv && true))) = true
    rw [hw, ha.s]; rfl
  · show ((true && decide (w = wTab)) || (false || (hp a.pv || false))) = (decide (w = wTab) || (a.hasT || false))
    rw [h0, ha.h]; rfl
  · rw [n1_ev h1' h2]
    show (if (true && [wOne, wAt].contains w && hp (q1 w .no a).pv) = true then false else if (false && decide (w = wLet) && hp2 [.str w, a.pv]) = true then false else (true && (evp a.pv && true))) = _
    rw [h1, ha.e]; rfl
  · have := ha.d
    show max 0 (max a.pv.depth 0) + 1 ≤ 3 * (max a.depth 0 + 1) + 8
    omega
theorem f1_one {a : Qn} (ha : Fq a) : Fq (q1 wOne .no a) := by
  refine ⟨?_, ?_, ?_, ?_⟩
  · show (true && true && (true && (sh a.pv && true))) = true
    rw [ha.s]; rfl
  · show (false || (false || (hp a.pv || false))) = (false || (a.hasT || false))
    rw [ha.h]; rfl
  · rw [oa_ev (.inl rfl) (by decide)]
    show (if (false || (false || (hp a.pv || false))) = true then false else (true && (evp a.pv && true))) = _
    rw [ha.h, ha.e, Bool.or_false]; rfl
  · have := ha.d
    show max 0 (max a.pv.depth 0) + 1 ≤ 3 * (max a.depth 0 + 1) + 8
    omega
theorem f1_at {t : Tx} {a : Qn} (ht : nmTx t = true) (ha : Fq a) : Fq (q1 wAt (.tx t) a) := by
  refine ⟨?_, ?_, ?_, ?_⟩
  · show (true && true && (true && (sh (.str t) && (sh a.pv && true)))) = true
    rw [nm_sh ht, ha.s]; rfl
  · show (false || (false || (false || (hp a.pv || false)))) = (false || (a.hasT || false))
    rw [ha.h]; rfl
  · rw [oa_ev (.inr rfl) (by decide)]
    show (if (false || (false || (false || (hp a.pv || false)))) = true then false else (true && (true && (evp a.pv && true)))) = _
    rw [ha.h, ha.e, Bool.or_false]; rfl
  · have := ha.d
    show max 0 (max 0 (max a.pv.depth 0)) + 1 ≤ 3 * (max a.depth 0 + 1) + 8
    omega
theorem f1_times {i : Int} {a : Qn} (ha : Fq a) : Fq (q1 wTimes (.int i) a) := by
  refine ⟨?_, ?_, ?_, ?_⟩
  · show (true && true && (true && (true && (sh a.pv && true)))) = true
    rw [ha.s]; rfl
  · show (false || (false || (false || (hp a.pv || false)))) = (false || (a.hasT || false))
    rw [ha.h]; rfl
  · rw [n1_ev (by rintro (h | h) <;> exact absurd h (by decide)) (by decide)]
    show (true && (true && (evp a.pv && true))) = _
    rw [ha.e]; rfl
  · have := ha.d
    show max 0 (max 0 (max a.pv.depth 0)) + 1 ≤ 3 * (max a.depth 0 + 1) + 8
    omega
theorem f2_no {w : Tx} {a b : Qn} (hw : sh (.str w) = true) (h0 : decide (w = wTab) = false) (h1 : [wOne, wAt].contains w = false) (h1' : ¬(w = wOne ∨ w = wAt)) (h2 : w ≠ wLet) (ha : Fq a) (hb : Fq b) : Fq (q2 w .no a b) := by
  refine ⟨?_, ?_, ?_, ?_⟩
  · show (true && true && (sh (.str w) && (sh a.pv && (sh b.pv && true)))) = true
    rw [hw, ha.s, hb.s]; rfl
  · show ((false && decide (w = wTab)) || (false || (hp a.pv || (hp b.pv || false)))) = (decide (w = wTab) || (a.hasT || (b.hasT || false)))
    rw [h0, ha.h, hb.h]; rfl
  · rw [n2_ev h1' h2]
    show (if (true && [wOne, wAt].contains w && hp (q2 w .no a b).pv) = true then false else if (false && decide (w = wLet) && hp2 [.str w, a.pv, b.pv]) = true then false else (true && (evp a.pv && (evp b.pv && true)))) = _
    rw [h1, ha.e, hb.e]; rfl
  · have := ha.d
    have := hb.d
    show max 0 (max a.pv.depth (max b.pv.depth 0)) + 1 ≤ 3 * (max a.depth (max b.depth 0) + 1) + 8
    omega
theorem f2_for {t : Tx} {a b : Qn} (ht : nmTx t = true) (ha : Fq a) (hb : Fq b) : Fq (q2 wFor (.tx t) a b) := by
  refine ⟨?_, ?_, ?_, ?_⟩
  · show (true && true && (true && (sh (.str t) && (sh a.pv && (sh b.pv && true))))) = true
    rw [nm_sh ht, ha.s, hb.s]; rfl
  · show (false || (false || (false || (hp a.pv || (hp b.pv || false))))) = (false || (a.hasT || (b.hasT || false)))
    rw [ha.h, hb.h]; rfl
  · rw [n2_ev (by rintro (h | h) <;> exact absurd h (by decide)) (by decide)]
    show (true && (true && (evp a.pv && (evp b.pv && true)))) = _
    rw [ha.e, hb.e]; rfl
  · have := ha.d
    have := hb.d
    show max 0 (max 0 (max a.pv.depth (max b.pv.depth 0))) + 1 ≤ 3 * (max a.depth (max b.depth 0) + 1) + 8
    omega
theorem f2_let {t : Tx} {a b : Qn} (ht : nmTx t = true) (ha : Fq a) (hb : Fq b) : Fq (q2 wLet (.tx t) a b) := by
  refine ⟨?_, ?_, ?_, ?_⟩
  · show (true && true && (true && (sh (.str t) && (sh a.pv && (sh b.pv && true))))) = true
    rw [nm_sh ht, ha.s, hb.s]; rfl
  · show (false || (false || (false || (hp a.pv || (hp b.pv || false))))) = (false || (a.hasT || (b.hasT || false)))
    rw [ha.h, hb.h]; rfl
  · rw [lt_ev]
    show (if hp a.pv = true then false else (true && (true && (evp a.pv && (evp b.pv && true))))) = _
    rw [ha.h, ha.e, hb.e]; rfl
  · have := ha.d
    have := hb.d
    show max 0 (max 0 (max a.pv.depth (max b.pv.depth 0))) + 1 ≤ 3 * (max a.depth (max b.depth 0) + 1) + 8
    omega
theorem f0_none {K : Kd} (h : KO (.bag K)) : Fq (q0 wNone (.kd K)) := by
  obtain ⟨a, b, c⟩ := Kd.fa h.bag.1
  have pd := (Kd.dd h.bag.good).2
  have h2 : K.depth + 1 ≤ 3 := h.2
  refine ⟨?_, ?_, ?_, ?_⟩
  · show (true && true && (true && (sh K.pv && true))) = true
    rw [a]; rfl
  · show (false || (false || (hp K.pv || false))) = false
    rw [b]; rfl
  · show (true && (evp K.pv && true)) = true
    rw [c]; rfl
  · show max 0 (max K.pv.depth 0) + 1 ≤ 3 * (0 + 1) + 8
    omega
theorem g1 {w : Tx} {p : Pre} {a : Qn} (h : (q1 w p a).good = true) : p.good = true ∧ a.good = true := by
  have h' : (decide _ && p.good && (a.good && true)) = true := h
  simp only [Bool.and_eq_true] at h'
  exact ⟨h'.1.2, h'.2.1⟩
theorem g2 {w : Tx} {p : Pre} {a b : Qn} (h : (q2 w p a b).good = true) : p.good = true ∧ a.good = true ∧ b.good = true := by
  have h' : (decide _ && p.good && (a.good && (b.good && true))) = true := h
  simp only [Bool.and_eq_true] at h'
  exact ⟨h'.1.2, h'.2.1, h'.2.2.1⟩
theorem g0 {w : Tx} {p : Pre} (h : (q0 w p).good = true) : p.good = true := by
  have h' : (decide _ && p.good && true) = true := h
  simp only [Bool.and_eq_true] at h'
  exact h'.1.2
theorem f0_tx {w t : Tx} (hw : sh (.str w) = true) (h1 : [wOne, wAt].contains w = false) (h2 : decide (w = wLet) = false) (h1' : ¬(w = wOne ∨ w = wAt)) (h2' : w ≠ wLet) (ht : nmTx t = true) : Fq (q0 w (.tx t)) := by
  refine ⟨?_, ?_, ?_, ?_⟩
  · show (true && true && (sh (.str w) && (sh (.str t) && true))) = true
    rw [hw, nm_sh ht]; rfl
  · show ((true && decide (w = wTab)) || false) = (decide (w = wTab) || false)
    rfl
  · show (if (true && [wOne, wAt].contains w && hp (q0 w (.tx t)).pv) = true then false else if (false && decide (w = wLet) && hp2 [.str w, .str t]) = true then false else true) = (if (w = wOne ∨ w = wAt) ∧ false = true then false else if w = wLet ∧ false = true then false else true)
    rw [h1, if_neg (show ¬((w = wOne ∨ w = wAt) ∧ false = true) from fun h => absurd h.2 (by decide)), if_neg (show ¬(w = wLet ∧ false = true) from fun h => absurd h.2 (by decide))]; rfl
  · show max 0 (max 0 0) + 1 ≤ 3 * (0 + 1) + 8
    omega
mutual
theorem QT.fq : ∀ {E : TD Kd} {Q : Qn} {K : Kd}, QT E Q K → Q.good = true → Fq Q
  | _, _, _, .num, _ => ⟨rfl, rfl, rfl, by show max 0 (max 0 0) + 1 ≤ 3 * (0 + 1) + 8; omega⟩
  | _, _, _, .word, g => f0_tx (by decide) (by decide) (by decide) (by decide) (by decide) (g0 g)
  | _, _, _, .var _, g => f0_tx (by decide) (by decide) (by decide) (by decide) (by decide) (g0 g)
  | _, _, _, .tab _, g => f0_tx (by decide) (by decide) (by decide) (by decide) (by decide) (g0 g)
  | _, .row fs, _, .row (ks := ks) h _ o, g => by
    have h' : (fs.good && decide (fs.len ≤ 14)) = true := g
    simp only [Bool.and_eq_true, decide_eq_true_eq] at h'
    have z := FT.ff h o h'.1
    have l : fs.pvs.length ≤ 14 := by rw [fs.pvs_fl, List.length_map, fs.fl_len]; exact h'.2
    refine ⟨row_sh z.t (by omega) z.s, (row_hp z.t).trans z.h, (row_evp z.t).trans z.e, ?_⟩
    have := z.d
    show max 0 (max (PV.depths fs.pvs + 1) 0) + 1 ≤ 3 * (fs.depth + 1) + 8
    omega
  | _, _, _, .at a _, g => f1_at (g1 g).1 (QT.fq a (g1 g).2)
  | _, _, _, .op w a b, g => by
    rcases w with rfl | rfl
    · exact f2_no (by decide) (by decide) (by decide) (by decide) (by decide) (QT.fq a (g2 g).2.1) (QT.fq b (g2 g).2.2)
    · exact f2_no (by decide) (by decide) (by decide) (by decide) (by decide) (QT.fq a (g2 g).2.1) (QT.fq b (g2 g).2.2)
  | _, _, _, .non h, _ => f0_none h
  | _, _, _, .one a, g => f1_one (QT.fq a (g1 g).2)
  | _, _, _, .both a b, g => f2_no (by decide) (by decide) (by decide) (by decide) (by decide) (QT.fq a (g2 g).2.1) (QT.fq b (g2 g).2.2)
  | _, _, _, .times a, g => f1_times (QT.fq a (g1 g).2)
  | _, _, _, .whn c a, g => f2_no (by decide) (by decide) (by decide) (by decide) (by decide) (QC.fq c (g2 g).2.1) (QT.fq a (g2 g).2.2)
  | _, _, _, .fr a b, g => f2_for (g2 g).1 (QT.fq a (g2 g).2.1) (QT.fq b (g2 g).2.2)
  | _, _, _, .lt a b, g => f2_let (g2 g).1 (QT.fq a (g2 g).2.1) (QT.fq b (g2 g).2.2)
theorem QC.fq : ∀ {E : TD Kd} {Q : Qn}, QC E Q → Q.good = true → Fq Q
  | _, _, .same _ a b, g => f2_no (by decide) (by decide) (by decide) (by decide) (by decide) (QT.fq a (g2 g).2.1) (QT.fq b (g2 g).2.2)
  | _, _, .under a b, g => f2_no (by decide) (by decide) (by decide) (by decide) (by decide) (QT.fq a (g2 g).2.1) (QT.fq b (g2 g).2.2)
  | _, _, .and w a b, g => by
    rcases w with rfl | rfl
    · exact f2_no (by decide) (by decide) (by decide) (by decide) (by decide) (QC.fq a (g2 g).2.1) (QC.fq b (g2 g).2.2)
    · exact f2_no (by decide) (by decide) (by decide) (by decide) (by decide) (QC.fq a (g2 g).2.1) (QC.fq b (g2 g).2.2)
  | _, _, .not a, g => f1_no (by decide) (by decide) (by decide) (by decide) (by decide) (QC.fq a (g1 g).2)
theorem FT.ff : ∀ {E : TD Kd} {fs : Qfs} {ks : Kfs}, FT E fs ks → (∀ p ∈ ks.l, p.1.length = 1) → fs.good = true → Ff fs
  | _, _, _, .nil, _, _ => ⟨rfl, rfl, rfl, rfl, Nat.zero_le _⟩
  | _, _, _, .cons (f := f) (a := a) (K := K) (r := r) (s := s) ha hr, o, g => by
    have g' : (nmTx f && a.good && r.good) = true := g
    simp only [Bool.and_eq_true] at g'
    have z := QT.fq ha g'.1.2
    have y := FT.ff hr (fun p m => o p (List.mem_cons_of_mem _ m)) g'.2
    have o1 : f.length = 1 := o (f, K) List.mem_cons_self
    refine ⟨?_, ?_, ?_, rfl, ?_⟩
    · show (sh (.tup [.str f, a.pv]) && shs r.pvs) = true
      rw [pair_sh g'.1.1 z.s, y.s]; rfl
    · show (hp (.tup [.str f, a.pv]) || hps r.pvs) = (a.hasT || r.hasT)
      rw [pair_hp o1, z.h, y.h]
    · show (evp (.tup [.str f, a.pv]) && evps r.pvs) = (a.ev && r.ev)
      rw [pair_evp o1, z.e, y.e]
    · have := z.d
      have := y.d
      show max (max 0 (max a.pv.depth 0) + 1) (PV.depths r.pvs) ≤ 3 * max a.depth r.depth + 9
      omega
end
end K30

set_option Elab.async false
set_option linter.all false
set_option maxRecDepth 100000
set_option hygiene false
set_option hygiene true
namespace K30
open Kv
theorem ints_mem {ns : List Int} {p : PV} (h : p ∈ ns.map PV.int) : ∃ z : Int, p = .int z := by
  obtain ⟨z, _, rfl⟩ := List.mem_map.mp h
  exact ⟨z, rfl⟩
theorem cutL_mem {α : Type} {xs : List α} {lo hi : Option Int} {x : α} (h : x ∈ cut xs lo hi) : x ∈ xs := List.mem_of_mem_drop (List.mem_of_mem_take h)
theorem cutL_len {α : Type} {xs : List α} {lo hi : Option Int} : (cut xs lo hi).length ≤ xs.length := by
  unfold cut
  rw [List.length_take, List.length_drop]; omega
theorem has_neb {a b : Bool} {f : Bool → Prop} (k : f (!decide (a = b))) : Has (cmpall .NotEq (.pv (.bl a)) (.pv (.bl b))) f := by
  refine ⟨_, ?_, k⟩
  rw [cmp_ne]; rfl
def turnB : List S := [.asg (.nm 2) (.call 4 [.var 1]), .asg (.nm 3) (.call 18 [.var 2]), .asg (.nm 4) (.bi .sorted [.call 17 [.var 2, .c (.str [100])]]), .asg (.nm 5) (.call 2 [.var 3]), .iff (.or [.not (.e (.isi .bool (.var 5))), .e (.cmp .NotEq (.var 5) (.call 20 [.var 3]))]) [.ret (.c (.bl false))] [], .iff (.e (.var 5)) [.asg (.nm 6) (.call 3 [.var 3, .var 4]), .iff (.or [.not (.e (.isi .int (.var 6))), .e (.isi .bool (.var 6)), .e (.cmp .NotEq (.var 6) (.call 21 [.var 3, .var 4]))]) [.ret (.c (.bl false))] []] []]
theorem turn_ok {ns : List Int} {z : Int} {o2 o3 o4 o5 o6 : Option SV} {pr : List Nat} (hp : pr = [0]) : wp (evSs ⟨fns, tabs, callK fns tabs 109, 1⟩ turnB pr ⟨[some (.pv (.loc 0)), some (.pv (.int z)), o2, o3, o4, o5, o6], [.flst (ns.map PV.int)]⟩) fun f st => f = .nx ∧ ∃ o2 o3 o4 o5 o6 : Option SV, st = ⟨[some (.pv (.loc 0)), some (.pv (.int z)), o2, o3, o4, o5, o6], [.flst (ns.map PV.int)]⟩ := by
  subst hp
  unfold turnB
  repeat' (first | walk_at "kva" | walk_at "kvs")
  refine wp_mono seed_ok ?_
  rintro _ _ ⟨b, m, a, hm, rfl, rfl⟩
  repeat' (first | walk_at "kva" | walk_at "kvs")
  refine wp_mono (question_ok (by decide) hm) ?_
  rintro _ _ ⟨Q, K, a1, c1, g1, g2, g3, g4, rfl, rfl⟩
  have fq := g1.fq g2.g
  have fd := fq.d
  have fD := g2.d
  have fw := g2.w
  repeat' (first | walk_at "kva" | walk_at "kvs")
  refine wp_mono (names_ok hm ⟨by omega, by omega⟩ (by decide)) ?_
  rintro _ _ ⟨l, a2, c2, l1, l2, rfl, rfl⟩
  repeat' (first | walk_at "kva" | walk_at "kvs")
  refine has_sorted (f := id) (by omega) ?_
  repeat' (first | walk_at "kva" | (with_reducible refine' has_mk (q_cn _ _) ?_) | walk_at "kvs")
  refine wp_mono (is_even_ok 15 (by decide) (by decide) g2.g g2.d (by omega)) ?_
  rintro _ _ ⟨rfl, rfl⟩
  repeat' (first | walk_at "kva" | (with_reducible refine' has_mk (q_cn _ _) ?_) | walk_at "kvs")
  refine wp_mono (law_even_ok 60 (by decide) (by decide) fq.s (by omega)) ?_
  rintro _ _ ⟨rfl, rfl⟩
  rw [fq.e]
  repeat' (first | walk_at "kva" | (with_reducible refine has_neb ?_) | (with_reducible refine two_mk (fun hb => ?_) (fun hb => ?_)) | walk_at "kvs")
  · simp at hb
  · refine wp_mono (degree_ok 15 g2.g g2.d (by decide)) ?_
    rintro _ _ ⟨rfl, rfl⟩
    repeat' (first | walk_at "kva" | (with_reducible refine' has_mk (q_cn _ _) ?_) | walk_at "kvs")
    refine wp_mono (law_degree_ok 15 g2.g g2.d (by decide)) ?_
    rintro _ _ ⟨rfl, rfl⟩
    repeat' (first | walk_at "kva" | (with_reducible refine two_mk (fun hb => ?_) (fun hb => ?_)) | walk_at "kvs")
    · simp at hb
    · exact ⟨rfl, _, _, _, _, _, rfl⟩
  · exact ⟨rfl, _, _, _, _, _, rfl⟩
theorem law_run (ns : List Int) (h : ns.length ≤ 63) : wp (callK fns tabs 110 22 [.pv (.loc 0)] [.flst (ns.map .int)]) fun v st => v = .pv (.bl true) := by
  refine c_run (fn := f_law) rfl rfl rfl ?_
  have e : f_law.body = [.forr (.nm 1) .it [.bin .Add (.sl (.var 0) [] [.c (.int 16)]) (.lst [.bi .len [.var 0]])] turnB, .ret (.c (.bl true))] := rfl
  rw [e]
  dsimp only [show f_law.np = 1 from rfl, show f_law.ns = 7 from rfl, show f_law.keep = [true] from rfl, List.map, List.cons_append, List.nil_append, List.replicate_succ, List.replicate_zero, keepIx_t, keepIx_f, keepIx_n, Nat.reduceSub, Nat.reduceAdd, St.put, List.set_cons_succ, List.set_cons_zero, Int.reduceToNat, if_true, Bool.false_eq_true, if_false, srcSlots]
  repeat' (first | walk_at "kva" | walk_at "kvs")
  have cl : (cut (ns.map PV.int) none (some 16)).length ≤ 63 := by
    have := cutL_len (xs := ns.map PV.int) (lo := none) (hi := some 16)
    rw [List.length_map] at this; omega
  refine has_addl (by show _ + 1 ≤ 16777216; omega) ?_
  repeat' (first | walk_at "kva" | walk_at "kvs")
  refine l_for (fun ys st => ∃ (o1 o2 o3 o4 o5 o6 : Option SV), (∀ p ∈ ys, ∃ z : Int, p = .int z) ∧ st = ⟨[some (.pv (.loc 0)), o1, o2, o3, o4, o5, o6], [.flst (ns.map .int)]⟩) ?_ ?_ ?_ _ _ ⟨_, _, _, _, _, _, ?_, rfl⟩
  · rintro ys st ⟨o1, o2, o3, o4, o5, o6, h1, rfl⟩
    exact stands_own
  · rintro y ys st ⟨o1, o2, o3, o4, o5, o6, h1, rfl⟩
    obtain ⟨z, rfl⟩ := h1 y List.mem_cons_self
    refine s_store rfl rfl ?_
    dsimp only [List.map, List.cons_append, List.nil_append, List.replicate_succ, List.replicate_zero, keepIx_t, keepIx_f, keepIx_n, Nat.reduceSub, Nat.reduceAdd, St.put, List.set_cons_succ, List.set_cons_zero, Int.reduceToNat, if_true, Bool.false_eq_true, if_false, srcSlots]
    refine wp_mono (turn_ok rfl) ?_
    rintro f st ⟨rfl, o2, o3, o4, o5, o6, rfl⟩
    exact ⟨_, o2, o3, o4, o5, o6, fun p m => h1 p (List.mem_cons_of_mem _ m), rfl⟩
  · rintro st ⟨o1, o2, o3, o4, o5, o6, h1, rfl⟩
    repeat' (first | walk_at "kva" | walk_at "kvs")
    exact rfl
  · intro p m
    rcases List.mem_append.mp m with m | m
    · exact ints_mem (cutL_mem m)
    · rw [List.mem_singleton.mp m]; exact ⟨_, rfl⟩
theorem law_true (ns : List Int) (h : ns.length ≤ 63) : runLaw fns tabs 110 22 ns = true := by
  obtain ⟨v, s, e, rfl⟩ := wp_get (law_run ns h)
  unfold runLaw
  rw [e]
end K30

set_option Elab.async false
set_option maxRecDepth 100000
namespace K30
open PySem Kv L2
def top (i : Nat) : Stmt := PySem.Challenge.pw_keptnest_k30_even_and_degree.main.body.getD i (.Pass ⟨0, 0, 0, 0⟩)
def bs : List Str := ["all", "bool", "int", "isinstance", "len", "list", "max", "range", "sorted", "tuple", "zip"]
abbrev d_under : Df := ⟨"under", "under", top 2, ["question", "form", "part", "field", "own"], ["question"], true⟩
abbrev d_tables : Df := ⟨"tables", "tables", top 3, ["question", "found", "waiting", "part"], ["question"], true⟩
abbrev d_is_even : Df := ⟨"is_even", "is_even", top 5, ["question", "part"], ["question"], true⟩
abbrev d_degree : Df := ⟨"degree", "degree", top 6, ["question", "names", "word"], ["question", "names"], true⟩
abbrev d_law_seed : Df := ⟨"_law_seed", "_law_seed", top 9, ["cell", "number"], ["cell"], true⟩
abbrev d_law_draw : Df := ⟨"_law_draw", "_law_draw", top 10, ["seed", "most", "found", "number"], ["seed", "most"], true⟩
abbrev d_law_key : Df := ⟨"_law_key", "_law_key", top 11, ["value", "part", "count", "field"], ["value"], true⟩
abbrev d_law_bag : Df := ⟨"_law_bag", "_law_bag", top 12, ["counts", "found", "key", "row", "many", "pair"], ["counts"], true⟩
abbrev d_law_value : Df := ⟨"_law_value", "_law_value", top 17, ["kind", "seed", "deep", "great", "counts", "k", "value", "field", "part"], ["kind", "seed", "deep"], true⟩
abbrev d_law_kinds : Df := ⟨"_law_kinds", "_law_kinds", top 18, ["level", "deep"], [], true⟩
abbrev d_law_seen : Df := ⟨"_law_seen", "_law_seen", top 20, ["scope", "found", "name", "other"], ["scope"], true⟩
abbrev d_law_held : Df := ⟨"_law_held", "_law_held", top 21, ["kind", "scope", "ways", "name", "other", "field", "part"], ["kind", "scope"], true⟩
abbrev d_law_small : Df := ⟨"_law_small", "_law_small", top 22, ["kind", "scope", "fuel", "seed", "ways", "one", "field", "part"], ["kind", "scope", "fuel", "seed"], true⟩
abbrev d_law_claim : Df := ⟨"_law_claim", "_law_claim", top 23, ["scope", "fuel", "seed", "way", "one", "kind", "word"], ["scope", "fuel", "seed"], true⟩
abbrev d_law_over : Df := ⟨"_law_over", "_law_over", top 24, ["scope", "fuel", "seed", "kinds", "name", "kind", "inner", "spare", "other"], ["scope", "fuel", "seed"], true⟩
abbrev d_law_taken : Df := ⟨"_law_taken", "_law_taken", top 25, ["kind", "scope", "fuel", "seed", "fields", "place", "parts", "field"], ["kind", "scope", "fuel", "seed"], true⟩
abbrev d_law_asked : Df := ⟨"_law_asked", "_law_asked", top 26, ["kind", "scope", "fuel", "seed", "named", "ways", "way", "name", "other", "bound", "over"], ["kind", "scope", "fuel", "seed"], true⟩
abbrev d_law_names : Df := ⟨"_law_names", "_law_names", top 31, ["seed", "mark", "names", "name"], ["seed", "mark"], true⟩
abbrev d_law_question : Df := ⟨"_law_question", "_law_question", top 32, ["seed", "kinds", "kind"], ["seed"], true⟩
abbrev d_law_has : Df := ⟨"_law_has", "_law_has", top 33, ["asked", "part"], ["asked"], true⟩
abbrev d_law_even : Df := ⟨"_law_even", "_law_even", top 34, ["asked", "part"], ["asked"], true⟩
abbrev d_law_degree : Df := ⟨"_law_degree", "_law_degree", top 35, ["asked", "names", "word"], ["asked", "names"], true⟩
abbrev d_law : Df := ⟨"law", "law", top 36, ["script", "cell", "seed", "asked", "names", "even", "found"], ["script"], true⟩
def ds : List Df := [d_under, d_tables, d_is_even, d_degree, d_law_seed, d_law_draw, d_law_key, d_law_bag, d_law_value, d_law_kinds, d_law_seen, d_law_held, d_law_small, d_law_claim, d_law_over, d_law_taken, d_law_asked, d_law_names, d_law_question, d_law_has, d_law_even, d_law_degree, d_law]
def fs : List Str := ["under", "tables", "is_even", "degree", "_law_seed", "_law_draw", "_law_key", "_law_bag", "_law_value", "_law_kinds", "_law_seen", "_law_held", "_law_small", "_law_claim", "_law_over", "_law_taken", "_law_asked", "_law_names", "_law_question", "_law_has", "_law_even", "_law_degree", "law"]
def ts : List Str := ["FORMS"]
def cs : List Cd := []
theorem c_under : ckD fs bs ts cs f_under d_under = true := by decide +kernel
theorem s_under : FnScope ["question", "form", "part", "field", "own"] ["question"] (defScope (top 2)) := ⟨rfl, rfl, rfl, by decide +kernel, rfl, by decide +kernel, by decide +kernel⟩
theorem c_tables : ckD fs bs ts cs f_tables d_tables = true := by decide +kernel
theorem s_tables : FnScope ["question", "found", "waiting", "part"] ["question"] (defScope (top 3)) := ⟨rfl, rfl, rfl, by decide +kernel, rfl, by decide +kernel, by decide +kernel⟩
theorem c_is_even : ckD fs bs ts cs f_is_even d_is_even = true := by decide +kernel
theorem s_is_even : FnScope ["question", "part"] ["question"] (defScope (top 5)) := ⟨rfl, rfl, rfl, by decide +kernel, rfl, by decide +kernel, by decide +kernel⟩
theorem c_degree : ckD fs bs ts cs f_degree d_degree = true := by decide +kernel
theorem s_degree : FnScope ["question", "names", "word"] ["question", "names"] (defScope (top 6)) := ⟨rfl, rfl, rfl, by decide +kernel, rfl, by decide +kernel, by decide +kernel⟩
theorem c_law_seed : ckD fs bs ts cs f_law_seed d_law_seed = true := by decide +kernel
theorem s_law_seed : FnScope ["cell", "number"] ["cell"] (defScope (top 9)) := ⟨rfl, rfl, rfl, by decide +kernel, rfl, by decide +kernel, by decide +kernel⟩
theorem c_law_draw : ckD fs bs ts cs f_law_draw d_law_draw = true := by decide +kernel
theorem s_law_draw : FnScope ["seed", "most", "found", "number"] ["seed", "most"] (defScope (top 10)) := ⟨rfl, rfl, rfl, by decide +kernel, rfl, by decide +kernel, by decide +kernel⟩
theorem c_law_key : ckD fs bs ts cs f_law_key d_law_key = true := by decide +kernel
theorem s_law_key : FnScope ["value", "part", "count", "field"] ["value"] (defScope (top 11)) := ⟨rfl, rfl, rfl, by decide +kernel, rfl, by decide +kernel, by decide +kernel⟩
theorem c_law_bag : ckD fs bs ts cs f_law_bag d_law_bag = true := by decide +kernel
theorem s_law_bag : FnScope ["counts", "found", "key", "row", "many", "pair"] ["counts"] (defScope (top 12)) := ⟨rfl, rfl, rfl, by decide +kernel, rfl, by decide +kernel, by decide +kernel⟩
theorem c_law_value : ckD fs bs ts cs f_law_value d_law_value = true := by decide +kernel
theorem s_law_value : FnScope ["kind", "seed", "deep", "great", "counts", "k", "value", "field", "part"] ["kind", "seed", "deep"] (defScope (top 17)) := ⟨rfl, rfl, rfl, by decide +kernel, rfl, by decide +kernel, by decide +kernel⟩
theorem c_law_kinds : ckD fs bs ts cs f_law_kinds d_law_kinds = true := by decide +kernel
theorem s_law_kinds : FnScope ["level", "deep"] [] (defScope (top 18)) := ⟨rfl, rfl, rfl, by decide +kernel, rfl, by decide +kernel, by decide +kernel⟩
theorem c_law_seen : ckD fs bs ts cs f_law_seen d_law_seen = true := by decide +kernel
theorem s_law_seen : FnScope ["scope", "found", "name", "other"] ["scope"] (defScope (top 20)) := ⟨rfl, rfl, rfl, by decide +kernel, rfl, by decide +kernel, by decide +kernel⟩
theorem c_law_held : ckD fs bs ts cs f_law_held d_law_held = true := by decide +kernel
theorem s_law_held : FnScope ["kind", "scope", "ways", "name", "other", "field", "part"] ["kind", "scope"] (defScope (top 21)) := ⟨rfl, rfl, rfl, by decide +kernel, rfl, by decide +kernel, by decide +kernel⟩
theorem c_law_small : ckD fs bs ts cs f_law_small d_law_small = true := by decide +kernel
theorem s_law_small : FnScope ["kind", "scope", "fuel", "seed", "ways", "one", "field", "part"] ["kind", "scope", "fuel", "seed"] (defScope (top 22)) := ⟨rfl, rfl, rfl, by decide +kernel, rfl, by decide +kernel, by decide +kernel⟩
theorem c_law_claim : ckD fs bs ts cs f_law_claim d_law_claim = true := by decide +kernel
theorem s_law_claim : FnScope ["scope", "fuel", "seed", "way", "one", "kind", "word"] ["scope", "fuel", "seed"] (defScope (top 23)) := ⟨rfl, rfl, rfl, by decide +kernel, rfl, by decide +kernel, by decide +kernel⟩
theorem c_law_over : ckD fs bs ts cs f_law_over d_law_over = true := by decide +kernel
theorem s_law_over : FnScope ["scope", "fuel", "seed", "kinds", "name", "kind", "inner", "spare", "other"] ["scope", "fuel", "seed"] (defScope (top 24)) := ⟨rfl, rfl, rfl, by decide +kernel, rfl, by decide +kernel, by decide +kernel⟩
theorem c_law_taken : ckD fs bs ts cs f_law_taken d_law_taken = true := by decide +kernel
theorem s_law_taken : FnScope ["kind", "scope", "fuel", "seed", "fields", "place", "parts", "field"] ["kind", "scope", "fuel", "seed"] (defScope (top 25)) := ⟨rfl, rfl, rfl, by decide +kernel, rfl, by decide +kernel, by decide +kernel⟩
theorem c_law_asked : ckD fs bs ts cs f_law_asked d_law_asked = true := by decide +kernel
theorem s_law_asked : FnScope ["kind", "scope", "fuel", "seed", "named", "ways", "way", "name", "other", "bound", "over"] ["kind", "scope", "fuel", "seed"] (defScope (top 26)) := ⟨rfl, rfl, rfl, by decide +kernel, rfl, by decide +kernel, by decide +kernel⟩
theorem c_law_names : ckD fs bs ts cs f_law_names d_law_names = true := by decide +kernel
theorem s_law_names : FnScope ["seed", "mark", "names", "name"] ["seed", "mark"] (defScope (top 31)) := ⟨rfl, rfl, rfl, by decide +kernel, rfl, by decide +kernel, by decide +kernel⟩
theorem c_law_question : ckD fs bs ts cs f_law_question d_law_question = true := by decide +kernel
theorem s_law_question : FnScope ["seed", "kinds", "kind"] ["seed"] (defScope (top 32)) := ⟨rfl, rfl, rfl, by decide +kernel, rfl, by decide +kernel, by decide +kernel⟩
theorem c_law_has : ckD fs bs ts cs f_law_has d_law_has = true := by decide +kernel
theorem s_law_has : FnScope ["asked", "part"] ["asked"] (defScope (top 33)) := ⟨rfl, rfl, rfl, by decide +kernel, rfl, by decide +kernel, by decide +kernel⟩
theorem c_law_even : ckD fs bs ts cs f_law_even d_law_even = true := by decide +kernel
theorem s_law_even : FnScope ["asked", "part"] ["asked"] (defScope (top 34)) := ⟨rfl, rfl, rfl, by decide +kernel, rfl, by decide +kernel, by decide +kernel⟩
theorem c_law_degree : ckD fs bs ts cs f_law_degree d_law_degree = true := by decide +kernel
theorem s_law_degree : FnScope ["asked", "names", "word"] ["asked", "names"] (defScope (top 35)) := ⟨rfl, rfl, rfl, by decide +kernel, rfl, by decide +kernel, by decide +kernel⟩
theorem c_law : ckD fs bs ts cs f_law d_law = true := by decide +kernel
theorem s_law : FnScope ["script", "cell", "seed", "asked", "names", "even", "found"] ["script"] (defScope (top 36)) := ⟨rfl, rfl, rfl, by decide +kernel, rfl, by decide +kernel, by decide +kernel⟩
theorem checks : ckDs (ds.map Df.nm) bs ts cs fns ds = true := ckDs_cons c_under (ckDs_cons c_tables (ckDs_cons c_is_even (ckDs_cons c_degree (ckDs_cons c_law_seed (ckDs_cons c_law_draw (ckDs_cons c_law_key (ckDs_cons c_law_bag (ckDs_cons c_law_value (ckDs_cons c_law_kinds (ckDs_cons c_law_seen (ckDs_cons c_law_held (ckDs_cons c_law_small (ckDs_cons c_law_claim (ckDs_cons c_law_over (ckDs_cons c_law_taken (ckDs_cons c_law_asked (ckDs_cons c_law_names (ckDs_cons c_law_question (ckDs_cons c_law_has (ckDs_cons c_law_even (ckDs_cons c_law_degree (ckDs_cons c_law ( rfl)))))))))))))))))))))))
theorem facts {w : World} {K : PySem.W.Frag} {ta0 : Addr} {te0 : Array DictEntry} {tn0 : Nat} {u0_0 : Value} {u0_1 : Value} {u0_2 : Value} {u0_3 : Value} {u0_4 : Value} {u0_5 : Value} {u0_6 : Value} {u0_7 : Value} {u0_8 : Value} {u0_9 : Value} {u0_10 : Value} {u0_11 : Value} {u0_12 : Value} {u0_13 : Value} {u0_14 : Value} {u0_15 : Value} {u0_16 : Value} {u0_17 : Value} {u0_18 : Value} {u0_19 : Value} {f0 f1 f2 f3 f4 f5 f6 f7 f8 f9 f10 f11 f12 f13 f14 f15 f16 f17 f18 f19 f20 f21 f22 : Addr} {od0 an0 od1 an1 od2 an2 od3 an3 od4 an4 od5 an5 od6 an6 od7 an7 od8 an8 od9 an9 od10 an10 od11 an11 od12 an12 od13 an13 od14 an14 od15 an15 od16 an16 od17 an17 od18 an18 od19 an19 od20 an20 od21 an21 od22 an22 : Option Addr} {sl0 sl1 sl2 sl3 sl4 sl5 sl6 sl7 sl8 sl9 sl10 sl11 sl12 sl13 sl14 sl15 sl16 sl17 sl18 sl19 sl20 sl21 sl22 : Array (Option Value)} {oc0 kV0 dc0 pm0 cd0 ct0 oc1 kV1 dc1 pm1 cd1 ct1 oc2 kV2 dc2 pm2 cd2 ct2 oc3 kV3 dc3 pm3 cd3 ct3 oc4 kV4 dc4 pm4 cd4 ct4 oc5 kV5 dc5 pm5 cd5 ct5 oc6 kV6 dc6 pm6 cd6 ct6 oc7 kV7 dc7 pm7 cd7 ct7 oc8 kV8 dc8 pm8 cd8 ct8 oc9 kV9 dc9 pm9 cd9 ct9 oc10 kV10 dc10 pm10 cd10 ct10 oc11 kV11 dc11 pm11 cd11 ct11 oc12 kV12 dc12 pm12 cd12 ct12 oc13 kV13 dc13 pm13 cd13 ct13 oc14 kV14 dc14 pm14 cd14 ct14 oc15 kV15 dc15 pm15 cd15 ct15 oc16 kV16 dc16 pm16 cd16 ct16 oc17 kV17 dc17 pm17 cd17 ct17 oc18 kV18 dc18 pm18 cd18 ct18 oc19 kV19 dc19 pm19 cd19 ct19 oc20 kV20 dc20 pm20 cd20 ct20 oc21 kV21 dc21 pm21 cd21 ct21 oc22 kV22 dc22 pm22 cd22 ct22 : Value}
    (a0 : PySem.W.nsIn K mainGlobals "under" = some (some (.ref f0))) (l0 : K.lookup f0 = some ⟨oc0, od0, .func (PySem.W.fnOf "under" "under" (defArgs (top 2)) (defBody (top 2)) (defScope (top 2)) .none kV0 dc0 pm0 an0 cd0 ct0), sl0⟩) (c0 : PySem.W.codeIn K cd0 "under" = true) (k0 : PySem.W.keepIn K (.ref f0) = true)
    (a1 : PySem.W.nsIn K mainGlobals "tables" = some (some (.ref f1))) (l1 : K.lookup f1 = some ⟨oc1, od1, .func (PySem.W.fnOf "tables" "tables" (defArgs (top 3)) (defBody (top 3)) (defScope (top 3)) .none kV1 dc1 pm1 an1 cd1 ct1), sl1⟩) (c1 : PySem.W.codeIn K cd1 "tables" = true) (k1 : PySem.W.keepIn K (.ref f1) = true)
    (a2 : PySem.W.nsIn K mainGlobals "is_even" = some (some (.ref f2))) (l2 : K.lookup f2 = some ⟨oc2, od2, .func (PySem.W.fnOf "is_even" "is_even" (defArgs (top 5)) (defBody (top 5)) (defScope (top 5)) .none kV2 dc2 pm2 an2 cd2 ct2), sl2⟩) (c2 : PySem.W.codeIn K cd2 "is_even" = true) (k2 : PySem.W.keepIn K (.ref f2) = true)
    (a3 : PySem.W.nsIn K mainGlobals "degree" = some (some (.ref f3))) (l3 : K.lookup f3 = some ⟨oc3, od3, .func (PySem.W.fnOf "degree" "degree" (defArgs (top 6)) (defBody (top 6)) (defScope (top 6)) .none kV3 dc3 pm3 an3 cd3 ct3), sl3⟩) (c3 : PySem.W.codeIn K cd3 "degree" = true) (k3 : PySem.W.keepIn K (.ref f3) = true)
    (a4 : PySem.W.nsIn K mainGlobals "_law_seed" = some (some (.ref f4))) (l4 : K.lookup f4 = some ⟨oc4, od4, .func (PySem.W.fnOf "_law_seed" "_law_seed" (defArgs (top 9)) (defBody (top 9)) (defScope (top 9)) .none kV4 dc4 pm4 an4 cd4 ct4), sl4⟩) (c4 : PySem.W.codeIn K cd4 "_law_seed" = true) (k4 : PySem.W.keepIn K (.ref f4) = true)
    (a5 : PySem.W.nsIn K mainGlobals "_law_draw" = some (some (.ref f5))) (l5 : K.lookup f5 = some ⟨oc5, od5, .func (PySem.W.fnOf "_law_draw" "_law_draw" (defArgs (top 10)) (defBody (top 10)) (defScope (top 10)) .none kV5 dc5 pm5 an5 cd5 ct5), sl5⟩) (c5 : PySem.W.codeIn K cd5 "_law_draw" = true) (k5 : PySem.W.keepIn K (.ref f5) = true)
    (a6 : PySem.W.nsIn K mainGlobals "_law_key" = some (some (.ref f6))) (l6 : K.lookup f6 = some ⟨oc6, od6, .func (PySem.W.fnOf "_law_key" "_law_key" (defArgs (top 11)) (defBody (top 11)) (defScope (top 11)) .none kV6 dc6 pm6 an6 cd6 ct6), sl6⟩) (c6 : PySem.W.codeIn K cd6 "_law_key" = true) (k6 : PySem.W.keepIn K (.ref f6) = true)
    (a7 : PySem.W.nsIn K mainGlobals "_law_bag" = some (some (.ref f7))) (l7 : K.lookup f7 = some ⟨oc7, od7, .func (PySem.W.fnOf "_law_bag" "_law_bag" (defArgs (top 12)) (defBody (top 12)) (defScope (top 12)) .none kV7 dc7 pm7 an7 cd7 ct7), sl7⟩) (c7 : PySem.W.codeIn K cd7 "_law_bag" = true) (k7 : PySem.W.keepIn K (.ref f7) = true)
    (a8 : PySem.W.nsIn K mainGlobals "_law_value" = some (some (.ref f8))) (l8 : K.lookup f8 = some ⟨oc8, od8, .func (PySem.W.fnOf "_law_value" "_law_value" (defArgs (top 17)) (defBody (top 17)) (defScope (top 17)) .none kV8 dc8 pm8 an8 cd8 ct8), sl8⟩) (c8 : PySem.W.codeIn K cd8 "_law_value" = true) (k8 : PySem.W.keepIn K (.ref f8) = true)
    (a9 : PySem.W.nsIn K mainGlobals "_law_kinds" = some (some (.ref f9))) (l9 : K.lookup f9 = some ⟨oc9, od9, .func (PySem.W.fnOf "_law_kinds" "_law_kinds" (defArgs (top 18)) (defBody (top 18)) (defScope (top 18)) .none kV9 dc9 pm9 an9 cd9 ct9), sl9⟩) (c9 : PySem.W.codeIn K cd9 "_law_kinds" = true) (k9 : PySem.W.keepIn K (.ref f9) = true)
    (a10 : PySem.W.nsIn K mainGlobals "_law_seen" = some (some (.ref f10))) (l10 : K.lookup f10 = some ⟨oc10, od10, .func (PySem.W.fnOf "_law_seen" "_law_seen" (defArgs (top 20)) (defBody (top 20)) (defScope (top 20)) .none kV10 dc10 pm10 an10 cd10 ct10), sl10⟩) (c10 : PySem.W.codeIn K cd10 "_law_seen" = true) (k10 : PySem.W.keepIn K (.ref f10) = true)
    (a11 : PySem.W.nsIn K mainGlobals "_law_held" = some (some (.ref f11))) (l11 : K.lookup f11 = some ⟨oc11, od11, .func (PySem.W.fnOf "_law_held" "_law_held" (defArgs (top 21)) (defBody (top 21)) (defScope (top 21)) .none kV11 dc11 pm11 an11 cd11 ct11), sl11⟩) (c11 : PySem.W.codeIn K cd11 "_law_held" = true) (k11 : PySem.W.keepIn K (.ref f11) = true)
    (a12 : PySem.W.nsIn K mainGlobals "_law_small" = some (some (.ref f12))) (l12 : K.lookup f12 = some ⟨oc12, od12, .func (PySem.W.fnOf "_law_small" "_law_small" (defArgs (top 22)) (defBody (top 22)) (defScope (top 22)) .none kV12 dc12 pm12 an12 cd12 ct12), sl12⟩) (c12 : PySem.W.codeIn K cd12 "_law_small" = true) (k12 : PySem.W.keepIn K (.ref f12) = true)
    (a13 : PySem.W.nsIn K mainGlobals "_law_claim" = some (some (.ref f13))) (l13 : K.lookup f13 = some ⟨oc13, od13, .func (PySem.W.fnOf "_law_claim" "_law_claim" (defArgs (top 23)) (defBody (top 23)) (defScope (top 23)) .none kV13 dc13 pm13 an13 cd13 ct13), sl13⟩) (c13 : PySem.W.codeIn K cd13 "_law_claim" = true) (k13 : PySem.W.keepIn K (.ref f13) = true)
    (a14 : PySem.W.nsIn K mainGlobals "_law_over" = some (some (.ref f14))) (l14 : K.lookup f14 = some ⟨oc14, od14, .func (PySem.W.fnOf "_law_over" "_law_over" (defArgs (top 24)) (defBody (top 24)) (defScope (top 24)) .none kV14 dc14 pm14 an14 cd14 ct14), sl14⟩) (c14 : PySem.W.codeIn K cd14 "_law_over" = true) (k14 : PySem.W.keepIn K (.ref f14) = true)
    (a15 : PySem.W.nsIn K mainGlobals "_law_taken" = some (some (.ref f15))) (l15 : K.lookup f15 = some ⟨oc15, od15, .func (PySem.W.fnOf "_law_taken" "_law_taken" (defArgs (top 25)) (defBody (top 25)) (defScope (top 25)) .none kV15 dc15 pm15 an15 cd15 ct15), sl15⟩) (c15 : PySem.W.codeIn K cd15 "_law_taken" = true) (k15 : PySem.W.keepIn K (.ref f15) = true)
    (a16 : PySem.W.nsIn K mainGlobals "_law_asked" = some (some (.ref f16))) (l16 : K.lookup f16 = some ⟨oc16, od16, .func (PySem.W.fnOf "_law_asked" "_law_asked" (defArgs (top 26)) (defBody (top 26)) (defScope (top 26)) .none kV16 dc16 pm16 an16 cd16 ct16), sl16⟩) (c16 : PySem.W.codeIn K cd16 "_law_asked" = true) (k16 : PySem.W.keepIn K (.ref f16) = true)
    (a17 : PySem.W.nsIn K mainGlobals "_law_names" = some (some (.ref f17))) (l17 : K.lookup f17 = some ⟨oc17, od17, .func (PySem.W.fnOf "_law_names" "_law_names" (defArgs (top 31)) (defBody (top 31)) (defScope (top 31)) .none kV17 dc17 pm17 an17 cd17 ct17), sl17⟩) (c17 : PySem.W.codeIn K cd17 "_law_names" = true) (k17 : PySem.W.keepIn K (.ref f17) = true)
    (a18 : PySem.W.nsIn K mainGlobals "_law_question" = some (some (.ref f18))) (l18 : K.lookup f18 = some ⟨oc18, od18, .func (PySem.W.fnOf "_law_question" "_law_question" (defArgs (top 32)) (defBody (top 32)) (defScope (top 32)) .none kV18 dc18 pm18 an18 cd18 ct18), sl18⟩) (c18 : PySem.W.codeIn K cd18 "_law_question" = true) (k18 : PySem.W.keepIn K (.ref f18) = true)
    (a19 : PySem.W.nsIn K mainGlobals "_law_has" = some (some (.ref f19))) (l19 : K.lookup f19 = some ⟨oc19, od19, .func (PySem.W.fnOf "_law_has" "_law_has" (defArgs (top 33)) (defBody (top 33)) (defScope (top 33)) .none kV19 dc19 pm19 an19 cd19 ct19), sl19⟩) (c19 : PySem.W.codeIn K cd19 "_law_has" = true) (k19 : PySem.W.keepIn K (.ref f19) = true)
    (a20 : PySem.W.nsIn K mainGlobals "_law_even" = some (some (.ref f20))) (l20 : K.lookup f20 = some ⟨oc20, od20, .func (PySem.W.fnOf "_law_even" "_law_even" (defArgs (top 34)) (defBody (top 34)) (defScope (top 34)) .none kV20 dc20 pm20 an20 cd20 ct20), sl20⟩) (c20 : PySem.W.codeIn K cd20 "_law_even" = true) (k20 : PySem.W.keepIn K (.ref f20) = true)
    (a21 : PySem.W.nsIn K mainGlobals "_law_degree" = some (some (.ref f21))) (l21 : K.lookup f21 = some ⟨oc21, od21, .func (PySem.W.fnOf "_law_degree" "_law_degree" (defArgs (top 35)) (defBody (top 35)) (defScope (top 35)) .none kV21 dc21 pm21 an21 cd21 ct21), sl21⟩) (c21 : PySem.W.codeIn K cd21 "_law_degree" = true) (k21 : PySem.W.keepIn K (.ref f21) = true)
    (a22 : PySem.W.nsIn K mainGlobals "law" = some (some (.ref f22))) (l22 : K.lookup f22 = some ⟨oc22, od22, .func (PySem.W.fnOf "law" "law" (defArgs (top 36)) (defBody (top 36)) (defScope (top 36)) .none kV22 dc22 pm22 an22 cd22 ct22), sl22⟩) (c22 : PySem.W.codeIn K cd22 "law" = true) (k22 : PySem.W.keepIn K (.ref f22) = true)
    (z0 : PySem.W.nsIn K mainGlobals "all" = some none)
    (z1 : PySem.W.nsIn K mainGlobals "bool" = some none)
    (z2 : PySem.W.nsIn K mainGlobals "int" = some none)
    (z3 : PySem.W.nsIn K mainGlobals "isinstance" = some none)
    (z4 : PySem.W.nsIn K mainGlobals "len" = some none)
    (z5 : PySem.W.nsIn K mainGlobals "list" = some none)
    (z6 : PySem.W.nsIn K mainGlobals "max" = some none)
    (z7 : PySem.W.nsIn K mainGlobals "range" = some none)
    (z8 : PySem.W.nsIn K mainGlobals "sorted" = some none)
    (z9 : PySem.W.nsIn K mainGlobals "tuple" = some none)
    (z10 : PySem.W.nsIn K mainGlobals "zip" = some none)
    (tq0 : PySem.W.nsIn K mainGlobals "FORMS" = some (some (.ref ta0))) (tl0 : K.lookup ta0 = some ⟨.type "dict", none, .dict te0 tn0, #[]⟩) (tk0 : PySem.W.KeysLit w.params te0.toList)
    (tv0_0 : PySem.W.nsIn K ta0 "num" = some (some u0_0)) (tr0_0 : RelV (V.str (toStr [110])) u0_0)
    (tv0_1 : PySem.W.nsIn K ta0 "word" = some (some u0_1)) (tr0_1 : RelV (V.str (toStr [119])) u0_1)
    (tv0_2 : PySem.W.nsIn K ta0 "var" = some (some u0_2)) (tr0_2 : RelV (V.str (toStr [119])) u0_2)
    (tv0_3 : PySem.W.nsIn K ta0 "table" = some (some u0_3)) (tr0_3 : RelV (V.str (toStr [119])) u0_3)
    (tv0_4 : PySem.W.nsIn K ta0 "row" = some (some u0_4)) (tr0_4 : RelV (V.str (toStr [114])) u0_4)
    (tv0_5 : PySem.W.nsIn K ta0 "at" = some (some u0_5)) (tr0_5 : RelV (V.str (toStr [119, 113])) u0_5)
    (tv0_6 : PySem.W.nsIn K ta0 "add" = some (some u0_6)) (tr0_6 : RelV (V.str (toStr [113, 113])) u0_6)
    (tv0_7 : PySem.W.nsIn K ta0 "mul" = some (some u0_7)) (tr0_7 : RelV (V.str (toStr [113, 113])) u0_7)
    (tv0_8 : PySem.W.nsIn K ta0 "none" = some (some u0_8)) (tr0_8 : RelV (V.str (toStr [107])) u0_8)
    (tv0_9 : PySem.W.nsIn K ta0 "one" = some (some u0_9)) (tr0_9 : RelV (V.str (toStr [113])) u0_9)
    (tv0_10 : PySem.W.nsIn K ta0 "both" = some (some u0_10)) (tr0_10 : RelV (V.str (toStr [113, 113])) u0_10)
    (tv0_11 : PySem.W.nsIn K ta0 "times" = some (some u0_11)) (tr0_11 : RelV (V.str (toStr [110, 113])) u0_11)
    (tv0_12 : PySem.W.nsIn K ta0 "for" = some (some u0_12)) (tr0_12 : RelV (V.str (toStr [119, 113, 113])) u0_12)
    (tv0_13 : PySem.W.nsIn K ta0 "when" = some (some u0_13)) (tr0_13 : RelV (V.str (toStr [116, 113])) u0_13)
    (tv0_14 : PySem.W.nsIn K ta0 "let" = some (some u0_14)) (tr0_14 : RelV (V.str (toStr [119, 113, 113])) u0_14)
    (tv0_15 : PySem.W.nsIn K ta0 "same" = some (some u0_15)) (tr0_15 : RelV (V.str (toStr [113, 113])) u0_15)
    (tv0_16 : PySem.W.nsIn K ta0 "under" = some (some u0_16)) (tr0_16 : RelV (V.str (toStr [113, 113])) u0_16)
    (tv0_17 : PySem.W.nsIn K ta0 "and" = some (some u0_17)) (tr0_17 : RelV (V.str (toStr [116, 116])) u0_17)
    (tv0_18 : PySem.W.nsIn K ta0 "or" = some (some u0_18)) (tr0_18 : RelV (V.str (toStr [116, 116])) u0_18)
    (tv0_19 : PySem.W.nsIn K ta0 "not" = some (some u0_19)) (tr0_19 : RelV (V.str (toStr [116])) u0_19)
    : AllPK K ds cs ∧ NoneK K bs ∧ AllTK K w ts tabs := by
  have hD : DefsK K [f0, f1, f2, f3, f4, f5, f6, f7, f8, f9, f10, f11, f12, f13, f14, f15, f16, f17, f18, f19, f20, f21, f22] _ ds := .cons (dk_fun a0 l0 c0 k0 s_under (fun _ _ _ _ _ _ us hl => match us, hl with | [_], _ => rfl)) (.cons (dk_fun a1 l1 c1 k1 s_tables (fun _ _ _ _ _ _ us hl => match us, hl with | [_], _ => rfl)) (.cons (dk_fun a2 l2 c2 k2 s_is_even (fun _ _ _ _ _ _ us hl => match us, hl with | [_], _ => rfl)) (.cons (dk_fun a3 l3 c3 k3 s_degree (fun _ _ _ _ _ _ us hl => match us, hl with | [_, _], _ => rfl)) (.cons (dk_fun a4 l4 c4 k4 s_law_seed (fun _ _ _ _ _ _ us hl => match us, hl with | [_], _ => rfl)) (.cons (dk_fun a5 l5 c5 k5 s_law_draw (fun _ _ _ _ _ _ us hl => match us, hl with | [_, _], _ => rfl)) (.cons (dk_fun a6 l6 c6 k6 s_law_key (fun _ _ _ _ _ _ us hl => match us, hl with | [_], _ => rfl)) (.cons (dk_fun a7 l7 c7 k7 s_law_bag (fun _ _ _ _ _ _ us hl => match us, hl with | [_], _ => rfl)) (.cons (dk_fun a8 l8 c8 k8 s_law_value (fun _ _ _ _ _ _ us hl => match us, hl with | [_, _, _], _ => rfl)) (.cons (dk_fun a9 l9 c9 k9 s_law_kinds (fun _ _ _ _ _ _ us hl => match us, hl with | [], _ => rfl)) (.cons (dk_fun a10 l10 c10 k10 s_law_seen (fun _ _ _ _ _ _ us hl => match us, hl with | [_], _ => rfl)) (.cons (dk_fun a11 l11 c11 k11 s_law_held (fun _ _ _ _ _ _ us hl => match us, hl with | [_, _], _ => rfl)) (.cons (dk_fun a12 l12 c12 k12 s_law_small (fun _ _ _ _ _ _ us hl => match us, hl with | [_, _, _, _], _ => rfl)) (.cons (dk_fun a13 l13 c13 k13 s_law_claim (fun _ _ _ _ _ _ us hl => match us, hl with | [_, _, _], _ => rfl)) (.cons (dk_fun a14 l14 c14 k14 s_law_over (fun _ _ _ _ _ _ us hl => match us, hl with | [_, _, _], _ => rfl)) (.cons (dk_fun a15 l15 c15 k15 s_law_taken (fun _ _ _ _ _ _ us hl => match us, hl with | [_, _, _, _], _ => rfl)) (.cons (dk_fun a16 l16 c16 k16 s_law_asked (fun _ _ _ _ _ _ us hl => match us, hl with | [_, _, _, _], _ => rfl)) (.cons (dk_fun a17 l17 c17 k17 s_law_names (fun _ _ _ _ _ _ us hl => match us, hl with | [_, _], _ => rfl)) (.cons (dk_fun a18 l18 c18 k18 s_law_question (fun _ _ _ _ _ _ us hl => match us, hl with | [_], _ => rfl)) (.cons (dk_fun a19 l19 c19 k19 s_law_has (fun _ _ _ _ _ _ us hl => match us, hl with | [_], _ => rfl)) (.cons (dk_fun a20 l20 c20 k20 s_law_even (fun _ _ _ _ _ _ us hl => match us, hl with | [_], _ => rfl)) (.cons (dk_fun a21 l21 c21 k21 s_law_degree (fun _ _ _ _ _ _ us hl => match us, hl with | [_, _], _ => rfl)) (.cons (dk_fun a22 l22 c22 k22 s_law (fun _ _ _ _ _ _ us hl => match us, hl with | [_], _ => rfl)) (.nil)))))))))))))))))))))))
  have hC : ClsK K [f0, f1, f2, f3, f4, f5, f6, f7, f8, f9, f10, f11, f12, f13, f14, f15, f16, f17, f18, f19, f20, f21, f22] [] cs := .nil
  exact ⟨⟨_, _, _, hD, hC⟩, noneK_cons z0 (noneK_cons z1 (noneK_cons z2 (noneK_cons z3 (noneK_cons z4 (noneK_cons z5 (noneK_cons z6 (noneK_cons z7 (noneK_cons z8 (noneK_cons z9 (noneK_cons z10 (noneK_nil))))))))))), allTK_cons (v := .ref ta0) tq0 rfl (tab_of (ents_cons (ent_mk (by decide +kernel) tl0 tk0 tv0_0 tr0_0 (fun _ _ => rfl)) (ents_cons (ent_mk (by decide +kernel) tl0 tk0 tv0_1 tr0_1 (fun _ _ => rfl)) (ents_cons (ent_mk (by decide +kernel) tl0 tk0 tv0_2 tr0_2 (fun _ _ => rfl)) (ents_cons (ent_mk (by decide +kernel) tl0 tk0 tv0_3 tr0_3 (fun _ _ => rfl)) (ents_cons (ent_mk (by decide +kernel) tl0 tk0 tv0_4 tr0_4 (fun _ _ => rfl)) (ents_cons (ent_mk (by decide +kernel) tl0 tk0 tv0_5 tr0_5 (fun _ _ => rfl)) (ents_cons (ent_mk (by decide +kernel) tl0 tk0 tv0_6 tr0_6 (fun _ _ => rfl)) (ents_cons (ent_mk (by decide +kernel) tl0 tk0 tv0_7 tr0_7 (fun _ _ => rfl)) (ents_cons (ent_mk (by decide +kernel) tl0 tk0 tv0_8 tr0_8 (fun _ _ => rfl)) (ents_cons (ent_mk (by decide +kernel) tl0 tk0 tv0_9 tr0_9 (fun _ _ => rfl)) (ents_cons (ent_mk (by decide +kernel) tl0 tk0 tv0_10 tr0_10 (fun _ _ => rfl)) (ents_cons (ent_mk (by decide +kernel) tl0 tk0 tv0_11 tr0_11 (fun _ _ => rfl)) (ents_cons (ent_mk (by decide +kernel) tl0 tk0 tv0_12 tr0_12 (fun _ _ => rfl)) (ents_cons (ent_mk (by decide +kernel) tl0 tk0 tv0_13 tr0_13 (fun _ _ => rfl)) (ents_cons (ent_mk (by decide +kernel) tl0 tk0 tv0_14 tr0_14 (fun _ _ => rfl)) (ents_cons (ent_mk (by decide +kernel) tl0 tk0 tv0_15 tr0_15 (fun _ _ => rfl)) (ents_cons (ent_mk (by decide +kernel) tl0 tk0 tv0_16 tr0_16 (fun _ _ => rfl)) (ents_cons (ent_mk (by decide +kernel) tl0 tk0 tv0_17 tr0_17 (fun _ _ => rfl)) (ents_cons (ent_mk (by decide +kernel) tl0 tk0 tv0_18 tr0_18 (fun _ _ => rfl)) (ents_cons (ent_mk (by decide +kernel) tl0 tk0 tv0_19 tr0_19 (fun _ _ => rfl)) (ents_nil)))))))))))))))))))))) (allTK_nil)⟩
end K30
open PySem PySem.W PyProof.Rows
set_option maxRecDepth 100000 in
set_option maxHeartbeats 0 in
theorem PySem.Challenge.cw_keptnest_k30_even_and_degree_holds : PySem.Challenge.rw_keptnest_k30_even_and_degree.Holds := by
  w_on; o_law; k_head; (case hw => w_witness2)
  k_fill
  refine Kv.walk_kv (l := PySem.Challenge.rw_keptnest_k30_even_and_degree) (fns := K30.fns) (tabs := K30.tabs) (ds := K30.ds) (bs := K30.bs) (ts := K30.ts) (cs := K30.cs) (k := 110) (law := 22) (x := "script") (fn := K30.f_law) (df := K30.d_law) rfl rfl (fun w h Y => PySem.W.kIn_of Y) ⟨rfl, by decide, by decide⟩ rfl rfl rfl rfl rfl rfl K30.checks (fun w => ?F) (fun ns h hb => K30.law_true ns h)
  case F =>
    refine' (K30.facts ?a0 ?l0 ?c0 ?k0 ?a1 ?l1 ?c1 ?k1 ?a2 ?l2 ?c2 ?k2 ?a3 ?l3 ?c3 ?k3 ?a4 ?l4 ?c4 ?k4 ?a5 ?l5 ?c5 ?k5 ?a6 ?l6 ?c6 ?k6 ?a7 ?l7 ?c7 ?k7 ?a8 ?l8 ?c8 ?k8 ?a9 ?l9 ?c9 ?k9 ?a10 ?l10 ?c10 ?k10 ?a11 ?l11 ?c11 ?k11 ?a12 ?l12 ?c12 ?k12 ?a13 ?l13 ?c13 ?k13 ?a14 ?l14 ?c14 ?k14 ?a15 ?l15 ?c15 ?k15 ?a16 ?l16 ?c16 ?k16 ?a17 ?l17 ?c17 ?k17 ?a18 ?l18 ?c18 ?k18 ?a19 ?l19 ?c19 ?k19 ?a20 ?l20 ?c20 ?k20 ?a21 ?l21 ?c21 ?k21 ?a22 ?l22 ?c22 ?k22 ?z0 ?z1 ?z2 ?z3 ?z4 ?z5 ?z6 ?z7 ?z8 ?z9 ?z10 ?tq0 ?tl0 ?tk0 ?tv0_0 ?tr0_0 ?tv0_1 ?tr0_1 ?tv0_2 ?tr0_2 ?tv0_3 ?tr0_3 ?tv0_4 ?tr0_4 ?tv0_5 ?tr0_5 ?tv0_6 ?tr0_6 ?tv0_7 ?tr0_7 ?tv0_8 ?tr0_8 ?tv0_9 ?tr0_9 ?tv0_10 ?tr0_10 ?tv0_11 ?tr0_11 ?tv0_12 ?tr0_12 ?tv0_13 ?tr0_13 ?tv0_14 ?tr0_14 ?tv0_15 ?tr0_15 ?tv0_16 ?tr0_16 ?tv0_17 ?tr0_17 ?tv0_18 ?tr0_18 ?tv0_19 ?tr0_19)
    (case a0 => k_is); (case l0 => k_is); (case c0 => k_is); (case k0 => k_is)
    (case a1 => k_is); (case l1 => k_is); (case c1 => k_is); (case k1 => k_is)
    (case a2 => k_is); (case l2 => k_is); (case c2 => k_is); (case k2 => k_is)
    (case a3 => k_is); (case l3 => k_is); (case c3 => k_is); (case k3 => k_is)
    (case a4 => k_is); (case l4 => k_is); (case c4 => k_is); (case k4 => k_is)
    (case a5 => k_is); (case l5 => k_is); (case c5 => k_is); (case k5 => k_is)
    (case a6 => k_is); (case l6 => k_is); (case c6 => k_is); (case k6 => k_is)
    (case a7 => k_is); (case l7 => k_is); (case c7 => k_is); (case k7 => k_is)
    (case a8 => k_is); (case l8 => k_is); (case c8 => k_is); (case k8 => k_is)
    (case a9 => k_is); (case l9 => k_is); (case c9 => k_is); (case k9 => k_is)
    (case a10 => k_is); (case l10 => k_is); (case c10 => k_is); (case k10 => k_is)
    (case a11 => k_is); (case l11 => k_is); (case c11 => k_is); (case k11 => k_is)
    (case a12 => k_is); (case l12 => k_is); (case c12 => k_is); (case k12 => k_is)
    (case a13 => k_is); (case l13 => k_is); (case c13 => k_is); (case k13 => k_is)
    (case a14 => k_is); (case l14 => k_is); (case c14 => k_is); (case k14 => k_is)
    (case a15 => k_is); (case l15 => k_is); (case c15 => k_is); (case k15 => k_is)
    (case a16 => k_is); (case l16 => k_is); (case c16 => k_is); (case k16 => k_is)
    (case a17 => k_is); (case l17 => k_is); (case c17 => k_is); (case k17 => k_is)
    (case a18 => k_is); (case l18 => k_is); (case c18 => k_is); (case k18 => k_is)
    (case a19 => k_is); (case l19 => k_is); (case c19 => k_is); (case k19 => k_is)
    (case a20 => k_is); (case l20 => k_is); (case c20 => k_is); (case k20 => k_is)
    (case a21 => k_is); (case l21 => k_is); (case c21 => k_is); (case k21 => k_is)
    (case a22 => k_is); (case l22 => k_is); (case c22 => k_is); (case k22 => k_is)
    (case z0 => k_is); (case z1 => k_is); (case z2 => k_is); (case z3 => k_is); (case z4 => k_is); (case z5 => k_is); (case z6 => k_is); (case z7 => k_is); (case z8 => k_is); (case z9 => k_is); (case z10 => k_is)
    (case tq0 => k_is)
    (case tl0 => k_is)
    (case tk0 => exact ⟨⟨_, _, rfl, rfl⟩, ⟨⟨_, _, rfl, rfl⟩, ⟨⟨_, _, rfl, rfl⟩, ⟨⟨_, _, rfl, rfl⟩, ⟨⟨_, _, rfl, rfl⟩, ⟨⟨_, _, rfl, rfl⟩, ⟨⟨_, _, rfl, rfl⟩, ⟨⟨_, _, rfl, rfl⟩, ⟨⟨_, _, rfl, rfl⟩, ⟨⟨_, _, rfl, rfl⟩, ⟨⟨_, _, rfl, rfl⟩, ⟨⟨_, _, rfl, rfl⟩, ⟨⟨_, _, rfl, rfl⟩, ⟨⟨_, _, rfl, rfl⟩, ⟨⟨_, _, rfl, rfl⟩, ⟨⟨_, _, rfl, rfl⟩, ⟨⟨_, _, rfl, rfl⟩, ⟨⟨_, _, rfl, rfl⟩, ⟨⟨_, _, rfl, rfl⟩, ⟨⟨_, _, rfl, rfl⟩, trivial⟩⟩⟩⟩⟩⟩⟩⟩⟩⟩⟩⟩⟩⟩⟩⟩⟩⟩⟩⟩)
    (case tv0_0 => k_is)
    (case tr0_0 => exact ⟨_, rfl⟩)
    (case tv0_1 => k_is)
    (case tr0_1 => exact ⟨_, rfl⟩)
    (case tv0_2 => k_is)
    (case tr0_2 => exact ⟨_, rfl⟩)
    (case tv0_3 => k_is)
    (case tr0_3 => exact ⟨_, rfl⟩)
    (case tv0_4 => k_is)
    (case tr0_4 => exact ⟨_, rfl⟩)
    (case tv0_5 => k_is)
    (case tr0_5 => exact ⟨_, rfl⟩)
    (case tv0_6 => k_is)
    (case tr0_6 => exact ⟨_, rfl⟩)
    (case tv0_7 => k_is)
    (case tr0_7 => exact ⟨_, rfl⟩)
    (case tv0_8 => k_is)
    (case tr0_8 => exact ⟨_, rfl⟩)
    (case tv0_9 => k_is)
    (case tr0_9 => exact ⟨_, rfl⟩)
    (case tv0_10 => k_is)
    (case tr0_10 => exact ⟨_, rfl⟩)
    (case tv0_11 => k_is)
    (case tr0_11 => exact ⟨_, rfl⟩)
    (case tv0_12 => k_is)
    (case tr0_12 => exact ⟨_, rfl⟩)
    (case tv0_13 => k_is)
    (case tr0_13 => exact ⟨_, rfl⟩)
    (case tv0_14 => k_is)
    (case tr0_14 => exact ⟨_, rfl⟩)
    (case tv0_15 => k_is)
    (case tr0_15 => exact ⟨_, rfl⟩)
    (case tv0_16 => k_is)
    (case tr0_16 => exact ⟨_, rfl⟩)
    (case tv0_17 => k_is)
    (case tr0_17 => exact ⟨_, rfl⟩)
    (case tv0_18 => k_is)
    (case tr0_18 => exact ⟨_, rfl⟩)
    (case tv0_19 => k_is)
    (case tr0_19 => exact ⟨_, rfl⟩)
